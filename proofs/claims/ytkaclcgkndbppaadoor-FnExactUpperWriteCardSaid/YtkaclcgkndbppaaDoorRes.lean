/- A part of the proof: PvIRes. -/
import Derived.Test.YtkaclcgkndbppaaDoorTab
import Derived.KernelRfl
set_option linter.unusedSimpArgs false
set_option linter.unusedVariables false
/- PRINTED by a tool of this work (wip/pv/tool/gen2.py): what each function's code comes to. -/
namespace Go.PVx
open Go.PV Go.Proofs
set_option maxRecDepth 100000
set_option linter.unusedVariables false
noncomputable def wFnExactUpperWrite.P8 (y0 : ByteArray) (y1 : ByteArray) (y2 : List (List D)) (y3 : List (List D)) (y4 : List (List D)) (y5 : List (List D)) : Option Res := evB XX 3 (lpL XX 3) 8 wFnExactUpperWrite.c
  (mkG 0 27 [(1, AV.one (A1.p true 1 [] 0)), (4, AV.one (A1.v (Value.string y0))), (5, AV.one (A1.p true 5 [] 0)), (6, AV.one (A1.v (Value.string y1)))]
    [(1, some { kind := Kind.box, row := [D.s y2, D.s y3], fl := [Own.sh, Own.sh] }), (5, some { kind := Kind.box, row := [D.s y4, D.s y5], fl := [Own.deep, Own.deep] })] GL)
  (outE XX 3 Tryd.f3)
theorem wFnExactUpperWrite.e (a0 : List (List D)) (a1 : List (List D)) :
    wFnExactUpperWrite [AV.g [A1.s a0, A1.s a1]] [] =
    (wszUpper [AV.g [A1.s a0, A1.s a1], AV.one (A1.v (Value.int IntKind.i64 1048576))] []).bind fun val =>
  bif fitsCells [R1.int IntKind.i64] val.1 && true then
    bif decide ((val.1.getD 0 TC.d).int < 0) then some { cells := [TC.v (Value.bool true)], objs := [] }
    else
      (wtoUpper [AV.g [A1.s a0, A1.s a1]] []).bind fun val =>
        bif fitsCells [R1.own Own.deep, R1.own Own.deep] val.1 && true then
          (sUpperWrite [AV.g [A1.s (val.1.getD 0 TC.d).es, A1.s (val.1.getD 1 TC.d).es]] []).bind fun val =>
            bif fitsCells [R1.str] val.1 && true then
              (wtoUpper [AV.g [A1.s a0, A1.s a1]] []).bind fun val_1 =>
                bif fitsCells [R1.own Own.deep, R1.own Own.deep] val_1.1 && true then
                  (iUpperWrite [AV.g [A1.s (val_1.1.getD 0 TC.d).es, A1.s (val_1.1.getD 1 TC.d).es]] []).bind fun val_2 =>
                    bif fitsCells [R1.str] val_2.1 && true then wFnExactUpperWrite.P8 (val.1.getD 0 TC.d).str (val_2.1.getD 0 TC.d).str a0 a1 (val_1.1.getD 0 TC.d).es (val_1.1.getD 1 TC.d).es
                    else none
                else none
            else none
        else none
  else none := by
  refine (wFnExactUpperWrite.run _ _ (by kernel_rfl)).trans ?_
  delta wFnExactUpperWrite wszUpper wtoUpper sUpperWrite iUpperWrite wFnExactUpperWrite.P8 XX
  refine join_use [8] (by kernel_rfl) fun J e1 => ?_
  try simp only [← e1]
  clear e1
  generalize lpL (Y.ctx (lim' Y)) 3 = lp
  generalize lim' Y = call
  kernel_rfl
theorem wFnExactUpperWrite.p8 (y0 : ByteArray) (y1 : ByteArray) (y2 : List (List D)) (y3 : List (List D)) (y4 : List (List D)) (y5 : List (List D)) :
    wFnExactUpperWrite.P8 y0 y1 y2 y3 y4 y5 =
    bif !y1.toList == y0.toList then some { cells := [TC.v (Value.bool false)], objs := [] }
else
  (wtoUpper [AV.g [A1.s y2, A1.s y3]] []).bind fun val =>
    bif fitsCells [R1.own Own.deep, R1.own Own.deep] val.1 && true then
      (weqUpper [AV.g [A1.s y4, A1.s y5], AV.g [A1.s (val.1.getD 0 TC.d).es, A1.s (val.1.getD 1 TC.d).es]] []).bind fun val =>
        bif fitsCells [R1.bool] val.1 && true then
          bif !(val.1.getD 0 TC.d).bool then some { cells := [TC.v (Value.bool false)], objs := [] } else some { cells := [TC.v (Value.bool true)], objs := [] }
        else none
    else none := by
  delta wFnExactUpperWrite.P8 wtoUpper weqUpper XX
  refine join_at [8] 8 (by kernel_rfl) fun J e1 => ?_
  try simp only [← e1]
  clear e1
  generalize lpL (Y.ctx (lim' Y)) 3 = lp
  generalize lim' Y = call
  kernel_rfl


theorem wszUpper.e (a0 : List (List D)) (a1 : List (List D)) (a2 : Int) :
    wszUpper [AV.g [A1.s a0, A1.s a1], AV.one (A1.v (Value.int IntKind.i64 a2))] [] =
    (wszStringSS [AV.one (A1.s a0), AV.one (A1.v (Value.int IntKind.i64 a2))] []).bind fun val =>
  bif fitsCells [R1.int IntKind.i64] val.1 && true then
    bif decide ((val.1.getD 0 TC.d).int < 0) then some { cells := [TC.v (Value.int IntKind.i64 (-1))], objs := [] }
    else
      (wszEntryS [AV.one (A1.s a1), AV.one (A1.v (Value.int IntKind.i64 (val.1.getD 0 TC.d).int))] []).bind fun val =>
        bif fitsCells [R1.int IntKind.i64] val.1 && true then
          bif decide ((val.1.getD 0 TC.d).int < 0) then some { cells := [TC.v (Value.int IntKind.i64 (-1))], objs := [] }
          else some { cells := [TC.v (Value.int IntKind.i64 (val.1.getD 0 TC.d).int)], objs := [] }
        else none
  else none := by
  refine (wszUpper.run _ _ (by kernel_rfl)).trans ?_
  delta wszUpper wszStringSS wszEntryS XX
  generalize lpL (Y.ctx (lim' Y)) 4 = lp
  generalize lim' Y = call
  kernel_rfl


noncomputable def sUpperWrite.L3 (y0 : ByteArray) (y1 : Int) (y2 : List (List D)) (y3 : List (List D)) : Option (Ex × St) := lpL XX 5 (bodyAt 3 sUpperWrite.c)
  (mkG 0 96 [(1, AV.one (A1.p true 1 [] 0)), (3, AV.one (A1.v (Value.string y0))), (4, AV.one (A1.v (Value.int IntKind.i64 y1)))]
    [(1, some { kind := Kind.box, row := [D.s y2, D.s y3], fl := [Own.sh, Own.sh] })] GL)
noncomputable def sUpperWrite.A3 : Ex × St → Option Res := fun r => evA XX 5 (lpL XX 5) 3 sUpperWrite.c r.fst r.snd (outE XX 5 Tryd.f5)
noncomputable def sUpperWrite.q3 (y0 : ByteArray) (y1 : ByteArray) (y2 : List (List D)) (y3 : List (List D)) : Ex × St := (Ex.ret,
  mkG 0 96 [(1, AV.one (A1.p true 1 [] 0)), (2, AV.one (A1.v (Value.string y0))), (3, AV.one (A1.v (Value.string y1)))]
    [(1, some { kind := Kind.box, row := [D.s y2, D.s y3], fl := [Own.sh, Own.sh] })] GL)
noncomputable def sUpperWrite.x3 (y0 : ByteArray) (y1 : List (List D)) (y2 : List (List D)) : Ex × St := (Ex.exit 0, mkG 0 96 [(1, AV.one (A1.p true 1 [] 0)), (3, AV.one (A1.v (Value.string y0)))] [(1, some { kind := Kind.box, row := [D.s y1, D.s y2], fl := [Own.sh, Own.sh] })] GL)
noncomputable def sUpperWrite.L9 (y0 : ByteArray) (y1 : Int) (y2 : List (List D)) (y3 : List (List D)) : Option (Ex × St) := lpL XX 5 (bodyAt 9 sUpperWrite.c)
  (mkG 0 96 [(1, AV.one (A1.p true 1 [] 0)), (3, AV.one (A1.v (Value.string y0))), (5, AV.one (A1.v (Value.int IntKind.i64 y1)))]
    [(1, some { kind := Kind.box, row := [D.s y2, D.s y3], fl := [Own.sh, Own.sh] })] GL)
noncomputable def sUpperWrite.A9 : Ex × St → Option Res := fun r => evA XX 5 (lpL XX 5) 9 sUpperWrite.c r.fst r.snd (outE XX 5 Tryd.f5)
noncomputable def sUpperWrite.P13 (y0 : ByteArray) (y1 : Int) (y2 : Bool) (y3 : List (List D)) (y4 : List (List D)) (y5 : List (List D)) (y6 : Int) (y7 : Bool) (y8 : Int) (y9 : ByteArray) : Option (Ex × St) := evB XX 5 (lpL XX 5) 13 (bodyAt 9 sUpperWrite.c)
  (mkG 0 96 [(1, AV.one (A1.p true 1 [] 0)), (3, AV.one (A1.v (Value.string y0))), (5, AV.one (A1.v (Value.int IntKind.i64 y1))), (6, AV.one (A1.p true 6 [] 0)), (78, AV.one (A1.v (Value.bool y2)))]
    [(1, some { kind := Kind.box, row := [D.s y3, D.s y4], fl := [Own.sh, Own.sh] }),
      (6,
        some
          { kind := Kind.box, row := [D.s y5, D.v (Value.int IntKind.i64 y6), D.v (Value.bool y7), D.v (Value.int IntKind.i64 y8), D.v (Value.string y9)],
            fl := [Own.sh, Own.deep, Own.deep, Own.deep, Own.deep] })]
    GL)
  (backL (lpL XX 5) (bodyAt 9 sUpperWrite.c) (XX.live 5 9))
noncomputable def sUpperWrite.x9 (y0 : ByteArray) : Ex × St := (Ex.exit 2, mkG 0 96 [(3, AV.one (A1.v (Value.string y0)))] [] GL)
noncomputable def sUpperWrite.q9 (y0 : ByteArray) (y1 : ByteArray) : Ex × St := (Ex.ret, mkG 0 96 [(2, AV.one (A1.v (Value.string y0))), (3, AV.one (A1.v (Value.string y1)))] [] GL)
noncomputable def sUpperWrite.P14 (y0 : ByteArray) (y1 : Int) (y2 : List (List D)) (y3 : List (List D)) (y4 : List (List D)) (y5 : Int) (y6 : Bool) (y7 : Int) (y8 : ByteArray) : Option (Ex × St) := evB XX 5 (lpL XX 5) 14 (bodyAt 9 sUpperWrite.c)
  (mkG 0 96 [(1, AV.one (A1.p true 1 [] 0)), (3, AV.one (A1.v (Value.string y0))), (5, AV.one (A1.v (Value.int IntKind.i64 y1))), (6, AV.one (A1.p true 6 [] 0))]
    [(1, some { kind := Kind.box, row := [D.s y2, D.s y3], fl := [Own.sh, Own.sh] }),
      (6,
        some
          { kind := Kind.box, row := [D.s y4, D.v (Value.int IntKind.i64 y5), D.v (Value.bool y6), D.v (Value.int IntKind.i64 y7), D.v (Value.string y8)],
            fl := [Own.sh, Own.deep, Own.deep, Own.deep, Own.deep] })]
    GL)
  (backL (lpL XX 5) (bodyAt 9 sUpperWrite.c) (XX.live 5 9))
theorem sUpperWrite.e (a0 : List (List D)) (a1 : List (List D)) :
    sUpperWrite [AV.g [A1.s a0, A1.s a1]] [] =
    (sUpperWrite.L3 (ByteArray.mk #[]) 0 a0 a1).bind sUpperWrite.A3 := by
  refine (sUpperWrite.run _ _ (by kernel_rfl)).trans ?_
  delta sUpperWrite sUpperWrite.L3 sUpperWrite.A3 XX
  generalize lpL (Y.ctx (lim' Y)) 5 = lp
  generalize lim' Y = call
  kernel_rfl
theorem sUpperWrite.s3 (y0 : ByteArray) (y1 : Int) (y2 : List (List D)) (y3 : List (List D)) :
    sUpperWrite.L3 y0 y1 y2 y3 =
    bif decide (y1 < (↑y2.length : Int)) then
  bif decide (0 ≤ y1) && decide (y1 < (↑y2.length : Int)) && decide ((y2.getD y1.toNat []).length = 1) then
    bif fitsRow [CK.sl] (y2.getD y1.toNat []) 0 && decide (1 ≤ (y2.getD y1.toNat []).length) then
      (sl2PathOk [AV.one (A1.s ((y2.getD y1.toNat []).getD 0 D.h).es)] []).bind fun val =>
        bif fitsCells [R1.bool] val.1 && true then
          bif !(val.1.getD 0 TC.d).bool then some (sUpperWrite.q3 (ByteArray.mk #[]) y0 y2 y3)
          else
            bif decide (y0.size + 5 ≤ 70368744177664) then
              bif decide (0 ≤ y1) && decide (y1 < (↑y2.length : Int)) && decide ((y2.getD y1.toNat []).length = 1) then
                bif fitsRow [CK.sl] (y2.getD y1.toNat []) 0 && decide (1 ≤ (y2.getD y1.toNat []).length) then
                  (sl3Name [AV.one (A1.s ((y2.getD y1.toNat []).getD 0 D.h).es)] []).bind fun val =>
                    bif fitsCells [R1.str] val.1 && true then
                      bif decide ((y0 ++ (ByteArray.mk #[104, 105, 100, 101, 32])).size + (val.1.getD 0 TC.d).str.size ≤ 70368744177664) then
                        bif decide ((y0 ++ (ByteArray.mk #[104, 105, 100, 101, 32]) ++ (val.1.getD 0 TC.d).str).size + 1 ≤ 70368744177664) then
                          sUpperWrite.L3
                            (y0 ++ (ByteArray.mk #[104, 105, 100, 101, 32]) ++ (val.1.getD 0 TC.d).str ++ (ByteArray.mk #[10]))
                            (IntKind.i64.wrap (y1 + 1)) y2 y3
                        else none
                      else none
                    else none
                else none
              else none
            else none
        else none
    else none
  else none
else some (sUpperWrite.x3 y0 y2 y3) := by
  refine (lpL_eq (Y := Y) (c := lim' Y) (fn := 5) (rid := 3) (b := bodyAt 3 sUpperWrite.c) (by kernel_rfl) _).trans ?_
  delta sUpperWrite.L3 sl2PathOk sUpperWrite.q3 sl3Name sUpperWrite.x3 XX
  generalize lpL (Y.ctx (lim' Y)) 5 = lp
  generalize lim' Y = call
  kernel_rfl
theorem sUpperWrite.a3q3 (y0 : ByteArray) (y1 : ByteArray) (y2 : List (List D)) (y3 : List (List D)) :
    sUpperWrite.A3 (sUpperWrite.q3 y0 y1 y2 y3) =
    some { cells := [TC.v (Value.string y0)], objs := [] } := by
  delta sUpperWrite.A3 sUpperWrite.q3 XX
  generalize lpL (Y.ctx (lim' Y)) 5 = lp
  generalize lim' Y = call
  kernel_rfl
theorem sUpperWrite.a3x3 (y0 : ByteArray) (y1 : List (List D)) (y2 : List (List D)) :
    sUpperWrite.A3 (sUpperWrite.x3 y0 y1 y2) =
    (sUpperWrite.L9 y0 0 y1 y2).bind sUpperWrite.A9 := by
  delta sUpperWrite.A3 sUpperWrite.x3 sUpperWrite.L9 sUpperWrite.A9 XX
  generalize lpL (Y.ctx (lim' Y)) 5 = lp
  generalize lim' Y = call
  kernel_rfl
theorem sUpperWrite.s9 (y0 : ByteArray) (y1 : Int) (y2 : List (List D)) (y3 : List (List D)) :
    sUpperWrite.L9 y0 y1 y2 y3 =
    bif decide (y1 < (↑y3.length : Int)) then
  bif decide (0 ≤ y1) && decide (y1 < (↑y3.length : Int)) && decide ((y3.getD y1.toNat []).length = 5) then
    bif fitsRow [CK.sl, CK.int IntKind.i64, CK.bool, CK.int IntKind.i64, CK.str] (y3.getD y1.toNat []) 0 && decide (5 ≤ (y3.getD y1.toNat []).length) then
      bif ((y3.getD y1.toNat []).getD 1 D.h).int != 2 then
        sUpperWrite.P13 y0 y1 true y2 y3 ((y3.getD y1.toNat []).getD 0 D.h).es ((y3.getD y1.toNat []).getD 1 D.h).int ((y3.getD y1.toNat []).getD 2 D.h).bool ((y3.getD y1.toNat []).getD 3 D.h).int
          ((y3.getD y1.toNat []).getD 4 D.h).str
      else
        bif decide ((↑((y3.getD y1.toNat []).getD 0 D.h).es.length : Int) > 0) then
          (sl3EntryOk
                [AV.g
                    [A1.s ((y3.getD y1.toNat []).getD 0 D.h).es, A1.v (Value.int IntKind.i64 ((y3.getD y1.toNat []).getD 1 D.h).int), A1.v (Value.bool ((y3.getD y1.toNat []).getD 2 D.h).bool),
                      A1.v (Value.int IntKind.i64 ((y3.getD y1.toNat []).getD 3 D.h).int), A1.v (Value.string ((y3.getD y1.toNat []).getD 4 D.h).str)]]
                []).bind
            fun val =>
            bif fitsCells [R1.bool] val.1 && true then
              bif !(val.1.getD 0 TC.d).bool then
                sUpperWrite.P13 y0 y1 true y2 y3 ((y3.getD y1.toNat []).getD 0 D.h).es ((y3.getD y1.toNat []).getD 1 D.h).int ((y3.getD y1.toNat []).getD 2 D.h).bool
                  ((y3.getD y1.toNat []).getD 3 D.h).int ((y3.getD y1.toNat []).getD 4 D.h).str
              else
                bif (↑((y3.getD y1.toNat []).getD 0 D.h).es.length : Int) == 0 then
                  bif !((y3.getD y1.toNat []).getD 2 D.h).bool then
                    sUpperWrite.P13 y0 y1 true y2 y3 ((y3.getD y1.toNat []).getD 0 D.h).es ((y3.getD y1.toNat []).getD 1 D.h).int ((y3.getD y1.toNat []).getD 2 D.h).bool
                      ((y3.getD y1.toNat []).getD 3 D.h).int ((y3.getD y1.toNat []).getD 4 D.h).str
                  else
                    bif !((y3.getD y1.toNat []).getD 4 D.h).str.toList == [] then
                      sUpperWrite.P13 y0 y1 true y2 y3 ((y3.getD y1.toNat []).getD 0 D.h).es ((y3.getD y1.toNat []).getD 1 D.h).int ((y3.getD y1.toNat []).getD 2 D.h).bool
                        ((y3.getD y1.toNat []).getD 3 D.h).int ((y3.getD y1.toNat []).getD 4 D.h).str
                    else
                      (sl1In [AV.one (A1.v (Value.int IntKind.i64 ((y3.getD y1.toNat []).getD 3 D.h).int)), AV.one (A1.v (Value.int IntKind.i64 0)), AV.one (A1.v (Value.int IntKind.i64 7))] []).bind
                        fun val =>
                        bif fitsCells [R1.bool] val.1 && true then
                          sUpperWrite.P13 y0 y1 (!(val.1.getD 0 TC.d).bool) y2 y3 ((y3.getD y1.toNat []).getD 0 D.h).es ((y3.getD y1.toNat []).getD 1 D.h).int ((y3.getD y1.toNat []).getD 2 D.h).bool
                            ((y3.getD y1.toNat []).getD 3 D.h).int ((y3.getD y1.toNat []).getD 4 D.h).str
                        else none
                else
                  sUpperWrite.P13 y0 y1 false y2 y3 ((y3.getD y1.toNat []).getD 0 D.h).es ((y3.getD y1.toNat []).getD 1 D.h).int ((y3.getD y1.toNat []).getD 2 D.h).bool
                    ((y3.getD y1.toNat []).getD 3 D.h).int ((y3.getD y1.toNat []).getD 4 D.h).str
            else none
        else
          bif (↑((y3.getD y1.toNat []).getD 0 D.h).es.length : Int) == 0 then
            bif !((y3.getD y1.toNat []).getD 2 D.h).bool then
              sUpperWrite.P13 y0 y1 true y2 y3 ((y3.getD y1.toNat []).getD 0 D.h).es ((y3.getD y1.toNat []).getD 1 D.h).int ((y3.getD y1.toNat []).getD 2 D.h).bool
                ((y3.getD y1.toNat []).getD 3 D.h).int ((y3.getD y1.toNat []).getD 4 D.h).str
            else
              bif !((y3.getD y1.toNat []).getD 4 D.h).str.toList == [] then
                sUpperWrite.P13 y0 y1 true y2 y3 ((y3.getD y1.toNat []).getD 0 D.h).es ((y3.getD y1.toNat []).getD 1 D.h).int ((y3.getD y1.toNat []).getD 2 D.h).bool
                  ((y3.getD y1.toNat []).getD 3 D.h).int ((y3.getD y1.toNat []).getD 4 D.h).str
              else
                (sl1In [AV.one (A1.v (Value.int IntKind.i64 ((y3.getD y1.toNat []).getD 3 D.h).int)), AV.one (A1.v (Value.int IntKind.i64 0)), AV.one (A1.v (Value.int IntKind.i64 7))] []).bind
                  fun val =>
                  bif fitsCells [R1.bool] val.1 && true then
                    sUpperWrite.P13 y0 y1 (!(val.1.getD 0 TC.d).bool) y2 y3 ((y3.getD y1.toNat []).getD 0 D.h).es ((y3.getD y1.toNat []).getD 1 D.h).int ((y3.getD y1.toNat []).getD 2 D.h).bool
                      ((y3.getD y1.toNat []).getD 3 D.h).int ((y3.getD y1.toNat []).getD 4 D.h).str
                  else none
          else
            sUpperWrite.P13 y0 y1 false y2 y3 ((y3.getD y1.toNat []).getD 0 D.h).es ((y3.getD y1.toNat []).getD 1 D.h).int ((y3.getD y1.toNat []).getD 2 D.h).bool
              ((y3.getD y1.toNat []).getD 3 D.h).int ((y3.getD y1.toNat []).getD 4 D.h).str
    else none
  else none
else some (sUpperWrite.x9 y0) := by
  refine (lpL_eq (Y := Y) (c := lim' Y) (fn := 5) (rid := 9) (b := bodyAt 9 sUpperWrite.c) (by kernel_rfl) _).trans ?_
  delta sUpperWrite.L9 sUpperWrite.P13 sl3EntryOk sl1In sUpperWrite.x9 XX
  refine join_use [13, 14] (by kernel_rfl) fun J e1 => ?_
  try simp only [← e1]
  clear e1
  generalize lpL (Y.ctx (lim' Y)) 5 = lp
  generalize lim' Y = call
  kernel_rfl
theorem sUpperWrite.p13 (y0 : ByteArray) (y1 : Int) (y2 : Bool) (y3 : List (List D)) (y4 : List (List D)) (y5 : List (List D)) (y6 : Int) (y7 : Bool) (y8 : Int) (y9 : ByteArray) :
    sUpperWrite.P13 y0 y1 y2 y3 y4 y5 y6 y7 y8 y9 =
    bif y2 then some (sUpperWrite.q9 (ByteArray.mk #[]) y0) else sUpperWrite.P14 y0 y1 y3 y4 y5 y6 y7 y8 y9 := by
  delta sUpperWrite.P13 sUpperWrite.q9 sUpperWrite.P14 XX
  refine join_at [13, 14] 13 (by kernel_rfl) fun J e1 => ?_
  try simp only [← e1]
  clear e1
  generalize lpL (Y.ctx (lim' Y)) 5 = lp
  generalize lim' Y = call
  kernel_rfl
theorem sUpperWrite.a9x9 (y0 : ByteArray) :
    sUpperWrite.A9 (sUpperWrite.x9 y0) =
    bif decide ((↑y0.size : Int) > 4000) then some { cells := [TC.v (Value.string (ByteArray.mk #[]))], objs := [] } else some { cells := [TC.v (Value.string y0)], objs := [] } := by
  delta sUpperWrite.A9 sUpperWrite.x9 XX
  generalize lpL (Y.ctx (lim' Y)) 5 = lp
  generalize lim' Y = call
  kernel_rfl
theorem sUpperWrite.a9q9 (y0 : ByteArray) (y1 : ByteArray) :
    sUpperWrite.A9 (sUpperWrite.q9 y0 y1) =
    some { cells := [TC.v (Value.string y0)], objs := [] } := by
  delta sUpperWrite.A9 sUpperWrite.q9 XX
  generalize lpL (Y.ctx (lim' Y)) 5 = lp
  generalize lim' Y = call
  kernel_rfl
theorem sUpperWrite.p14 (y0 : ByteArray) (y1 : Int) (y2 : List (List D)) (y3 : List (List D)) (y4 : List (List D)) (y5 : Int) (y6 : Bool) (y7 : Int) (y8 : ByteArray) :
    sUpperWrite.P14 y0 y1 y2 y3 y4 y5 y6 y7 y8 =
    (sl3Name [AV.one (A1.s y4)] []).bind fun val =>
  bif fitsCells [R1.str] val.1 && true then
    (sl1Line
          [AV.one (A1.v (Value.string (val.1.getD 0 TC.d).str)),
            AV.g [A1.v (Value.bool y6), A1.v (Value.int IntKind.i64 y7), A1.v (Value.string y8), A1.v (Value.slice none 0 0), A1.v (Value.slice none 0 0)]]
          []).bind
      fun val =>
      bif fitsCells [R1.str] val.1 && true then
        bif decide (y0.size + (val.1.getD 0 TC.d).str.size ≤ 70368744177664) then sUpperWrite.L9 (y0 ++ (val.1.getD 0 TC.d).str) (IntKind.i64.wrap (y1 + 1)) y2 y3 else none
      else none
  else none := by
  delta sUpperWrite.P14 sl3Name sl1Line sUpperWrite.L9 XX
  refine join_at [13, 14] 14 (by kernel_rfl) fun J e1 => ?_
  try simp only [← e1]
  clear e1
  generalize lpL (Y.ctx (lim' Y)) 5 = lp
  generalize lim' Y = call
  kernel_rfl


theorem wtoUpper.e (a0 : List (List D)) (a1 : List (List D)) :
    wtoUpper [AV.g [A1.s a0, A1.s a1]] [] =
    (wtoStringSS [AV.one (A1.s a0)] []).bind fun val =>
  bif fitsCells [R1.own Own.deep] val.1 && true then
    (wtoEntryS [AV.one (A1.s a1)] []).bind fun val_1 =>
      bif fitsCells [R1.own Own.deep] val_1.1 && true then some { cells := [TC.o Own.deep (val.1.getD 0 TC.d).es, TC.o Own.deep (val_1.1.getD 0 TC.d).es], objs := [] } else none
  else none := by
  refine (wtoUpper.run _ _ (by kernel_rfl)).trans ?_
  delta wtoUpper wtoStringSS wtoEntryS XX
  generalize lpL (Y.ctx (lim' Y)) 6 = lp
  generalize lim' Y = call
  kernel_rfl


noncomputable def iUpperWrite.L3 (y0 : List (List D)) (y1 : Int) (y2 : Int) (y3 : List (List D)) (y4 : List (List D)) (y5 : ByteArray) : Option (Ex × St) := lpL XX 7 (bodyAt 3 iUpperWrite.c)
  (mkG 0 88 [(1, AV.one (A1.p true 1 [] 0)), (3, AV.one (A1.p true 3 [] 0)), (12, AV.one (A1.s y0)), (13, AV.one (A1.v (Value.int IntKind.i64 y1))), (14, AV.one (A1.v (Value.int IntKind.i64 y2)))]
    [(1, some { kind := Kind.box, row := [D.s y3, D.s y4], fl := [Own.sh, Own.sh] }), (3, some { kind := Kind.bld 52 5, row := [D.v (Value.string y5), D.h], fl := [Own.deep, Own.deep] })] GL)
noncomputable def iUpperWrite.A3 : Ex × St → Option Res := fun r => evA XX 7 (lpL XX 7) 3 iUpperWrite.c r.fst r.snd (outE XX 7 Tryd.f7)
noncomputable def iUpperWrite.q3 (y0 : ByteArray) (y1 : List (List D)) (y2 : List (List D)) (y3 : ByteArray) : Ex × St := (Ex.ret,
  mkG 0 88 [(1, AV.one (A1.p true 1 [] 0)), (2, AV.one (A1.v (Value.string y0))), (3, AV.one (A1.p true 3 [] 0))]
    [(1, some { kind := Kind.box, row := [D.s y1, D.s y2], fl := [Own.sh, Own.sh] }), (3, some { kind := Kind.bld 52 5, row := [D.v (Value.string y3), D.h], fl := [Own.deep, Own.deep] })] GL)
noncomputable def iUpperWrite.x3 (y0 : List (List D)) (y1 : List (List D)) (y2 : ByteArray) : Ex × St := (Ex.exit 0,
  mkG 0 88 [(1, AV.one (A1.p true 1 [] 0)), (3, AV.one (A1.p true 3 [] 0))]
    [(1, some { kind := Kind.box, row := [D.s y0, D.s y1], fl := [Own.sh, Own.sh] }), (3, some { kind := Kind.bld 52 5, row := [D.v (Value.string y2), D.h], fl := [Own.deep, Own.deep] })] GL)
noncomputable def iUpperWrite.L10 (y0 : List (List D)) (y1 : Int) (y2 : Int) (y3 : ByteArray) : Option (Ex × St) := lpL XX 7 (bodyAt 10 iUpperWrite.c)
  (mkG 0 88 [(3, AV.one (A1.p true 3 [] 0)), (29, AV.one (A1.s y0)), (30, AV.one (A1.v (Value.int IntKind.i64 y1))), (31, AV.one (A1.v (Value.int IntKind.i64 y2)))]
    [(3, some { kind := Kind.bld 52 5, row := [D.v (Value.string y3), D.h], fl := [Own.deep, Own.deep] })] GL)
noncomputable def iUpperWrite.A10 : Ex × St → Option Res := fun r => evA XX 7 (lpL XX 7) 10 iUpperWrite.c r.fst r.snd (outE XX 7 Tryd.f7)
noncomputable def iUpperWrite.P13 (y0 : Bool) (y1 : List (List D)) (y2 : Int) (y3 : Int) (y4 : ByteArray) (y5 : List (List D)) (y6 : Int) (y7 : Bool) (y8 : Int) (y9 : ByteArray) : Option (Ex × St) := evB XX 7 (lpL XX 7) 13 (bodyAt 10 iUpperWrite.c)
  (mkG 0 88
    [(3, AV.one (A1.p true 3 [] 0)), (7, AV.one (A1.p true 7 [] 0)), (8, AV.one (A1.v (Value.bool y0))), (29, AV.one (A1.s y1)), (30, AV.one (A1.v (Value.int IntKind.i64 y2))),
      (31, AV.one (A1.v (Value.int IntKind.i64 y3)))]
    [(3, some { kind := Kind.bld 52 5, row := [D.v (Value.string y4), D.h], fl := [Own.deep, Own.deep] }),
      (7,
        some
          { kind := Kind.box, row := [D.s y5, D.v (Value.int IntKind.i64 y6), D.v (Value.bool y7), D.v (Value.int IntKind.i64 y8), D.v (Value.string y9)],
            fl := [Own.sh, Own.deep, Own.deep, Own.deep, Own.deep] })]
    GL)
  (backL (lpL XX 7) (bodyAt 10 iUpperWrite.c) (XX.live 7 10))
noncomputable def iUpperWrite.x10 (y0 : ByteArray) : Ex × St := (Ex.exit 2, mkG 0 88 [(3, AV.one (A1.p true 3 [] 0))] [(3, some { kind := Kind.bld 52 5, row := [D.v (Value.string y0), D.h], fl := [Own.deep, Own.deep] })] GL)
noncomputable def iUpperWrite.P14 (y0 : List (List D)) (y1 : Int) (y2 : Int) (y3 : Bool) (y4 : ByteArray) (y5 : List (List D)) (y6 : Int) (y7 : Bool) (y8 : Int) (y9 : ByteArray) : Option (Ex × St) := evB XX 7 (lpL XX 7) 14 (bodyAt 10 iUpperWrite.c)
  (mkG 0 88
    [(3, AV.one (A1.p true 3 [] 0)), (7, AV.one (A1.p true 7 [] 0)), (29, AV.one (A1.s y0)), (30, AV.one (A1.v (Value.int IntKind.i64 y1))), (31, AV.one (A1.v (Value.int IntKind.i64 y2))),
      (69, AV.one (A1.v (Value.bool y3)))]
    [(3, some { kind := Kind.bld 52 5, row := [D.v (Value.string y4), D.h], fl := [Own.deep, Own.deep] }),
      (7,
        some
          { kind := Kind.box, row := [D.s y5, D.v (Value.int IntKind.i64 y6), D.v (Value.bool y7), D.v (Value.int IntKind.i64 y8), D.v (Value.string y9)],
            fl := [Own.sh, Own.deep, Own.deep, Own.deep, Own.deep] })]
    GL)
  (backL (lpL XX 7) (bodyAt 10 iUpperWrite.c) (XX.live 7 10))
noncomputable def iUpperWrite.q10 (y0 : ByteArray) (y1 : ByteArray) : Ex × St := (Ex.ret, mkG 0 88 [(2, AV.one (A1.v (Value.string y0))), (3, AV.one (A1.p true 3 [] 0))] [(3, some { kind := Kind.bld 52 5, row := [D.v (Value.string y1), D.h], fl := [Own.deep, Own.deep] })] GL)
noncomputable def iUpperWrite.P15 (y0 : List (List D)) (y1 : Int) (y2 : Int) (y3 : ByteArray) (y4 : List (List D)) (y5 : Int) (y6 : Bool) (y7 : Int) (y8 : ByteArray) : Option (Ex × St) := evB XX 7 (lpL XX 7) 15 (bodyAt 10 iUpperWrite.c)
  (mkG 0 88 [(3, AV.one (A1.p true 3 [] 0)), (7, AV.one (A1.p true 7 [] 0)), (29, AV.one (A1.s y0)), (30, AV.one (A1.v (Value.int IntKind.i64 y1))), (31, AV.one (A1.v (Value.int IntKind.i64 y2)))]
    [(3, some { kind := Kind.bld 52 5, row := [D.v (Value.string y3), D.h], fl := [Own.deep, Own.deep] }),
      (7,
        some
          { kind := Kind.box, row := [D.s y4, D.v (Value.int IntKind.i64 y5), D.v (Value.bool y6), D.v (Value.int IntKind.i64 y7), D.v (Value.string y8)],
            fl := [Own.sh, Own.deep, Own.deep, Own.deep, Own.deep] })]
    GL)
  (backL (lpL XX 7) (bodyAt 10 iUpperWrite.c) (XX.live 7 10))
theorem iUpperWrite.e (a0 : List (List D)) (a1 : List (List D)) :
    iUpperWrite [AV.g [A1.s a0, A1.s a1]] [] =
    (iUpperWrite.L3 a0 (↑a0.length : Int) 0 a0 a1 (ByteArray.mk #[])).bind iUpperWrite.A3 := by
  refine (iUpperWrite.run _ _ (by kernel_rfl)).trans ?_
  delta iUpperWrite iUpperWrite.L3 iUpperWrite.A3 XX
  generalize lpL (Y.ctx (lim' Y)) 7 = lp
  generalize lim' Y = call
  kernel_rfl
theorem iUpperWrite.s3 (y0 : List (List D)) (y1 : Int) (y2 : Int) (y3 : List (List D)) (y4 : List (List D)) (y5 : ByteArray) :
    iUpperWrite.L3 y0 y1 y2 y3 y4 y5 =
    bif decide (y2 < y1) then
  bif decide (0 ≤ y2) && decide (y2 < (↑y0.length : Int)) && decide ((y0.getD y2.toNat []).length = 1) then
    bif fitsRow [CK.sl] (y0.getD y2.toNat []) 0 && decide (1 ≤ (y0.getD y2.toNat []).length) then
      (inamesOk [AV.one (A1.s ((y0.getD y2.toNat []).getD 0 D.h).es), AV.one (A1.v (Value.int IntKind.i64 1))] []).bind fun val =>
        bif fitsCells [R1.bool] val.1 && true then
          bif !(val.1.getD 0 TC.d).bool then some (iUpperWrite.q3 (ByteArray.mk #[]) y3 y4 y5)
          else
            (ipathText [AV.one (A1.s ((y0.getD y2.toNat []).getD 0 D.h).es)] []).bind fun val =>
              bif fitsCells [R1.str] val.1 && true then
                bif decide (5 + (val.1.getD 0 TC.d).str.size ≤ 70368744177664) then
                  bif decide (((ByteArray.mk #[104, 105, 100, 101, 32]) ++ (val.1.getD 0 TC.d).str).size + 1 ≤ 70368744177664) then
                    (strings_Builder_WriteString
                          [AV.one (A1.p true 0 [] 0),
                            AV.one
                              (A1.v
                                (Value.string
                                  ((ByteArray.mk #[104, 105, 100, 101, 32]) ++ (val.1.getD 0 TC.d).str ++ (ByteArray.mk #[10]))))]
                          [{ kind := Kind.bld 52 5, row := [D.v (Value.string y5), D.h], fl := [Own.deep, Own.deep] }]).bind
                      fun val =>
                      bif
                          fitsCells [R1.int IntKind.i64, R1.any] val.1 &&
                            fitsCos [{ ob := { kind := Kind.bld 52 5, row := [D.v (Value.string y5), D.h], fl := [Own.deep, Own.deep] }, src := Src.box 3 }] val.2 then
                        iUpperWrite.L3 y0 y1 (IntKind.i64.wrap (y2 + 1)) y3 y4 ((val.2.getD 0 { kind := Kind.ro, row := [], fl := [] }).2.getD 0 D.h).str
                      else none
                  else none
                else none
              else none
        else none
    else none
  else none
else some (iUpperWrite.x3 y3 y4 y5) := by
  refine (lpL_eq (Y := Y) (c := lim' Y) (fn := 7) (rid := 3) (b := bodyAt 3 iUpperWrite.c) (by kernel_rfl) _).trans ?_
  delta iUpperWrite.L3 inamesOk iUpperWrite.q3 ipathText strings_Builder_WriteString iUpperWrite.x3 XX
  generalize lpL (Y.ctx (lim' Y)) 7 = lp
  generalize lim' Y = call
  kernel_rfl
theorem iUpperWrite.a3q3 (y0 : ByteArray) (y1 : List (List D)) (y2 : List (List D)) (y3 : ByteArray) :
    iUpperWrite.A3 (iUpperWrite.q3 y0 y1 y2 y3) =
    some { cells := [TC.v (Value.string y0)], objs := [] } := by
  delta iUpperWrite.A3 iUpperWrite.q3 XX
  generalize lpL (Y.ctx (lim' Y)) 7 = lp
  generalize lim' Y = call
  kernel_rfl
theorem iUpperWrite.a3x3 (y0 : List (List D)) (y1 : List (List D)) (y2 : ByteArray) :
    iUpperWrite.A3 (iUpperWrite.x3 y0 y1 y2) =
    (iUpperWrite.L10 y1 (↑y1.length : Int) 0 y2).bind iUpperWrite.A10 := by
  delta iUpperWrite.A3 iUpperWrite.x3 iUpperWrite.L10 iUpperWrite.A10 XX
  generalize lpL (Y.ctx (lim' Y)) 7 = lp
  generalize lim' Y = call
  kernel_rfl
theorem iUpperWrite.s10 (y0 : List (List D)) (y1 : Int) (y2 : Int) (y3 : ByteArray) :
    iUpperWrite.L10 y0 y1 y2 y3 =
    bif decide (y2 < y1) then
  bif decide (0 ≤ y2) && decide (y2 < (↑y0.length : Int)) && decide ((y0.getD y2.toNat []).length = 5) then
    bif fitsRow [CK.sl, CK.int IntKind.i64, CK.bool, CK.int IntKind.i64, CK.str] (y0.getD y2.toNat []) 0 && decide (5 ≤ (y0.getD y2.toNat []).length) then
      bif (↑((y0.getD y2.toNat []).getD 0 D.h).es.length : Int) == 0 then
        bif ((y0.getD y2.toNat []).getD 1 D.h).int == 2 then
          bif ((y0.getD y2.toNat []).getD 2 D.h).bool then
            (imodeOk [AV.one (A1.v (Value.int IntKind.i64 ((y0.getD y2.toNat []).getD 3 D.h).int))] []).bind fun val =>
              bif fitsCells [R1.bool] val.1 && true then
                bif (val.1.getD 0 TC.d).bool then
                  iUpperWrite.P13 (((y0.getD y2.toNat []).getD 4 D.h).str.toList == []) y0 y1 y2 y3 ((y0.getD y2.toNat []).getD 0 D.h).es ((y0.getD y2.toNat []).getD 1 D.h).int
                    ((y0.getD y2.toNat []).getD 2 D.h).bool ((y0.getD y2.toNat []).getD 3 D.h).int ((y0.getD y2.toNat []).getD 4 D.h).str
                else
                  iUpperWrite.P13 false y0 y1 y2 y3 ((y0.getD y2.toNat []).getD 0 D.h).es ((y0.getD y2.toNat []).getD 1 D.h).int ((y0.getD y2.toNat []).getD 2 D.h).bool
                    ((y0.getD y2.toNat []).getD 3 D.h).int ((y0.getD y2.toNat []).getD 4 D.h).str
              else none
          else
            iUpperWrite.P13 false y0 y1 y2 y3 ((y0.getD y2.toNat []).getD 0 D.h).es ((y0.getD y2.toNat []).getD 1 D.h).int ((y0.getD y2.toNat []).getD 2 D.h).bool
              ((y0.getD y2.toNat []).getD 3 D.h).int ((y0.getD y2.toNat []).getD 4 D.h).str
        else
          iUpperWrite.P13 false y0 y1 y2 y3 ((y0.getD y2.toNat []).getD 0 D.h).es ((y0.getD y2.toNat []).getD 1 D.h).int ((y0.getD y2.toNat []).getD 2 D.h).bool ((y0.getD y2.toNat []).getD 3 D.h).int
            ((y0.getD y2.toNat []).getD 4 D.h).str
      else
        iUpperWrite.P13 false y0 y1 y2 y3 ((y0.getD y2.toNat []).getD 0 D.h).es ((y0.getD y2.toNat []).getD 1 D.h).int ((y0.getD y2.toNat []).getD 2 D.h).bool ((y0.getD y2.toNat []).getD 3 D.h).int
          ((y0.getD y2.toNat []).getD 4 D.h).str
    else none
  else none
else some (iUpperWrite.x10 y3) := by
  refine (lpL_eq (Y := Y) (c := lim' Y) (fn := 7) (rid := 10) (b := bodyAt 10 iUpperWrite.c) (by kernel_rfl) _).trans ?_
  delta iUpperWrite.L10 imodeOk iUpperWrite.P13 iUpperWrite.x10 XX
  refine join_use [13, 14, 15] (by kernel_rfl) fun J e1 => ?_
  try simp only [← e1]
  clear e1
  generalize lpL (Y.ctx (lim' Y)) 7 = lp
  generalize lim' Y = call
  kernel_rfl
theorem iUpperWrite.p13 (y0 : Bool) (y1 : List (List D)) (y2 : Int) (y3 : Int) (y4 : ByteArray) (y5 : List (List D)) (y6 : Int) (y7 : Bool) (y8 : Int) (y9 : ByteArray) :
    iUpperWrite.P13 y0 y1 y2 y3 y4 y5 y6 y7 y8 y9 =
    bif !y0 then
  (ientryOk [AV.g [A1.s y5, A1.v (Value.int IntKind.i64 y6), A1.v (Value.bool y7), A1.v (Value.int IntKind.i64 y8), A1.v (Value.string y9)]] []).bind fun val =>
    bif fitsCells [R1.bool] val.1 && true then bif !(val.1.getD 0 TC.d).bool then iUpperWrite.P14 y1 y2 y3 true y4 y5 y6 y7 y8 y9 else iUpperWrite.P14 y1 y2 y3 (y6 != 2) y4 y5 y6 y7 y8 y9 else none
else iUpperWrite.P14 y1 y2 y3 false y4 y5 y6 y7 y8 y9 := by
  delta iUpperWrite.P13 ientryOk iUpperWrite.P14 XX
  refine join_at [13, 14, 15] 13 (by kernel_rfl) fun J e1 => ?_
  try simp only [← e1]
  clear e1
  generalize lpL (Y.ctx (lim' Y)) 7 = lp
  generalize lim' Y = call
  kernel_rfl
theorem iUpperWrite.a10x10 (y0 : ByteArray) :
    iUpperWrite.A10 (iUpperWrite.x10 y0) =
    (strings_Builder_Len [AV.one (A1.p true 0 [] 0)] [{ kind := Kind.bld 52 5, row := [D.v (Value.string y0), D.h], fl := [Own.deep, Own.deep] }]).bind fun val =>
  bif fitsCells [R1.int IntKind.i64] val.1 && fitsCos [{ ob := { kind := Kind.bld 52 5, row := [D.v (Value.string y0), D.h], fl := [Own.deep, Own.deep] }, src := Src.box 3 }] val.2 then
    bif decide ((val.1.getD 0 TC.d).int > 4000) then some { cells := [TC.v (Value.string (ByteArray.mk #[]))], objs := [] }
    else
      (strings_Builder_String [AV.one (A1.p true 0 [] 0)]
            [{ kind := Kind.bld 52 5, row := [D.v (Value.string ((val.2.getD 0 { kind := Kind.ro, row := [], fl := [] }).2.getD 0 D.h).str), D.h], fl := [Own.deep, Own.deep] }]).bind
        fun val_1 =>
        bif
            fitsCells [R1.str] val_1.1 &&
              fitsCos
                [{ ob := { kind := Kind.bld 52 5, row := [D.v (Value.string ((val.2.getD 0 { kind := Kind.ro, row := [], fl := [] }).2.getD 0 D.h).str), D.h], fl := [Own.deep, Own.deep] },
                    src := Src.box 3 }]
                val_1.2 then
          some { cells := [TC.v (Value.string (val_1.1.getD 0 TC.d).str)], objs := [] }
        else none
  else none := by
  delta iUpperWrite.A10 iUpperWrite.x10 strings_Builder_Len strings_Builder_String XX
  generalize lpL (Y.ctx (lim' Y)) 7 = lp
  generalize lim' Y = call
  kernel_rfl
theorem iUpperWrite.p14 (y0 : List (List D)) (y1 : Int) (y2 : Int) (y3 : Bool) (y4 : ByteArray) (y5 : List (List D)) (y6 : Int) (y7 : Bool) (y8 : Int) (y9 : ByteArray) :
    iUpperWrite.P14 y0 y1 y2 y3 y4 y5 y6 y7 y8 y9 =
    bif y3 then some (iUpperWrite.q10 (ByteArray.mk #[]) y4) else iUpperWrite.P15 y0 y1 y2 y4 y5 y6 y7 y8 y9 := by
  delta iUpperWrite.P14 iUpperWrite.q10 iUpperWrite.P15 XX
  refine join_at [13, 14, 15] 14 (by kernel_rfl) fun J e1 => ?_
  try simp only [← e1]
  clear e1
  generalize lpL (Y.ctx (lim' Y)) 7 = lp
  generalize lim' Y = call
  kernel_rfl
theorem iUpperWrite.a10q10 (y0 : ByteArray) (y1 : ByteArray) :
    iUpperWrite.A10 (iUpperWrite.q10 y0 y1) =
    some { cells := [TC.v (Value.string y0)], objs := [] } := by
  delta iUpperWrite.A10 iUpperWrite.q10 XX
  generalize lpL (Y.ctx (lim' Y)) 7 = lp
  generalize lim' Y = call
  kernel_rfl
theorem iUpperWrite.p15 (y0 : List (List D)) (y1 : Int) (y2 : Int) (y3 : ByteArray) (y4 : List (List D)) (y5 : Int) (y6 : Bool) (y7 : Int) (y8 : ByteArray) :
    iUpperWrite.P15 y0 y1 y2 y3 y4 y5 y6 y7 y8 =
    (iTree_line [AV.g [A1.v (Value.bool y6), A1.v (Value.int IntKind.i64 y7), A1.v (Value.string y8), A1.v (Value.slice none 0 0), A1.v (Value.slice none 0 0)], AV.one (A1.s y4)] []).bind fun val =>
  bif fitsCells [R1.str] val.1 && true then
    (strings_Builder_WriteString [AV.one (A1.p true 0 [] 0), AV.one (A1.v (Value.string (val.1.getD 0 TC.d).str))]
          [{ kind := Kind.bld 52 5, row := [D.v (Value.string y3), D.h], fl := [Own.deep, Own.deep] }]).bind
      fun val =>
      bif fitsCells [R1.int IntKind.i64, R1.any] val.1 && fitsCos [{ ob := { kind := Kind.bld 52 5, row := [D.v (Value.string y3), D.h], fl := [Own.deep, Own.deep] }, src := Src.box 3 }] val.2 then
        iUpperWrite.L10 y0 y1 (IntKind.i64.wrap (y2 + 1)) ((val.2.getD 0 { kind := Kind.ro, row := [], fl := [] }).2.getD 0 D.h).str
      else none
  else none := by
  delta iUpperWrite.P15 iTree_line strings_Builder_WriteString iUpperWrite.L10 XX
  refine join_at [13, 14, 15] 15 (by kernel_rfl) fun J e1 => ?_
  try simp only [← e1]
  clear e1
  generalize lpL (Y.ctx (lim' Y)) 7 = lp
  generalize lim' Y = call
  kernel_rfl


theorem weqUpper.e (a0 : List (List D)) (a1 : List (List D)) (a2 : List (List D)) (a3 : List (List D)) :
    weqUpper [AV.g [A1.s a0, A1.s a1], AV.g [A1.s a2, A1.s a3]] [] =
    (weqStringSS [AV.one (A1.s a0), AV.one (A1.s a2)] []).bind fun val =>
  bif fitsCells [R1.bool] val.1 && true then
    bif !(val.1.getD 0 TC.d).bool then some { cells := [TC.v (Value.bool false)], objs := [] }
    else
      (weqEntryS [AV.one (A1.s a1), AV.one (A1.s a3)] []).bind fun val =>
        bif fitsCells [R1.bool] val.1 && true then
          bif !(val.1.getD 0 TC.d).bool then some { cells := [TC.v (Value.bool false)], objs := [] } else some { cells := [TC.v (Value.bool true)], objs := [] }
        else none
  else none := by
  refine (weqUpper.run _ _ (by kernel_rfl)).trans ?_
  delta weqUpper weqStringSS weqEntryS XX
  generalize lpL (Y.ctx (lim' Y)) 8 = lp
  generalize lim' Y = call
  kernel_rfl


noncomputable def wszStringSS.L5 (y0 : List (List D)) (y1 : Int) (y2 : Int) : Option (Ex × St) := lpL XX 9 (bodyAt 5 wszStringSS.c) (mkG 0 27 [(0, AV.one (A1.s y0)), (1, AV.one (A1.v (Value.int IntKind.i64 y1))), (5, AV.one (A1.v (Value.int IntKind.i64 y2)))] [] GL)
noncomputable def wszStringSS.A5 : Ex × St → Option Res := fun r => evA XX 9 (lpL XX 9) 5 wszStringSS.c r.fst r.snd (outE XX 9 Tryd.f9)
noncomputable def wszStringSS.q5 (y0 : Int) (y1 : Int) : Ex × St := (Ex.ret, mkG 0 27 [(1, AV.one (A1.v (Value.int IntKind.i64 y0))), (4, AV.one (A1.v (Value.int IntKind.i64 y1)))] [] GL)
noncomputable def wszStringSS.x5 (y0 : Int) : Ex × St := (Ex.exit 0, mkG 0 27 [(1, AV.one (A1.v (Value.int IntKind.i64 y0)))] [] GL)
theorem wszStringSS.e (a0 : List (List D)) (a1 : Int) :
    wszStringSS [AV.one (A1.s a0), AV.one (A1.v (Value.int IntKind.i64 a1))] [] =
    bif decide (IntKind.i64.wrap (a1 - (↑a0.length : Int)) < 0) then some { cells := [TC.v (Value.int IntKind.i64 (-1))], objs := [] }
else (wszStringSS.L5 a0 (IntKind.i64.wrap (a1 - (↑a0.length : Int))) 0).bind wszStringSS.A5 := by
  refine (wszStringSS.run _ _ (by kernel_rfl)).trans ?_
  delta wszStringSS wszStringSS.L5 wszStringSS.A5 XX
  generalize lpL (Y.ctx (lim' Y)) 9 = lp
  generalize lim' Y = call
  kernel_rfl
theorem wszStringSS.s5 (y0 : List (List D)) (y1 : Int) (y2 : Int) :
    wszStringSS.L5 y0 y1 y2 =
    bif decide (y2 < (↑y0.length : Int)) then
  bif decide (0 ≤ y2) && decide (y2 < (↑y0.length : Int)) && decide ((y0.getD y2.toNat []).length = 1) then
    bif fitsRow [CK.sl] (y0.getD y2.toNat []) 0 && decide (1 ≤ (y0.getD y2.toNat []).length) then
      (wszStringS [AV.one (A1.s ((y0.getD y2.toNat []).getD 0 D.h).es), AV.one (A1.v (Value.int IntKind.i64 y1))] []).bind fun val =>
        bif fitsCells [R1.int IntKind.i64] val.1 && true then
          bif decide ((val.1.getD 0 TC.d).int < 0) then some (wszStringSS.q5 (val.1.getD 0 TC.d).int (-1)) else wszStringSS.L5 y0 (val.1.getD 0 TC.d).int (IntKind.i64.wrap (y2 + 1))
        else none
    else none
  else none
else some (wszStringSS.x5 y1) := by
  refine (lpL_eq (Y := Y) (c := lim' Y) (fn := 9) (rid := 5) (b := bodyAt 5 wszStringSS.c) (by kernel_rfl) _).trans ?_
  delta wszStringSS.L5 wszStringS wszStringSS.q5 wszStringSS.x5 XX
  generalize lpL (Y.ctx (lim' Y)) 9 = lp
  generalize lim' Y = call
  kernel_rfl
theorem wszStringSS.a5q5 (y0 : Int) (y1 : Int) :
    wszStringSS.A5 (wszStringSS.q5 y0 y1) =
    some { cells := [TC.v (Value.int IntKind.i64 y1)], objs := [] } := by
  delta wszStringSS.A5 wszStringSS.q5 XX
  generalize lpL (Y.ctx (lim' Y)) 9 = lp
  generalize lim' Y = call
  kernel_rfl
theorem wszStringSS.a5x5 (y0 : Int) :
    wszStringSS.A5 (wszStringSS.x5 y0) =
    some { cells := [TC.v (Value.int IntKind.i64 y0)], objs := [] } := by
  delta wszStringSS.A5 wszStringSS.x5 XX
  generalize lpL (Y.ctx (lim' Y)) 9 = lp
  generalize lim' Y = call
  kernel_rfl


noncomputable def wszEntryS.L5 (y0 : List (List D)) (y1 : Int) (y2 : Int) : Option (Ex × St) := lpL XX 10 (bodyAt 5 wszEntryS.c) (mkG 0 27 [(0, AV.one (A1.s y0)), (1, AV.one (A1.v (Value.int IntKind.i64 y1))), (5, AV.one (A1.v (Value.int IntKind.i64 y2)))] [] GL)
noncomputable def wszEntryS.A5 : Ex × St → Option Res := fun r => evA XX 10 (lpL XX 10) 5 wszEntryS.c r.fst r.snd (outE XX 10 Tryd.f10)
noncomputable def wszEntryS.q5 (y0 : Int) (y1 : Int) : Ex × St := (Ex.ret, mkG 0 27 [(1, AV.one (A1.v (Value.int IntKind.i64 y0))), (4, AV.one (A1.v (Value.int IntKind.i64 y1)))] [] GL)
noncomputable def wszEntryS.x5 (y0 : Int) : Ex × St := (Ex.exit 0, mkG 0 27 [(1, AV.one (A1.v (Value.int IntKind.i64 y0)))] [] GL)
theorem wszEntryS.e (a0 : List (List D)) (a1 : Int) :
    wszEntryS [AV.one (A1.s a0), AV.one (A1.v (Value.int IntKind.i64 a1))] [] =
    bif decide (IntKind.i64.wrap (a1 - (↑a0.length : Int)) < 0) then some { cells := [TC.v (Value.int IntKind.i64 (-1))], objs := [] }
else (wszEntryS.L5 a0 (IntKind.i64.wrap (a1 - (↑a0.length : Int))) 0).bind wszEntryS.A5 := by
  refine (wszEntryS.run _ _ (by kernel_rfl)).trans ?_
  delta wszEntryS wszEntryS.L5 wszEntryS.A5 XX
  generalize lpL (Y.ctx (lim' Y)) 10 = lp
  generalize lim' Y = call
  kernel_rfl
theorem wszEntryS.s5 (y0 : List (List D)) (y1 : Int) (y2 : Int) :
    wszEntryS.L5 y0 y1 y2 =
    bif decide (y2 < (↑y0.length : Int)) then
  bif decide (0 ≤ y2) && decide (y2 < (↑y0.length : Int)) && decide ((y0.getD y2.toNat []).length = 5) then
    bif fitsRow [CK.sl, CK.int IntKind.i64, CK.bool, CK.int IntKind.i64, CK.str] (y0.getD y2.toNat []) 0 && decide (5 ≤ (y0.getD y2.toNat []).length) then
      (wszEntry
            [AV.g
                [A1.s ((y0.getD y2.toNat []).getD 0 D.h).es, A1.v (Value.int IntKind.i64 ((y0.getD y2.toNat []).getD 1 D.h).int), A1.v (Value.bool ((y0.getD y2.toNat []).getD 2 D.h).bool),
                  A1.v (Value.int IntKind.i64 ((y0.getD y2.toNat []).getD 3 D.h).int), A1.v (Value.string ((y0.getD y2.toNat []).getD 4 D.h).str)],
              AV.one (A1.v (Value.int IntKind.i64 y1))]
            []).bind
        fun val =>
        bif fitsCells [R1.int IntKind.i64] val.1 && true then
          bif decide ((val.1.getD 0 TC.d).int < 0) then some (wszEntryS.q5 (val.1.getD 0 TC.d).int (-1)) else wszEntryS.L5 y0 (val.1.getD 0 TC.d).int (IntKind.i64.wrap (y2 + 1))
        else none
    else none
  else none
else some (wszEntryS.x5 y1) := by
  refine (lpL_eq (Y := Y) (c := lim' Y) (fn := 10) (rid := 5) (b := bodyAt 5 wszEntryS.c) (by kernel_rfl) _).trans ?_
  delta wszEntryS.L5 wszEntry wszEntryS.q5 wszEntryS.x5 XX
  generalize lpL (Y.ctx (lim' Y)) 10 = lp
  generalize lim' Y = call
  kernel_rfl
theorem wszEntryS.a5q5 (y0 : Int) (y1 : Int) :
    wszEntryS.A5 (wszEntryS.q5 y0 y1) =
    some { cells := [TC.v (Value.int IntKind.i64 y1)], objs := [] } := by
  delta wszEntryS.A5 wszEntryS.q5 XX
  generalize lpL (Y.ctx (lim' Y)) 10 = lp
  generalize lim' Y = call
  kernel_rfl
theorem wszEntryS.a5x5 (y0 : Int) :
    wszEntryS.A5 (wszEntryS.x5 y0) =
    some { cells := [TC.v (Value.int IntKind.i64 y0)], objs := [] } := by
  delta wszEntryS.A5 wszEntryS.x5 XX
  generalize lpL (Y.ctx (lim' Y)) 10 = lp
  generalize lim' Y = call
  kernel_rfl


noncomputable def sl2PathOk.L2 (y0 : List (List D)) (y1 : Int) : Option (Ex × St) := lpL XX 11 (bodyAt 2 sl2PathOk.c) (mkG 0 19 [(0, AV.one (A1.s y0)), (3, AV.one (A1.v (Value.int IntKind.i64 y1)))] [] GL)
noncomputable def sl2PathOk.A2 : Ex × St → Option Res := fun r => evA XX 11 (lpL XX 11) 2 sl2PathOk.c r.fst r.snd (outE XX 11 Tryd.f11)
noncomputable def sl2PathOk.q2 (y0 : List (List D)) (y1 : Bool) : Ex × St := (Ex.ret, mkG 0 19 [(0, AV.one (A1.s y0)), (2, AV.one (A1.v (Value.bool y1)))] [] GL)
noncomputable def sl2PathOk.x2 (y0 : List (List D)) : Ex × St := (Ex.exit 0, mkG 0 19 [(0, AV.one (A1.s y0))] [] GL)
theorem sl2PathOk.e (a0 : List (List D)) :
    sl2PathOk [AV.one (A1.s a0)] [] =
    (sl2PathOk.L2 a0 0).bind sl2PathOk.A2 := by
  refine (sl2PathOk.run _ _ (by kernel_rfl)).trans ?_
  delta sl2PathOk sl2PathOk.L2 sl2PathOk.A2 XX
  generalize lpL (Y.ctx (lim' Y)) 11 = lp
  generalize lim' Y = call
  kernel_rfl
theorem sl2PathOk.s2 (y0 : List (List D)) (y1 : Int) :
    sl2PathOk.L2 y0 y1 =
    bif decide (y1 < (↑y0.length : Int)) then
  bif decide (0 ≤ y1) && decide (y1 < (↑y0.length : Int)) && decide ((y0.getD y1.toNat []).length = 1) then
    bif fitsRow [CK.str] (y0.getD y1.toNat []) 0 && decide (1 ≤ (y0.getD y1.toNat []).length) then
      (sl1NameOk [AV.one (A1.v (Value.string ((y0.getD y1.toNat []).getD 0 D.h).str))] []).bind fun val =>
        bif fitsCells [R1.bool] val.1 && true then bif !(val.1.getD 0 TC.d).bool then some (sl2PathOk.q2 y0 false) else sl2PathOk.L2 y0 (IntKind.i64.wrap (y1 + 1)) else none
    else none
  else none
else some (sl2PathOk.x2 y0) := by
  refine (lpL_eq (Y := Y) (c := lim' Y) (fn := 11) (rid := 2) (b := bodyAt 2 sl2PathOk.c) (by kernel_rfl) _).trans ?_
  delta sl2PathOk.L2 sl1NameOk sl2PathOk.q2 sl2PathOk.x2 XX
  generalize lpL (Y.ctx (lim' Y)) 11 = lp
  generalize lim' Y = call
  kernel_rfl
theorem sl2PathOk.a2q2 (y0 : List (List D)) (y1 : Bool) :
    sl2PathOk.A2 (sl2PathOk.q2 y0 y1) =
    some { cells := [TC.v (Value.bool y1)], objs := [] } := by
  delta sl2PathOk.A2 sl2PathOk.q2 XX
  generalize lpL (Y.ctx (lim' Y)) 11 = lp
  generalize lim' Y = call
  kernel_rfl
theorem sl2PathOk.a2x2 (y0 : List (List D)) :
    sl2PathOk.A2 (sl2PathOk.x2 y0) =
    (sl1In [AV.one (A1.v (Value.int IntKind.i64 (↑y0.length : Int))), AV.one (A1.v (Value.int IntKind.i64 1)), AV.one (A1.v (Value.int IntKind.i64 4))] []).bind fun val =>
  bif fitsCells [R1.bool] val.1 && true then some { cells := [TC.v (Value.bool (val.1.getD 0 TC.d).bool)], objs := [] } else none := by
  delta sl2PathOk.A2 sl2PathOk.x2 sl1In XX
  generalize lpL (Y.ctx (lim' Y)) 11 = lp
  generalize lim' Y = call
  kernel_rfl


noncomputable def sl3Name.L3 (y0 : List (List D)) (y1 : ByteArray) (y2 : Int) : Option (Ex × St) := lpL XX 12 (bodyAt 3 sl3Name.c) (mkG 0 21 [(0, AV.one (A1.s y0)), (3, AV.one (A1.v (Value.string y1))), (4, AV.one (A1.v (Value.int IntKind.i64 y2)))] [] GL)
noncomputable def sl3Name.A3 : Ex × St → Option Res := fun r => evA XX 12 (lpL XX 12) 3 sl3Name.c r.fst r.snd (outE XX 12 Tryd.f12)
noncomputable def sl3Name.x3 (y0 : ByteArray) : Ex × St := (Ex.exit 0, mkG 0 21 [(3, AV.one (A1.v (Value.string y0)))] [] GL)
theorem sl3Name.e (a0 : List (List D)) :
    sl3Name [AV.one (A1.s a0)] [] =
    (sl3Name.L3 a0 (ByteArray.mk #[]) 0).bind sl3Name.A3 := by
  refine (sl3Name.run _ _ (by kernel_rfl)).trans ?_
  delta sl3Name sl3Name.L3 sl3Name.A3 XX
  generalize lpL (Y.ctx (lim' Y)) 12 = lp
  generalize lim' Y = call
  kernel_rfl
theorem sl3Name.s3 (y0 : List (List D)) (y1 : ByteArray) (y2 : Int) :
    sl3Name.L3 y0 y1 y2 =
    bif decide (y2 < (↑y0.length : Int)) then
  bif decide (y1.size + 1 ≤ 70368744177664) then
    bif decide (0 ≤ y2) && decide (y2 < (↑y0.length : Int)) && decide ((y0.getD y2.toNat []).length = 1) then
      bif fitsRow [CK.str] (y0.getD y2.toNat []) 0 && decide (1 ≤ (y0.getD y2.toNat []).length) then
        bif decide ((y1 ++ (ByteArray.mk #[47])).size + ((y0.getD y2.toNat []).getD 0 D.h).str.size ≤ 70368744177664) then
          sl3Name.L3 y0 (y1 ++ (ByteArray.mk #[47]) ++ ((y0.getD y2.toNat []).getD 0 D.h).str) (IntKind.i64.wrap (y2 + 1))
        else none
      else none
    else none
  else none
else some (sl3Name.x3 y1) := by
  refine (lpL_eq (Y := Y) (c := lim' Y) (fn := 12) (rid := 3) (b := bodyAt 3 sl3Name.c) (by kernel_rfl) _).trans ?_
  delta sl3Name.L3 sl3Name.x3 XX
  generalize lpL (Y.ctx (lim' Y)) 12 = lp
  generalize lim' Y = call
  kernel_rfl
theorem sl3Name.a3x3 (y0 : ByteArray) :
    sl3Name.A3 (sl3Name.x3 y0) =
    bif y0.toList == [] then some { cells := [TC.v (Value.string (ByteArray.mk #[47]))], objs := [] } else some { cells := [TC.v (Value.string y0)], objs := [] } := by
  delta sl3Name.A3 sl3Name.x3 XX
  generalize lpL (Y.ctx (lim' Y)) 12 = lp
  generalize lim' Y = call
  kernel_rfl


noncomputable def sl3EntryOk.P2 (y0 : Bool) (y1 : List (List D)) (y2 : Int) (y3 : Bool) (y4 : Int) (y5 : ByteArray) : Option Res := evB XX 13 (lpL XX 13) 2 sl3EntryOk.c
  (mkG 0 90 [(1, AV.one (A1.p true 1 [] 0)), (24, AV.one (A1.v (Value.bool y0)))]
    [(1,
        some
          { kind := Kind.box, row := [D.s y1, D.v (Value.int IntKind.i64 y2), D.v (Value.bool y3), D.v (Value.int IntKind.i64 y4), D.v (Value.string y5)],
            fl := [Own.sh, Own.deep, Own.deep, Own.deep, Own.deep] })]
    GL)
  (outE XX 13 Tryd.f13)
noncomputable def sl3EntryOk.P3 (y0 : List (List D)) (y1 : Int) (y2 : Bool) (y3 : Int) (y4 : ByteArray) : Option Res := evB XX 13 (lpL XX 13) 3 sl3EntryOk.c
  (mkG 0 90 [(1, AV.one (A1.p true 1 [] 0))]
    [(1,
        some
          { kind := Kind.box, row := [D.s y0, D.v (Value.int IntKind.i64 y1), D.v (Value.bool y2), D.v (Value.int IntKind.i64 y3), D.v (Value.string y4)],
            fl := [Own.sh, Own.deep, Own.deep, Own.deep, Own.deep] })]
    GL)
  (outE XX 13 Tryd.f13)
theorem sl3EntryOk.e (a0 : List (List D)) (a1 : Int) (a2 : Bool) (a3 : Int) (a4 : ByteArray) :
    sl3EntryOk [AV.g [A1.s a0, A1.v (Value.int IntKind.i64 a1), A1.v (Value.bool a2), A1.v (Value.int IntKind.i64 a3), A1.v (Value.string a4)]] [] =
    bif decide ((↑a0.length : Int) > 0) then
  (sl2PathOk [AV.one (A1.s a0)] []).bind fun val =>
    bif fitsCells [R1.bool] val.1 && true then
      bif !(val.1.getD 0 TC.d).bool then sl3EntryOk.P2 true a0 a1 a2 a3 a4
      else
        (sl1In [AV.one (A1.v (Value.int IntKind.i64 a3)), AV.one (A1.v (Value.int IntKind.i64 0)), AV.one (A1.v (Value.int IntKind.i64 7))] []).bind fun val =>
          bif fitsCells [R1.bool] val.1 && true then bif !(val.1.getD 0 TC.d).bool then sl3EntryOk.P2 true a0 a1 a2 a3 a4 else sl3EntryOk.P2 (decide ((↑a4.size : Int) > 24)) a0 a1 a2 a3 a4 else none
    else none
else
  (sl1In [AV.one (A1.v (Value.int IntKind.i64 a3)), AV.one (A1.v (Value.int IntKind.i64 0)), AV.one (A1.v (Value.int IntKind.i64 7))] []).bind fun val =>
    bif fitsCells [R1.bool] val.1 && true then bif !(val.1.getD 0 TC.d).bool then sl3EntryOk.P2 true a0 a1 a2 a3 a4 else sl3EntryOk.P2 (decide ((↑a4.size : Int) > 24)) a0 a1 a2 a3 a4 else none := by
  refine (sl3EntryOk.run _ _ (by kernel_rfl)).trans ?_
  delta sl3EntryOk sl2PathOk sl3EntryOk.P2 sl1In XX
  refine join_use [2, 3] (by kernel_rfl) fun J e1 => ?_
  try simp only [← e1]
  clear e1
  generalize lpL (Y.ctx (lim' Y)) 13 = lp
  generalize lim' Y = call
  kernel_rfl
theorem sl3EntryOk.p2 (y0 : Bool) (y1 : List (List D)) (y2 : Int) (y3 : Bool) (y4 : Int) (y5 : ByteArray) :
    sl3EntryOk.P2 y0 y1 y2 y3 y4 y5 =
    bif y0 then some { cells := [TC.v (Value.bool false)], objs := [] } else sl3EntryOk.P3 y1 y2 y3 y4 y5 := by
  delta sl3EntryOk.P2 sl3EntryOk.P3 XX
  refine join_at [2, 3] 2 (by kernel_rfl) fun J e1 => ?_
  try simp only [← e1]
  clear e1
  generalize lpL (Y.ctx (lim' Y)) 13 = lp
  generalize lim' Y = call
  kernel_rfl
theorem sl3EntryOk.p3 (y0 : List (List D)) (y1 : Int) (y2 : Bool) (y3 : Int) (y4 : ByteArray) :
    sl3EntryOk.P3 y0 y1 y2 y3 y4 =
    bif y1 == 1 then
  bif decide ((↑y0.length : Int) > 0) then
    bif !y2 then bif y3 == 0 then some { cells := [TC.v (Value.bool (y4.toList == []))], objs := [] } else some { cells := [TC.v (Value.bool false)], objs := [] }
    else some { cells := [TC.v (Value.bool false)], objs := [] }
  else some { cells := [TC.v (Value.bool false)], objs := [] }
else
  bif y1 == 2 then
    bif decide ((↑y0.length : Int) > 0) then bif !y2 then some { cells := [TC.v (Value.bool true)], objs := [] } else some { cells := [TC.v (Value.bool (y4.toList == []))], objs := [] }
    else some { cells := [TC.v (Value.bool false)], objs := [] }
  else
    bif y1 == 3 then bif !y2 then some { cells := [TC.v (Value.bool (y4.toList == []))], objs := [] } else some { cells := [TC.v (Value.bool false)], objs := [] }
    else
      bif y1 == 4 then
        bif decide ((↑y0.length : Int) > 0) then bif !y2 then some { cells := [TC.v (Value.bool (y3 == 0))], objs := [] } else some { cells := [TC.v (Value.bool false)], objs := [] }
        else some { cells := [TC.v (Value.bool false)], objs := [] }
      else some { cells := [TC.v (Value.bool false)], objs := [] } := by
  delta sl3EntryOk.P3 XX
  refine join_at [2, 3] 3 (by kernel_rfl) fun J e1 => ?_
  try simp only [← e1]
  clear e1
  generalize lpL (Y.ctx (lim' Y)) 13 = lp
  generalize lim' Y = call
  kernel_rfl


theorem sl1In.e (a0 : Int) (a1 : Int) (a2 : Int) :
    sl1In [AV.one (A1.v (Value.int IntKind.i64 a0)), AV.one (A1.v (Value.int IntKind.i64 a1)), AV.one (A1.v (Value.int IntKind.i64 a2))] [] =
    bif decide (a0 ≥ a1) then some { cells := [TC.v (Value.bool (decide (a0 ≤ a2)))], objs := [] } else some { cells := [TC.v (Value.bool false)], objs := [] } := by
  refine (sl1In.run _ _ (by kernel_rfl)).trans ?_
  delta sl1In XX
  generalize lpL (Y.ctx (lim' Y)) 14 = lp
  generalize lim' Y = call
  kernel_rfl


theorem sl1Line.e (a0 : ByteArray) (a1 : Bool) (a2 : Int) (a3 : ByteArray) (a4 : List (List D)) (a5 : List (List D)) :
    sl1Line [AV.one (A1.v (Value.string a0)), AV.g [A1.v (Value.bool a1), A1.v (Value.int IntKind.i64 a2), A1.v (Value.string a3), A1.s a4, A1.s a5]] [] =
    bif a1 then
  bif decide (4 + a0.size ≤ 70368744177664) then
    bif decide (((ByteArray.mk #[100, 105, 114, 32]) ++ a0).size + 1 ≤ 70368744177664) then
      (sl1Dec [AV.one (A1.v (Value.int IntKind.i64 a2))] []).bind fun val =>
        bif fitsCells [R1.str] val.1 && true then
          bif
              decide
                (((ByteArray.mk #[100, 105, 114, 32]) ++ a0 ++ (ByteArray.mk #[32])).size + (val.1.getD 0 TC.d).str.size ≤ 70368744177664) then
            bif
                decide
                  (((ByteArray.mk #[100, 105, 114, 32]) ++ a0 ++ (ByteArray.mk #[32]) ++ (val.1.getD 0 TC.d).str).size + 1 ≤ 70368744177664) then
              some
                {
                  cells :=
                    [TC.v
                        (Value.string
                          ((ByteArray.mk #[100, 105, 114, 32]) ++ a0 ++ (ByteArray.mk #[32]) ++ (val.1.getD 0 TC.d).str ++
                            (ByteArray.mk #[10])))],
                  objs := [] }
            else none
          else none
        else none
    else none
  else none
else
  bif decide (5 + a0.size ≤ 70368744177664) then
    bif decide (((ByteArray.mk #[102, 105, 108, 101, 32]) ++ a0).size + 1 ≤ 70368744177664) then
      (sl1Dec [AV.one (A1.v (Value.int IntKind.i64 a2))] []).bind fun val =>
        bif fitsCells [R1.str] val.1 && true then
          bif
              decide
                (((ByteArray.mk #[102, 105, 108, 101, 32]) ++ a0 ++ (ByteArray.mk #[32])).size + (val.1.getD 0 TC.d).str.size ≤
                  70368744177664) then
            bif
                decide
                  (((ByteArray.mk #[102, 105, 108, 101, 32]) ++ a0 ++ (ByteArray.mk #[32]) ++ (val.1.getD 0 TC.d).str).size + 1 ≤
                    70368744177664) then
              (sl1Hex [AV.one (A1.v (Value.string a3))] []).bind fun val_1 =>
                bif fitsCells [R1.str] val_1.1 && true then
                  bif
                      decide
                        (((ByteArray.mk #[102, 105, 108, 101, 32]) ++ a0 ++ (ByteArray.mk #[32]) ++ (val.1.getD 0 TC.d).str ++
                                (ByteArray.mk #[32])).size +
                            (val_1.1.getD 0 TC.d).str.size ≤
                          70368744177664) then
                    bif
                        decide
                          (((ByteArray.mk #[102, 105, 108, 101, 32]) ++ a0 ++ (ByteArray.mk #[32]) ++ (val.1.getD 0 TC.d).str ++
                                    (ByteArray.mk #[32]) ++
                                  (val_1.1.getD 0 TC.d).str).size +
                              1 ≤
                            70368744177664) then
                      some
                        {
                          cells :=
                            [TC.v
                                (Value.string
                                  ((ByteArray.mk #[102, 105, 108, 101, 32]) ++ a0 ++ (ByteArray.mk #[32]) ++
                                          (val.1.getD 0 TC.d).str ++
                                        (ByteArray.mk #[32]) ++
                                      (val_1.1.getD 0 TC.d).str ++
                                    (ByteArray.mk #[10])))],
                          objs := [] }
                    else none
                  else none
                else none
            else none
          else none
        else none
    else none
  else none := by
  refine (sl1Line.run _ _ (by kernel_rfl)).trans ?_
  delta sl1Line sl1Dec sl1Hex XX
  generalize lpL (Y.ctx (lim' Y)) 15 = lp
  generalize lim' Y = call
  kernel_rfl


theorem sl1Line_n.e (a0 : ByteArray) (a1 : Bool) (a2 : Int) (a3 : ByteArray) :
    sl1Line [AV.one (A1.v (Value.string a0)), AV.g [A1.v (Value.bool a1), A1.v (Value.int IntKind.i64 a2), A1.v (Value.string a3), A1.v (Value.slice none 0 0), A1.v (Value.slice none 0 0)]] [] =
    bif a1 then
  bif decide (4 + a0.size ≤ 70368744177664) then
    bif decide (((ByteArray.mk #[100, 105, 114, 32]) ++ a0).size + 1 ≤ 70368744177664) then
      (sl1Dec [AV.one (A1.v (Value.int IntKind.i64 a2))] []).bind fun val =>
        bif fitsCells [R1.str] val.1 && true then
          bif
              decide
                (((ByteArray.mk #[100, 105, 114, 32]) ++ a0 ++ (ByteArray.mk #[32])).size + (val.1.getD 0 TC.d).str.size ≤ 70368744177664) then
            bif
                decide
                  (((ByteArray.mk #[100, 105, 114, 32]) ++ a0 ++ (ByteArray.mk #[32]) ++ (val.1.getD 0 TC.d).str).size + 1 ≤ 70368744177664) then
              some
                {
                  cells :=
                    [TC.v
                        (Value.string
                          ((ByteArray.mk #[100, 105, 114, 32]) ++ a0 ++ (ByteArray.mk #[32]) ++ (val.1.getD 0 TC.d).str ++
                            (ByteArray.mk #[10])))],
                  objs := [] }
            else none
          else none
        else none
    else none
  else none
else
  bif decide (5 + a0.size ≤ 70368744177664) then
    bif decide (((ByteArray.mk #[102, 105, 108, 101, 32]) ++ a0).size + 1 ≤ 70368744177664) then
      (sl1Dec [AV.one (A1.v (Value.int IntKind.i64 a2))] []).bind fun val =>
        bif fitsCells [R1.str] val.1 && true then
          bif
              decide
                (((ByteArray.mk #[102, 105, 108, 101, 32]) ++ a0 ++ (ByteArray.mk #[32])).size + (val.1.getD 0 TC.d).str.size ≤
                  70368744177664) then
            bif
                decide
                  (((ByteArray.mk #[102, 105, 108, 101, 32]) ++ a0 ++ (ByteArray.mk #[32]) ++ (val.1.getD 0 TC.d).str).size + 1 ≤
                    70368744177664) then
              (sl1Hex [AV.one (A1.v (Value.string a3))] []).bind fun val_1 =>
                bif fitsCells [R1.str] val_1.1 && true then
                  bif
                      decide
                        (((ByteArray.mk #[102, 105, 108, 101, 32]) ++ a0 ++ (ByteArray.mk #[32]) ++ (val.1.getD 0 TC.d).str ++
                                (ByteArray.mk #[32])).size +
                            (val_1.1.getD 0 TC.d).str.size ≤
                          70368744177664) then
                    bif
                        decide
                          (((ByteArray.mk #[102, 105, 108, 101, 32]) ++ a0 ++ (ByteArray.mk #[32]) ++ (val.1.getD 0 TC.d).str ++
                                    (ByteArray.mk #[32]) ++
                                  (val_1.1.getD 0 TC.d).str).size +
                              1 ≤
                            70368744177664) then
                      some
                        {
                          cells :=
                            [TC.v
                                (Value.string
                                  ((ByteArray.mk #[102, 105, 108, 101, 32]) ++ a0 ++ (ByteArray.mk #[32]) ++
                                          (val.1.getD 0 TC.d).str ++
                                        (ByteArray.mk #[32]) ++
                                      (val_1.1.getD 0 TC.d).str ++
                                    (ByteArray.mk #[10])))],
                          objs := [] }
                    else none
                  else none
                else none
            else none
          else none
        else none
    else none
  else none := by
  refine (sl1Line.run _ _ (by kernel_rfl)).trans ?_
  delta sl1Line sl1Dec sl1Hex XX
  generalize lpL (Y.ctx (lim' Y)) 15 = lp
  generalize lim' Y = call
  kernel_rfl


noncomputable def wtoStringSS.L3 (y0 : List (List D)) (y1 : Int) (y2 : List (List D)) : Option (Ex × St) := lpL XX 16 (bodyAt 3 wtoStringSS.c)
  (mkG 0 23 [(0, AV.one (A1.s y0)), (3, AV.one (A1.r 3 [] 0)), (4, AV.one (A1.v (Value.int IntKind.i64 y1)))] [(3, some { kind := Kind.virt, row := [D.s y2], fl := [Own.deep] })] GL)
noncomputable def wtoStringSS.A3 : Ex × St → Option Res := fun r => evA XX 16 (lpL XX 16) 3 wtoStringSS.c r.fst r.snd (outE XX 16 Tryd.f16)
noncomputable def wtoStringSS.x3 (y0 : List (List D)) : Ex × St := (Ex.exit 0, mkG 0 23 [(3, AV.one (A1.r 3 [] 0))] [(3, some { kind := Kind.virt, row := [D.s y0], fl := [Own.deep] })] GL)
theorem wtoStringSS.e (a0 : List (List D)) :
    wtoStringSS [AV.one (A1.s a0)] [] =
    bif decide ((↑a0.length : Int) * ((↑24 : Int) + 1) ≤ 2 ^ 46) && true && true then (wtoStringSS.L3 a0 0 (List.replicate (↑a0.length : Int).toNat [D.s []])).bind wtoStringSS.A3 else none := by
  refine (wtoStringSS.run _ _ (by kernel_rfl)).trans ?_
  delta wtoStringSS wtoStringSS.L3 wtoStringSS.A3 XX
  generalize lpL (Y.ctx (lim' Y)) 16 = lp
  generalize lim' Y = call
  kernel_rfl
theorem wtoStringSS.s3 (y0 : List (List D)) (y1 : Int) (y2 : List (List D)) :
    wtoStringSS.L3 y0 y1 y2 =
    bif decide (y1 < (↑y0.length : Int)) then
  bif decide (0 ≤ y1) && decide (y1 < (↑y0.length : Int)) && decide ((y0.getD y1.toNat []).length = 1) then
    bif fitsRow [CK.sl] (y0.getD y1.toNat []) 0 && decide (1 ≤ (y0.getD y1.toNat []).length) then
      (wtoStringS [AV.one (A1.s ((y0.getD y1.toNat []).getD 0 D.h).es)] []).bind fun val =>
        bif fitsCells [R1.own Own.deep] val.1 && true then
          bif decide (0 ≤ y1) && decide (y1 < (↑y2.length : Int)) && decide ((y2.getD y1.toNat []).length = 1) then
            bif decide (1 ≤ (y2.getD y1.toNat []).length) && true then wtoStringSS.L3 y0 (IntKind.i64.wrap (y1 + 1)) (y2.set y1.toNat (D.s (val.1.getD 0 TC.d).es :: List.drop 1 (y2.getD y1.toNat [])))
            else none
          else none
        else none
    else none
  else none
else some (wtoStringSS.x3 y2) := by
  refine (lpL_eq (Y := Y) (c := lim' Y) (fn := 16) (rid := 3) (b := bodyAt 3 wtoStringSS.c) (by kernel_rfl) _).trans ?_
  delta wtoStringSS.L3 wtoStringS wtoStringSS.x3 XX
  generalize lpL (Y.ctx (lim' Y)) 16 = lp
  generalize lim' Y = call
  kernel_rfl
theorem wtoStringSS.a3x3 (y0 : List (List D)) :
    wtoStringSS.A3 (wtoStringSS.x3 y0) =
    some { cells := [TC.o Own.deep y0], objs := [] } := by
  delta wtoStringSS.A3 wtoStringSS.x3 XX
  generalize lpL (Y.ctx (lim' Y)) 16 = lp
  generalize lim' Y = call
  kernel_rfl


noncomputable def wtoEntryS.L3 (y0 : List (List D)) (y1 : Int) (y2 : List (List D)) : Option (Ex × St) := lpL XX 17 (bodyAt 3 wtoEntryS.c)
  (mkG 0 23 [(0, AV.one (A1.s y0)), (3, AV.one (A1.r 3 [] 0)), (4, AV.one (A1.v (Value.int IntKind.i64 y1)))] [(3, some { kind := Kind.virt, row := [D.s y2], fl := [Own.deep] })] GL)
noncomputable def wtoEntryS.A3 : Ex × St → Option Res := fun r => evA XX 17 (lpL XX 17) 3 wtoEntryS.c r.fst r.snd (outE XX 17 Tryd.f17)
noncomputable def wtoEntryS.x3 (y0 : List (List D)) : Ex × St := (Ex.exit 0, mkG 0 23 [(3, AV.one (A1.r 3 [] 0))] [(3, some { kind := Kind.virt, row := [D.s y0], fl := [Own.deep] })] GL)
theorem wtoEntryS.e (a0 : List (List D)) :
    wtoEntryS [AV.one (A1.s a0)] [] =
    bif decide ((↑a0.length : Int) * ((↑64 : Int) + 1) ≤ 2 ^ 46) && true && true then
  (wtoEntryS.L3 a0 0 (List.replicate (↑a0.length : Int).toNat [D.s [], D.v (Value.int IntKind.i64 0), D.v (Value.bool false), D.v (Value.int IntKind.i64 0), D.v (Value.string (ByteArray.mk #[]))])).bind
    wtoEntryS.A3
else none := by
  refine (wtoEntryS.run _ _ (by kernel_rfl)).trans ?_
  delta wtoEntryS wtoEntryS.L3 wtoEntryS.A3 XX
  generalize lpL (Y.ctx (lim' Y)) 17 = lp
  generalize lim' Y = call
  kernel_rfl
theorem wtoEntryS.s3 (y0 : List (List D)) (y1 : Int) (y2 : List (List D)) :
    wtoEntryS.L3 y0 y1 y2 =
    bif decide (y1 < (↑y0.length : Int)) then
  bif decide (0 ≤ y1) && decide (y1 < (↑y0.length : Int)) && decide ((y0.getD y1.toNat []).length = 5) then
    bif fitsRow [CK.sl, CK.int IntKind.i64, CK.bool, CK.int IntKind.i64, CK.str] (y0.getD y1.toNat []) 0 && decide (5 ≤ (y0.getD y1.toNat []).length) then
      (wtoEntry
            [AV.g
                [A1.s ((y0.getD y1.toNat []).getD 0 D.h).es, A1.v (Value.int IntKind.i64 ((y0.getD y1.toNat []).getD 1 D.h).int), A1.v (Value.bool ((y0.getD y1.toNat []).getD 2 D.h).bool),
                  A1.v (Value.int IntKind.i64 ((y0.getD y1.toNat []).getD 3 D.h).int), A1.v (Value.string ((y0.getD y1.toNat []).getD 4 D.h).str)]]
            []).bind
        fun val =>
        bif fitsCells [R1.own Own.deep, R1.int IntKind.i64, R1.bool, R1.int IntKind.i64, R1.str] val.1 && true then
          bif decide (0 ≤ y1) && decide (y1 < (↑y2.length : Int)) && decide ((y2.getD y1.toNat []).length = 5) then
            bif decide (5 ≤ (y2.getD y1.toNat []).length) && true then
              wtoEntryS.L3 y0 (IntKind.i64.wrap (y1 + 1))
                (y2.set y1.toNat
                  (D.s (val.1.getD 0 TC.d).es ::
                    D.v (Value.int IntKind.i64 (val.1.getD 1 TC.d).int) ::
                      D.v (Value.bool (val.1.getD 2 TC.d).bool) ::
                        D.v (Value.int IntKind.i64 (val.1.getD 3 TC.d).int) :: D.v (Value.string (val.1.getD 4 TC.d).str) :: List.drop 5 (y2.getD y1.toNat [])))
            else none
          else none
        else none
    else none
  else none
else some (wtoEntryS.x3 y2) := by
  refine (lpL_eq (Y := Y) (c := lim' Y) (fn := 17) (rid := 3) (b := bodyAt 3 wtoEntryS.c) (by kernel_rfl) _).trans ?_
  delta wtoEntryS.L3 wtoEntry wtoEntryS.x3 XX
  generalize lpL (Y.ctx (lim' Y)) 17 = lp
  generalize lim' Y = call
  kernel_rfl
theorem wtoEntryS.a3x3 (y0 : List (List D)) :
    wtoEntryS.A3 (wtoEntryS.x3 y0) =
    some { cells := [TC.o Own.deep y0], objs := [] } := by
  delta wtoEntryS.A3 wtoEntryS.x3 XX
  generalize lpL (Y.ctx (lim' Y)) 17 = lp
  generalize lim' Y = call
  kernel_rfl


noncomputable def inamesOk.L2 (y0 : List (List D)) (y1 : Int) (y2 : List (List D)) (y3 : Int) (y4 : Int) : Option (Ex × St) := lpL XX 18 (bodyAt 2 inamesOk.c)
  (mkG 0 21 [(0, AV.one (A1.s y0)), (1, AV.one (A1.v (Value.int IntKind.i64 y1))), (7, AV.one (A1.s y2)), (8, AV.one (A1.v (Value.int IntKind.i64 y3))), (9, AV.one (A1.v (Value.int IntKind.i64 y4)))]
    [] GL)
noncomputable def inamesOk.A2 : Ex × St → Option Res := fun r => evA XX 18 (lpL XX 18) 2 inamesOk.c r.fst r.snd (outE XX 18 Tryd.f18)
noncomputable def inamesOk.q2 (y0 : List (List D)) (y1 : Int) (y2 : Bool) : Ex × St := (Ex.ret, mkG 0 21 [(0, AV.one (A1.s y0)), (1, AV.one (A1.v (Value.int IntKind.i64 y1))), (4, AV.one (A1.v (Value.bool y2)))] [] GL)
noncomputable def inamesOk.x2 (y0 : List (List D)) (y1 : Int) : Ex × St := (Ex.exit 0, mkG 0 21 [(0, AV.one (A1.s y0)), (1, AV.one (A1.v (Value.int IntKind.i64 y1)))] [] GL)
theorem inamesOk.e (a0 : List (List D)) (a1 : Int) :
    inamesOk [AV.one (A1.s a0), AV.one (A1.v (Value.int IntKind.i64 a1))] [] =
    (inamesOk.L2 a0 a1 a0 (↑a0.length : Int) 0).bind inamesOk.A2 := by
  refine (inamesOk.run _ _ (by kernel_rfl)).trans ?_
  delta inamesOk inamesOk.L2 inamesOk.A2 XX
  generalize lpL (Y.ctx (lim' Y)) 18 = lp
  generalize lim' Y = call
  kernel_rfl
theorem inamesOk.s2 (y0 : List (List D)) (y1 : Int) (y2 : List (List D)) (y3 : Int) (y4 : Int) :
    inamesOk.L2 y0 y1 y2 y3 y4 =
    bif decide (y4 < y3) then
  bif decide (0 ≤ y4) && decide (y4 < (↑y2.length : Int)) && decide ((y2.getD y4.toNat []).length = 1) then
    bif fitsRow [CK.str] (y2.getD y4.toNat []) 0 && decide (1 ≤ (y2.getD y4.toNat []).length) then
      (inameOk [AV.one (A1.v (Value.string ((y2.getD y4.toNat []).getD 0 D.h).str))] []).bind fun val =>
        bif fitsCells [R1.bool] val.1 && true then bif !(val.1.getD 0 TC.d).bool then some (inamesOk.q2 y0 y1 false) else inamesOk.L2 y0 y1 y2 y3 (IntKind.i64.wrap (y4 + 1)) else none
    else none
  else none
else some (inamesOk.x2 y0 y1) := by
  refine (lpL_eq (Y := Y) (c := lim' Y) (fn := 18) (rid := 2) (b := bodyAt 2 inamesOk.c) (by kernel_rfl) _).trans ?_
  delta inamesOk.L2 inameOk inamesOk.q2 inamesOk.x2 XX
  generalize lpL (Y.ctx (lim' Y)) 18 = lp
  generalize lim' Y = call
  kernel_rfl
theorem inamesOk.a2q2 (y0 : List (List D)) (y1 : Int) (y2 : Bool) :
    inamesOk.A2 (inamesOk.q2 y0 y1 y2) =
    some { cells := [TC.v (Value.bool y2)], objs := [] } := by
  delta inamesOk.A2 inamesOk.q2 XX
  generalize lpL (Y.ctx (lim' Y)) 18 = lp
  generalize lim' Y = call
  kernel_rfl
theorem inamesOk.a2x2 (y0 : List (List D)) (y1 : Int) :
    inamesOk.A2 (inamesOk.x2 y0 y1) =
    (iwithin [AV.one (A1.v (Value.int IntKind.i64 (↑y0.length : Int))), AV.one (A1.v (Value.int IntKind.i64 y1)), AV.one (A1.v (Value.int IntKind.i64 4))] []).bind fun val =>
  bif fitsCells [R1.bool] val.1 && true then some { cells := [TC.v (Value.bool (val.1.getD 0 TC.d).bool)], objs := [] } else none := by
  delta inamesOk.A2 inamesOk.x2 iwithin XX
  generalize lpL (Y.ctx (lim' Y)) 18 = lp
  generalize lim' Y = call
  kernel_rfl


theorem ipathText.e (a0 : List (List D)) :
    ipathText [AV.one (A1.s a0)] [] =
    bif (↑a0.length : Int) == 0 then some { cells := [TC.v (Value.string (ByteArray.mk #[47]))], objs := [] }
else
  (strings_Join [AV.one (A1.s a0), AV.one (A1.v (Value.string (ByteArray.mk #[47])))] []).bind fun val =>
    bif fitsCells [R1.str] val.1 && true then
      bif decide (1 + (val.1.getD 0 TC.d).str.size ≤ 70368744177664) then some { cells := [TC.v (Value.string ((ByteArray.mk #[47]) ++ (val.1.getD 0 TC.d).str))], objs := [] } else none
    else none := by
  refine (ipathText.run _ _ (by kernel_rfl)).trans ?_
  delta ipathText strings_Join XX
  generalize lpL (Y.ctx (lim' Y)) 20 = lp
  generalize lim' Y = call
  kernel_rfl


theorem imodeOk.e (a0 : Int) :
    imodeOk [AV.one (A1.v (Value.int IntKind.i64 a0))] [] =
    (iwithin [AV.one (A1.v (Value.int IntKind.i64 a0)), AV.one (A1.v (Value.int IntKind.i64 0)), AV.one (A1.v (Value.int IntKind.i64 7))] []).bind fun val =>
  bif fitsCells [R1.bool] val.1 && true then some { cells := [TC.v (Value.bool (val.1.getD 0 TC.d).bool)], objs := [] } else none := by
  refine (imodeOk.run _ _ (by kernel_rfl)).trans ?_
  delta imodeOk iwithin XX
  generalize lpL (Y.ctx (lim' Y)) 21 = lp
  generalize lim' Y = call
  kernel_rfl


noncomputable def ientryOk.P4 (y0 : Int) (y1 : List (List D)) (y2 : Int) (y3 : Bool) (y4 : Int) (y5 : ByteArray) : Option Res := evB XX 22 (lpL XX 22) 4 ientryOk.c
  (mkG 0 71 [(1, AV.one (A1.p true 1 [] 0)), (3, AV.one (A1.v (Value.int IntKind.i64 y0)))]
    [(1,
        some
          { kind := Kind.box, row := [D.s y1, D.v (Value.int IntKind.i64 y2), D.v (Value.bool y3), D.v (Value.int IntKind.i64 y4), D.v (Value.string y5)],
            fl := [Own.sh, Own.deep, Own.deep, Own.deep, Own.deep] })]
    GL)
  (outE XX 22 Tryd.f22)
noncomputable def ientryOk.P5 (y0 : Bool) (y1 : List (List D)) (y2 : Int) (y3 : Bool) (y4 : Int) (y5 : ByteArray) : Option Res := evB XX 22 (lpL XX 22) 5 ientryOk.c
  (mkG 0 71 [(1, AV.one (A1.p true 1 [] 0)), (23, AV.one (A1.v (Value.bool y0)))]
    [(1,
        some
          { kind := Kind.box, row := [D.s y1, D.v (Value.int IntKind.i64 y2), D.v (Value.bool y3), D.v (Value.int IntKind.i64 y4), D.v (Value.string y5)],
            fl := [Own.sh, Own.deep, Own.deep, Own.deep, Own.deep] })]
    GL)
  (outE XX 22 Tryd.f22)
noncomputable def ientryOk.P6 (y0 : List (List D)) (y1 : Int) (y2 : Bool) (y3 : Int) (y4 : ByteArray) : Option Res := evB XX 22 (lpL XX 22) 6 ientryOk.c
  (mkG 0 71 [(1, AV.one (A1.p true 1 [] 0))]
    [(1,
        some
          { kind := Kind.box, row := [D.s y0, D.v (Value.int IntKind.i64 y1), D.v (Value.bool y2), D.v (Value.int IntKind.i64 y3), D.v (Value.string y4)],
            fl := [Own.sh, Own.deep, Own.deep, Own.deep, Own.deep] })]
    GL)
  (outE XX 22 Tryd.f22)
theorem ientryOk.e (a0 : List (List D)) (a1 : Int) (a2 : Bool) (a3 : Int) (a4 : ByteArray) :
    ientryOk [AV.g [A1.s a0, A1.v (Value.int IntKind.i64 a1), A1.v (Value.bool a2), A1.v (Value.int IntKind.i64 a3), A1.v (Value.string a4)]] [] =
    bif a1 == 3 then ientryOk.P4 0 a0 a1 a2 a3 a4 else ientryOk.P4 1 a0 a1 a2 a3 a4 := by
  refine (ientryOk.run _ _ (by kernel_rfl)).trans ?_
  delta ientryOk ientryOk.P4 XX
  refine join_use [4, 5, 6] (by kernel_rfl) fun J e1 => ?_
  try simp only [← e1]
  clear e1
  generalize lpL (Y.ctx (lim' Y)) 22 = lp
  generalize lim' Y = call
  kernel_rfl
theorem ientryOk.p4 (y0 : Int) (y1 : List (List D)) (y2 : Int) (y3 : Bool) (y4 : Int) (y5 : ByteArray) :
    ientryOk.P4 y0 y1 y2 y3 y4 y5 =
    (inamesOk [AV.one (A1.s y1), AV.one (A1.v (Value.int IntKind.i64 y0))] []).bind fun val =>
  bif fitsCells [R1.bool] val.1 && true then
    bif !(val.1.getD 0 TC.d).bool then ientryOk.P5 true y1 y2 y3 y4 y5
    else
      (imodeOk [AV.one (A1.v (Value.int IntKind.i64 y4))] []).bind fun val =>
        bif fitsCells [R1.bool] val.1 && true then bif !(val.1.getD 0 TC.d).bool then ientryOk.P5 true y1 y2 y3 y4 y5 else ientryOk.P5 (decide ((↑y5.size : Int) > 24)) y1 y2 y3 y4 y5 else none
  else none := by
  delta ientryOk.P4 inamesOk ientryOk.P5 imodeOk XX
  refine join_at [4, 5, 6] 4 (by kernel_rfl) fun J e1 => ?_
  try simp only [← e1]
  clear e1
  generalize lpL (Y.ctx (lim' Y)) 22 = lp
  generalize lim' Y = call
  kernel_rfl
theorem ientryOk.p5 (y0 : Bool) (y1 : List (List D)) (y2 : Int) (y3 : Bool) (y4 : Int) (y5 : ByteArray) :
    ientryOk.P5 y0 y1 y2 y3 y4 y5 =
    bif y0 then some { cells := [TC.v (Value.bool false)], objs := [] } else ientryOk.P6 y1 y2 y3 y4 y5 := by
  delta ientryOk.P5 ientryOk.P6 XX
  refine join_at [4, 5, 6] 5 (by kernel_rfl) fun J e1 => ?_
  try simp only [← e1]
  clear e1
  generalize lpL (Y.ctx (lim' Y)) 22 = lp
  generalize lim' Y = call
  kernel_rfl
theorem ientryOk.p6 (y0 : List (List D)) (y1 : Int) (y2 : Bool) (y3 : Int) (y4 : ByteArray) :
    ientryOk.P6 y0 y1 y2 y3 y4 =
    bif y1 == 1 then
  bif !y2 then bif y3 == 0 then some { cells := [TC.v (Value.bool (y4.toList == []))], objs := [] } else some { cells := [TC.v (Value.bool false)], objs := [] }
  else some { cells := [TC.v (Value.bool false)], objs := [] }
else
  bif y1 == 2 then bif !y2 then some { cells := [TC.v (Value.bool true)], objs := [] } else some { cells := [TC.v (Value.bool (y4.toList == []))], objs := [] }
  else
    bif y1 == 3 then bif !y2 then some { cells := [TC.v (Value.bool (y4.toList == []))], objs := [] } else some { cells := [TC.v (Value.bool false)], objs := [] }
    else
      bif y1 == 4 then bif !y2 then some { cells := [TC.v (Value.bool (y3 == 0))], objs := [] } else some { cells := [TC.v (Value.bool false)], objs := [] }
      else some { cells := [TC.v (Value.bool false)], objs := [] } := by
  delta ientryOk.P6 XX
  refine join_at [4, 5, 6] 6 (by kernel_rfl) fun J e1 => ?_
  try simp only [← e1]
  clear e1
  generalize lpL (Y.ctx (lim' Y)) 22 = lp
  generalize lim' Y = call
  kernel_rfl


theorem iTree_line.e (a0 : Bool) (a1 : Int) (a2 : ByteArray) (a3 : List (List D)) (a4 : List (List D)) (a5 : List (List D)) :
    iTree_line [AV.g [A1.v (Value.bool a0), A1.v (Value.int IntKind.i64 a1), A1.v (Value.string a2), A1.s a3, A1.s a4], AV.one (A1.s a5)] [] =
    bif a0 then
  (ipathText [AV.one (A1.s a5)] []).bind fun val =>
    bif fitsCells [R1.str] val.1 && true then
      bif decide (4 + (val.1.getD 0 TC.d).str.size ≤ 70368744177664) then
        bif decide (((ByteArray.mk #[100, 105, 114, 32]) ++ (val.1.getD 0 TC.d).str).size + 1 ≤ 70368744177664) then
          (strconv_Itoa [AV.one (A1.v (Value.int IntKind.i64 a1))] []).bind fun val_1 =>
            bif fitsCells [R1.str] val_1.1 && true then
              bif
                  decide
                    (((ByteArray.mk #[100, 105, 114, 32]) ++ (val.1.getD 0 TC.d).str ++ (ByteArray.mk #[32])).size +
                        (val_1.1.getD 0 TC.d).str.size ≤
                      70368744177664) then
                bif
                    decide
                      (((ByteArray.mk #[100, 105, 114, 32]) ++ (val.1.getD 0 TC.d).str ++ (ByteArray.mk #[32]) ++
                              (val_1.1.getD 0 TC.d).str).size +
                          1 ≤
                        70368744177664) then
                  some
                    {
                      cells :=
                        [TC.v
                            (Value.string
                              ((ByteArray.mk #[100, 105, 114, 32]) ++ (val.1.getD 0 TC.d).str ++ (ByteArray.mk #[32]) ++
                                  (val_1.1.getD 0 TC.d).str ++
                                (ByteArray.mk #[10])))],
                      objs := [] }
                else none
              else none
            else none
        else none
      else none
    else none
else
  (ipathText [AV.one (A1.s a5)] []).bind fun val =>
    bif fitsCells [R1.str] val.1 && true then
      bif decide (5 + (val.1.getD 0 TC.d).str.size ≤ 70368744177664) then
        bif decide (((ByteArray.mk #[102, 105, 108, 101, 32]) ++ (val.1.getD 0 TC.d).str).size + 1 ≤ 70368744177664) then
          (strconv_Itoa [AV.one (A1.v (Value.int IntKind.i64 a1))] []).bind fun val_1 =>
            bif fitsCells [R1.str] val_1.1 && true then
              bif
                  decide
                    (((ByteArray.mk #[102, 105, 108, 101, 32]) ++ (val.1.getD 0 TC.d).str ++ (ByteArray.mk #[32])).size +
                        (val_1.1.getD 0 TC.d).str.size ≤
                      70368744177664) then
                bif
                    decide
                      (((ByteArray.mk #[102, 105, 108, 101, 32]) ++ (val.1.getD 0 TC.d).str ++ (ByteArray.mk #[32]) ++
                              (val_1.1.getD 0 TC.d).str).size +
                          1 ≤
                        70368744177664) then
                  (idataText [AV.one (A1.v (Value.string a2))] []).bind fun val_2 =>
                    bif fitsCells [R1.str] val_2.1 && true then
                      bif
                          decide
                            (((ByteArray.mk #[102, 105, 108, 101, 32]) ++ (val.1.getD 0 TC.d).str ++ (ByteArray.mk #[32]) ++
                                      (val_1.1.getD 0 TC.d).str ++
                                    (ByteArray.mk #[32])).size +
                                (val_2.1.getD 0 TC.d).str.size ≤
                              70368744177664) then
                        bif
                            decide
                              (((ByteArray.mk #[102, 105, 108, 101, 32]) ++ (val.1.getD 0 TC.d).str ++ (ByteArray.mk #[32]) ++
                                          (val_1.1.getD 0 TC.d).str ++
                                        (ByteArray.mk #[32]) ++
                                      (val_2.1.getD 0 TC.d).str).size +
                                  1 ≤
                                70368744177664) then
                          some
                            {
                              cells :=
                                [TC.v
                                    (Value.string
                                      ((ByteArray.mk #[102, 105, 108, 101, 32]) ++ (val.1.getD 0 TC.d).str ++ (ByteArray.mk #[32]) ++
                                              (val_1.1.getD 0 TC.d).str ++
                                            (ByteArray.mk #[32]) ++
                                          (val_2.1.getD 0 TC.d).str ++
                                        (ByteArray.mk #[10])))],
                              objs := [] }
                        else none
                      else none
                    else none
                else none
              else none
            else none
        else none
      else none
    else none := by
  refine (iTree_line.run _ _ (by kernel_rfl)).trans ?_
  delta iTree_line ipathText strconv_Itoa idataText XX
  generalize lpL (Y.ctx (lim' Y)) 23 = lp
  generalize lim' Y = call
  kernel_rfl


theorem iTree_line_n.e (a0 : Bool) (a1 : Int) (a2 : ByteArray) (a5 : List (List D)) :
    iTree_line [AV.g [A1.v (Value.bool a0), A1.v (Value.int IntKind.i64 a1), A1.v (Value.string a2), A1.v (Value.slice none 0 0), A1.v (Value.slice none 0 0)], AV.one (A1.s a5)] [] =
    bif a0 then
  (ipathText [AV.one (A1.s a5)] []).bind fun val =>
    bif fitsCells [R1.str] val.1 && true then
      bif decide (4 + (val.1.getD 0 TC.d).str.size ≤ 70368744177664) then
        bif decide (((ByteArray.mk #[100, 105, 114, 32]) ++ (val.1.getD 0 TC.d).str).size + 1 ≤ 70368744177664) then
          (strconv_Itoa [AV.one (A1.v (Value.int IntKind.i64 a1))] []).bind fun val_1 =>
            bif fitsCells [R1.str] val_1.1 && true then
              bif
                  decide
                    (((ByteArray.mk #[100, 105, 114, 32]) ++ (val.1.getD 0 TC.d).str ++ (ByteArray.mk #[32])).size +
                        (val_1.1.getD 0 TC.d).str.size ≤
                      70368744177664) then
                bif
                    decide
                      (((ByteArray.mk #[100, 105, 114, 32]) ++ (val.1.getD 0 TC.d).str ++ (ByteArray.mk #[32]) ++
                              (val_1.1.getD 0 TC.d).str).size +
                          1 ≤
                        70368744177664) then
                  some
                    {
                      cells :=
                        [TC.v
                            (Value.string
                              ((ByteArray.mk #[100, 105, 114, 32]) ++ (val.1.getD 0 TC.d).str ++ (ByteArray.mk #[32]) ++
                                  (val_1.1.getD 0 TC.d).str ++
                                (ByteArray.mk #[10])))],
                      objs := [] }
                else none
              else none
            else none
        else none
      else none
    else none
else
  (ipathText [AV.one (A1.s a5)] []).bind fun val =>
    bif fitsCells [R1.str] val.1 && true then
      bif decide (5 + (val.1.getD 0 TC.d).str.size ≤ 70368744177664) then
        bif decide (((ByteArray.mk #[102, 105, 108, 101, 32]) ++ (val.1.getD 0 TC.d).str).size + 1 ≤ 70368744177664) then
          (strconv_Itoa [AV.one (A1.v (Value.int IntKind.i64 a1))] []).bind fun val_1 =>
            bif fitsCells [R1.str] val_1.1 && true then
              bif
                  decide
                    (((ByteArray.mk #[102, 105, 108, 101, 32]) ++ (val.1.getD 0 TC.d).str ++ (ByteArray.mk #[32])).size +
                        (val_1.1.getD 0 TC.d).str.size ≤
                      70368744177664) then
                bif
                    decide
                      (((ByteArray.mk #[102, 105, 108, 101, 32]) ++ (val.1.getD 0 TC.d).str ++ (ByteArray.mk #[32]) ++
                              (val_1.1.getD 0 TC.d).str).size +
                          1 ≤
                        70368744177664) then
                  (idataText [AV.one (A1.v (Value.string a2))] []).bind fun val_2 =>
                    bif fitsCells [R1.str] val_2.1 && true then
                      bif
                          decide
                            (((ByteArray.mk #[102, 105, 108, 101, 32]) ++ (val.1.getD 0 TC.d).str ++ (ByteArray.mk #[32]) ++
                                      (val_1.1.getD 0 TC.d).str ++
                                    (ByteArray.mk #[32])).size +
                                (val_2.1.getD 0 TC.d).str.size ≤
                              70368744177664) then
                        bif
                            decide
                              (((ByteArray.mk #[102, 105, 108, 101, 32]) ++ (val.1.getD 0 TC.d).str ++ (ByteArray.mk #[32]) ++
                                          (val_1.1.getD 0 TC.d).str ++
                                        (ByteArray.mk #[32]) ++
                                      (val_2.1.getD 0 TC.d).str).size +
                                  1 ≤
                                70368744177664) then
                          some
                            {
                              cells :=
                                [TC.v
                                    (Value.string
                                      ((ByteArray.mk #[102, 105, 108, 101, 32]) ++ (val.1.getD 0 TC.d).str ++ (ByteArray.mk #[32]) ++
                                              (val_1.1.getD 0 TC.d).str ++
                                            (ByteArray.mk #[32]) ++
                                          (val_2.1.getD 0 TC.d).str ++
                                        (ByteArray.mk #[10])))],
                              objs := [] }
                        else none
                      else none
                    else none
                else none
              else none
            else none
        else none
      else none
    else none := by
  refine (iTree_line.run _ _ (by kernel_rfl)).trans ?_
  delta iTree_line ipathText strconv_Itoa idataText XX
  generalize lpL (Y.ctx (lim' Y)) 23 = lp
  generalize lim' Y = call
  kernel_rfl


noncomputable def weqStringSS.L4 (y0 : List (List D)) (y1 : List (List D)) (y2 : Int) : Option (Ex × St) := lpL XX 26 (bodyAt 4 weqStringSS.c) (mkG 0 27 [(0, AV.one (A1.s y0)), (1, AV.one (A1.s y1)), (5, AV.one (A1.v (Value.int IntKind.i64 y2)))] [] GL)
noncomputable def weqStringSS.A4 : Ex × St → Option Res := fun r => evA XX 26 (lpL XX 26) 4 weqStringSS.c r.fst r.snd (outE XX 26 Tryd.f26)
noncomputable def weqStringSS.q4 (y0 : Bool) : Ex × St := (Ex.ret, mkG 0 27 [(4, AV.one (A1.v (Value.bool y0)))] [] GL)
noncomputable def weqStringSS.x4 : Ex × St := (Ex.exit 0, mkG 0 27 [] [] GL)
theorem weqStringSS.e (a0 : List (List D)) (a1 : List (List D)) :
    weqStringSS [AV.one (A1.s a0), AV.one (A1.s a1)] [] =
    bif (↑a0.length : Int) != (↑a1.length : Int) then some { cells := [TC.v (Value.bool false)], objs := [] } else (weqStringSS.L4 a0 a1 0).bind weqStringSS.A4 := by
  refine (weqStringSS.run _ _ (by kernel_rfl)).trans ?_
  delta weqStringSS weqStringSS.L4 weqStringSS.A4 XX
  generalize lpL (Y.ctx (lim' Y)) 26 = lp
  generalize lim' Y = call
  kernel_rfl
theorem weqStringSS.s4 (y0 : List (List D)) (y1 : List (List D)) (y2 : Int) :
    weqStringSS.L4 y0 y1 y2 =
    bif decide (y2 < (↑y0.length : Int)) then
  bif decide (0 ≤ y2) && decide (y2 < (↑y0.length : Int)) && decide ((y0.getD y2.toNat []).length = 1) then
    bif fitsRow [CK.sl] (y0.getD y2.toNat []) 0 && decide (1 ≤ (y0.getD y2.toNat []).length) then
      bif decide (0 ≤ y2) && decide (y2 < (↑y1.length : Int)) && decide ((y1.getD y2.toNat []).length = 1) then
        bif fitsRow [CK.sl] (y1.getD y2.toNat []) 0 && decide (1 ≤ (y1.getD y2.toNat []).length) then
          (weqStringS [AV.one (A1.s ((y0.getD y2.toNat []).getD 0 D.h).es), AV.one (A1.s ((y1.getD y2.toNat []).getD 0 D.h).es)] []).bind fun val =>
            bif fitsCells [R1.bool] val.1 && true then bif !(val.1.getD 0 TC.d).bool then some (weqStringSS.q4 false) else weqStringSS.L4 y0 y1 (IntKind.i64.wrap (y2 + 1)) else none
        else none
      else none
    else none
  else none
else some weqStringSS.x4 := by
  refine (lpL_eq (Y := Y) (c := lim' Y) (fn := 26) (rid := 4) (b := bodyAt 4 weqStringSS.c) (by kernel_rfl) _).trans ?_
  delta weqStringSS.L4 weqStringS weqStringSS.q4 weqStringSS.x4 XX
  generalize lpL (Y.ctx (lim' Y)) 26 = lp
  generalize lim' Y = call
  kernel_rfl
theorem weqStringSS.a4q4 (y0 : Bool) :
    weqStringSS.A4 (weqStringSS.q4 y0) =
    some { cells := [TC.v (Value.bool y0)], objs := [] } := by
  delta weqStringSS.A4 weqStringSS.q4 XX
  generalize lpL (Y.ctx (lim' Y)) 26 = lp
  generalize lim' Y = call
  kernel_rfl
theorem weqStringSS.a4x4 :
    weqStringSS.A4 weqStringSS.x4 =
    some { cells := [TC.v (Value.bool true)], objs := [] } := by
  delta weqStringSS.A4 weqStringSS.x4 XX
  generalize lpL (Y.ctx (lim' Y)) 26 = lp
  generalize lim' Y = call
  kernel_rfl


noncomputable def weqEntryS.L4 (y0 : List (List D)) (y1 : List (List D)) (y2 : Int) : Option (Ex × St) := lpL XX 27 (bodyAt 4 weqEntryS.c) (mkG 0 27 [(0, AV.one (A1.s y0)), (1, AV.one (A1.s y1)), (5, AV.one (A1.v (Value.int IntKind.i64 y2)))] [] GL)
noncomputable def weqEntryS.A4 : Ex × St → Option Res := fun r => evA XX 27 (lpL XX 27) 4 weqEntryS.c r.fst r.snd (outE XX 27 Tryd.f27)
noncomputable def weqEntryS.q4 (y0 : Bool) : Ex × St := (Ex.ret, mkG 0 27 [(4, AV.one (A1.v (Value.bool y0)))] [] GL)
noncomputable def weqEntryS.x4 : Ex × St := (Ex.exit 0, mkG 0 27 [] [] GL)
theorem weqEntryS.e (a0 : List (List D)) (a1 : List (List D)) :
    weqEntryS [AV.one (A1.s a0), AV.one (A1.s a1)] [] =
    bif (↑a0.length : Int) != (↑a1.length : Int) then some { cells := [TC.v (Value.bool false)], objs := [] } else (weqEntryS.L4 a0 a1 0).bind weqEntryS.A4 := by
  refine (weqEntryS.run _ _ (by kernel_rfl)).trans ?_
  delta weqEntryS weqEntryS.L4 weqEntryS.A4 XX
  generalize lpL (Y.ctx (lim' Y)) 27 = lp
  generalize lim' Y = call
  kernel_rfl
theorem weqEntryS.s4 (y0 : List (List D)) (y1 : List (List D)) (y2 : Int) :
    weqEntryS.L4 y0 y1 y2 =
    bif decide (y2 < (↑y0.length : Int)) then
  bif decide (0 ≤ y2) && decide (y2 < (↑y0.length : Int)) && decide ((y0.getD y2.toNat []).length = 5) then
    bif fitsRow [CK.sl, CK.int IntKind.i64, CK.bool, CK.int IntKind.i64, CK.str] (y0.getD y2.toNat []) 0 && decide (5 ≤ (y0.getD y2.toNat []).length) then
      bif decide (0 ≤ y2) && decide (y2 < (↑y1.length : Int)) && decide ((y1.getD y2.toNat []).length = 5) then
        bif fitsRow [CK.sl, CK.int IntKind.i64, CK.bool, CK.int IntKind.i64, CK.str] (y1.getD y2.toNat []) 0 && decide (5 ≤ (y1.getD y2.toNat []).length) then
          (weqEntry
                [AV.g
                    [A1.s ((y0.getD y2.toNat []).getD 0 D.h).es, A1.v (Value.int IntKind.i64 ((y0.getD y2.toNat []).getD 1 D.h).int), A1.v (Value.bool ((y0.getD y2.toNat []).getD 2 D.h).bool),
                      A1.v (Value.int IntKind.i64 ((y0.getD y2.toNat []).getD 3 D.h).int), A1.v (Value.string ((y0.getD y2.toNat []).getD 4 D.h).str)],
                  AV.g
                    [A1.s ((y1.getD y2.toNat []).getD 0 D.h).es, A1.v (Value.int IntKind.i64 ((y1.getD y2.toNat []).getD 1 D.h).int), A1.v (Value.bool ((y1.getD y2.toNat []).getD 2 D.h).bool),
                      A1.v (Value.int IntKind.i64 ((y1.getD y2.toNat []).getD 3 D.h).int), A1.v (Value.string ((y1.getD y2.toNat []).getD 4 D.h).str)]]
                []).bind
            fun val => bif fitsCells [R1.bool] val.1 && true then bif !(val.1.getD 0 TC.d).bool then some (weqEntryS.q4 false) else weqEntryS.L4 y0 y1 (IntKind.i64.wrap (y2 + 1)) else none
        else none
      else none
    else none
  else none
else some weqEntryS.x4 := by
  refine (lpL_eq (Y := Y) (c := lim' Y) (fn := 27) (rid := 4) (b := bodyAt 4 weqEntryS.c) (by kernel_rfl) _).trans ?_
  delta weqEntryS.L4 weqEntry weqEntryS.q4 weqEntryS.x4 XX
  generalize lpL (Y.ctx (lim' Y)) 27 = lp
  generalize lim' Y = call
  kernel_rfl
theorem weqEntryS.a4q4 (y0 : Bool) :
    weqEntryS.A4 (weqEntryS.q4 y0) =
    some { cells := [TC.v (Value.bool y0)], objs := [] } := by
  delta weqEntryS.A4 weqEntryS.q4 XX
  generalize lpL (Y.ctx (lim' Y)) 27 = lp
  generalize lim' Y = call
  kernel_rfl
theorem weqEntryS.a4x4 :
    weqEntryS.A4 weqEntryS.x4 =
    some { cells := [TC.v (Value.bool true)], objs := [] } := by
  delta weqEntryS.A4 weqEntryS.x4 XX
  generalize lpL (Y.ctx (lim' Y)) 27 = lp
  generalize lim' Y = call
  kernel_rfl


noncomputable def wszStringS.L5 (y0 : List (List D)) (y1 : Int) (y2 : Int) : Option (Ex × St) := lpL XX 28 (bodyAt 5 wszStringS.c) (mkG 0 28 [(0, AV.one (A1.s y0)), (1, AV.one (A1.v (Value.int IntKind.i64 y1))), (5, AV.one (A1.v (Value.int IntKind.i64 y2)))] [] GL)
noncomputable def wszStringS.A5 : Ex × St → Option Res := fun r => evA XX 28 (lpL XX 28) 5 wszStringS.c r.fst r.snd (outE XX 28 Tryd.f28)
noncomputable def wszStringS.q5 (y0 : Int) (y1 : Int) : Ex × St := (Ex.ret, mkG 0 28 [(1, AV.one (A1.v (Value.int IntKind.i64 y0))), (4, AV.one (A1.v (Value.int IntKind.i64 y1)))] [] GL)
noncomputable def wszStringS.x5 (y0 : Int) : Ex × St := (Ex.exit 0, mkG 0 28 [(1, AV.one (A1.v (Value.int IntKind.i64 y0)))] [] GL)
theorem wszStringS.e (a0 : List (List D)) (a1 : Int) :
    wszStringS [AV.one (A1.s a0), AV.one (A1.v (Value.int IntKind.i64 a1))] [] =
    bif decide (IntKind.i64.wrap (a1 - (↑a0.length : Int)) < 0) then some { cells := [TC.v (Value.int IntKind.i64 (-1))], objs := [] }
else (wszStringS.L5 a0 (IntKind.i64.wrap (a1 - (↑a0.length : Int))) 0).bind wszStringS.A5 := by
  refine (wszStringS.run _ _ (by kernel_rfl)).trans ?_
  delta wszStringS wszStringS.L5 wszStringS.A5 XX
  generalize lpL (Y.ctx (lim' Y)) 28 = lp
  generalize lim' Y = call
  kernel_rfl
theorem wszStringS.s5 (y0 : List (List D)) (y1 : Int) (y2 : Int) :
    wszStringS.L5 y0 y1 y2 =
    bif decide (y2 < (↑y0.length : Int)) then
  bif decide (0 ≤ y2) && decide (y2 < (↑y0.length : Int)) && decide ((y0.getD y2.toNat []).length = 1) then
    bif fitsRow [CK.str] (y0.getD y2.toNat []) 0 && decide (1 ≤ (y0.getD y2.toNat []).length) then
      bif decide (IntKind.i64.wrap (y1 - (↑((y0.getD y2.toNat []).getD 0 D.h).str.size : Int)) < 0) then
        some (wszStringS.q5 (IntKind.i64.wrap (y1 - (↑((y0.getD y2.toNat []).getD 0 D.h).str.size : Int))) (-1))
      else wszStringS.L5 y0 (IntKind.i64.wrap (y1 - (↑((y0.getD y2.toNat []).getD 0 D.h).str.size : Int))) (IntKind.i64.wrap (y2 + 1))
    else none
  else none
else some (wszStringS.x5 y1) := by
  refine (lpL_eq (Y := Y) (c := lim' Y) (fn := 28) (rid := 5) (b := bodyAt 5 wszStringS.c) (by kernel_rfl) _).trans ?_
  delta wszStringS.L5 wszStringS.q5 wszStringS.x5 XX
  generalize lpL (Y.ctx (lim' Y)) 28 = lp
  generalize lim' Y = call
  kernel_rfl
theorem wszStringS.a5q5 (y0 : Int) (y1 : Int) :
    wszStringS.A5 (wszStringS.q5 y0 y1) =
    some { cells := [TC.v (Value.int IntKind.i64 y1)], objs := [] } := by
  delta wszStringS.A5 wszStringS.q5 XX
  generalize lpL (Y.ctx (lim' Y)) 28 = lp
  generalize lim' Y = call
  kernel_rfl
theorem wszStringS.a5x5 (y0 : Int) :
    wszStringS.A5 (wszStringS.x5 y0) =
    some { cells := [TC.v (Value.int IntKind.i64 y0)], objs := [] } := by
  delta wszStringS.A5 wszStringS.x5 XX
  generalize lpL (Y.ctx (lim' Y)) 28 = lp
  generalize lim' Y = call
  kernel_rfl


theorem wszEntry.e (a0 : List (List D)) (a1 : Int) (a2 : Bool) (a3 : Int) (a4 : ByteArray) (a5 : Int) :
    wszEntry [AV.g [A1.s a0, A1.v (Value.int IntKind.i64 a1), A1.v (Value.bool a2), A1.v (Value.int IntKind.i64 a3), A1.v (Value.string a4)], AV.one (A1.v (Value.int IntKind.i64 a5))] [] =
    (wszStringS [AV.one (A1.s a0), AV.one (A1.v (Value.int IntKind.i64 a5))] []).bind fun val =>
  bif fitsCells [R1.int IntKind.i64] val.1 && true then
    bif decide ((val.1.getD 0 TC.d).int < 0) then some { cells := [TC.v (Value.int IntKind.i64 (-1))], objs := [] }
    else
      bif decide (IntKind.i64.wrap ((val.1.getD 0 TC.d).int - (↑a4.size : Int)) < 0) then some { cells := [TC.v (Value.int IntKind.i64 (-1))], objs := [] }
      else some { cells := [TC.v (Value.int IntKind.i64 (IntKind.i64.wrap ((val.1.getD 0 TC.d).int - (↑a4.size : Int))))], objs := [] }
  else none := by
  refine (wszEntry.run _ _ (by kernel_rfl)).trans ?_
  delta wszEntry wszStringS XX
  generalize lpL (Y.ctx (lim' Y)) 29 = lp
  generalize lim' Y = call
  kernel_rfl


noncomputable def sl1NameOk.L2 (y0 : ByteArray) (y1 : Int) : Option (Ex × St) := lpL XX 30 (bodyAt 2 sl1NameOk.c) (mkG 0 36 [(0, AV.one (A1.v (Value.string y0))), (3, AV.one (A1.v (Value.int IntKind.i64 y1)))] [] GL)
noncomputable def sl1NameOk.A2 : Ex × St → Option Res := fun r => evA XX 30 (lpL XX 30) 2 sl1NameOk.c r.fst r.snd (outE XX 30 Tryd.f30)
noncomputable def sl1NameOk.P5 (y0 : ByteArray) (y1 : Int) (y2 : Bool) : Option (Ex × St) := evB XX 30 (lpL XX 30) 5 (bodyAt 2 sl1NameOk.c) (mkG 0 36 [(0, AV.one (A1.v (Value.string y0))), (3, AV.one (A1.v (Value.int IntKind.i64 y1))), (32, AV.one (A1.v (Value.bool y2)))] [] GL)
  (backL (lpL XX 30) (bodyAt 2 sl1NameOk.c) (XX.live 30 2))
noncomputable def sl1NameOk.x2 (y0 : ByteArray) : Ex × St := (Ex.exit 0, mkG 0 36 [(0, AV.one (A1.v (Value.string y0)))] [] GL)
noncomputable def sl1NameOk.q2 (y0 : ByteArray) (y1 : Bool) : Ex × St := (Ex.ret, mkG 0 36 [(0, AV.one (A1.v (Value.string y0))), (2, AV.one (A1.v (Value.bool y1)))] [] GL)
theorem sl1NameOk.e (a0 : ByteArray) :
    sl1NameOk [AV.one (A1.v (Value.string a0))] [] =
    (sl1NameOk.L2 a0 0).bind sl1NameOk.A2 := by
  refine (sl1NameOk.run _ _ (by kernel_rfl)).trans ?_
  delta sl1NameOk sl1NameOk.L2 sl1NameOk.A2 XX
  generalize lpL (Y.ctx (lim' Y)) 30 = lp
  generalize lim' Y = call
  kernel_rfl
theorem sl1NameOk.s2 (y0 : ByteArray) (y1 : Int) :
    sl1NameOk.L2 y0 y1 =
    bif decide (y1 < (↑y0.size : Int)) then
  bif decide (0 ≤ y1) && decide (y1 < (↑y0.size : Int)) then
    bif decide (byteAt y0 y1.toNat ≥ 97) then
      bif decide (0 ≤ y1) && decide (y1 < (↑y0.size : Int)) then
        bif decide (byteAt y0 y1.toNat ≤ 122) then sl1NameOk.P5 y0 y1 false
        else
          bif decide (0 ≤ y1) && decide (y1 < (↑y0.size : Int)) then
            bif decide (byteAt y0 y1.toNat ≥ 48) then bif decide (0 ≤ y1) && decide (y1 < (↑y0.size : Int)) then sl1NameOk.P5 y0 y1 !decide (byteAt y0 y1.toNat ≤ 57) else none
            else sl1NameOk.P5 y0 y1 true
          else none
      else none
    else
      bif decide (0 ≤ y1) && decide (y1 < (↑y0.size : Int)) then
        bif decide (byteAt y0 y1.toNat ≥ 48) then bif decide (0 ≤ y1) && decide (y1 < (↑y0.size : Int)) then sl1NameOk.P5 y0 y1 !decide (byteAt y0 y1.toNat ≤ 57) else none else sl1NameOk.P5 y0 y1 true
      else none
  else none
else some (sl1NameOk.x2 y0) := by
  refine (lpL_eq (Y := Y) (c := lim' Y) (fn := 30) (rid := 2) (b := bodyAt 2 sl1NameOk.c) (by kernel_rfl) _).trans ?_
  delta sl1NameOk.L2 sl1NameOk.P5 sl1NameOk.x2 XX
  refine join_use [5] (by kernel_rfl) fun J e1 => ?_
  try simp only [← e1]
  clear e1
  generalize lpL (Y.ctx (lim' Y)) 30 = lp
  generalize lim' Y = call
  kernel_rfl
theorem sl1NameOk.p5 (y0 : ByteArray) (y1 : Int) (y2 : Bool) :
    sl1NameOk.P5 y0 y1 y2 =
    bif y2 then some (sl1NameOk.q2 y0 false) else sl1NameOk.L2 y0 (IntKind.i64.wrap (y1 + 1)) := by
  delta sl1NameOk.P5 sl1NameOk.q2 sl1NameOk.L2 XX
  refine join_at [5] 5 (by kernel_rfl) fun J e1 => ?_
  try simp only [← e1]
  clear e1
  generalize lpL (Y.ctx (lim' Y)) 30 = lp
  generalize lim' Y = call
  kernel_rfl
theorem sl1NameOk.a2x2 (y0 : ByteArray) :
    sl1NameOk.A2 (sl1NameOk.x2 y0) =
    (sl1In [AV.one (A1.v (Value.int IntKind.i64 (↑y0.size : Int))), AV.one (A1.v (Value.int IntKind.i64 1)), AV.one (A1.v (Value.int IntKind.i64 5))] []).bind fun val =>
  bif fitsCells [R1.bool] val.1 && true then some { cells := [TC.v (Value.bool (val.1.getD 0 TC.d).bool)], objs := [] } else none := by
  delta sl1NameOk.A2 sl1NameOk.x2 sl1In XX
  generalize lpL (Y.ctx (lim' Y)) 30 = lp
  generalize lim' Y = call
  kernel_rfl
theorem sl1NameOk.a2q2 (y0 : ByteArray) (y1 : Bool) :
    sl1NameOk.A2 (sl1NameOk.q2 y0 y1) =
    some { cells := [TC.v (Value.bool y1)], objs := [] } := by
  delta sl1NameOk.A2 sl1NameOk.q2 XX
  generalize lpL (Y.ctx (lim' Y)) 30 = lp
  generalize lim' Y = call
  kernel_rfl


theorem sl1Dec.e (a0 : Int) :
    sl1Dec [AV.one (A1.v (Value.int IntKind.i64 a0))] [] =
    bif decide (a0 < -9223372036854775807) then
  some
    {
      cells :=
        [TC.v
            (Value.string
              (ByteArray.mk #[45, 57, 50, 50, 51, 51, 55, 50, 48, 51, 54, 56, 53, 52, 55, 55, 53, 56, 48, 56]))],
      objs := [] }
else
  bif decide (a0 < 0) then
    (sl1Dec [AV.one (A1.v (Value.int IntKind.i64 (IntKind.i64.wrap (0 - a0))))] []).bind fun val =>
      bif fitsCells [R1.str] val.1 && true then
        bif decide (1 + (val.1.getD 0 TC.d).str.size ≤ 70368744177664) then some { cells := [TC.v (Value.string ((ByteArray.mk #[45]) ++ (val.1.getD 0 TC.d).str))], objs := [] } else none
      else none
  else
    bif decide (a0 < 10) then some { cells := [TC.v (Value.string (strOf [[D.v (Value.int IntKind.u8 (IntKind.u8.wrap (IntKind.i64.wrap (48 + a0))))]]))], objs := [] }
    else
      (sl1Dec [AV.one (A1.v (Value.int IntKind.i64 (IntKind.i64.wrap (a0.tdiv 10))))] []).bind fun val =>
        bif fitsCells [R1.str] val.1 && true then
          bif decide ((val.1.getD 0 TC.d).str.size + 1 ≤ 70368744177664) then
            some { cells := [TC.v (Value.string ((val.1.getD 0 TC.d).str ++ strOf [[D.v (Value.int IntKind.u8 (IntKind.u8.wrap (IntKind.i64.wrap (48 + a0.tmod 10))))]]))], objs := [] }
          else none
        else none := by
  refine (sl1Dec.run _ _ (by kernel_rfl)).trans ?_
  delta sl1Dec XX
  generalize lpL (Y.ctx (lim' Y)) 31 = lp
  generalize lim' Y = call
  kernel_rfl


noncomputable def sl1Hex.L3 (y0 : ByteArray) (y1 : ByteArray) (y2 : Int) : Option (Ex × St) := lpL XX 32 (bodyAt 3 sl1Hex.c) (mkG 0 37 [(0, AV.one (A1.v (Value.string y0))), (3, AV.one (A1.v (Value.string y1))), (4, AV.one (A1.v (Value.int IntKind.i64 y2)))] [] GL)
noncomputable def sl1Hex.A3 : Ex × St → Option Res := fun r => evA XX 32 (lpL XX 32) 3 sl1Hex.c r.fst r.snd (outE XX 32 Tryd.f32)
noncomputable def sl1Hex.x3 (y0 : ByteArray) : Ex × St := (Ex.exit 0, mkG 0 37 [(3, AV.one (A1.v (Value.string y0)))] [] GL)
theorem sl1Hex.e (a0 : ByteArray) :
    sl1Hex [AV.one (A1.v (Value.string a0))] [] =
    (sl1Hex.L3 a0 (ByteArray.mk #[]) 0).bind sl1Hex.A3 := by
  refine (sl1Hex.run _ _ (by kernel_rfl)).trans ?_
  delta sl1Hex sl1Hex.L3 sl1Hex.A3 XX
  generalize lpL (Y.ctx (lim' Y)) 32 = lp
  generalize lim' Y = call
  kernel_rfl
theorem sl1Hex.s3 (y0 : ByteArray) (y1 : ByteArray) (y2 : Int) :
    sl1Hex.L3 y0 y1 y2 =
    bif decide (y2 < (↑y0.size : Int)) then
  bif decide (0 ≤ y2) && decide (y2 < (↑y0.size : Int)) then
    bif decide (0 ≤ y2) && decide (y2 < (↑y0.size : Int)) then
      bif
          decide (IntKind.u8.wrap ((byteAt y0 y2.toNat).tdiv 16) ≤ IntKind.u8.wrap (IntKind.u8.wrap ((byteAt y0 y2.toNat).tdiv 16) + 1)) &&
            decide (IntKind.u8.wrap (IntKind.u8.wrap ((byteAt y0 y2.toNat).tdiv 16) + 1) ≤ (↑(ByteArray.mk #[48, 49, 50, 51, 52, 53, 54, 55, 56, 57, 97, 98, 99, 100, 101, 102]).size : Int)) then
        bif
            decide
              (y1.size +
                  ((ByteArray.mk #[48, 49, 50, 51, 52, 53, 54, 55, 56, 57, 97, 98, 99, 100, 101, 102]).extract
                      (IntKind.u8.wrap ((byteAt y0 y2.toNat).tdiv 16)).toNat (IntKind.u8.wrap (IntKind.u8.wrap ((byteAt y0 y2.toNat).tdiv 16) + 1)).toNat).size ≤
                70368744177664) then
          bif decide (0 ≤ y2) && decide (y2 < (↑y0.size : Int)) then
            bif decide (0 ≤ y2) && decide (y2 < (↑y0.size : Int)) then
              bif
                  decide ((byteAt y0 y2.toNat).tmod 16 ≤ IntKind.u8.wrap ((byteAt y0 y2.toNat).tmod 16 + 1)) &&
                    decide (IntKind.u8.wrap ((byteAt y0 y2.toNat).tmod 16 + 1) ≤ (↑(ByteArray.mk #[48, 49, 50, 51, 52, 53, 54, 55, 56, 57, 97, 98, 99, 100, 101, 102]).size : Int)) then
                bif
                    decide
                      ((y1 ++
                              (ByteArray.mk #[48, 49, 50, 51, 52, 53, 54, 55, 56, 57, 97, 98, 99, 100, 101, 102]).extract
                                (IntKind.u8.wrap ((byteAt y0 y2.toNat).tdiv 16)).toNat (IntKind.u8.wrap (IntKind.u8.wrap ((byteAt y0 y2.toNat).tdiv 16) + 1)).toNat).size +
                          ((ByteArray.mk #[48, 49, 50, 51, 52, 53, 54, 55, 56, 57, 97, 98, 99, 100, 101, 102]).extract
                              ((byteAt y0 y2.toNat).tmod 16).toNat (IntKind.u8.wrap ((byteAt y0 y2.toNat).tmod 16 + 1)).toNat).size ≤
                        70368744177664) then
                  sl1Hex.L3 y0
                    (y1 ++
                        (ByteArray.mk #[48, 49, 50, 51, 52, 53, 54, 55, 56, 57, 97, 98, 99, 100, 101, 102]).extract
                          (IntKind.u8.wrap ((byteAt y0 y2.toNat).tdiv 16)).toNat (IntKind.u8.wrap (IntKind.u8.wrap ((byteAt y0 y2.toNat).tdiv 16) + 1)).toNat ++
                      (ByteArray.mk #[48, 49, 50, 51, 52, 53, 54, 55, 56, 57, 97, 98, 99, 100, 101, 102]).extract
                        ((byteAt y0 y2.toNat).tmod 16).toNat (IntKind.u8.wrap ((byteAt y0 y2.toNat).tmod 16 + 1)).toNat)
                    (IntKind.i64.wrap (y2 + 1))
                else none
              else none
            else none
          else none
        else none
      else none
    else none
  else none
else some (sl1Hex.x3 y1) := by
  refine (lpL_eq (Y := Y) (c := lim' Y) (fn := 32) (rid := 3) (b := bodyAt 3 sl1Hex.c) (by kernel_rfl) _).trans ?_
  delta sl1Hex.L3 sl1Hex.x3 XX
  generalize lpL (Y.ctx (lim' Y)) 32 = lp
  generalize lim' Y = call
  kernel_rfl
theorem sl1Hex.a3x3 (y0 : ByteArray) :
    sl1Hex.A3 (sl1Hex.x3 y0) =
    bif y0.toList == [] then some { cells := [TC.v (Value.string (ByteArray.mk #[45]))], objs := [] } else some { cells := [TC.v (Value.string y0)], objs := [] } := by
  delta sl1Hex.A3 sl1Hex.x3 XX
  generalize lpL (Y.ctx (lim' Y)) 32 = lp
  generalize lim' Y = call
  kernel_rfl


noncomputable def wtoStringS.L3 (y0 : List (List D)) (y1 : Int) (y2 : List (List D)) : Option (Ex × St) := lpL XX 33 (bodyAt 3 wtoStringS.c)
  (mkG 0 22 [(0, AV.one (A1.s y0)), (3, AV.one (A1.r 3 [] 0)), (4, AV.one (A1.v (Value.int IntKind.i64 y1)))] [(3, some { kind := Kind.virt, row := [D.s y2], fl := [Own.deep] })] GL)
noncomputable def wtoStringS.A3 : Ex × St → Option Res := fun r => evA XX 33 (lpL XX 33) 3 wtoStringS.c r.fst r.snd (outE XX 33 Tryd.f33)
noncomputable def wtoStringS.x3 (y0 : List (List D)) : Ex × St := (Ex.exit 0, mkG 0 22 [(3, AV.one (A1.r 3 [] 0))] [(3, some { kind := Kind.virt, row := [D.s y0], fl := [Own.deep] })] GL)
theorem wtoStringS.e (a0 : List (List D)) :
    wtoStringS [AV.one (A1.s a0)] [] =
    bif decide ((↑a0.length : Int) * ((↑16 : Int) + 1) ≤ 2 ^ 46) && true && true then (wtoStringS.L3 a0 0 (List.replicate (↑a0.length : Int).toNat [D.v (Value.string (ByteArray.mk #[]))])).bind wtoStringS.A3
else none := by
  refine (wtoStringS.run _ _ (by kernel_rfl)).trans ?_
  delta wtoStringS wtoStringS.L3 wtoStringS.A3 XX
  generalize lpL (Y.ctx (lim' Y)) 33 = lp
  generalize lim' Y = call
  kernel_rfl
theorem wtoStringS.s3 (y0 : List (List D)) (y1 : Int) (y2 : List (List D)) :
    wtoStringS.L3 y0 y1 y2 =
    bif decide (y1 < (↑y0.length : Int)) then
  bif decide (0 ≤ y1) && decide (y1 < (↑y0.length : Int)) && decide ((y0.getD y1.toNat []).length = 1) then
    bif fitsRow [CK.str] (y0.getD y1.toNat []) 0 && decide (1 ≤ (y0.getD y1.toNat []).length) then
      bif decide (0 ≤ y1) && decide (y1 < (↑y2.length : Int)) && decide ((y2.getD y1.toNat []).length = 1) then
        bif decide (1 ≤ (y2.getD y1.toNat []).length) && true then
          wtoStringS.L3 y0 (IntKind.i64.wrap (y1 + 1)) (y2.set y1.toNat (D.v (Value.string ((y0.getD y1.toNat []).getD 0 D.h).str) :: List.drop 1 (y2.getD y1.toNat [])))
        else none
      else none
    else none
  else none
else some (wtoStringS.x3 y2) := by
  refine (lpL_eq (Y := Y) (c := lim' Y) (fn := 33) (rid := 3) (b := bodyAt 3 wtoStringS.c) (by kernel_rfl) _).trans ?_
  delta wtoStringS.L3 wtoStringS.x3 XX
  generalize lpL (Y.ctx (lim' Y)) 33 = lp
  generalize lim' Y = call
  kernel_rfl
theorem wtoStringS.a3x3 (y0 : List (List D)) :
    wtoStringS.A3 (wtoStringS.x3 y0) =
    some { cells := [TC.o Own.deep y0], objs := [] } := by
  delta wtoStringS.A3 wtoStringS.x3 XX
  generalize lpL (Y.ctx (lim' Y)) 33 = lp
  generalize lim' Y = call
  kernel_rfl


theorem wtoEntry.e (a0 : List (List D)) (a1 : Int) (a2 : Bool) (a3 : Int) (a4 : ByteArray) :
    wtoEntry [AV.g [A1.s a0, A1.v (Value.int IntKind.i64 a1), A1.v (Value.bool a2), A1.v (Value.int IntKind.i64 a3), A1.v (Value.string a4)]] [] =
    (wtoStringS [AV.one (A1.s a0)] []).bind fun val =>
  bif fitsCells [R1.own Own.deep] val.1 && true then
    some { cells := [TC.o Own.deep (val.1.getD 0 TC.d).es, TC.v (Value.int IntKind.i64 a1), TC.v (Value.bool a2), TC.v (Value.int IntKind.i64 a3), TC.v (Value.string a4)], objs := [] }
  else none := by
  refine (wtoEntry.run _ _ (by kernel_rfl)).trans ?_
  delta wtoEntry wtoStringS XX
  generalize lpL (Y.ctx (lim' Y)) 34 = lp
  generalize lim' Y = call
  kernel_rfl


noncomputable def inameOk.L2 (y0 : ByteArray) (y1 : Int) (y2 : Int) : Option (Ex × St) := lpL XX 35 (bodyAt 2 inameOk.c) (mkG 0 35 [(0, AV.one (A1.v (Value.string y0))), (5, AV.one (A1.v (Value.int IntKind.i64 y1))), (6, AV.one (A1.v (Value.int IntKind.i64 y2)))] [] GL)
noncomputable def inameOk.A2 : Ex × St → Option Res := fun r => evA XX 35 (lpL XX 35) 2 inameOk.c r.fst r.snd (outE XX 35 Tryd.f35)
noncomputable def inameOk.P5 (y0 : ByteArray) (y1 : Int) (y2 : Int) (y3 : Bool) : Option (Ex × St) := evB XX 35 (lpL XX 35) 5 (bodyAt 2 inameOk.c)
  (mkG 0 35 [(0, AV.one (A1.v (Value.string y0))), (5, AV.one (A1.v (Value.int IntKind.i64 y1))), (6, AV.one (A1.v (Value.int IntKind.i64 y2))), (30, AV.one (A1.v (Value.bool y3)))] [] GL)
  (backL (lpL XX 35) (bodyAt 2 inameOk.c) (XX.live 35 2))
noncomputable def inameOk.x2 (y0 : ByteArray) : Ex × St := (Ex.exit 0, mkG 0 35 [(0, AV.one (A1.v (Value.string y0)))] [] GL)
noncomputable def inameOk.q2 (y0 : ByteArray) (y1 : Bool) : Ex × St := (Ex.ret, mkG 0 35 [(0, AV.one (A1.v (Value.string y0))), (2, AV.one (A1.v (Value.bool y1)))] [] GL)
theorem inameOk.e (a0 : ByteArray) :
    inameOk [AV.one (A1.v (Value.string a0))] [] =
    (inameOk.L2 a0 (↑a0.size : Int) 0).bind inameOk.A2 := by
  refine (inameOk.run _ _ (by kernel_rfl)).trans ?_
  delta inameOk inameOk.L2 inameOk.A2 XX
  generalize lpL (Y.ctx (lim' Y)) 35 = lp
  generalize lim' Y = call
  kernel_rfl
theorem inameOk.s2 (y0 : ByteArray) (y1 : Int) (y2 : Int) :
    inameOk.L2 y0 y1 y2 =
    bif decide (y2 < y1) then
  bif decide (0 ≤ y2) && decide (y2 < (↑y0.size : Int)) then
    bif decide (byteAt y0 y2.toNat < 97) then
      bif decide (0 ≤ y2) && decide (y2 < (↑y0.size : Int)) then
        bif decide (byteAt y0 y2.toNat < 48) then inameOk.P5 y0 y1 y2 true
        else bif decide (0 ≤ y2) && decide (y2 < (↑y0.size : Int)) then inameOk.P5 y0 y1 y2 (decide (byteAt y0 y2.toNat > 57)) else none
      else none
    else
      bif decide (0 ≤ y2) && decide (y2 < (↑y0.size : Int)) then
        bif decide (byteAt y0 y2.toNat > 122) then
          bif decide (0 ≤ y2) && decide (y2 < (↑y0.size : Int)) then
            bif decide (byteAt y0 y2.toNat < 48) then inameOk.P5 y0 y1 y2 true
            else bif decide (0 ≤ y2) && decide (y2 < (↑y0.size : Int)) then inameOk.P5 y0 y1 y2 (decide (byteAt y0 y2.toNat > 57)) else none
          else none
        else inameOk.P5 y0 y1 y2 false
      else none
  else none
else some (inameOk.x2 y0) := by
  refine (lpL_eq (Y := Y) (c := lim' Y) (fn := 35) (rid := 2) (b := bodyAt 2 inameOk.c) (by kernel_rfl) _).trans ?_
  delta inameOk.L2 inameOk.P5 inameOk.x2 XX
  refine join_use [5] (by kernel_rfl) fun J e1 => ?_
  try simp only [← e1]
  clear e1
  generalize lpL (Y.ctx (lim' Y)) 35 = lp
  generalize lim' Y = call
  kernel_rfl
theorem inameOk.p5 (y0 : ByteArray) (y1 : Int) (y2 : Int) (y3 : Bool) :
    inameOk.P5 y0 y1 y2 y3 =
    bif y3 then some (inameOk.q2 y0 false) else inameOk.L2 y0 y1 (IntKind.i64.wrap (y2 + 1)) := by
  delta inameOk.P5 inameOk.q2 inameOk.L2 XX
  refine join_at [5] 5 (by kernel_rfl) fun J e1 => ?_
  try simp only [← e1]
  clear e1
  generalize lpL (Y.ctx (lim' Y)) 35 = lp
  generalize lim' Y = call
  kernel_rfl
theorem inameOk.a2x2 (y0 : ByteArray) :
    inameOk.A2 (inameOk.x2 y0) =
    (iwithin [AV.one (A1.v (Value.int IntKind.i64 (↑y0.size : Int))), AV.one (A1.v (Value.int IntKind.i64 1)), AV.one (A1.v (Value.int IntKind.i64 5))] []).bind fun val =>
  bif fitsCells [R1.bool] val.1 && true then some { cells := [TC.v (Value.bool (val.1.getD 0 TC.d).bool)], objs := [] } else none := by
  delta inameOk.A2 inameOk.x2 iwithin XX
  generalize lpL (Y.ctx (lim' Y)) 35 = lp
  generalize lim' Y = call
  kernel_rfl
theorem inameOk.a2q2 (y0 : ByteArray) (y1 : Bool) :
    inameOk.A2 (inameOk.q2 y0 y1) =
    some { cells := [TC.v (Value.bool y1)], objs := [] } := by
  delta inameOk.A2 inameOk.q2 XX
  generalize lpL (Y.ctx (lim' Y)) 35 = lp
  generalize lim' Y = call
  kernel_rfl


theorem iwithin.e (a0 : Int) (a1 : Int) (a2 : Int) :
    iwithin [AV.one (A1.v (Value.int IntKind.i64 a0)), AV.one (A1.v (Value.int IntKind.i64 a1)), AV.one (A1.v (Value.int IntKind.i64 a2))] [] =
    bif decide (a0 ≥ a1) then some { cells := [TC.v (Value.bool (decide (a0 ≤ a2)))], objs := [] } else some { cells := [TC.v (Value.bool false)], objs := [] } := by
  refine (iwithin.run _ _ (by kernel_rfl)).trans ?_
  delta iwithin XX
  generalize lpL (Y.ctx (lim' Y)) 36 = lp
  generalize lim' Y = call
  kernel_rfl


theorem idataText.e (a0 : ByteArray) :
    idataText [AV.one (A1.v (Value.string a0))] [] =
    bif a0.toList == [] then some { cells := [TC.v (Value.string (ByteArray.mk #[45]))], objs := [] }
else (ihexOf [AV.one (A1.v (Value.string a0))] []).bind fun val => bif fitsCells [R1.str] val.1 && true then some { cells := [TC.v (Value.string (val.1.getD 0 TC.d).str)], objs := [] } else none := by
  refine (idataText.run _ _ (by kernel_rfl)).trans ?_
  delta idataText ihexOf XX
  generalize lpL (Y.ctx (lim' Y)) 40 = lp
  generalize lim' Y = call
  kernel_rfl


noncomputable def weqStringS.L4 (y0 : List (List D)) (y1 : List (List D)) (y2 : Int) : Option (Ex × St) := lpL XX 41 (bodyAt 4 weqStringS.c) (mkG 0 26 [(0, AV.one (A1.s y0)), (1, AV.one (A1.s y1)), (5, AV.one (A1.v (Value.int IntKind.i64 y2)))] [] GL)
noncomputable def weqStringS.A4 : Ex × St → Option Res := fun r => evA XX 41 (lpL XX 41) 4 weqStringS.c r.fst r.snd (outE XX 41 Tryd.f41)
noncomputable def weqStringS.q4 (y0 : Bool) : Ex × St := (Ex.ret, mkG 0 26 [(4, AV.one (A1.v (Value.bool y0)))] [] GL)
noncomputable def weqStringS.x4 : Ex × St := (Ex.exit 0, mkG 0 26 [] [] GL)
theorem weqStringS.e (a0 : List (List D)) (a1 : List (List D)) :
    weqStringS [AV.one (A1.s a0), AV.one (A1.s a1)] [] =
    bif (↑a0.length : Int) != (↑a1.length : Int) then some { cells := [TC.v (Value.bool false)], objs := [] } else (weqStringS.L4 a0 a1 0).bind weqStringS.A4 := by
  refine (weqStringS.run _ _ (by kernel_rfl)).trans ?_
  delta weqStringS weqStringS.L4 weqStringS.A4 XX
  generalize lpL (Y.ctx (lim' Y)) 41 = lp
  generalize lim' Y = call
  kernel_rfl
theorem weqStringS.s4 (y0 : List (List D)) (y1 : List (List D)) (y2 : Int) :
    weqStringS.L4 y0 y1 y2 =
    bif decide (y2 < (↑y0.length : Int)) then
  bif decide (0 ≤ y2) && decide (y2 < (↑y0.length : Int)) && decide ((y0.getD y2.toNat []).length = 1) then
    bif fitsRow [CK.str] (y0.getD y2.toNat []) 0 && decide (1 ≤ (y0.getD y2.toNat []).length) then
      bif decide (0 ≤ y2) && decide (y2 < (↑y1.length : Int)) && decide ((y1.getD y2.toNat []).length = 1) then
        bif fitsRow [CK.str] (y1.getD y2.toNat []) 0 && decide (1 ≤ (y1.getD y2.toNat []).length) then
          bif !((y0.getD y2.toNat []).getD 0 D.h).str.toList == ((y1.getD y2.toNat []).getD 0 D.h).str.toList then some (weqStringS.q4 false) else weqStringS.L4 y0 y1 (IntKind.i64.wrap (y2 + 1))
        else none
      else none
    else none
  else none
else some weqStringS.x4 := by
  refine (lpL_eq (Y := Y) (c := lim' Y) (fn := 41) (rid := 4) (b := bodyAt 4 weqStringS.c) (by kernel_rfl) _).trans ?_
  delta weqStringS.L4 weqStringS.q4 weqStringS.x4 XX
  generalize lpL (Y.ctx (lim' Y)) 41 = lp
  generalize lim' Y = call
  kernel_rfl
theorem weqStringS.a4q4 (y0 : Bool) :
    weqStringS.A4 (weqStringS.q4 y0) =
    some { cells := [TC.v (Value.bool y0)], objs := [] } := by
  delta weqStringS.A4 weqStringS.q4 XX
  generalize lpL (Y.ctx (lim' Y)) 41 = lp
  generalize lim' Y = call
  kernel_rfl
theorem weqStringS.a4x4 :
    weqStringS.A4 weqStringS.x4 =
    some { cells := [TC.v (Value.bool true)], objs := [] } := by
  delta weqStringS.A4 weqStringS.x4 XX
  generalize lpL (Y.ctx (lim' Y)) 41 = lp
  generalize lim' Y = call
  kernel_rfl


noncomputable def weqEntry.P9 (y0 : List (List D)) (y1 : Int) (y2 : Bool) (y3 : Int) (y4 : ByteArray) (y5 : List (List D)) (y6 : Int) (y7 : Bool) (y8 : Int) (y9 : ByteArray) : Option Res := evB XX 42 (lpL XX 42) 9 weqEntry.c
  (mkG 0 31 [(2, AV.one (A1.p true 2 [] 0)), (3, AV.one (A1.p true 3 [] 0))]
    [(2,
        some
          { kind := Kind.box, row := [D.s y0, D.v (Value.int IntKind.i64 y1), D.v (Value.bool y2), D.v (Value.int IntKind.i64 y3), D.v (Value.string y4)],
            fl := [Own.sh, Own.deep, Own.deep, Own.deep, Own.deep] }),
      (3,
        some
          { kind := Kind.box, row := [D.s y5, D.v (Value.int IntKind.i64 y6), D.v (Value.bool y7), D.v (Value.int IntKind.i64 y8), D.v (Value.string y9)],
            fl := [Own.sh, Own.deep, Own.deep, Own.deep, Own.deep] })]
    GL)
  (outE XX 42 Tryd.f42)
theorem weqEntry.e (a0 : List (List D)) (a1 : Int) (a2 : Bool) (a3 : Int) (a4 : ByteArray) (a5 : List (List D)) (a6 : Int) (a7 : Bool) (a8 : Int) (a9 : ByteArray) :
    weqEntry
  [AV.g [A1.s a0, A1.v (Value.int IntKind.i64 a1), A1.v (Value.bool a2), A1.v (Value.int IntKind.i64 a3), A1.v (Value.string a4)],
    AV.g [A1.s a5, A1.v (Value.int IntKind.i64 a6), A1.v (Value.bool a7), A1.v (Value.int IntKind.i64 a8), A1.v (Value.string a9)]]
  [] =
    (weqStringS [AV.one (A1.s a0), AV.one (A1.s a5)] []).bind fun val =>
  bif fitsCells [R1.bool] val.1 && true then
    bif !(val.1.getD 0 TC.d).bool then some { cells := [TC.v (Value.bool false)], objs := [] }
    else
      bif a1 != a6 then some { cells := [TC.v (Value.bool false)], objs := [] }
      else
        bif !a2 == a7 then some { cells := [TC.v (Value.bool false)], objs := [] }
        else bif a3 != a8 then some { cells := [TC.v (Value.bool false)], objs := [] } else weqEntry.P9 a0 a1 a2 a3 a4 a5 a6 a7 a8 a9
  else none := by
  refine (weqEntry.run _ _ (by kernel_rfl)).trans ?_
  delta weqEntry weqStringS weqEntry.P9 XX
  refine join_use [9] (by kernel_rfl) fun J e1 => ?_
  try simp only [← e1]
  clear e1
  generalize lpL (Y.ctx (lim' Y)) 42 = lp
  generalize lim' Y = call
  kernel_rfl
theorem weqEntry.p9 (y0 : List (List D)) (y1 : Int) (y2 : Bool) (y3 : Int) (y4 : ByteArray) (y5 : List (List D)) (y6 : Int) (y7 : Bool) (y8 : Int) (y9 : ByteArray) :
    weqEntry.P9 y0 y1 y2 y3 y4 y5 y6 y7 y8 y9 =
    bif !y4.toList == y9.toList then some { cells := [TC.v (Value.bool false)], objs := [] } else some { cells := [TC.v (Value.bool true)], objs := [] } := by
  delta weqEntry.P9 XX
  refine join_at [9] 9 (by kernel_rfl) fun J e1 => ?_
  try simp only [← e1]
  clear e1
  generalize lpL (Y.ctx (lim' Y)) 42 = lp
  generalize lim' Y = call
  kernel_rfl


noncomputable def ihexOf.L3 (y0 : ByteArray) (y1 : Int) (y2 : List (List D)) : Option (Ex × St) := lpL XX 46 (bodyAt 3 ihexOf.c)
  (mkG 0 27 [(0, AV.one (A1.v (Value.string y0))), (3, AV.one (A1.r 3 [] 0)), (4, AV.one (A1.v (Value.int IntKind.i64 y1)))] [(3, some { kind := Kind.virt, row := [D.s y2], fl := [Own.deep] })] GL)
noncomputable def ihexOf.A3 : Ex × St → Option Res := fun r => evA XX 46 (lpL XX 46) 3 ihexOf.c r.fst r.snd (outE XX 46 Tryd.f46)
noncomputable def ihexOf.x3 (y0 : List (List D)) : Ex × St := (Ex.exit 0, mkG 0 27 [(3, AV.one (A1.r 3 [] 0))] [(3, some { kind := Kind.virt, row := [D.s y0], fl := [Own.deep] })] GL)
theorem ihexOf.e (a0 : ByteArray) :
    ihexOf [AV.one (A1.v (Value.string a0))] [] =
    (ihexOf.L3 a0 0 []).bind ihexOf.A3 := by
  refine (ihexOf.run _ _ (by kernel_rfl)).trans ?_
  delta ihexOf ihexOf.L3 ihexOf.A3 XX
  generalize lpL (Y.ctx (lim' Y)) 46 = lp
  generalize lim' Y = call
  kernel_rfl
theorem ihexOf.s3 (y0 : ByteArray) (y1 : Int) (y2 : List (List D)) :
    ihexOf.L3 y0 y1 y2 =
    bif decide (y1 < (↑y0.size : Int)) then
  bif decide (0 ≤ y1) && decide (y1 < (↑y0.size : Int)) then
    bif decide (IntKind.u8.wrap ((byteAt y0 y1.toNat).tdiv 16) < (↑(ByteArray.mk #[48, 49, 50, 51, 52, 53, 54, 55, 56, 57, 97, 98, 99, 100, 101, 102]).size : Int)) then
      bif decide (0 ≤ y1) && decide (y1 < (↑y0.size : Int)) then
        bif decide ((byteAt y0 y1.toNat).tmod 16 < (↑(ByteArray.mk #[48, 49, 50, 51, 52, 53, 54, 55, 56, 57, 97, 98, 99, 100, 101, 102]).size : Int)) then
          bif rowsLen 1 y2 && true && true && true && decide ((y2.length + 2) * 2 ≤ 70368744177664) then
            ihexOf.L3 y0 (IntKind.i64.wrap (y1 + 1))
              (y2 ++
                [[D.v
                      (Value.int IntKind.u8
                        (byteAt
                          (ByteArray.mk #[48, 49, 50, 51, 52, 53, 54, 55, 56, 57, 97, 98, 99, 100, 101, 102])
                          (IntKind.u8.wrap ((byteAt y0 y1.toNat).tdiv 16)).toNat))],
                  [D.v
                      (Value.int IntKind.u8
                        (byteAt
                          (ByteArray.mk #[48, 49, 50, 51, 52, 53, 54, 55, 56, 57, 97, 98, 99, 100, 101, 102])
                          ((byteAt y0 y1.toNat).tmod 16).toNat))]])
          else none
        else none
      else none
    else none
  else none
else some (ihexOf.x3 y2) := by
  refine (lpL_eq (Y := Y) (c := lim' Y) (fn := 46) (rid := 3) (b := bodyAt 3 ihexOf.c) (by kernel_rfl) _).trans ?_
  delta ihexOf.L3 ihexOf.x3 XX
  generalize lpL (Y.ctx (lim' Y)) 46 = lp
  generalize lim' Y = call
  kernel_rfl
theorem ihexOf.a3x3 (y0 : List (List D)) :
    ihexOf.A3 (ihexOf.x3 y0) =
    bif bytesB y0 then some { cells := [TC.v (Value.string (strOf y0))], objs := [] } else none := by
  delta ihexOf.A3 ihexOf.x3 XX
  generalize lpL (Y.ctx (lim' Y)) 46 = lp
  generalize lim' Y = call
  kernel_rfl


end Go.PVx
