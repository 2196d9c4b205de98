/- A part of the proof: PvJRes. -/
import Derived.Test.YtkaclcgkndbppaaGreatDoorTab
import Derived.KernelRfl
set_option linter.unusedSimpArgs false
set_option linter.unusedVariables false
namespace Go.PVx
open Go.PV Go.Proofs
set_option maxRecDepth 100000
set_option linter.unusedVariables false
noncomputable def wFnExactUpperRead.P6 (y0 : ByteArray) (y1 : Bool) (y2 : Bool) (y3 : List (List D)) (y4 : List (List D)) (y5 : List (List D)) (y6 : List (List D)) : Option Res := evB XX 8 (lpL XX 8) 6 wFnExactUpperRead.c
  (mkG 0 66 [(0, AV.one (A1.v (Value.string y0))), (3, AV.one (A1.p true 3 [] 0)), (4, AV.one (A1.v (Value.bool y1))), (5, AV.one (A1.p true 5 [] 0)), (32, AV.one (A1.v (Value.bool y2)))]
    [(3, some { kind := Kind.box, row := [D.s y3, D.s y4], fl := [Own.deep, Own.deep] }), (5, some { kind := Kind.box, row := [D.s y5, D.s y6], fl := [Own.deep, Own.deep] })] GL)
  (outE XX 8 Tryz.f8)
noncomputable def wFnExactUpperRead.P7 (y0 : ByteArray) (y1 : Bool) (y2 : List (List D)) (y3 : List (List D)) (y4 : List (List D)) (y5 : List (List D)) : Option Res := evB XX 8 (lpL XX 8) 7 wFnExactUpperRead.c
  (mkG 0 66 [(0, AV.one (A1.v (Value.string y0))), (3, AV.one (A1.p true 3 [] 0)), (4, AV.one (A1.v (Value.bool y1))), (5, AV.one (A1.p true 5 [] 0))]
    [(3, some { kind := Kind.box, row := [D.s y2, D.s y3], fl := [Own.deep, Own.deep] }), (5, some { kind := Kind.box, row := [D.s y4, D.s y5], fl := [Own.deep, Own.deep] })] GL)
  (outE XX 8 Tryz.f8)
noncomputable def wFnExactUpperRead.P16 (y0 : Bool) (y1 : Int) (y2 : Bool) (y3 : List (List D)) (y4 : List (List D)) (y5 : List (List D)) (y6 : List (List D)) (y7 : List (List D)) (y8 : List (List D)) : Option Res := evB XX 8 (lpL XX 8) 16 wFnExactUpperRead.c
  (mkG 0 66
    [(3, AV.one (A1.p true 3 [] 0)), (4, AV.one (A1.v (Value.bool y0))), (5, AV.one (A1.p true 5 [] 0)), (7, AV.one (A1.v (Value.int IntKind.i64 y1))), (9, AV.one (A1.p true 9 [] 0)),
      (10, AV.one (A1.v (Value.bool y2)))]
    [(3, some { kind := Kind.box, row := [D.s y3, D.s y4], fl := [Own.deep, Own.deep] }), (5, some { kind := Kind.box, row := [D.s y5, D.s y6], fl := [Own.deep, Own.deep] }),
      (9, some { kind := Kind.box, row := [D.s y7, D.s y8], fl := [Own.deep, Own.deep] })]
    GL)
  (outE XX 8 Tryz.f8)
noncomputable def wFnExactUpperRead.P17 (y0 : Int) (y1 : Bool) (y2 : List (List D)) (y3 : List (List D)) : Option Res := evB XX 8 (lpL XX 8) 17 wFnExactUpperRead.c
  (mkG 0 66 [(5, AV.one (A1.p true 5 [] 0)), (7, AV.one (A1.v (Value.int IntKind.i64 y0))), (57, AV.one (A1.v (Value.bool y1)))]
    [(5, some { kind := Kind.box, row := [D.s y2, D.s y3], fl := [Own.deep, Own.deep] })] GL)
  (outE XX 8 Tryz.f8)
noncomputable def wFnExactUpperRead.P18 (y0 : Int) (y1 : List (List D)) (y2 : List (List D)) : Option Res := evB XX 8 (lpL XX 8) 18 wFnExactUpperRead.c
  (mkG 0 66 [(5, AV.one (A1.p true 5 [] 0)), (7, AV.one (A1.v (Value.int IntKind.i64 y0)))] [(5, some { kind := Kind.box, row := [D.s y1, D.s y2], fl := [Own.deep, Own.deep] })] GL)
  (outE XX 8 Tryz.f8)
theorem wFnExactUpperRead.e (a0 : ByteArray) :
    wFnExactUpperRead [AV.one (A1.v (Value.string a0))] [] =
    bif decide ((↑a0.size : Int) > 1048576) then some { cells := [TC.v (Value.bool true)], objs := [] }
else
  (sUpperRead [AV.one (A1.v (Value.string a0))] []).bind fun val =>
    bif fitsCells [R1.own Own.deep, R1.own Own.deep, R1.bool] val.1 && true then
      (iUpperRead [AV.one (A1.v (Value.string a0))] []).bind fun val_1 =>
        bif fitsCells [R1.own Own.deep, R1.own Own.deep, R1.bool] val_1.1 && true then
          (weqUpper [AV.g [A1.s (val_1.1.getD 0 TC.d).es, A1.s (val_1.1.getD 1 TC.d).es], AV.g [A1.s (val.1.getD 0 TC.d).es, A1.s (val.1.getD 1 TC.d).es]] []).bind fun val_2 =>
            bif fitsCells [R1.bool] val_2.1 && true then
              bif !(val_2.1.getD 0 TC.d).bool then wFnExactUpperRead.P6 a0 (val.1.getD 2 TC.d).bool true (val.1.getD 0 TC.d).es (val.1.getD 1 TC.d).es (val_1.1.getD 0 TC.d).es (val_1.1.getD 1 TC.d).es
              else
                wFnExactUpperRead.P6 a0 (val.1.getD 2 TC.d).bool (!(val_1.1.getD 2 TC.d).bool == (val.1.getD 2 TC.d).bool) (val.1.getD 0 TC.d).es (val.1.getD 1 TC.d).es (val_1.1.getD 0 TC.d).es
                  (val_1.1.getD 1 TC.d).es
            else none
        else none
    else none := by
  refine (wFnExactUpperRead.run _ _ (by kernel_rfl)).trans ?_
  delta wFnExactUpperRead sUpperRead iUpperRead weqUpper wFnExactUpperRead.P6 XX
  refine join_use [6, 7, 16, 17, 18] (by kernel_rfl) fun J e1 => ?_
  try simp only [← e1]
  clear e1
  generalize lpL (Y.ctx (lim' Y)) 8 = lp
  generalize lim' Y = call
  kernel_rfl
theorem wFnExactUpperRead.p6 (y0 : ByteArray) (y1 : Bool) (y2 : Bool) (y3 : List (List D)) (y4 : List (List D)) (y5 : List (List D)) (y6 : List (List D)) :
    wFnExactUpperRead.P6 y0 y1 y2 y3 y4 y5 y6 =
    bif y2 then some { cells := [TC.v (Value.bool false)], objs := [] } else wFnExactUpperRead.P7 y0 y1 y3 y4 y5 y6 := by
  delta wFnExactUpperRead.P6 wFnExactUpperRead.P7 XX
  refine join_at [6, 7, 16, 17, 18] 6 (by kernel_rfl) fun J e1 => ?_
  try simp only [← e1]
  clear e1
  generalize lpL (Y.ctx (lim' Y)) 8 = lp
  generalize lim' Y = call
  kernel_rfl
theorem wFnExactUpperRead.p7 (y0 : ByteArray) (y1 : Bool) (y2 : List (List D)) (y3 : List (List D)) (y4 : List (List D)) (y5 : List (List D)) :
    wFnExactUpperRead.P7 y0 y1 y2 y3 y4 y5 =
    (wmarkUpper [AV.g [A1.r 0 [] 0, A1.r 0 [] 1], AV.one (A1.v (Value.int IntKind.i64 1))] [{ kind := Kind.virt, row := [D.s y4, D.s y5], fl := [Own.deep, Own.deep] }]).bind fun val =>
  bif fitsCells [R1.int IntKind.i64] val.1 && fitsCos [{ ob := { kind := Kind.virt, row := [D.s y4, D.s y5], fl := [Own.deep, Own.deep] }, src := Src.grp 5 [0, 1] false }] val.2 then
    (wheldUpper
          [AV.g [A1.s ((val.2.getD 0 { kind := Kind.ro, row := [], fl := [] }).2.getD 0 D.h).es, A1.s ((val.2.getD 0 { kind := Kind.ro, row := [], fl := [] }).2.getD 1 D.h).es],
            AV.one (A1.v (Value.int IntKind.i64 1))]
          []).bind
      fun val_1 =>
      bif fitsCells [R1.int IntKind.i64] val_1.1 && true then
        bif decide ((val_1.1.getD 0 TC.d).int < 0) then some { cells := [TC.v (Value.bool false)], objs := [] }
        else
          bif (val_1.1.getD 0 TC.d).int != (val.1.getD 0 TC.d).int then some { cells := [TC.v (Value.bool false)], objs := [] }
          else
            (iUpperRead [AV.one (A1.v (Value.string y0))] []).bind fun val_2 =>
              bif fitsCells [R1.own Own.deep, R1.own Own.deep, R1.bool] val_2.1 && true then
                wFnExactUpperRead.P16 y1 (val.1.getD 0 TC.d).int (val_2.1.getD 2 TC.d).bool y2 y3 ((val.2.getD 0 { kind := Kind.ro, row := [], fl := [] }).2.getD 0 D.h).es
                  ((val.2.getD 0 { kind := Kind.ro, row := [], fl := [] }).2.getD 1 D.h).es (val_2.1.getD 0 TC.d).es (val_2.1.getD 1 TC.d).es
              else none
      else none
  else none := by
  delta wFnExactUpperRead.P7 wmarkUpper wheldUpper iUpperRead wFnExactUpperRead.P16 XX
  refine join_at [6, 7, 16, 17, 18] 7 (by kernel_rfl) fun J e1 => ?_
  try simp only [← e1]
  clear e1
  generalize lpL (Y.ctx (lim' Y)) 8 = lp
  generalize lim' Y = call
  kernel_rfl
theorem wFnExactUpperRead.p16 (y0 : Bool) (y1 : Int) (y2 : Bool) (y3 : List (List D)) (y4 : List (List D)) (y5 : List (List D)) (y6 : List (List D)) (y7 : List (List D)) (y8 : List (List D)) :
    wFnExactUpperRead.P16 y0 y1 y2 y3 y4 y5 y6 y7 y8 =
    (weqUpper [AV.g [A1.s y7, A1.s y8], AV.g [A1.s y3, A1.s y4]] []).bind fun val =>
  bif fitsCells [R1.bool] val.1 && true then bif !(val.1.getD 0 TC.d).bool then wFnExactUpperRead.P17 y1 true y5 y6 else wFnExactUpperRead.P17 y1 (!y2 == y0) y5 y6 else none := by
  delta wFnExactUpperRead.P16 weqUpper wFnExactUpperRead.P17 XX
  refine join_at [6, 7, 16, 17, 18] 16 (by kernel_rfl) fun J e1 => ?_
  try simp only [← e1]
  clear e1
  generalize lpL (Y.ctx (lim' Y)) 8 = lp
  generalize lim' Y = call
  kernel_rfl
theorem wFnExactUpperRead.p17 (y0 : Int) (y1 : Bool) (y2 : List (List D)) (y3 : List (List D)) :
    wFnExactUpperRead.P17 y0 y1 y2 y3 =
    bif y1 then some { cells := [TC.v (Value.bool false)], objs := [] } else wFnExactUpperRead.P18 y0 y2 y3 := by
  delta wFnExactUpperRead.P17 wFnExactUpperRead.P18 XX
  refine join_at [6, 7, 16, 17, 18] 17 (by kernel_rfl) fun J e1 => ?_
  try simp only [← e1]
  clear e1
  generalize lpL (Y.ctx (lim' Y)) 8 = lp
  generalize lim' Y = call
  kernel_rfl
theorem wFnExactUpperRead.p18 (y0 : Int) (y1 : List (List D)) (y2 : List (List D)) :
    wFnExactUpperRead.P18 y0 y1 y2 =
    (wheldUpper [AV.g [A1.s y1, A1.s y2], AV.one (A1.v (Value.int IntKind.i64 1))] []).bind fun val =>
  bif fitsCells [R1.int IntKind.i64] val.1 && true then
    bif decide ((val.1.getD 0 TC.d).int < 0) then some { cells := [TC.v (Value.bool false)], objs := [] }
    else bif (val.1.getD 0 TC.d).int != y0 then some { cells := [TC.v (Value.bool false)], objs := [] } else some { cells := [TC.v (Value.bool true)], objs := [] }
  else none := by
  delta wFnExactUpperRead.P18 wheldUpper XX
  refine join_at [6, 7, 16, 17, 18] 18 (by kernel_rfl) fun J e1 => ?_
  try simp only [← e1]
  clear e1
  generalize lpL (Y.ctx (lim' Y)) 8 = lp
  generalize lim' Y = call
  kernel_rfl
noncomputable def weqStringS.L4 (y0 : List (List D)) (y1 : List (List D)) (y2 : Int) : Option (Ex × St) := lpL XX 21 (bodyAt 4 weqStringS.c) (mkG 0 26 [(0, AV.one (A1.s y0)), (1, AV.one (A1.s y1)), (5, AV.one (A1.v (Value.int IntKind.i64 y2)))] [] GL)
noncomputable def weqStringS.A4 : Ex × St → Option Res := fun r => evA XX 21 (lpL XX 21) 4 weqStringS.c r.fst r.snd (outE XX 21 Tryz.f21)
noncomputable def weqStringS.q4 (y0 : Bool) : Ex × St := (Ex.ret, mkG 0 26 [(4, AV.one (A1.v (Value.bool y0)))] [] GL)
noncomputable def weqStringS.x4 : Ex × St := (Ex.exit 0, mkG 0 26 [] [] GL)
theorem weqStringS.e (a0 : List (List D)) (a1 : List (List D)) :
    weqStringS [AV.one (A1.s a0), AV.one (A1.s a1)] [] =
    bif (↑a0.length : Int) != (↑a1.length : Int) then some { cells := [TC.v (Value.bool false)], objs := [] } else (weqStringS.L4 a0 a1 0).bind weqStringS.A4 := by
  refine (weqStringS.run _ _ (by kernel_rfl)).trans ?_
  delta weqStringS weqStringS.L4 weqStringS.A4 XX
  generalize lpL (Y.ctx (lim' Y)) 21 = lp
  generalize lim' Y = call
  kernel_rfl
theorem weqStringS.s4 (y0 : List (List D)) (y1 : List (List D)) (y2 : Int) :
    weqStringS.L4 y0 y1 y2 =
    bif decide (y2 < (↑y0.length : Int)) then
  bif decide (0 ≤ y2) && decide (y2 < (↑y0.length : Int)) && decide ((y0.getD y2.toNat []).length = 1) then
    bif fitsRow [CK.str] (y0.getD y2.toNat []) 0 && decide (1 ≤ (y0.getD y2.toNat []).length) then
      bif decide (0 ≤ y2) && decide (y2 < (↑y1.length : Int)) && decide ((y1.getD y2.toNat []).length = 1) then
        bif fitsRow [CK.str] (y1.getD y2.toNat []) 0 && decide (1 ≤ (y1.getD y2.toNat []).length) then
          bif !((y0.getD y2.toNat []).getD 0 D.h).str.toList == ((y1.getD y2.toNat []).getD 0 D.h).str.toList then some (weqStringS.q4 false) else weqStringS.L4 y0 y1 (IntKind.i64.wrap (y2 + 1))
        else none
      else none
    else none
  else none
else some weqStringS.x4 := by
  refine (lpL_eq (Y := Y) (c := lim' Y) (fn := 21) (rid := 4) (b := bodyAt 4 weqStringS.c) (by kernel_rfl) _).trans ?_
  delta weqStringS.L4 weqStringS.q4 weqStringS.x4 XX
  generalize lpL (Y.ctx (lim' Y)) 21 = lp
  generalize lim' Y = call
  kernel_rfl
theorem weqStringS.a4q4 (y0 : Bool) :
    weqStringS.A4 (weqStringS.q4 y0) =
    some { cells := [TC.v (Value.bool y0)], objs := [] } := by
  delta weqStringS.A4 weqStringS.q4 XX
  generalize lpL (Y.ctx (lim' Y)) 21 = lp
  generalize lim' Y = call
  kernel_rfl
theorem weqStringS.a4x4 :
    weqStringS.A4 weqStringS.x4 =
    some { cells := [TC.v (Value.bool true)], objs := [] } := by
  delta weqStringS.A4 weqStringS.x4 XX
  generalize lpL (Y.ctx (lim' Y)) 21 = lp
  generalize lim' Y = call
  kernel_rfl
noncomputable def wmarkStringS.L2 (y0 : Int) (y1 : Int) (y2 : List (List D)) : Option (Ex × St) := lpL XX 32 (bodyAt 2 wmarkStringS.c)
  (mkG 1 20 [(0, AV.one (A1.r 0 [] 0)), (1, AV.one (A1.v (Value.int IntKind.i64 y0))), (5, AV.one (A1.v (Value.int IntKind.i64 y1)))]
    [(0, some { kind := Kind.virt, row := [D.s y2], fl := [Own.deep] })] GL)
noncomputable def wmarkStringS.A2 : Ex × St → Option Res := fun r => evA XX 32 (lpL XX 32) 2 wmarkStringS.c r.fst r.snd (outE XX 32 Tryz.f32)
noncomputable def wmarkStringS.x2 (y0 : Int) (y1 : List (List D)) : Ex × St := (Ex.exit 0, mkG 1 20 [(1, AV.one (A1.v (Value.int IntKind.i64 y0)))] [(0, some { kind := Kind.virt, row := [D.s y1], fl := [Own.deep] })] GL)
theorem wmarkStringS.e (a0 : List (List D)) (a1 : Int) :
    wmarkStringS [AV.one (A1.r 0 [] 0), AV.one (A1.v (Value.int IntKind.i64 a1))] [{ kind := Kind.virt, row := [D.s a0], fl := [Own.deep] }] =
    (wmarkStringS.L2 a1 0 a0).bind wmarkStringS.A2 := by
  refine (wmarkStringS.run _ _ (by kernel_rfl)).trans ?_
  delta wmarkStringS wmarkStringS.L2 wmarkStringS.A2 XX
  generalize lpL (Y.ctx (lim' Y)) 32 = lp
  generalize lim' Y = call
  kernel_rfl
theorem wmarkStringS.s2 (y0 : Int) (y1 : Int) (y2 : List (List D)) :
    wmarkStringS.L2 y0 y1 y2 =
    bif decide (y1 < (↑y2.length : Int)) then
  (wmarkText [AV.one (A1.v (Value.int IntKind.i64 y0))] []).bind fun val =>
    bif fitsCells [R1.str] val.1 && true then
      bif decide (0 ≤ y1) && decide (y1 < (↑y2.length : Int)) && decide ((y2.getD y1.toNat []).length = 1) then
        bif decide (1 ≤ (y2.getD y1.toNat []).length) && true then
          wmarkStringS.L2 (IntKind.i64.wrap (y0 + 1)) (IntKind.i64.wrap (y1 + 1)) (y2.set y1.toNat (D.v (Value.string (val.1.getD 0 TC.d).str) :: List.drop 1 (y2.getD y1.toNat [])))
        else none
      else none
    else none
else some (wmarkStringS.x2 y0 y2) := by
  refine (lpL_eq (Y := Y) (c := lim' Y) (fn := 32) (rid := 2) (b := bodyAt 2 wmarkStringS.c) (by kernel_rfl) _).trans ?_
  delta wmarkStringS.L2 wmarkText wmarkStringS.x2 XX
  generalize lpL (Y.ctx (lim' Y)) 32 = lp
  generalize lim' Y = call
  kernel_rfl
theorem wmarkStringS.a2x2 (y0 : Int) (y1 : List (List D)) :
    wmarkStringS.A2 (wmarkStringS.x2 y0 y1) =
    some { cells := [TC.v (Value.int IntKind.i64 y0)], objs := [{ kind := Kind.virt, row := [D.s y1], fl := [Own.deep] }] } := by
  delta wmarkStringS.A2 wmarkStringS.x2 XX
  generalize lpL (Y.ctx (lim' Y)) 32 = lp
  generalize lim' Y = call
  kernel_rfl
noncomputable def wheldStringS.L2 (y0 : List (List D)) (y1 : Int) (y2 : Int) : Option (Ex × St) := lpL XX 33 (bodyAt 2 wheldStringS.c) (mkG 0 22 [(0, AV.one (A1.s y0)), (1, AV.one (A1.v (Value.int IntKind.i64 y1))), (5, AV.one (A1.v (Value.int IntKind.i64 y2)))] [] GL)
noncomputable def wheldStringS.A2 : Ex × St → Option Res := fun r => evA XX 33 (lpL XX 33) 2 wheldStringS.c r.fst r.snd (outE XX 33 Tryz.f33)
noncomputable def wheldStringS.q2 (y0 : Int) (y1 : Int) : Ex × St := (Ex.ret, mkG 0 22 [(1, AV.one (A1.v (Value.int IntKind.i64 y0))), (4, AV.one (A1.v (Value.int IntKind.i64 y1)))] [] GL)
noncomputable def wheldStringS.x2 (y0 : Int) : Ex × St := (Ex.exit 0, mkG 0 22 [(1, AV.one (A1.v (Value.int IntKind.i64 y0)))] [] GL)
theorem wheldStringS.e (a0 : List (List D)) (a1 : Int) :
    wheldStringS [AV.one (A1.s a0), AV.one (A1.v (Value.int IntKind.i64 a1))] [] =
    (wheldStringS.L2 a0 a1 0).bind wheldStringS.A2 := by
  refine (wheldStringS.run _ _ (by kernel_rfl)).trans ?_
  delta wheldStringS wheldStringS.L2 wheldStringS.A2 XX
  generalize lpL (Y.ctx (lim' Y)) 33 = lp
  generalize lim' Y = call
  kernel_rfl
theorem wheldStringS.s2 (y0 : List (List D)) (y1 : Int) (y2 : Int) :
    wheldStringS.L2 y0 y1 y2 =
    bif decide (y2 < (↑y0.length : Int)) then
  bif decide (0 ≤ y2) && decide (y2 < (↑y0.length : Int)) && decide ((y0.getD y2.toNat []).length = 1) then
    bif fitsRow [CK.str] (y0.getD y2.toNat []) 0 && decide (1 ≤ (y0.getD y2.toNat []).length) then
      (wmarkText [AV.one (A1.v (Value.int IntKind.i64 y1))] []).bind fun val =>
        bif fitsCells [R1.str] val.1 && true then
          bif !((y0.getD y2.toNat []).getD 0 D.h).str.toList == (val.1.getD 0 TC.d).str.toList then some (wheldStringS.q2 y1 (-1))
          else wheldStringS.L2 y0 (IntKind.i64.wrap (y1 + 1)) (IntKind.i64.wrap (y2 + 1))
        else none
    else none
  else none
else some (wheldStringS.x2 y1) := by
  refine (lpL_eq (Y := Y) (c := lim' Y) (fn := 33) (rid := 2) (b := bodyAt 2 wheldStringS.c) (by kernel_rfl) _).trans ?_
  delta wheldStringS.L2 wmarkText wheldStringS.q2 wheldStringS.x2 XX
  generalize lpL (Y.ctx (lim' Y)) 33 = lp
  generalize lim' Y = call
  kernel_rfl
theorem wheldStringS.a2q2 (y0 : Int) (y1 : Int) :
    wheldStringS.A2 (wheldStringS.q2 y0 y1) =
    some { cells := [TC.v (Value.int IntKind.i64 y1)], objs := [] } := by
  delta wheldStringS.A2 wheldStringS.q2 XX
  generalize lpL (Y.ctx (lim' Y)) 33 = lp
  generalize lim' Y = call
  kernel_rfl
theorem wheldStringS.a2x2 (y0 : Int) :
    wheldStringS.A2 (wheldStringS.x2 y0) =
    some { cells := [TC.v (Value.int IntKind.i64 y0)], objs := [] } := by
  delta wheldStringS.A2 wheldStringS.x2 XX
  generalize lpL (Y.ctx (lim' Y)) 33 = lp
  generalize lim' Y = call
  kernel_rfl
noncomputable def sUpperRead.L4 (y0 : ByteArray) (y1 : Int) (y2 : List (List D)) (y3 : List (List D)) (y4 : List (List D)) (y5 : List (List D)) (y6 : List (List D)) : Option (Ex × St) := lpL XX 41 (bodyAt 4 sUpperRead.c)
  (mkG 0 79 [(0, AV.one (A1.v (Value.string y0))), (2, AV.one (A1.p true 2 [] 0)), (4, AV.one (A1.p true 4 [] 0)), (5, AV.one (A1.r 5 [] 0)), (6, AV.one (A1.v (Value.int IntKind.i64 y1)))]
    [(2, some { kind := Kind.box, row := [D.s y2, D.s y3], fl := [Own.deep, Own.deep] }), (4, some { kind := Kind.box, row := [D.s y4, D.s y5], fl := [Own.deep, Own.deep] }),
      (5, some { kind := Kind.virt, row := [D.s y6], fl := [Own.deep] })]
    GL)
noncomputable def sUpperRead.A4 : Ex × St → Option Res := fun r => evA XX 41 (lpL XX 41) 4 sUpperRead.c r.fst r.snd (outE XX 41 Tryz.f41)
noncomputable def sUpperRead.q4 (y0 : ByteArray) (y1 : Bool) (y2 : List (List D)) (y3 : List (List D)) (y4 : List (List D)) (y5 : List (List D)) : Ex × St := (Ex.ret,
  mkG 0 79 [(0, AV.one (A1.v (Value.string y0))), (2, AV.one (A1.p true 2 [] 0)), (3, AV.one (A1.v (Value.bool y1))), (4, AV.one (A1.p true 4 [] 0))]
    [(2, some { kind := Kind.box, row := [D.s y2, D.s y3], fl := [Own.deep, Own.deep] }), (4, some { kind := Kind.box, row := [D.s y4, D.s y5], fl := [Own.deep, Own.deep] })] GL)
noncomputable def sUpperRead.P10 (y0 : ByteArray) (y1 : Int) (y2 : List (List D)) (y3 : Bool) (y4 : List (List D)) (y5 : List (List D)) (y6 : List (List D)) (y7 : List (List D)) (y8 : List (List D)) (y9 : List (List D)) : Option (Ex × St) := evB XX 41 (lpL XX 41) 10 (bodyAt 4 sUpperRead.c)
  (mkG 0 79
    [(0, AV.one (A1.v (Value.string y0))), (2, AV.one (A1.p true 2 [] 0)), (4, AV.one (A1.p true 4 [] 0)), (5, AV.one (A1.r 5 [] 0)), (6, AV.one (A1.v (Value.int IntKind.i64 y1))),
      (7, AV.one (A1.r 7 [] 0)), (8, AV.one (A1.s y2)), (9, AV.one (A1.v (Value.bool y3)))]
    [(2, some { kind := Kind.box, row := [D.s y4, D.s y5], fl := [Own.deep, Own.deep] }), (4, some { kind := Kind.box, row := [D.s y6, D.s y7], fl := [Own.deep, Own.deep] }),
      (5, some { kind := Kind.virt, row := [D.s y8], fl := [Own.deep] }), (7, some { kind := Kind.virt, row := [D.s y9], fl := [Own.deep] })]
    GL)
  (backL (lpL XX 41) (bodyAt 4 sUpperRead.c) (XX.live 41 4))
noncomputable def sUpperRead.x4 (y0 : ByteArray) (y1 : List (List D)) (y2 : List (List D)) (y3 : List (List D)) (y4 : List (List D)) : Ex × St := (Ex.exit 0,
  mkG 0 79 [(0, AV.one (A1.v (Value.string y0))), (2, AV.one (A1.p true 2 [] 0)), (4, AV.one (A1.p true 4 [] 0))]
    [(2, some { kind := Kind.box, row := [D.s y1, D.s y2], fl := [Own.deep, Own.deep] }), (4, some { kind := Kind.box, row := [D.s y3, D.s y4], fl := [Own.deep, Own.deep] })] GL)
noncomputable def sUpperRead.L4b (y0 : ByteArray) (y1 : Int) (y2 : List (List D)) (y3 : List (List D)) (y4 : List (List D)) (y5 : List (List D)) (y6 : List (List D)) : Option (Ex × St) := lpL XX 41 (bodyAt 4 sUpperRead.c)
  (mkG 0 79 [(0, AV.one (A1.v (Value.string y0))), (2, AV.one (A1.p true 2 [] 0)), (4, AV.one (A1.p true 4 [] 0)), (5, AV.one (A1.r 5 [] 0)), (6, AV.one (A1.v (Value.int IntKind.i64 y1)))]
    [(2, some { kind := Kind.box, row := [D.s y2, D.s y3], fl := [Own.deep, Own.deep] }), (4, some { kind := Kind.box, row := [D.s y4, D.s y5], fl := [Own.top, Own.deep] }),
      (5, some { kind := Kind.virt, row := [D.s y6], fl := [Own.deep] })]
    GL)
noncomputable def sUpperRead.P16 (y0 : ByteArray) (y1 : Int) (y2 : List (List D)) (y3 : Bool) (y4 : List (List D)) (y5 : List (List D)) (y6 : List (List D)) (y7 : List (List D)) (y8 : List (List D)) (y9 : Bool) (y10 : Int) (y11 : ByteArray) (y12 : List (List D)) (y13 : List (List D)) : Option (Ex × St) := evB XX 41 (lpL XX 41) 16 (bodyAt 4 sUpperRead.c)
  (mkG 0 79
    [(0, AV.one (A1.v (Value.string y0))), (2, AV.one (A1.p true 2 [] 0)), (4, AV.one (A1.p true 4 [] 0)), (5, AV.one (A1.r 5 [] 0)), (6, AV.one (A1.v (Value.int IntKind.i64 y1))),
      (8, AV.one (A1.s y2)), (10, AV.one (A1.p true 10 [] 0)), (57, AV.one (A1.v (Value.bool y3)))]
    [(2, some { kind := Kind.box, row := [D.s y4, D.s y5], fl := [Own.deep, Own.deep] }), (4, some { kind := Kind.box, row := [D.s y6, D.s y7], fl := [Own.deep, Own.deep] }),
      (5, some { kind := Kind.virt, row := [D.s y8], fl := [Own.deep] }),
      (10,
        some { kind := Kind.box, row := [D.v (Value.bool y9), D.v (Value.int IntKind.i64 y10), D.v (Value.string y11), D.s y12, D.s y13], fl := [Own.deep, Own.deep, Own.deep, Own.deep, Own.deep] })]
    GL)
  (backL (lpL XX 41) (bodyAt 4 sUpperRead.c) (XX.live 41 4))
noncomputable def sUpperRead.q4b (y0 : ByteArray) (y1 : Bool) (y2 : List (List D)) (y3 : List (List D)) (y4 : List (List D)) (y5 : List (List D)) : Ex × St := (Ex.ret,
  mkG 0 79 [(0, AV.one (A1.v (Value.string y0))), (2, AV.one (A1.p true 2 [] 0)), (3, AV.one (A1.v (Value.bool y1))), (4, AV.one (A1.p true 4 [] 0))]
    [(2, some { kind := Kind.box, row := [D.s y2, D.s y3], fl := [Own.deep, Own.deep] }), (4, some { kind := Kind.box, row := [D.s y4, D.s y5], fl := [Own.top, Own.deep] })] GL)
noncomputable def sUpperRead.P10b (y0 : ByteArray) (y1 : Int) (y2 : List (List D)) (y3 : Bool) (y4 : List (List D)) (y5 : List (List D)) (y6 : List (List D)) (y7 : List (List D)) (y8 : List (List D)) (y9 : List (List D)) : Option (Ex × St) := evB XX 41 (lpL XX 41) 10 (bodyAt 4 sUpperRead.c)
  (mkG 0 79
    [(0, AV.one (A1.v (Value.string y0))), (2, AV.one (A1.p true 2 [] 0)), (4, AV.one (A1.p true 4 [] 0)), (5, AV.one (A1.r 5 [] 0)), (6, AV.one (A1.v (Value.int IntKind.i64 y1))),
      (7, AV.one (A1.r 7 [] 0)), (8, AV.one (A1.s y2)), (9, AV.one (A1.v (Value.bool y3)))]
    [(2, some { kind := Kind.box, row := [D.s y4, D.s y5], fl := [Own.deep, Own.deep] }), (4, some { kind := Kind.box, row := [D.s y6, D.s y7], fl := [Own.top, Own.deep] }),
      (5, some { kind := Kind.virt, row := [D.s y8], fl := [Own.deep] }), (7, some { kind := Kind.virt, row := [D.s y9], fl := [Own.deep] })]
    GL)
  (backL (lpL XX 41) (bodyAt 4 sUpperRead.c) (XX.live 41 4))
noncomputable def sUpperRead.x4b (y0 : ByteArray) (y1 : List (List D)) (y2 : List (List D)) (y3 : List (List D)) (y4 : List (List D)) : Ex × St := (Ex.exit 0,
  mkG 0 79 [(0, AV.one (A1.v (Value.string y0))), (2, AV.one (A1.p true 2 [] 0)), (4, AV.one (A1.p true 4 [] 0))]
    [(2, some { kind := Kind.box, row := [D.s y1, D.s y2], fl := [Own.deep, Own.deep] }), (4, some { kind := Kind.box, row := [D.s y3, D.s y4], fl := [Own.top, Own.deep] })] GL)
noncomputable def sUpperRead.L4c (y0 : ByteArray) (y1 : Int) (y2 : List (List D)) (y3 : List (List D)) (y4 : List (List D)) (y5 : List (List D)) (y6 : List (List D)) : Option (Ex × St) := lpL XX 41 (bodyAt 4 sUpperRead.c)
  (mkG 0 79 [(0, AV.one (A1.v (Value.string y0))), (2, AV.one (A1.p true 2 [] 0)), (4, AV.one (A1.p true 4 [] 0)), (5, AV.one (A1.r 5 [] 0)), (6, AV.one (A1.v (Value.int IntKind.i64 y1)))]
    [(2, some { kind := Kind.box, row := [D.s y2, D.s y3], fl := [Own.deep, Own.deep] }), (4, some { kind := Kind.box, row := [D.s y4, D.s y5], fl := [Own.deep, Own.top] }),
      (5, some { kind := Kind.virt, row := [D.s y6], fl := [Own.deep] })]
    GL)
noncomputable def sUpperRead.P16b (y0 : ByteArray) (y1 : Int) (y2 : List (List D)) (y3 : Bool) (y4 : List (List D)) (y5 : List (List D)) (y6 : List (List D)) (y7 : List (List D)) (y8 : List (List D)) (y9 : Bool) (y10 : Int) (y11 : ByteArray) (y12 : List (List D)) (y13 : List (List D)) : Option (Ex × St) := evB XX 41 (lpL XX 41) 16 (bodyAt 4 sUpperRead.c)
  (mkG 0 79
    [(0, AV.one (A1.v (Value.string y0))), (2, AV.one (A1.p true 2 [] 0)), (4, AV.one (A1.p true 4 [] 0)), (5, AV.one (A1.r 5 [] 0)), (6, AV.one (A1.v (Value.int IntKind.i64 y1))),
      (8, AV.one (A1.s y2)), (10, AV.one (A1.p true 10 [] 0)), (57, AV.one (A1.v (Value.bool y3)))]
    [(2, some { kind := Kind.box, row := [D.s y4, D.s y5], fl := [Own.deep, Own.deep] }), (4, some { kind := Kind.box, row := [D.s y6, D.s y7], fl := [Own.top, Own.deep] }),
      (5, some { kind := Kind.virt, row := [D.s y8], fl := [Own.deep] }),
      (10,
        some { kind := Kind.box, row := [D.v (Value.bool y9), D.v (Value.int IntKind.i64 y10), D.v (Value.string y11), D.s y12, D.s y13], fl := [Own.deep, Own.deep, Own.deep, Own.deep, Own.deep] })]
    GL)
  (backL (lpL XX 41) (bodyAt 4 sUpperRead.c) (XX.live 41 4))
noncomputable def sUpperRead.q4c (y0 : ByteArray) (y1 : Bool) (y2 : List (List D)) (y3 : List (List D)) (y4 : List (List D)) (y5 : List (List D)) : Ex × St := (Ex.ret,
  mkG 0 79 [(0, AV.one (A1.v (Value.string y0))), (2, AV.one (A1.p true 2 [] 0)), (3, AV.one (A1.v (Value.bool y1))), (4, AV.one (A1.p true 4 [] 0))]
    [(2, some { kind := Kind.box, row := [D.s y2, D.s y3], fl := [Own.deep, Own.deep] }), (4, some { kind := Kind.box, row := [D.s y4, D.s y5], fl := [Own.deep, Own.top] })] GL)
noncomputable def sUpperRead.P10c (y0 : ByteArray) (y1 : Int) (y2 : List (List D)) (y3 : Bool) (y4 : List (List D)) (y5 : List (List D)) (y6 : List (List D)) (y7 : List (List D)) (y8 : List (List D)) (y9 : List (List D)) : Option (Ex × St) := evB XX 41 (lpL XX 41) 10 (bodyAt 4 sUpperRead.c)
  (mkG 0 79
    [(0, AV.one (A1.v (Value.string y0))), (2, AV.one (A1.p true 2 [] 0)), (4, AV.one (A1.p true 4 [] 0)), (5, AV.one (A1.r 5 [] 0)), (6, AV.one (A1.v (Value.int IntKind.i64 y1))),
      (7, AV.one (A1.r 7 [] 0)), (8, AV.one (A1.s y2)), (9, AV.one (A1.v (Value.bool y3)))]
    [(2, some { kind := Kind.box, row := [D.s y4, D.s y5], fl := [Own.deep, Own.deep] }), (4, some { kind := Kind.box, row := [D.s y6, D.s y7], fl := [Own.deep, Own.top] }),
      (5, some { kind := Kind.virt, row := [D.s y8], fl := [Own.deep] }), (7, some { kind := Kind.virt, row := [D.s y9], fl := [Own.deep] })]
    GL)
  (backL (lpL XX 41) (bodyAt 4 sUpperRead.c) (XX.live 41 4))
noncomputable def sUpperRead.x4c (y0 : ByteArray) (y1 : List (List D)) (y2 : List (List D)) (y3 : List (List D)) (y4 : List (List D)) : Ex × St := (Ex.exit 0,
  mkG 0 79 [(0, AV.one (A1.v (Value.string y0))), (2, AV.one (A1.p true 2 [] 0)), (4, AV.one (A1.p true 4 [] 0))]
    [(2, some { kind := Kind.box, row := [D.s y1, D.s y2], fl := [Own.deep, Own.deep] }), (4, some { kind := Kind.box, row := [D.s y3, D.s y4], fl := [Own.deep, Own.top] })] GL)
noncomputable def sUpperRead.L4d (y0 : ByteArray) (y1 : Int) (y2 : List (List D)) (y3 : List (List D)) (y4 : List (List D)) (y5 : List (List D)) (y6 : List (List D)) : Option (Ex × St) := lpL XX 41 (bodyAt 4 sUpperRead.c)
  (mkG 0 79 [(0, AV.one (A1.v (Value.string y0))), (2, AV.one (A1.p true 2 [] 0)), (4, AV.one (A1.p true 4 [] 0)), (5, AV.one (A1.r 5 [] 0)), (6, AV.one (A1.v (Value.int IntKind.i64 y1)))]
    [(2, some { kind := Kind.box, row := [D.s y2, D.s y3], fl := [Own.deep, Own.deep] }), (4, some { kind := Kind.box, row := [D.s y4, D.s y5], fl := [Own.top, Own.top] }),
      (5, some { kind := Kind.virt, row := [D.s y6], fl := [Own.deep] })]
    GL)
noncomputable def sUpperRead.P16c (y0 : ByteArray) (y1 : Int) (y2 : List (List D)) (y3 : Bool) (y4 : List (List D)) (y5 : List (List D)) (y6 : List (List D)) (y7 : List (List D)) (y8 : List (List D)) (y9 : Bool) (y10 : Int) (y11 : ByteArray) (y12 : List (List D)) (y13 : List (List D)) : Option (Ex × St) := evB XX 41 (lpL XX 41) 16 (bodyAt 4 sUpperRead.c)
  (mkG 0 79
    [(0, AV.one (A1.v (Value.string y0))), (2, AV.one (A1.p true 2 [] 0)), (4, AV.one (A1.p true 4 [] 0)), (5, AV.one (A1.r 5 [] 0)), (6, AV.one (A1.v (Value.int IntKind.i64 y1))),
      (8, AV.one (A1.s y2)), (10, AV.one (A1.p true 10 [] 0)), (57, AV.one (A1.v (Value.bool y3)))]
    [(2, some { kind := Kind.box, row := [D.s y4, D.s y5], fl := [Own.deep, Own.deep] }), (4, some { kind := Kind.box, row := [D.s y6, D.s y7], fl := [Own.deep, Own.top] }),
      (5, some { kind := Kind.virt, row := [D.s y8], fl := [Own.deep] }),
      (10,
        some { kind := Kind.box, row := [D.v (Value.bool y9), D.v (Value.int IntKind.i64 y10), D.v (Value.string y11), D.s y12, D.s y13], fl := [Own.deep, Own.deep, Own.deep, Own.deep, Own.deep] })]
    GL)
  (backL (lpL XX 41) (bodyAt 4 sUpperRead.c) (XX.live 41 4))
noncomputable def sUpperRead.q4d (y0 : ByteArray) (y1 : Bool) (y2 : List (List D)) (y3 : List (List D)) (y4 : List (List D)) (y5 : List (List D)) : Ex × St := (Ex.ret,
  mkG 0 79 [(0, AV.one (A1.v (Value.string y0))), (2, AV.one (A1.p true 2 [] 0)), (3, AV.one (A1.v (Value.bool y1))), (4, AV.one (A1.p true 4 [] 0))]
    [(2, some { kind := Kind.box, row := [D.s y2, D.s y3], fl := [Own.deep, Own.deep] }), (4, some { kind := Kind.box, row := [D.s y4, D.s y5], fl := [Own.top, Own.top] })] GL)
noncomputable def sUpperRead.P10d (y0 : ByteArray) (y1 : Int) (y2 : List (List D)) (y3 : Bool) (y4 : List (List D)) (y5 : List (List D)) (y6 : List (List D)) (y7 : List (List D)) (y8 : List (List D)) (y9 : List (List D)) : Option (Ex × St) := evB XX 41 (lpL XX 41) 10 (bodyAt 4 sUpperRead.c)
  (mkG 0 79
    [(0, AV.one (A1.v (Value.string y0))), (2, AV.one (A1.p true 2 [] 0)), (4, AV.one (A1.p true 4 [] 0)), (5, AV.one (A1.r 5 [] 0)), (6, AV.one (A1.v (Value.int IntKind.i64 y1))),
      (7, AV.one (A1.r 7 [] 0)), (8, AV.one (A1.s y2)), (9, AV.one (A1.v (Value.bool y3)))]
    [(2, some { kind := Kind.box, row := [D.s y4, D.s y5], fl := [Own.deep, Own.deep] }), (4, some { kind := Kind.box, row := [D.s y6, D.s y7], fl := [Own.top, Own.top] }),
      (5, some { kind := Kind.virt, row := [D.s y8], fl := [Own.deep] }), (7, some { kind := Kind.virt, row := [D.s y9], fl := [Own.deep] })]
    GL)
  (backL (lpL XX 41) (bodyAt 4 sUpperRead.c) (XX.live 41 4))
noncomputable def sUpperRead.x4d (y0 : ByteArray) (y1 : List (List D)) (y2 : List (List D)) (y3 : List (List D)) (y4 : List (List D)) : Ex × St := (Ex.exit 0,
  mkG 0 79 [(0, AV.one (A1.v (Value.string y0))), (2, AV.one (A1.p true 2 [] 0)), (4, AV.one (A1.p true 4 [] 0))]
    [(2, some { kind := Kind.box, row := [D.s y1, D.s y2], fl := [Own.deep, Own.deep] }), (4, some { kind := Kind.box, row := [D.s y3, D.s y4], fl := [Own.top, Own.top] })] GL)
noncomputable def sUpperRead.P16d (y0 : ByteArray) (y1 : Int) (y2 : List (List D)) (y3 : Bool) (y4 : List (List D)) (y5 : List (List D)) (y6 : List (List D)) (y7 : List (List D)) (y8 : List (List D)) (y9 : Bool) (y10 : Int) (y11 : ByteArray) (y12 : List (List D)) (y13 : List (List D)) : Option (Ex × St) := evB XX 41 (lpL XX 41) 16 (bodyAt 4 sUpperRead.c)
  (mkG 0 79
    [(0, AV.one (A1.v (Value.string y0))), (2, AV.one (A1.p true 2 [] 0)), (4, AV.one (A1.p true 4 [] 0)), (5, AV.one (A1.r 5 [] 0)), (6, AV.one (A1.v (Value.int IntKind.i64 y1))),
      (8, AV.one (A1.s y2)), (10, AV.one (A1.p true 10 [] 0)), (57, AV.one (A1.v (Value.bool y3)))]
    [(2, some { kind := Kind.box, row := [D.s y4, D.s y5], fl := [Own.deep, Own.deep] }), (4, some { kind := Kind.box, row := [D.s y6, D.s y7], fl := [Own.top, Own.top] }),
      (5, some { kind := Kind.virt, row := [D.s y8], fl := [Own.deep] }),
      (10,
        some { kind := Kind.box, row := [D.v (Value.bool y9), D.v (Value.int IntKind.i64 y10), D.v (Value.string y11), D.s y12, D.s y13], fl := [Own.deep, Own.deep, Own.deep, Own.deep, Own.deep] })]
    GL)
  (backL (lpL XX 41) (bodyAt 4 sUpperRead.c) (XX.live 41 4))
theorem sUpperRead.e (a0 : ByteArray) :
    sUpperRead [AV.one (A1.v (Value.string a0))] [] =
    (sl1Cut [AV.one (A1.v (Value.string a0)), AV.one (A1.v (Value.int IntKind.u8 10))] []).bind fun val =>
  bif fitsCells [R1.own Own.deep] val.1 && true then (sUpperRead.L4 a0 0 [] [] [] [] (val.1.getD 0 TC.d).es).bind sUpperRead.A4 else none := by
  refine (sUpperRead.run _ _ (by kernel_rfl)).trans ?_
  delta sUpperRead sl1Cut sUpperRead.L4 sUpperRead.A4 XX
  generalize lpL (Y.ctx (lim' Y)) 41 = lp
  generalize lim' Y = call
  kernel_rfl
theorem sUpperRead.s4 (y0 : ByteArray) (y1 : Int) (y2 : List (List D)) (y3 : List (List D)) (y4 : List (List D)) (y5 : List (List D)) (y6 : List (List D)) :
    sUpperRead.L4 y0 y1 y2 y3 y4 y5 y6 =
    bif decide (IntKind.i64.wrap (y1 + 1) < (↑y6.length : Int)) then
  bif decide (0 ≤ y1) && decide (y1 < (↑y6.length : Int)) && decide ((y6.getD y1.toNat []).length = 1) then
    bif fitsRow [CK.str] (y6.getD y1.toNat []) 0 && decide (1 ≤ (y6.getD y1.toNat []).length) then
      (sl1Cut [AV.one (A1.v (Value.string ((y6.getD y1.toNat []).getD 0 D.h).str)), AV.one (A1.v (Value.int IntKind.u8 32))] []).bind fun val =>
        bif fitsCells [R1.own Own.deep] val.1 && true then
          bif decide ((↑(val.1.getD 0 TC.d).es.length : Int) < 2) then some (sUpperRead.q4 y0 false [] [] y4 y5)
          else
            bif decide (1 < (↑(val.1.getD 0 TC.d).es.length : Int)) && decide (((val.1.getD 0 TC.d).es.getD 1 []).length = 1) then
              bif fitsRow [CK.str] ((val.1.getD 0 TC.d).es.getD 1 []) 0 && decide (1 ≤ ((val.1.getD 0 TC.d).es.getD 1 []).length) then
                (sl41PathOf [AV.one (A1.v (Value.string (((val.1.getD 0 TC.d).es.getD 1 []).getD 0 D.h).str))] []).bind fun val_1 =>
                  bif fitsCells [R1.sh, R1.bool] val_1.1 && true then sUpperRead.P10 y0 y1 (val_1.1.getD 0 TC.d).es (val_1.1.getD 1 TC.d).bool y2 y3 y4 y5 y6 (val.1.getD 0 TC.d).es else none
              else none
            else none
        else none
    else none
  else none
else some (sUpperRead.x4 y0 y2 y3 y4 y5) := by
  refine (lpL_eq (Y := Y) (c := lim' Y) (fn := 41) (rid := 4) (b := bodyAt 4 sUpperRead.c) (by kernel_rfl) _).trans ?_
  delta sUpperRead.L4 sl1Cut sUpperRead.q4 sl41PathOf sUpperRead.P10 sUpperRead.x4 XX
  refine join_use [10, 16] (by kernel_rfl) fun J e1 => ?_
  try simp only [← e1]
  clear e1
  generalize lpL (Y.ctx (lim' Y)) 41 = lp
  generalize lim' Y = call
  kernel_rfl
theorem sUpperRead.a4q4 (y0 : ByteArray) (y1 : Bool) (y2 : List (List D)) (y3 : List (List D)) (y4 : List (List D)) (y5 : List (List D)) :
    sUpperRead.A4 (sUpperRead.q4 y0 y1 y2 y3 y4 y5) =
    some { cells := [TC.o Own.deep y2, TC.o Own.deep y3, TC.v (Value.bool y1)], objs := [] } := by
  delta sUpperRead.A4 sUpperRead.q4 XX
  generalize lpL (Y.ctx (lim' Y)) 41 = lp
  generalize lim' Y = call
  kernel_rfl
theorem sUpperRead.p10 (y0 : ByteArray) (y1 : Int) (y2 : List (List D)) (y3 : Bool) (y4 : List (List D)) (y5 : List (List D)) (y6 : List (List D)) (y7 : List (List D)) (y8 : List (List D)) (y9 : List (List D)) :
    sUpperRead.P10 y0 y1 y2 y3 y4 y5 y6 y7 y8 y9 =
    bif !y3 then some (sUpperRead.q4 y0 false [] [] y6 y7)
else
  bif decide (0 < (↑y9.length : Int)) && decide ((y9.getD 0 []).length = 1) then
    bif fitsRow [CK.str] (y9.getD 0 []) 0 && decide (1 ≤ (y9.getD 0 []).length) then
      bif
          ((y9.getD 0 []).getD 0 D.h).str.toList ==
            [(ByteArray.mk #[104, 105, 100, 101]).get! 0, (ByteArray.mk #[104, 105, 100, 101]).get! 1,
              (ByteArray.mk #[104, 105, 100, 101]).get! 2, (ByteArray.mk #[104, 105, 100, 101]).get! 3] then
        bif rowsLen 1 y6 && true && true && true && decide ((y6.length + 1) * 25 ≤ 70368744177664) then sUpperRead.L4b y0 (IntKind.i64.wrap (y1 + 1)) y4 y5 (y6 ++ [[D.s y2]]) y7 y8 else none
      else
        (sl1Part [AV.one (A1.s y9)] []).bind fun val =>
          bif fitsCells [R1.bool, R1.int IntKind.i64, R1.str, R1.own Own.deep, R1.own Own.deep, R1.bool] val.1 && true then
            sUpperRead.P16 y0 y1 y2 (!(val.1.getD 5 TC.d).bool) y4 y5 y6 y7 y8 (val.1.getD 0 TC.d).bool (val.1.getD 1 TC.d).int (val.1.getD 2 TC.d).str (val.1.getD 3 TC.d).es (val.1.getD 4 TC.d).es
          else none
    else none
  else none := by
  delta sUpperRead.P10 sUpperRead.q4 sUpperRead.L4b sl1Part sUpperRead.P16 XX
  refine join_at [10, 16] 10 (by kernel_rfl) fun J e1 => ?_
  try simp only [← e1]
  clear e1
  generalize lpL (Y.ctx (lim' Y)) 41 = lp
  generalize lim' Y = call
  kernel_rfl
theorem sUpperRead.a4x4 (y0 : ByteArray) (y1 : List (List D)) (y2 : List (List D)) (y3 : List (List D)) (y4 : List (List D)) :
    sUpperRead.A4 (sUpperRead.x4 y0 y1 y2 y3 y4) =
    (sUpperWrite [AV.g [A1.s y3, A1.s y4]] []).bind fun val =>
  bif fitsCells [R1.str] val.1 && true then
    bif !(val.1.getD 0 TC.d).str.toList == y0.toList then some { cells := [TC.o Own.deep [], TC.o Own.deep [], TC.v (Value.bool false)], objs := [] }
    else
      (sl41Copy [AV.g [A1.s y3, A1.s y4]] []).bind fun val =>
        bif fitsCells [R1.own Own.deep, R1.own Own.deep] val.1 && true then
          some { cells := [TC.o Own.deep (val.1.getD 0 TC.d).es, TC.o Own.deep (val.1.getD 1 TC.d).es, TC.v (Value.bool true)], objs := [] }
        else none
  else none := by
  delta sUpperRead.A4 sUpperRead.x4 sUpperWrite sl41Copy XX
  generalize lpL (Y.ctx (lim' Y)) 41 = lp
  generalize lim' Y = call
  kernel_rfl
theorem sUpperRead.s4b (y0 : ByteArray) (y1 : Int) (y2 : List (List D)) (y3 : List (List D)) (y4 : List (List D)) (y5 : List (List D)) (y6 : List (List D)) :
    sUpperRead.L4b y0 y1 y2 y3 y4 y5 y6 =
    bif decide (IntKind.i64.wrap (y1 + 1) < (↑y6.length : Int)) then
  bif decide (0 ≤ y1) && decide (y1 < (↑y6.length : Int)) && decide ((y6.getD y1.toNat []).length = 1) then
    bif fitsRow [CK.str] (y6.getD y1.toNat []) 0 && decide (1 ≤ (y6.getD y1.toNat []).length) then
      (sl1Cut [AV.one (A1.v (Value.string ((y6.getD y1.toNat []).getD 0 D.h).str)), AV.one (A1.v (Value.int IntKind.u8 32))] []).bind fun val =>
        bif fitsCells [R1.own Own.deep] val.1 && true then
          bif decide ((↑(val.1.getD 0 TC.d).es.length : Int) < 2) then some (sUpperRead.q4b y0 false [] [] y4 y5)
          else
            bif decide (1 < (↑(val.1.getD 0 TC.d).es.length : Int)) && decide (((val.1.getD 0 TC.d).es.getD 1 []).length = 1) then
              bif fitsRow [CK.str] ((val.1.getD 0 TC.d).es.getD 1 []) 0 && decide (1 ≤ ((val.1.getD 0 TC.d).es.getD 1 []).length) then
                (sl41PathOf [AV.one (A1.v (Value.string (((val.1.getD 0 TC.d).es.getD 1 []).getD 0 D.h).str))] []).bind fun val_1 =>
                  bif fitsCells [R1.sh, R1.bool] val_1.1 && true then sUpperRead.P10b y0 y1 (val_1.1.getD 0 TC.d).es (val_1.1.getD 1 TC.d).bool y2 y3 y4 y5 y6 (val.1.getD 0 TC.d).es else none
              else none
            else none
        else none
    else none
  else none
else some (sUpperRead.x4b y0 y2 y3 y4 y5) := by
  refine (lpL_eq (Y := Y) (c := lim' Y) (fn := 41) (rid := 4) (b := bodyAt 4 sUpperRead.c) (by kernel_rfl) _).trans ?_
  delta sUpperRead.L4b sl1Cut sUpperRead.q4b sl41PathOf sUpperRead.P10b sUpperRead.x4b XX
  refine join_use [10, 16] (by kernel_rfl) fun J e1 => ?_
  try simp only [← e1]
  clear e1
  generalize lpL (Y.ctx (lim' Y)) 41 = lp
  generalize lim' Y = call
  kernel_rfl
theorem sUpperRead.p16 (y0 : ByteArray) (y1 : Int) (y2 : List (List D)) (y3 : Bool) (y4 : List (List D)) (y5 : List (List D)) (y6 : List (List D)) (y7 : List (List D)) (y8 : List (List D)) (y9 : Bool) (y10 : Int) (y11 : ByteArray) (y12 : List (List D)) (y13 : List (List D)) :
    sUpperRead.P16 y0 y1 y2 y3 y4 y5 y6 y7 y8 y9 y10 y11 y12 y13 =
    bif y3 then some (sUpperRead.q4 y0 false [] [] y6 y7)
else
  bif rowsLen 5 y7 && true && true && true && decide ((y7.length + 1) * 65 ≤ 70368744177664) then
    sUpperRead.L4c y0 (IntKind.i64.wrap (y1 + 1)) y4 y5 y6 (y7 ++ [[D.s y2, D.v (Value.int IntKind.i64 2), D.v (Value.bool y9), D.v (Value.int IntKind.i64 y10), D.v (Value.string y11)]]) y8
  else none := by
  delta sUpperRead.P16 sUpperRead.q4 sUpperRead.L4c XX
  refine join_at [10, 16] 16 (by kernel_rfl) fun J e1 => ?_
  try simp only [← e1]
  clear e1
  generalize lpL (Y.ctx (lim' Y)) 41 = lp
  generalize lim' Y = call
  kernel_rfl
theorem sUpperRead.a4q4b (y0 : ByteArray) (y1 : Bool) (y2 : List (List D)) (y3 : List (List D)) (y4 : List (List D)) (y5 : List (List D)) :
    sUpperRead.A4 (sUpperRead.q4b y0 y1 y2 y3 y4 y5) =
    some { cells := [TC.o Own.deep y2, TC.o Own.deep y3, TC.v (Value.bool y1)], objs := [] } := by
  delta sUpperRead.A4 sUpperRead.q4b XX
  generalize lpL (Y.ctx (lim' Y)) 41 = lp
  generalize lim' Y = call
  kernel_rfl
theorem sUpperRead.p10b (y0 : ByteArray) (y1 : Int) (y2 : List (List D)) (y3 : Bool) (y4 : List (List D)) (y5 : List (List D)) (y6 : List (List D)) (y7 : List (List D)) (y8 : List (List D)) (y9 : List (List D)) :
    sUpperRead.P10b y0 y1 y2 y3 y4 y5 y6 y7 y8 y9 =
    bif !y3 then some (sUpperRead.q4b y0 false [] [] y6 y7)
else
  bif decide (0 < (↑y9.length : Int)) && decide ((y9.getD 0 []).length = 1) then
    bif fitsRow [CK.str] (y9.getD 0 []) 0 && decide (1 ≤ (y9.getD 0 []).length) then
      bif
          ((y9.getD 0 []).getD 0 D.h).str.toList ==
            [(ByteArray.mk #[104, 105, 100, 101]).get! 0, (ByteArray.mk #[104, 105, 100, 101]).get! 1,
              (ByteArray.mk #[104, 105, 100, 101]).get! 2, (ByteArray.mk #[104, 105, 100, 101]).get! 3] then
        bif rowsLen 1 y6 && true && true && true && decide ((y6.length + 1) * 25 ≤ 70368744177664) then sUpperRead.L4b y0 (IntKind.i64.wrap (y1 + 1)) y4 y5 (y6 ++ [[D.s y2]]) y7 y8 else none
      else
        (sl1Part [AV.one (A1.s y9)] []).bind fun val =>
          bif fitsCells [R1.bool, R1.int IntKind.i64, R1.str, R1.own Own.deep, R1.own Own.deep, R1.bool] val.1 && true then
            sUpperRead.P16b y0 y1 y2 (!(val.1.getD 5 TC.d).bool) y4 y5 y6 y7 y8 (val.1.getD 0 TC.d).bool (val.1.getD 1 TC.d).int (val.1.getD 2 TC.d).str (val.1.getD 3 TC.d).es (val.1.getD 4 TC.d).es
          else none
    else none
  else none := by
  delta sUpperRead.P10b sUpperRead.q4b sUpperRead.L4b sl1Part sUpperRead.P16b XX
  refine join_at [10, 16] 10 (by kernel_rfl) fun J e1 => ?_
  try simp only [← e1]
  clear e1
  generalize lpL (Y.ctx (lim' Y)) 41 = lp
  generalize lim' Y = call
  kernel_rfl
theorem sUpperRead.a4x4b (y0 : ByteArray) (y1 : List (List D)) (y2 : List (List D)) (y3 : List (List D)) (y4 : List (List D)) :
    sUpperRead.A4 (sUpperRead.x4b y0 y1 y2 y3 y4) =
    (sUpperWrite [AV.g [A1.s y3, A1.s y4]] []).bind fun val =>
  bif fitsCells [R1.str] val.1 && true then
    bif !(val.1.getD 0 TC.d).str.toList == y0.toList then some { cells := [TC.o Own.deep [], TC.o Own.deep [], TC.v (Value.bool false)], objs := [] }
    else
      (sl41Copy [AV.g [A1.s y3, A1.s y4]] []).bind fun val =>
        bif fitsCells [R1.own Own.deep, R1.own Own.deep] val.1 && true then
          some { cells := [TC.o Own.deep (val.1.getD 0 TC.d).es, TC.o Own.deep (val.1.getD 1 TC.d).es, TC.v (Value.bool true)], objs := [] }
        else none
  else none := by
  delta sUpperRead.A4 sUpperRead.x4b sUpperWrite sl41Copy XX
  generalize lpL (Y.ctx (lim' Y)) 41 = lp
  generalize lim' Y = call
  kernel_rfl
theorem sUpperRead.s4c (y0 : ByteArray) (y1 : Int) (y2 : List (List D)) (y3 : List (List D)) (y4 : List (List D)) (y5 : List (List D)) (y6 : List (List D)) :
    sUpperRead.L4c y0 y1 y2 y3 y4 y5 y6 =
    bif decide (IntKind.i64.wrap (y1 + 1) < (↑y6.length : Int)) then
  bif decide (0 ≤ y1) && decide (y1 < (↑y6.length : Int)) && decide ((y6.getD y1.toNat []).length = 1) then
    bif fitsRow [CK.str] (y6.getD y1.toNat []) 0 && decide (1 ≤ (y6.getD y1.toNat []).length) then
      (sl1Cut [AV.one (A1.v (Value.string ((y6.getD y1.toNat []).getD 0 D.h).str)), AV.one (A1.v (Value.int IntKind.u8 32))] []).bind fun val =>
        bif fitsCells [R1.own Own.deep] val.1 && true then
          bif decide ((↑(val.1.getD 0 TC.d).es.length : Int) < 2) then some (sUpperRead.q4c y0 false [] [] y4 y5)
          else
            bif decide (1 < (↑(val.1.getD 0 TC.d).es.length : Int)) && decide (((val.1.getD 0 TC.d).es.getD 1 []).length = 1) then
              bif fitsRow [CK.str] ((val.1.getD 0 TC.d).es.getD 1 []) 0 && decide (1 ≤ ((val.1.getD 0 TC.d).es.getD 1 []).length) then
                (sl41PathOf [AV.one (A1.v (Value.string (((val.1.getD 0 TC.d).es.getD 1 []).getD 0 D.h).str))] []).bind fun val_1 =>
                  bif fitsCells [R1.sh, R1.bool] val_1.1 && true then sUpperRead.P10c y0 y1 (val_1.1.getD 0 TC.d).es (val_1.1.getD 1 TC.d).bool y2 y3 y4 y5 y6 (val.1.getD 0 TC.d).es else none
              else none
            else none
        else none
    else none
  else none
else some (sUpperRead.x4c y0 y2 y3 y4 y5) := by
  refine (lpL_eq (Y := Y) (c := lim' Y) (fn := 41) (rid := 4) (b := bodyAt 4 sUpperRead.c) (by kernel_rfl) _).trans ?_
  delta sUpperRead.L4c sl1Cut sUpperRead.q4c sl41PathOf sUpperRead.P10c sUpperRead.x4c XX
  refine join_use [10, 16] (by kernel_rfl) fun J e1 => ?_
  try simp only [← e1]
  clear e1
  generalize lpL (Y.ctx (lim' Y)) 41 = lp
  generalize lim' Y = call
  kernel_rfl
theorem sUpperRead.p16b (y0 : ByteArray) (y1 : Int) (y2 : List (List D)) (y3 : Bool) (y4 : List (List D)) (y5 : List (List D)) (y6 : List (List D)) (y7 : List (List D)) (y8 : List (List D)) (y9 : Bool) (y10 : Int) (y11 : ByteArray) (y12 : List (List D)) (y13 : List (List D)) :
    sUpperRead.P16b y0 y1 y2 y3 y4 y5 y6 y7 y8 y9 y10 y11 y12 y13 =
    bif y3 then some (sUpperRead.q4b y0 false [] [] y6 y7)
else
  bif rowsLen 5 y7 && true && true && true && decide ((y7.length + 1) * 65 ≤ 70368744177664) then
    sUpperRead.L4d y0 (IntKind.i64.wrap (y1 + 1)) y4 y5 y6 (y7 ++ [[D.s y2, D.v (Value.int IntKind.i64 2), D.v (Value.bool y9), D.v (Value.int IntKind.i64 y10), D.v (Value.string y11)]]) y8
  else none := by
  delta sUpperRead.P16b sUpperRead.q4b sUpperRead.L4d XX
  refine join_at [10, 16] 16 (by kernel_rfl) fun J e1 => ?_
  try simp only [← e1]
  clear e1
  generalize lpL (Y.ctx (lim' Y)) 41 = lp
  generalize lim' Y = call
  kernel_rfl
theorem sUpperRead.a4q4c (y0 : ByteArray) (y1 : Bool) (y2 : List (List D)) (y3 : List (List D)) (y4 : List (List D)) (y5 : List (List D)) :
    sUpperRead.A4 (sUpperRead.q4c y0 y1 y2 y3 y4 y5) =
    some { cells := [TC.o Own.deep y2, TC.o Own.deep y3, TC.v (Value.bool y1)], objs := [] } := by
  delta sUpperRead.A4 sUpperRead.q4c XX
  generalize lpL (Y.ctx (lim' Y)) 41 = lp
  generalize lim' Y = call
  kernel_rfl
theorem sUpperRead.p10c (y0 : ByteArray) (y1 : Int) (y2 : List (List D)) (y3 : Bool) (y4 : List (List D)) (y5 : List (List D)) (y6 : List (List D)) (y7 : List (List D)) (y8 : List (List D)) (y9 : List (List D)) :
    sUpperRead.P10c y0 y1 y2 y3 y4 y5 y6 y7 y8 y9 =
    bif !y3 then some (sUpperRead.q4c y0 false [] [] y6 y7)
else
  bif decide (0 < (↑y9.length : Int)) && decide ((y9.getD 0 []).length = 1) then
    bif fitsRow [CK.str] (y9.getD 0 []) 0 && decide (1 ≤ (y9.getD 0 []).length) then
      bif
          ((y9.getD 0 []).getD 0 D.h).str.toList ==
            [(ByteArray.mk #[104, 105, 100, 101]).get! 0, (ByteArray.mk #[104, 105, 100, 101]).get! 1,
              (ByteArray.mk #[104, 105, 100, 101]).get! 2, (ByteArray.mk #[104, 105, 100, 101]).get! 3] then
        bif rowsLen 1 y6 && true && true && true && decide ((y6.length + 1) * 25 ≤ 70368744177664) then sUpperRead.L4d y0 (IntKind.i64.wrap (y1 + 1)) y4 y5 (y6 ++ [[D.s y2]]) y7 y8 else none
      else
        (sl1Part [AV.one (A1.s y9)] []).bind fun val =>
          bif fitsCells [R1.bool, R1.int IntKind.i64, R1.str, R1.own Own.deep, R1.own Own.deep, R1.bool] val.1 && true then
            sUpperRead.P16c y0 y1 y2 (!(val.1.getD 5 TC.d).bool) y4 y5 y6 y7 y8 (val.1.getD 0 TC.d).bool (val.1.getD 1 TC.d).int (val.1.getD 2 TC.d).str (val.1.getD 3 TC.d).es (val.1.getD 4 TC.d).es
          else none
    else none
  else none := by
  delta sUpperRead.P10c sUpperRead.q4c sUpperRead.L4d sl1Part sUpperRead.P16c XX
  refine join_at [10, 16] 10 (by kernel_rfl) fun J e1 => ?_
  try simp only [← e1]
  clear e1
  generalize lpL (Y.ctx (lim' Y)) 41 = lp
  generalize lim' Y = call
  kernel_rfl
theorem sUpperRead.a4x4c (y0 : ByteArray) (y1 : List (List D)) (y2 : List (List D)) (y3 : List (List D)) (y4 : List (List D)) :
    sUpperRead.A4 (sUpperRead.x4c y0 y1 y2 y3 y4) =
    (sUpperWrite [AV.g [A1.s y3, A1.s y4]] []).bind fun val =>
  bif fitsCells [R1.str] val.1 && true then
    bif !(val.1.getD 0 TC.d).str.toList == y0.toList then some { cells := [TC.o Own.deep [], TC.o Own.deep [], TC.v (Value.bool false)], objs := [] }
    else
      (sl41Copy [AV.g [A1.s y3, A1.s y4]] []).bind fun val =>
        bif fitsCells [R1.own Own.deep, R1.own Own.deep] val.1 && true then
          some { cells := [TC.o Own.deep (val.1.getD 0 TC.d).es, TC.o Own.deep (val.1.getD 1 TC.d).es, TC.v (Value.bool true)], objs := [] }
        else none
  else none := by
  delta sUpperRead.A4 sUpperRead.x4c sUpperWrite sl41Copy XX
  generalize lpL (Y.ctx (lim' Y)) 41 = lp
  generalize lim' Y = call
  kernel_rfl
theorem sUpperRead.s4d (y0 : ByteArray) (y1 : Int) (y2 : List (List D)) (y3 : List (List D)) (y4 : List (List D)) (y5 : List (List D)) (y6 : List (List D)) :
    sUpperRead.L4d y0 y1 y2 y3 y4 y5 y6 =
    bif decide (IntKind.i64.wrap (y1 + 1) < (↑y6.length : Int)) then
  bif decide (0 ≤ y1) && decide (y1 < (↑y6.length : Int)) && decide ((y6.getD y1.toNat []).length = 1) then
    bif fitsRow [CK.str] (y6.getD y1.toNat []) 0 && decide (1 ≤ (y6.getD y1.toNat []).length) then
      (sl1Cut [AV.one (A1.v (Value.string ((y6.getD y1.toNat []).getD 0 D.h).str)), AV.one (A1.v (Value.int IntKind.u8 32))] []).bind fun val =>
        bif fitsCells [R1.own Own.deep] val.1 && true then
          bif decide ((↑(val.1.getD 0 TC.d).es.length : Int) < 2) then some (sUpperRead.q4d y0 false [] [] y4 y5)
          else
            bif decide (1 < (↑(val.1.getD 0 TC.d).es.length : Int)) && decide (((val.1.getD 0 TC.d).es.getD 1 []).length = 1) then
              bif fitsRow [CK.str] ((val.1.getD 0 TC.d).es.getD 1 []) 0 && decide (1 ≤ ((val.1.getD 0 TC.d).es.getD 1 []).length) then
                (sl41PathOf [AV.one (A1.v (Value.string (((val.1.getD 0 TC.d).es.getD 1 []).getD 0 D.h).str))] []).bind fun val_1 =>
                  bif fitsCells [R1.sh, R1.bool] val_1.1 && true then sUpperRead.P10d y0 y1 (val_1.1.getD 0 TC.d).es (val_1.1.getD 1 TC.d).bool y2 y3 y4 y5 y6 (val.1.getD 0 TC.d).es else none
              else none
            else none
        else none
    else none
  else none
else some (sUpperRead.x4d y0 y2 y3 y4 y5) := by
  refine (lpL_eq (Y := Y) (c := lim' Y) (fn := 41) (rid := 4) (b := bodyAt 4 sUpperRead.c) (by kernel_rfl) _).trans ?_
  delta sUpperRead.L4d sl1Cut sUpperRead.q4d sl41PathOf sUpperRead.P10d sUpperRead.x4d XX
  refine join_use [10, 16] (by kernel_rfl) fun J e1 => ?_
  try simp only [← e1]
  clear e1
  generalize lpL (Y.ctx (lim' Y)) 41 = lp
  generalize lim' Y = call
  kernel_rfl
theorem sUpperRead.p16c (y0 : ByteArray) (y1 : Int) (y2 : List (List D)) (y3 : Bool) (y4 : List (List D)) (y5 : List (List D)) (y6 : List (List D)) (y7 : List (List D)) (y8 : List (List D)) (y9 : Bool) (y10 : Int) (y11 : ByteArray) (y12 : List (List D)) (y13 : List (List D)) :
    sUpperRead.P16c y0 y1 y2 y3 y4 y5 y6 y7 y8 y9 y10 y11 y12 y13 =
    bif y3 then some (sUpperRead.q4c y0 false [] [] y6 y7)
else
  bif rowsLen 5 y7 && true && true && true && decide ((y7.length + 1) * 65 ≤ 70368744177664) then
    sUpperRead.L4c y0 (IntKind.i64.wrap (y1 + 1)) y4 y5 y6 (y7 ++ [[D.s y2, D.v (Value.int IntKind.i64 2), D.v (Value.bool y9), D.v (Value.int IntKind.i64 y10), D.v (Value.string y11)]]) y8
  else none := by
  delta sUpperRead.P16c sUpperRead.q4c sUpperRead.L4c XX
  refine join_at [10, 16] 16 (by kernel_rfl) fun J e1 => ?_
  try simp only [← e1]
  clear e1
  generalize lpL (Y.ctx (lim' Y)) 41 = lp
  generalize lim' Y = call
  kernel_rfl
theorem sUpperRead.a4q4d (y0 : ByteArray) (y1 : Bool) (y2 : List (List D)) (y3 : List (List D)) (y4 : List (List D)) (y5 : List (List D)) :
    sUpperRead.A4 (sUpperRead.q4d y0 y1 y2 y3 y4 y5) =
    some { cells := [TC.o Own.deep y2, TC.o Own.deep y3, TC.v (Value.bool y1)], objs := [] } := by
  delta sUpperRead.A4 sUpperRead.q4d XX
  generalize lpL (Y.ctx (lim' Y)) 41 = lp
  generalize lim' Y = call
  kernel_rfl
theorem sUpperRead.p10d (y0 : ByteArray) (y1 : Int) (y2 : List (List D)) (y3 : Bool) (y4 : List (List D)) (y5 : List (List D)) (y6 : List (List D)) (y7 : List (List D)) (y8 : List (List D)) (y9 : List (List D)) :
    sUpperRead.P10d y0 y1 y2 y3 y4 y5 y6 y7 y8 y9 =
    bif !y3 then some (sUpperRead.q4d y0 false [] [] y6 y7)
else
  bif decide (0 < (↑y9.length : Int)) && decide ((y9.getD 0 []).length = 1) then
    bif fitsRow [CK.str] (y9.getD 0 []) 0 && decide (1 ≤ (y9.getD 0 []).length) then
      bif
          ((y9.getD 0 []).getD 0 D.h).str.toList ==
            [(ByteArray.mk #[104, 105, 100, 101]).get! 0, (ByteArray.mk #[104, 105, 100, 101]).get! 1,
              (ByteArray.mk #[104, 105, 100, 101]).get! 2, (ByteArray.mk #[104, 105, 100, 101]).get! 3] then
        bif rowsLen 1 y6 && true && true && true && decide ((y6.length + 1) * 25 ≤ 70368744177664) then sUpperRead.L4d y0 (IntKind.i64.wrap (y1 + 1)) y4 y5 (y6 ++ [[D.s y2]]) y7 y8 else none
      else
        (sl1Part [AV.one (A1.s y9)] []).bind fun val =>
          bif fitsCells [R1.bool, R1.int IntKind.i64, R1.str, R1.own Own.deep, R1.own Own.deep, R1.bool] val.1 && true then
            sUpperRead.P16d y0 y1 y2 (!(val.1.getD 5 TC.d).bool) y4 y5 y6 y7 y8 (val.1.getD 0 TC.d).bool (val.1.getD 1 TC.d).int (val.1.getD 2 TC.d).str (val.1.getD 3 TC.d).es (val.1.getD 4 TC.d).es
          else none
    else none
  else none := by
  delta sUpperRead.P10d sUpperRead.q4d sUpperRead.L4d sl1Part sUpperRead.P16d XX
  refine join_at [10, 16] 10 (by kernel_rfl) fun J e1 => ?_
  try simp only [← e1]
  clear e1
  generalize lpL (Y.ctx (lim' Y)) 41 = lp
  generalize lim' Y = call
  kernel_rfl
theorem sUpperRead.a4x4d (y0 : ByteArray) (y1 : List (List D)) (y2 : List (List D)) (y3 : List (List D)) (y4 : List (List D)) :
    sUpperRead.A4 (sUpperRead.x4d y0 y1 y2 y3 y4) =
    (sUpperWrite [AV.g [A1.s y3, A1.s y4]] []).bind fun val =>
  bif fitsCells [R1.str] val.1 && true then
    bif !(val.1.getD 0 TC.d).str.toList == y0.toList then some { cells := [TC.o Own.deep [], TC.o Own.deep [], TC.v (Value.bool false)], objs := [] }
    else
      (sl41Copy [AV.g [A1.s y3, A1.s y4]] []).bind fun val =>
        bif fitsCells [R1.own Own.deep, R1.own Own.deep] val.1 && true then
          some { cells := [TC.o Own.deep (val.1.getD 0 TC.d).es, TC.o Own.deep (val.1.getD 1 TC.d).es, TC.v (Value.bool true)], objs := [] }
        else none
  else none := by
  delta sUpperRead.A4 sUpperRead.x4d sUpperWrite sl41Copy XX
  generalize lpL (Y.ctx (lim' Y)) 41 = lp
  generalize lim' Y = call
  kernel_rfl
theorem sUpperRead.p16d (y0 : ByteArray) (y1 : Int) (y2 : List (List D)) (y3 : Bool) (y4 : List (List D)) (y5 : List (List D)) (y6 : List (List D)) (y7 : List (List D)) (y8 : List (List D)) (y9 : Bool) (y10 : Int) (y11 : ByteArray) (y12 : List (List D)) (y13 : List (List D)) :
    sUpperRead.P16d y0 y1 y2 y3 y4 y5 y6 y7 y8 y9 y10 y11 y12 y13 =
    bif y3 then some (sUpperRead.q4d y0 false [] [] y6 y7)
else
  bif rowsLen 5 y7 && true && true && true && decide ((y7.length + 1) * 65 ≤ 70368744177664) then
    sUpperRead.L4d y0 (IntKind.i64.wrap (y1 + 1)) y4 y5 y6 (y7 ++ [[D.s y2, D.v (Value.int IntKind.i64 2), D.v (Value.bool y9), D.v (Value.int IntKind.i64 y10), D.v (Value.string y11)]]) y8
  else none := by
  delta sUpperRead.P16d sUpperRead.q4d sUpperRead.L4d XX
  refine join_at [10, 16] 16 (by kernel_rfl) fun J e1 => ?_
  try simp only [← e1]
  clear e1
  generalize lpL (Y.ctx (lim' Y)) 41 = lp
  generalize lim' Y = call
  kernel_rfl
noncomputable def iUpperRead.L5 (y0 : ByteArray) (y1 : List (List D)) (y2 : Int) (y3 : Int) (y4 : List (List D)) (y5 : List (List D)) (y6 : List (List D)) (y7 : List (List D)) : Option (Ex × St) := lpL XX 42 (bodyAt 5 iUpperRead.c)
  (mkG 0 63
    [(0, AV.one (A1.v (Value.string y0))), (2, AV.one (A1.p true 2 [] 0)), (4, AV.one (A1.p true 4 [] 0)), (19, AV.one (A1.s y1)), (20, AV.one (A1.v (Value.int IntKind.i64 y2))),
      (21, AV.one (A1.v (Value.int IntKind.i64 y3)))]
    [(2, some { kind := Kind.box, row := [D.s y4, D.s y5], fl := [Own.deep, Own.deep] }), (4, some { kind := Kind.box, row := [D.s y6, D.s y7], fl := [Own.deep, Own.deep] })] GL)
noncomputable def iUpperRead.A5 : Ex × St → Option Res := fun r => evA XX 42 (lpL XX 42) 5 iUpperRead.c r.fst r.snd (outE XX 42 Tryz.f42)
noncomputable def iUpperRead.P11 (y0 : ByteArray) (y1 : List (List D)) (y2 : Int) (y3 : Int) (y4 : List (List D)) (y5 : List (List D)) (y6 : List (List D)) (y7 : List (List D)) (y8 : List (List D)) (y9 : Bool) (y10 : Int) (y11 : ByteArray) (y12 : List (List D)) (y13 : List (List D)) : Option (Ex × St) := evB XX 42 (lpL XX 42) 11 (bodyAt 5 iUpperRead.c)
  (mkG 0 63
    [(0, AV.one (A1.v (Value.string y0))), (2, AV.one (A1.p true 2 [] 0)), (4, AV.one (A1.p true 4 [] 0)), (9, AV.one (A1.r 9 [] 0)), (10, AV.one (A1.p true 10 [] 0)), (19, AV.one (A1.s y1)),
      (20, AV.one (A1.v (Value.int IntKind.i64 y2))), (21, AV.one (A1.v (Value.int IntKind.i64 y3)))]
    [(2, some { kind := Kind.box, row := [D.s y4, D.s y5], fl := [Own.deep, Own.deep] }), (4, some { kind := Kind.box, row := [D.s y6, D.s y7], fl := [Own.deep, Own.deep] }),
      (9, some { kind := Kind.virt, row := [D.s y8, D.h, D.h, D.h, D.h, D.h], fl := [Own.deep, Own.sh, Own.sh, Own.sh, Own.sh, Own.sh] }),
      (10, some { kind := Kind.box, row := [D.v (Value.bool y9), D.v (Value.int IntKind.i64 y10), D.v (Value.string y11), D.s y12, D.s y13], fl := [Own.deep, Own.deep, Own.deep, Own.sh, Own.sh] })]
    GL)
  (backL (lpL XX 42) (bodyAt 5 iUpperRead.c) (XX.live 42 5))
noncomputable def iUpperRead.x5 (y0 : ByteArray) (y1 : List (List D)) (y2 : List (List D)) (y3 : List (List D)) (y4 : List (List D)) : Ex × St := (Ex.exit 0,
  mkG 0 63 [(0, AV.one (A1.v (Value.string y0))), (2, AV.one (A1.p true 2 [] 0)), (4, AV.one (A1.p true 4 [] 0))]
    [(2, some { kind := Kind.box, row := [D.s y1, D.s y2], fl := [Own.deep, Own.deep] }), (4, some { kind := Kind.box, row := [D.s y3, D.s y4], fl := [Own.deep, Own.deep] })] GL)
theorem iUpperRead.e (a0 : ByteArray) :
    iUpperRead [AV.one (A1.v (Value.string a0))] [] =
    bif decide ((↑a0.size : Int) > 4000) then some { cells := [TC.o Own.deep [], TC.o Own.deep [], TC.v (Value.bool false)], objs := [] }
else
  (ilinesOf [AV.one (A1.v (Value.string a0))] []).bind fun val =>
    bif fitsCells [R1.sh] val.1 && true then (iUpperRead.L5 a0 (val.1.getD 0 TC.d).es (↑(val.1.getD 0 TC.d).es.length : Int) 0 [] [] [] []).bind iUpperRead.A5 else none := by
  refine (iUpperRead.run _ _ (by kernel_rfl)).trans ?_
  delta iUpperRead ilinesOf iUpperRead.L5 iUpperRead.A5 XX
  generalize lpL (Y.ctx (lim' Y)) 42 = lp
  generalize lim' Y = call
  kernel_rfl
theorem iUpperRead.s5 (y0 : ByteArray) (y1 : List (List D)) (y2 : Int) (y3 : Int) (y4 : List (List D)) (y5 : List (List D)) (y6 : List (List D)) (y7 : List (List D)) :
    iUpperRead.L5 y0 y1 y2 y3 y4 y5 y6 y7 =
    bif decide (y3 < y2) then
  bif decide (0 ≤ y3) && decide (y3 < (↑y1.length : Int)) && decide ((y1.getD y3.toNat []).length = 1) then
    bif fitsRow [CK.str] (y1.getD y3.toNat []) 0 && decide (1 ≤ (y1.getD y3.toNat []).length) then
      (strings_CutPrefix
            [AV.one (A1.v (Value.string ((y1.getD y3.toNat []).getD 0 D.h).str)),
              AV.one (A1.v (Value.string (ByteArray.mk #[104, 105, 100, 101, 32])))]
            []).bind
        fun val =>
        bif fitsCells [R1.str, R1.bool] val.1 && true then
          bif (val.1.getD 1 TC.d).bool then
            (ipathRead [AV.one (A1.v (Value.string (val.1.getD 0 TC.d).str))] []).bind fun val =>
              bif fitsCells [R1.own Own.deep] val.1 && true then
                bif rowsLen 1 y6 && true && true && true && decide ((y6.length + 1) * 25 ≤ 70368744177664) then
                  iUpperRead.L5 y0 y1 y2 (IntKind.i64.wrap (y3 + 1)) y4 y5 (y6 ++ [[D.s (val.1.getD 0 TC.d).es]]) y7
                else none
              else none
          else
            (ipartRead [AV.one (A1.v (Value.string ((y1.getD y3.toNat []).getD 0 D.h).str))] []).bind fun val =>
              bif fitsCells [R1.own Own.deep, R1.bool, R1.int IntKind.i64, R1.str, R1.sh, R1.sh] val.1 && true then
                iUpperRead.P11 y0 y1 y2 y3 y4 y5 y6 y7 (val.1.getD 0 TC.d).es (val.1.getD 1 TC.d).bool (val.1.getD 2 TC.d).int (val.1.getD 3 TC.d).str (val.1.getD 4 TC.d).es (val.1.getD 5 TC.d).es
              else none
        else none
    else none
  else none
else some (iUpperRead.x5 y0 y4 y5 y6 y7) := by
  refine (lpL_eq (Y := Y) (c := lim' Y) (fn := 42) (rid := 5) (b := bodyAt 5 iUpperRead.c) (by kernel_rfl) _).trans ?_
  delta iUpperRead.L5 strings_CutPrefix ipathRead ipartRead iUpperRead.P11 iUpperRead.x5 XX
  refine join_use [11] (by kernel_rfl) fun J e1 => ?_
  try simp only [← e1]
  clear e1
  generalize lpL (Y.ctx (lim' Y)) 42 = lp
  generalize lim' Y = call
  kernel_rfl
theorem iUpperRead.p11 (y0 : ByteArray) (y1 : List (List D)) (y2 : Int) (y3 : Int) (y4 : List (List D)) (y5 : List (List D)) (y6 : List (List D)) (y7 : List (List D)) (y8 : List (List D)) (y9 : Bool) (y10 : Int) (y11 : ByteArray) (y12 : List (List D)) (y13 : List (List D)) :
    iUpperRead.P11 y0 y1 y2 y3 y4 y5 y6 y7 y8 y9 y10 y11 y12 y13 =
    bif rowsLen 5 y7 && true && true && true && decide ((y7.length + 1) * 65 ≤ 70368744177664) then
  iUpperRead.L5 y0 y1 y2 (IntKind.i64.wrap (y3 + 1)) y4 y5 y6 (y7 ++ [[D.s y8, D.v (Value.int IntKind.i64 2), D.v (Value.bool y9), D.v (Value.int IntKind.i64 y10), D.v (Value.string y11)]])
else none := by
  delta iUpperRead.P11 iUpperRead.L5 XX
  refine join_at [11] 11 (by kernel_rfl) fun J e1 => ?_
  try simp only [← e1]
  clear e1
  generalize lpL (Y.ctx (lim' Y)) 42 = lp
  generalize lim' Y = call
  kernel_rfl
theorem iUpperRead.a5x5 (y0 : ByteArray) (y1 : List (List D)) (y2 : List (List D)) (y3 : List (List D)) (y4 : List (List D)) :
    iUpperRead.A5 (iUpperRead.x5 y0 y1 y2 y3 y4) =
    (iUpperWrite [AV.g [A1.s y3, A1.s y4]] []).bind fun val =>
  bif fitsCells [R1.str] val.1 && true then
    bif !(val.1.getD 0 TC.d).str.toList == y0.toList then some { cells := [TC.o Own.deep [], TC.o Own.deep [], TC.v (Value.bool false)], objs := [] }
    else some { cells := [TC.o Own.deep y3, TC.o Own.deep y4, TC.v (Value.bool true)], objs := [] }
  else none := by
  delta iUpperRead.A5 iUpperRead.x5 iUpperWrite XX
  generalize lpL (Y.ctx (lim' Y)) 42 = lp
  generalize lim' Y = call
  kernel_rfl
theorem weqUpper.e (a0 : List (List D)) (a1 : List (List D)) (a2 : List (List D)) (a3 : List (List D)) :
    weqUpper [AV.g [A1.s a0, A1.s a1], AV.g [A1.s a2, A1.s a3]] [] =
    (weqStringSS [AV.one (A1.s a0), AV.one (A1.s a2)] []).bind fun val =>
  bif fitsCells [R1.bool] val.1 && true then
    bif !(val.1.getD 0 TC.d).bool then some { cells := [TC.v (Value.bool false)], objs := [] }
    else
      (weqEntryS [AV.one (A1.s a1), AV.one (A1.s a3)] []).bind fun val =>
        bif fitsCells [R1.bool] val.1 && true then
          bif !(val.1.getD 0 TC.d).bool then some { cells := [TC.v (Value.bool false)], objs := [] } else some { cells := [TC.v (Value.bool true)], objs := [] }
        else none
  else none := by
  refine (weqUpper.run _ _ (by kernel_rfl)).trans ?_
  delta weqUpper weqStringSS weqEntryS XX
  generalize lpL (Y.ctx (lim' Y)) 43 = lp
  generalize lim' Y = call
  kernel_rfl
theorem wmarkUpper.e (a0 : List (List D)) (a1 : List (List D)) (a2 : Int) :
    wmarkUpper [AV.g [A1.r 0 [] 0, A1.r 0 [] 1], AV.one (A1.v (Value.int IntKind.i64 a2))] [{ kind := Kind.virt, row := [D.s a0, D.s a1], fl := [Own.deep, Own.deep] }] =
    (wmarkStringSS [AV.one (A1.r 0 [] 0), AV.one (A1.v (Value.int IntKind.i64 a2))] [{ kind := Kind.virt, row := [D.s a0], fl := [Own.deep] }]).bind fun val =>
  bif fitsCells [R1.int IntKind.i64] val.1 && fitsCos [{ ob := { kind := Kind.virt, row := [D.s a0], fl := [Own.deep] }, src := Src.sl 0 [] 0 }] val.2 then
    (wmarkEntryS [AV.one (A1.r 0 [] 0), AV.one (A1.v (Value.int IntKind.i64 (val.1.getD 0 TC.d).int))] [{ kind := Kind.virt, row := [D.s a1], fl := [Own.deep] }]).bind fun val_1 =>
      bif fitsCells [R1.int IntKind.i64] val_1.1 && fitsCos [{ ob := { kind := Kind.virt, row := [D.s a1], fl := [Own.deep] }, src := Src.sl 0 [] 1 }] val_1.2 then
        some
          { cells := [TC.v (Value.int IntKind.i64 (val_1.1.getD 0 TC.d).int)],
            objs :=
              [{ kind := Kind.virt,
                  row := [D.s ((val.2.getD 0 { kind := Kind.ro, row := [], fl := [] }).2.getD 0 D.h).es, D.s ((val_1.2.getD 0 { kind := Kind.ro, row := [], fl := [] }).2.getD 0 D.h).es],
                  fl := [Own.deep, Own.deep] }] }
      else none
  else none := by
  refine (wmarkUpper.run _ _ (by kernel_rfl)).trans ?_
  delta wmarkUpper wmarkStringSS wmarkEntryS XX
  generalize lpL (Y.ctx (lim' Y)) 44 = lp
  generalize lim' Y = call
  kernel_rfl
theorem wheldUpper.e (a0 : List (List D)) (a1 : List (List D)) (a2 : Int) :
    wheldUpper [AV.g [A1.s a0, A1.s a1], AV.one (A1.v (Value.int IntKind.i64 a2))] [] =
    (wheldStringSS [AV.one (A1.s a0), AV.one (A1.v (Value.int IntKind.i64 a2))] []).bind fun val =>
  bif fitsCells [R1.int IntKind.i64] val.1 && true then
    bif decide ((val.1.getD 0 TC.d).int < 0) then some { cells := [TC.v (Value.int IntKind.i64 (-1))], objs := [] }
    else
      (wheldEntryS [AV.one (A1.s a1), AV.one (A1.v (Value.int IntKind.i64 (val.1.getD 0 TC.d).int))] []).bind fun val =>
        bif fitsCells [R1.int IntKind.i64] val.1 && true then
          bif decide ((val.1.getD 0 TC.d).int < 0) then some { cells := [TC.v (Value.int IntKind.i64 (-1))], objs := [] }
          else some { cells := [TC.v (Value.int IntKind.i64 (val.1.getD 0 TC.d).int)], objs := [] }
        else none
  else none := by
  refine (wheldUpper.run _ _ (by kernel_rfl)).trans ?_
  delta wheldUpper wheldStringSS wheldEntryS XX
  generalize lpL (Y.ctx (lim' Y)) 45 = lp
  generalize lim' Y = call
  kernel_rfl
noncomputable def sl2PathOk.L2 (y0 : List (List D)) (y1 : Int) : Option (Ex × St) := lpL XX 68 (bodyAt 2 sl2PathOk.c) (mkG 0 19 [(0, AV.one (A1.s y0)), (3, AV.one (A1.v (Value.int IntKind.i64 y1)))] [] GL)
noncomputable def sl2PathOk.A2 : Ex × St → Option Res := fun r => evA XX 68 (lpL XX 68) 2 sl2PathOk.c r.fst r.snd (outE XX 68 Tryz.f68)
noncomputable def sl2PathOk.q2 (y0 : List (List D)) (y1 : Bool) : Ex × St := (Ex.ret, mkG 0 19 [(0, AV.one (A1.s y0)), (2, AV.one (A1.v (Value.bool y1)))] [] GL)
noncomputable def sl2PathOk.x2 (y0 : List (List D)) : Ex × St := (Ex.exit 0, mkG 0 19 [(0, AV.one (A1.s y0))] [] GL)
theorem sl2PathOk.e (a0 : List (List D)) :
    sl2PathOk [AV.one (A1.s a0)] [] =
    (sl2PathOk.L2 a0 0).bind sl2PathOk.A2 := by
  refine (sl2PathOk.run _ _ (by kernel_rfl)).trans ?_
  delta sl2PathOk sl2PathOk.L2 sl2PathOk.A2 XX
  generalize lpL (Y.ctx (lim' Y)) 68 = lp
  generalize lim' Y = call
  kernel_rfl
theorem sl2PathOk.s2 (y0 : List (List D)) (y1 : Int) :
    sl2PathOk.L2 y0 y1 =
    bif decide (y1 < (↑y0.length : Int)) then
  bif decide (0 ≤ y1) && decide (y1 < (↑y0.length : Int)) && decide ((y0.getD y1.toNat []).length = 1) then
    bif fitsRow [CK.str] (y0.getD y1.toNat []) 0 && decide (1 ≤ (y0.getD y1.toNat []).length) then
      (sl1NameOk [AV.one (A1.v (Value.string ((y0.getD y1.toNat []).getD 0 D.h).str))] []).bind fun val =>
        bif fitsCells [R1.bool] val.1 && true then bif !(val.1.getD 0 TC.d).bool then some (sl2PathOk.q2 y0 false) else sl2PathOk.L2 y0 (IntKind.i64.wrap (y1 + 1)) else none
    else none
  else none
else some (sl2PathOk.x2 y0) := by
  refine (lpL_eq (Y := Y) (c := lim' Y) (fn := 68) (rid := 2) (b := bodyAt 2 sl2PathOk.c) (by kernel_rfl) _).trans ?_
  delta sl2PathOk.L2 sl1NameOk sl2PathOk.q2 sl2PathOk.x2 XX
  generalize lpL (Y.ctx (lim' Y)) 68 = lp
  generalize lim' Y = call
  kernel_rfl
theorem sl2PathOk.a2q2 (y0 : List (List D)) (y1 : Bool) :
    sl2PathOk.A2 (sl2PathOk.q2 y0 y1) =
    some { cells := [TC.v (Value.bool y1)], objs := [] } := by
  delta sl2PathOk.A2 sl2PathOk.q2 XX
  generalize lpL (Y.ctx (lim' Y)) 68 = lp
  generalize lim' Y = call
  kernel_rfl
theorem sl2PathOk.a2x2 (y0 : List (List D)) :
    sl2PathOk.A2 (sl2PathOk.x2 y0) =
    (sl1In [AV.one (A1.v (Value.int IntKind.i64 (↑y0.length : Int))), AV.one (A1.v (Value.int IntKind.i64 1)), AV.one (A1.v (Value.int IntKind.i64 4))] []).bind fun val =>
  bif fitsCells [R1.bool] val.1 && true then some { cells := [TC.v (Value.bool (val.1.getD 0 TC.d).bool)], objs := [] } else none := by
  delta sl2PathOk.A2 sl2PathOk.x2 sl1In XX
  generalize lpL (Y.ctx (lim' Y)) 68 = lp
  generalize lim' Y = call
  kernel_rfl
theorem iwithin.e (a0 : Int) (a1 : Int) (a2 : Int) :
    iwithin [AV.one (A1.v (Value.int IntKind.i64 a0)), AV.one (A1.v (Value.int IntKind.i64 a1)), AV.one (A1.v (Value.int IntKind.i64 a2))] [] =
    bif decide (a0 ≥ a1) then some { cells := [TC.v (Value.bool (decide (a0 ≤ a2)))], objs := [] } else some { cells := [TC.v (Value.bool false)], objs := [] } := by
  refine (iwithin.run _ _ (by kernel_rfl)).trans ?_
  delta iwithin XX
  generalize lpL (Y.ctx (lim' Y)) 73 = lp
  generalize lim' Y = call
  kernel_rfl
noncomputable def wmarkText.L4 (y0 : Int) (y1 : ByteArray) : Option (Ex × St) := lpL XX 82 (bodyAt 4 wmarkText.c) (mkG 0 20 [(0, AV.one (A1.v (Value.int IntKind.i64 y0))), (3, AV.one (A1.v (Value.string y1)))] [] GL)
noncomputable def wmarkText.A4 : Ex × St → Option Res := fun r => evA XX 82 (lpL XX 82) 4 wmarkText.c r.fst r.snd (outE XX 82 Tryz.f82)
noncomputable def wmarkText.x4 (y0 : ByteArray) : Ex × St := (Ex.exit 0, mkG 0 20 [(3, AV.one (A1.v (Value.string y0)))] [] GL)
theorem wmarkText.e (a0 : Int) :
    wmarkText [AV.one (A1.v (Value.int IntKind.i64 a0))] [] =
    bif decide (a0 ≤ 0) then some { cells := [TC.v (Value.string (ByteArray.mk #[109, 48]))], objs := [] } else (wmarkText.L4 a0 (ByteArray.mk #[])).bind wmarkText.A4 := by
  refine (wmarkText.run _ _ (by kernel_rfl)).trans ?_
  delta wmarkText wmarkText.L4 wmarkText.A4 XX
  generalize lpL (Y.ctx (lim' Y)) 82 = lp
  generalize lim' Y = call
  kernel_rfl
theorem wmarkText.s4 (y0 : Int) (y1 : ByteArray) :
    wmarkText.L4 y0 y1 =
    bif decide (y0 > 0) then
  bif decide (1 + y1.size ≤ 70368744177664) then wmarkText.L4 (IntKind.i64.wrap (y0.tdiv 10)) (strOf [[D.v (Value.int IntKind.u8 (IntKind.u8.wrap (IntKind.i64.wrap (48 + y0.tmod 10))))]] ++ y1)
  else none
else some (wmarkText.x4 y1) := by
  refine (lpL_eq (Y := Y) (c := lim' Y) (fn := 82) (rid := 4) (b := bodyAt 4 wmarkText.c) (by kernel_rfl) _).trans ?_
  delta wmarkText.L4 wmarkText.x4 XX
  generalize lpL (Y.ctx (lim' Y)) 82 = lp
  generalize lim' Y = call
  kernel_rfl
theorem wmarkText.a4x4 (y0 : ByteArray) :
    wmarkText.A4 (wmarkText.x4 y0) =
    bif decide (1 + y0.size ≤ 70368744177664) then some { cells := [TC.v (Value.string ((ByteArray.mk #[109]) ++ y0))], objs := [] } else none := by
  delta wmarkText.A4 wmarkText.x4 XX
  generalize lpL (Y.ctx (lim' Y)) 82 = lp
  generalize lim' Y = call
  kernel_rfl
noncomputable def sl1Cut.L4 (y0 : ByteArray) (y1 : Int) (y2 : Int) (y3 : Int) (y4 : List (List D)) : Option (Ex × St) := lpL XX 97 (bodyAt 4 sl1Cut.c)
  (mkG 0 35
    [(0, AV.one (A1.v (Value.string y0))), (1, AV.one (A1.v (Value.int IntKind.u8 y1))), (5, AV.one (A1.r 5 [] 0)), (6, AV.one (A1.v (Value.int IntKind.i64 y2))),
      (7, AV.one (A1.v (Value.int IntKind.i64 y3)))]
    [(5, some { kind := Kind.virt, row := [D.s y4], fl := [Own.deep] })] GL)
noncomputable def sl1Cut.A4 : Ex × St → Option Res := fun r => evA XX 97 (lpL XX 97) 4 sl1Cut.c r.fst r.snd (outE XX 97 Tryz.f97)
noncomputable def sl1Cut.x4 (y0 : ByteArray) (y1 : Int) (y2 : List (List D)) : Ex × St := (Ex.exit 0,
  mkG 0 35 [(0, AV.one (A1.v (Value.string y0))), (5, AV.one (A1.r 5 [] 0)), (6, AV.one (A1.v (Value.int IntKind.i64 y1)))] [(5, some { kind := Kind.virt, row := [D.s y2], fl := [Own.deep] })] GL)
theorem sl1Cut.e (a0 : ByteArray) (a1 : Int) :
    sl1Cut [AV.one (A1.v (Value.string a0)), AV.one (A1.v (Value.int IntKind.u8 a1))] [] =
    (sl1Cut.L4 a0 a1 0 0 []).bind sl1Cut.A4 := by
  refine (sl1Cut.run _ _ (by kernel_rfl)).trans ?_
  delta sl1Cut sl1Cut.L4 sl1Cut.A4 XX
  generalize lpL (Y.ctx (lim' Y)) 97 = lp
  generalize lim' Y = call
  kernel_rfl
theorem sl1Cut.s4 (y0 : ByteArray) (y1 : Int) (y2 : Int) (y3 : Int) (y4 : List (List D)) :
    sl1Cut.L4 y0 y1 y2 y3 y4 =
    bif decide (y3 < (↑y0.size : Int)) then
  bif decide (0 ≤ y3) && decide (y3 < (↑y0.size : Int)) then
    bif byteAt y0 y3.toNat == y1 then
      bif decide (0 ≤ y2) && decide (y2 ≤ y3) && decide (y3 ≤ (↑y0.size : Int)) then
        bif rowsLen 1 y4 && true && true && true && decide ((y4.length + 1) * 17 ≤ 70368744177664) then
          sl1Cut.L4 y0 y1 (IntKind.i64.wrap (y3 + 1)) (IntKind.i64.wrap (y3 + 1)) (y4 ++ [[D.v (Value.string (y0.extract y2.toNat y3.toNat))]])
        else none
      else none
    else sl1Cut.L4 y0 y1 y2 (IntKind.i64.wrap (y3 + 1)) y4
  else none
else some (sl1Cut.x4 y0 y2 y4) := by
  refine (lpL_eq (Y := Y) (c := lim' Y) (fn := 97) (rid := 4) (b := bodyAt 4 sl1Cut.c) (by kernel_rfl) _).trans ?_
  delta sl1Cut.L4 sl1Cut.x4 XX
  generalize lpL (Y.ctx (lim' Y)) 97 = lp
  generalize lim' Y = call
  kernel_rfl
theorem sl1Cut.a4x4 (y0 : ByteArray) (y1 : Int) (y2 : List (List D)) :
    sl1Cut.A4 (sl1Cut.x4 y0 y1 y2) =
    bif decide (0 ≤ y1) && decide (y1 ≤ (↑y0.size : Int)) && decide ((↑y0.size : Int) ≤ (↑y0.size : Int)) then
  bif rowsLen 1 y2 && true && true && true && decide ((y2.length + 1) * 17 ≤ 70368744177664) then
    some { cells := [TC.o Own.deep (y2 ++ [[D.v (Value.string (y0.extract y1.toNat (↑y0.size : Int).toNat))]])], objs := [] }
  else none
else none := by
  delta sl1Cut.A4 sl1Cut.x4 XX
  generalize lpL (Y.ctx (lim' Y)) 97 = lp
  generalize lim' Y = call
  kernel_rfl
noncomputable def sl41PathOf.P4 (y0 : ByteArray) (y1 : Bool) : Option Res := evB XX 98 (lpL XX 98) 4 sl41PathOf.c (mkG 0 22 [(0, AV.one (A1.v (Value.string y0))), (14, AV.one (A1.v (Value.bool y1)))] [] GL) (outE XX 98 Tryz.f98)
noncomputable def sl41PathOf.P5 (y0 : ByteArray) : Option Res := evB XX 98 (lpL XX 98) 5 sl41PathOf.c (mkG 0 22 [(0, AV.one (A1.v (Value.string y0)))] [] GL) (outE XX 98 Tryz.f98)
theorem sl41PathOf.e (a0 : ByteArray) :
    sl41PathOf [AV.one (A1.v (Value.string a0))] [] =
    bif a0.toList == [(ByteArray.mk #[47]).get! 0] then some { cells := [TC.s [], TC.v (Value.bool true)], objs := [] }
else bif a0.toList == [] then sl41PathOf.P4 a0 true else bif decide (0 < (↑a0.size : Int)) then sl41PathOf.P4 a0 (byteAt a0 0 != 47) else none := by
  refine (sl41PathOf.run _ _ (by kernel_rfl)).trans ?_
  delta sl41PathOf sl41PathOf.P4 XX
  refine join_use [4, 5] (by kernel_rfl) fun J e1 => ?_
  try simp only [← e1]
  clear e1
  generalize lpL (Y.ctx (lim' Y)) 98 = lp
  generalize lim' Y = call
  kernel_rfl
theorem sl41PathOf.p4 (y0 : ByteArray) (y1 : Bool) :
    sl41PathOf.P4 y0 y1 =
    bif y1 then some { cells := [TC.s [], TC.v (Value.bool false)], objs := [] } else sl41PathOf.P5 y0 := by
  delta sl41PathOf.P4 sl41PathOf.P5 XX
  refine join_at [4, 5] 4 (by kernel_rfl) fun J e1 => ?_
  try simp only [← e1]
  clear e1
  generalize lpL (Y.ctx (lim' Y)) 98 = lp
  generalize lim' Y = call
  kernel_rfl
theorem sl41PathOf.p5 (y0 : ByteArray) :
    sl41PathOf.P5 y0 =
    (sl1Cut [AV.one (A1.v (Value.string y0)), AV.one (A1.v (Value.int IntKind.u8 47))] []).bind fun val =>
  bif fitsCells [R1.own Own.deep] val.1 && true then
    bif
        decide ((some 1).getD 0 ≤ (↑(val.1.getD 0 TC.d).es.length : Int)) && decide ((↑(val.1.getD 0 TC.d).es.length : Int) ≤ (↑(val.1.getD 0 TC.d).es.length : Int)) &&
          (false || decide (((val.1.getD 0 TC.d).es.getD 0 []).length = 1)) then
      (sl2PathOk [AV.one (A1.s (List.drop 1 (List.take (↑(val.1.getD 0 TC.d).es.length : Int).toNat (val.1.getD 0 TC.d).es)))] []).bind fun val_1 =>
        bif fitsCells [R1.bool] val_1.1 && true then
          some { cells := [TC.s (List.drop 1 (List.take (↑(val.1.getD 0 TC.d).es.length : Int).toNat (val.1.getD 0 TC.d).es)), TC.v (Value.bool (val_1.1.getD 0 TC.d).bool)], objs := [] }
        else none
    else none
  else none := by
  delta sl41PathOf.P5 sl1Cut sl2PathOk XX
  refine join_at [4, 5] 5 (by kernel_rfl) fun J e1 => ?_
  try simp only [← e1]
  clear e1
  generalize lpL (Y.ctx (lim' Y)) 98 = lp
  generalize lim' Y = call
  kernel_rfl
noncomputable def sl1Part.P5 (y0 : List (List D)) (y1 : Int) (y2 : Bool) (y3 : Int) (y4 : ByteArray) (y5 : List (List D)) (y6 : List (List D)) (y7 : Bool) (y8 : Int) (y9 : ByteArray) (y10 : List (List D)) (y11 : List (List D)) : Option Res := evB XX 99 (lpL XX 99) 5 sl1Part.c
  (mkG 0 75 [(0, AV.one (A1.s y0)), (2, AV.one (A1.p true 2 [] 0)), (4, AV.one (A1.p true 4 [] 0)), (5, AV.one (A1.v (Value.int IntKind.i64 y1)))]
    [(2, some { kind := Kind.box, row := [D.v (Value.bool y2), D.v (Value.int IntKind.i64 y3), D.v (Value.string y4), D.s y5, D.s y6], fl := [Own.deep, Own.deep, Own.deep, Own.deep, Own.deep] }),
      (4, some { kind := Kind.box, row := [D.v (Value.bool y7), D.v (Value.int IntKind.i64 y8), D.v (Value.string y9), D.s y10, D.s y11], fl := [Own.deep, Own.deep, Own.deep, Own.deep, Own.deep] })]
    GL)
  (outE XX 99 Tryz.f99)
noncomputable def sl1Part.P6 (y0 : List (List D)) (y1 : Bool) (y2 : Bool) (y3 : Int) (y4 : ByteArray) (y5 : List (List D)) (y6 : List (List D)) (y7 : Bool) (y8 : Int) (y9 : ByteArray) (y10 : List (List D)) (y11 : List (List D)) : Option Res := evB XX 99 (lpL XX 99) 6 sl1Part.c
  (mkG 0 75 [(0, AV.one (A1.s y0)), (2, AV.one (A1.p true 2 [] 0)), (4, AV.one (A1.p true 4 [] 0)), (48, AV.one (A1.v (Value.bool y1)))]
    [(2, some { kind := Kind.box, row := [D.v (Value.bool y2), D.v (Value.int IntKind.i64 y3), D.v (Value.string y4), D.s y5, D.s y6], fl := [Own.deep, Own.deep, Own.deep, Own.deep, Own.deep] }),
      (4, some { kind := Kind.box, row := [D.v (Value.bool y7), D.v (Value.int IntKind.i64 y8), D.v (Value.string y9), D.s y10, D.s y11], fl := [Own.deep, Own.deep, Own.deep, Own.deep, Own.deep] })]
    GL)
  (outE XX 99 Tryz.f99)
noncomputable def sl1Part.P7 (y0 : List (List D)) (y1 : Bool) (y2 : Int) (y3 : ByteArray) (y4 : List (List D)) (y5 : List (List D)) (y6 : Bool) (y7 : Int) (y8 : ByteArray) (y9 : List (List D)) (y10 : List (List D)) : Option Res := evB XX 99 (lpL XX 99) 7 sl1Part.c
  (mkG 0 75 [(0, AV.one (A1.s y0)), (2, AV.one (A1.p true 2 [] 0)), (4, AV.one (A1.p true 4 [] 0))]
    [(2, some { kind := Kind.box, row := [D.v (Value.bool y1), D.v (Value.int IntKind.i64 y2), D.v (Value.string y3), D.s y4, D.s y5], fl := [Own.deep, Own.deep, Own.deep, Own.deep, Own.deep] }),
      (4, some { kind := Kind.box, row := [D.v (Value.bool y6), D.v (Value.int IntKind.i64 y7), D.v (Value.string y8), D.s y9, D.s y10], fl := [Own.deep, Own.deep, Own.deep, Own.deep, Own.deep] })]
    GL)
  (outE XX 99 Tryz.f99)
noncomputable def sl1Part.P12 (y0 : Bool) (y1 : Bool) (y2 : Int) (y3 : ByteArray) (y4 : List (List D)) (y5 : List (List D)) (y6 : Bool) (y7 : Int) (y8 : ByteArray) (y9 : List (List D)) (y10 : List (List D)) : Option Res := evB XX 99 (lpL XX 99) 12 sl1Part.c
  (mkG 0 75 [(2, AV.one (A1.p true 2 [] 0)), (4, AV.one (A1.p true 4 [] 0)), (6, AV.one (A1.v (Value.bool y0)))]
    [(2, some { kind := Kind.box, row := [D.v (Value.bool y1), D.v (Value.int IntKind.i64 y2), D.v (Value.string y3), D.s y4, D.s y5], fl := [Own.deep, Own.deep, Own.deep, Own.deep, Own.deep] }),
      (4, some { kind := Kind.box, row := [D.v (Value.bool y6), D.v (Value.int IntKind.i64 y7), D.v (Value.string y8), D.s y9, D.s y10], fl := [Own.deep, Own.deep, Own.deep, Own.deep, Own.deep] })]
    GL)
  (outE XX 99 Tryz.f99)
theorem sl1Part.e (a0 : List (List D)) :
    sl1Part [AV.one (A1.s a0)] [] =
    bif decide (0 < (↑a0.length : Int)) && decide ((a0.getD 0 []).length = 1) then
  bif fitsRow [CK.str] (a0.getD 0 []) 0 && decide (1 ≤ (a0.getD 0 []).length) then
    bif
        ((a0.getD 0 []).getD 0 D.h).str.toList ==
          [(ByteArray.mk #[102, 105, 108, 101]).get! 0, (ByteArray.mk #[102, 105, 108, 101]).get! 1,
            (ByteArray.mk #[102, 105, 108, 101]).get! 2, (ByteArray.mk #[102, 105, 108, 101]).get! 3] then
      sl1Part.P5 a0 4 false 0 (ByteArray.mk #[]) [] [] false 0 (ByteArray.mk #[]) [] []
    else sl1Part.P5 a0 3 false 0 (ByteArray.mk #[]) [] [] false 0 (ByteArray.mk #[]) [] []
  else none
else none := by
  refine (sl1Part.run _ _ (by kernel_rfl)).trans ?_
  delta sl1Part sl1Part.P5 XX
  refine join_use [5, 6, 7, 12] (by kernel_rfl) fun J e1 => ?_
  try simp only [← e1]
  clear e1
  generalize lpL (Y.ctx (lim' Y)) 99 = lp
  generalize lim' Y = call
  kernel_rfl
theorem sl1Part.p5 (y0 : List (List D)) (y1 : Int) (y2 : Bool) (y3 : Int) (y4 : ByteArray) (y5 : List (List D)) (y6 : List (List D)) (y7 : Bool) (y8 : Int) (y9 : ByteArray) (y10 : List (List D)) (y11 : List (List D)) :
    sl1Part.P5 y0 y1 y2 y3 y4 y5 y6 y7 y8 y9 y10 y11 =
    bif decide (0 < (↑y0.length : Int)) && decide ((y0.getD 0 []).length = 1) then
  bif fitsRow [CK.str] (y0.getD 0 []) 0 && decide (1 ≤ (y0.getD 0 []).length) then
    bif
        !((y0.getD 0 []).getD 0 D.h).str.toList ==
            [(ByteArray.mk #[102, 105, 108, 101]).get! 0, (ByteArray.mk #[102, 105, 108, 101]).get! 1,
              (ByteArray.mk #[102, 105, 108, 101]).get! 2, (ByteArray.mk #[102, 105, 108, 101]).get! 3] then
      bif decide (0 < (↑y0.length : Int)) && decide ((y0.getD 0 []).length = 1) then
        bif fitsRow [CK.str] (y0.getD 0 []) 0 && decide (1 ≤ (y0.getD 0 []).length) then
          bif
              !((y0.getD 0 []).getD 0 D.h).str.toList ==
                  [(ByteArray.mk #[100, 105, 114]).get! 0, (ByteArray.mk #[100, 105, 114]).get! 1,
                    (ByteArray.mk #[100, 105, 114]).get! 2] then
            sl1Part.P6 y0 true y2 y3 y4 y5 y6 y7 y8 y9 y10 y11
          else
            bif (↑y0.length : Int) != y1 then sl1Part.P6 y0 true y2 y3 y4 y5 y6 y7 y8 y9 y10 y11
            else
              bif decide (2 < (↑y0.length : Int)) && decide ((y0.getD 2 []).length = 1) then
                bif fitsRow [CK.str] (y0.getD 2 []) 0 && decide (1 ≤ (y0.getD 2 []).length) then
                  bif (↑((y0.getD 2 []).getD 0 D.h).str.size : Int) != 1 then sl1Part.P6 y0 true y2 y3 y4 y5 y6 y7 y8 y9 y10 y11
                  else
                    bif decide (2 < (↑y0.length : Int)) && decide ((y0.getD 2 []).length = 1) then
                      bif fitsRow [CK.str] (y0.getD 2 []) 0 && decide (1 ≤ (y0.getD 2 []).length) then
                        bif decide (0 < (↑((y0.getD 2 []).getD 0 D.h).str.size : Int)) then
                          bif decide (byteAt ((y0.getD 2 []).getD 0 D.h).str 0 < 48) then sl1Part.P6 y0 true y2 y3 y4 y5 y6 y7 y8 y9 y10 y11
                          else
                            bif decide (2 < (↑y0.length : Int)) && decide ((y0.getD 2 []).length = 1) then
                              bif fitsRow [CK.str] (y0.getD 2 []) 0 && decide (1 ≤ (y0.getD 2 []).length) then
                                bif decide (0 < (↑((y0.getD 2 []).getD 0 D.h).str.size : Int)) then
                                  sl1Part.P6 y0 (decide (byteAt ((y0.getD 2 []).getD 0 D.h).str 0 > 55)) y2 y3 y4 y5 y6 y7 y8 y9 y10 y11
                                else none
                              else none
                            else none
                        else none
                      else none
                    else none
                else none
              else none
        else none
      else none
    else
      bif (↑y0.length : Int) != y1 then sl1Part.P6 y0 true y2 y3 y4 y5 y6 y7 y8 y9 y10 y11
      else
        bif decide (2 < (↑y0.length : Int)) && decide ((y0.getD 2 []).length = 1) then
          bif fitsRow [CK.str] (y0.getD 2 []) 0 && decide (1 ≤ (y0.getD 2 []).length) then
            bif (↑((y0.getD 2 []).getD 0 D.h).str.size : Int) != 1 then sl1Part.P6 y0 true y2 y3 y4 y5 y6 y7 y8 y9 y10 y11
            else
              bif decide (2 < (↑y0.length : Int)) && decide ((y0.getD 2 []).length = 1) then
                bif fitsRow [CK.str] (y0.getD 2 []) 0 && decide (1 ≤ (y0.getD 2 []).length) then
                  bif decide (0 < (↑((y0.getD 2 []).getD 0 D.h).str.size : Int)) then
                    bif decide (byteAt ((y0.getD 2 []).getD 0 D.h).str 0 < 48) then sl1Part.P6 y0 true y2 y3 y4 y5 y6 y7 y8 y9 y10 y11
                    else
                      bif decide (2 < (↑y0.length : Int)) && decide ((y0.getD 2 []).length = 1) then
                        bif fitsRow [CK.str] (y0.getD 2 []) 0 && decide (1 ≤ (y0.getD 2 []).length) then
                          bif decide (0 < (↑((y0.getD 2 []).getD 0 D.h).str.size : Int)) then sl1Part.P6 y0 (decide (byteAt ((y0.getD 2 []).getD 0 D.h).str 0 > 55)) y2 y3 y4 y5 y6 y7 y8 y9 y10 y11
                          else none
                        else none
                      else none
                  else none
                else none
              else none
          else none
        else none
  else none
else none := by
  delta sl1Part.P5 sl1Part.P6 XX
  refine join_at [5, 6, 7, 12] 5 (by kernel_rfl) fun J e1 => ?_
  try simp only [← e1]
  clear e1
  generalize lpL (Y.ctx (lim' Y)) 99 = lp
  generalize lim' Y = call
  kernel_rfl
theorem sl1Part.p6 (y0 : List (List D)) (y1 : Bool) (y2 : Bool) (y3 : Int) (y4 : ByteArray) (y5 : List (List D)) (y6 : List (List D)) (y7 : Bool) (y8 : Int) (y9 : ByteArray) (y10 : List (List D)) (y11 : List (List D)) :
    sl1Part.P6 y0 y1 y2 y3 y4 y5 y6 y7 y8 y9 y10 y11 =
    bif y1 then some { cells := [TC.v (Value.bool y7), TC.v (Value.int IntKind.i64 y8), TC.v (Value.string y9), TC.o Own.deep y10, TC.o Own.deep y11, TC.v (Value.bool false)], objs := [] }
else sl1Part.P7 y0 y2 y3 y4 y5 y6 y7 y8 y9 y10 y11 := by
  delta sl1Part.P6 sl1Part.P7 XX
  refine join_at [5, 6, 7, 12] 6 (by kernel_rfl) fun J e1 => ?_
  try simp only [← e1]
  clear e1
  generalize lpL (Y.ctx (lim' Y)) 99 = lp
  generalize lim' Y = call
  kernel_rfl
theorem sl1Part.p7 (y0 : List (List D)) (y1 : Bool) (y2 : Int) (y3 : ByteArray) (y4 : List (List D)) (y5 : List (List D)) (y6 : Bool) (y7 : Int) (y8 : ByteArray) (y9 : List (List D)) (y10 : List (List D)) :
    sl1Part.P7 y0 y1 y2 y3 y4 y5 y6 y7 y8 y9 y10 =
    bif decide (0 < (↑y0.length : Int)) && decide ((y0.getD 0 []).length = 1) then
  bif fitsRow [CK.str] (y0.getD 0 []) 0 && decide (1 ≤ (y0.getD 0 []).length) then
    bif decide (2 < (↑y0.length : Int)) && decide ((y0.getD 2 []).length = 1) then
      bif fitsRow [CK.str] (y0.getD 2 []) 0 && decide (1 ≤ (y0.getD 2 []).length) then
        bif decide (0 < (↑((y0.getD 2 []).getD 0 D.h).str.size : Int)) then
          bif
              !((y0.getD 0 []).getD 0 D.h).str.toList ==
                  [(ByteArray.mk #[100, 105, 114]).get! 0, (ByteArray.mk #[100, 105, 114]).get! 1,
                    (ByteArray.mk #[100, 105, 114]).get! 2] then
            bif decide (3 < (↑y0.length : Int)) && decide ((y0.getD 3 []).length = 1) then
              bif fitsRow [CK.str] (y0.getD 3 []) 0 && decide (1 ≤ (y0.getD 3 []).length) then
                (sl1Bytes [AV.one (A1.v (Value.string ((y0.getD 3 []).getD 0 D.h).str))] []).bind fun val =>
                  bif fitsCells [R1.str, R1.bool] val.1 && true then
                    sl1Part.P12 (val.1.getD 1 TC.d).bool y1 y2 y3 y4 y5
                      (((y0.getD 0 []).getD 0 D.h).str.toList ==
                        [(ByteArray.mk #[100, 105, 114]).get! 0, (ByteArray.mk #[100, 105, 114]).get! 1,
                          (ByteArray.mk #[100, 105, 114]).get! 2])
                      (IntKind.i64.wrap (IntKind.u8.wrap (byteAt ((y0.getD 2 []).getD 0 D.h).str 0 - 48))) (val.1.getD 0 TC.d).str y9 y10
                  else none
              else none
            else none
          else
            sl1Part.P12 true y1 y2 y3 y4 y5
              (((y0.getD 0 []).getD 0 D.h).str.toList ==
                [(ByteArray.mk #[100, 105, 114]).get! 0, (ByteArray.mk #[100, 105, 114]).get! 1,
                  (ByteArray.mk #[100, 105, 114]).get! 2])
              (IntKind.i64.wrap (IntKind.u8.wrap (byteAt ((y0.getD 2 []).getD 0 D.h).str 0 - 48))) y8 y9 y10
        else none
      else none
    else none
  else none
else none := by
  delta sl1Part.P7 sl1Bytes sl1Part.P12 XX
  refine join_at [5, 6, 7, 12] 7 (by kernel_rfl) fun J e1 => ?_
  try simp only [← e1]
  clear e1
  generalize lpL (Y.ctx (lim' Y)) 99 = lp
  generalize lim' Y = call
  kernel_rfl
theorem sl1Part.p12 (y0 : Bool) (y1 : Bool) (y2 : Int) (y3 : ByteArray) (y4 : List (List D)) (y5 : List (List D)) (y6 : Bool) (y7 : Int) (y8 : ByteArray) (y9 : List (List D)) (y10 : List (List D)) :
    sl1Part.P12 y0 y1 y2 y3 y4 y5 y6 y7 y8 y9 y10 =
    some { cells := [TC.v (Value.bool y6), TC.v (Value.int IntKind.i64 y7), TC.v (Value.string y8), TC.o Own.deep y9, TC.o Own.deep y10, TC.v (Value.bool y0)], objs := [] } := by
  delta sl1Part.P12 XX
  refine join_at [5, 6, 7, 12] 12 (by kernel_rfl) fun J e1 => ?_
  try simp only [← e1]
  clear e1
  generalize lpL (Y.ctx (lim' Y)) 99 = lp
  generalize lim' Y = call
  kernel_rfl
noncomputable def sUpperWrite.L3 (y0 : ByteArray) (y1 : Int) (y2 : List (List D)) (y3 : List (List D)) : Option (Ex × St) := lpL XX 100 (bodyAt 3 sUpperWrite.c)
  (mkG 0 96 [(1, AV.one (A1.p true 1 [] 0)), (3, AV.one (A1.v (Value.string y0))), (4, AV.one (A1.v (Value.int IntKind.i64 y1)))]
    [(1, some { kind := Kind.box, row := [D.s y2, D.s y3], fl := [Own.sh, Own.sh] })] GL)
noncomputable def sUpperWrite.A3 : Ex × St → Option Res := fun r => evA XX 100 (lpL XX 100) 3 sUpperWrite.c r.fst r.snd (outE XX 100 Tryz.f100)
noncomputable def sUpperWrite.q3 (y0 : ByteArray) (y1 : ByteArray) (y2 : List (List D)) (y3 : List (List D)) : Ex × St := (Ex.ret,
  mkG 0 96 [(1, AV.one (A1.p true 1 [] 0)), (2, AV.one (A1.v (Value.string y0))), (3, AV.one (A1.v (Value.string y1)))]
    [(1, some { kind := Kind.box, row := [D.s y2, D.s y3], fl := [Own.sh, Own.sh] })] GL)
noncomputable def sUpperWrite.x3 (y0 : ByteArray) (y1 : List (List D)) (y2 : List (List D)) : Ex × St := (Ex.exit 0, mkG 0 96 [(1, AV.one (A1.p true 1 [] 0)), (3, AV.one (A1.v (Value.string y0)))] [(1, some { kind := Kind.box, row := [D.s y1, D.s y2], fl := [Own.sh, Own.sh] })] GL)
noncomputable def sUpperWrite.L9 (y0 : ByteArray) (y1 : Int) (y2 : List (List D)) (y3 : List (List D)) : Option (Ex × St) := lpL XX 100 (bodyAt 9 sUpperWrite.c)
  (mkG 0 96 [(1, AV.one (A1.p true 1 [] 0)), (3, AV.one (A1.v (Value.string y0))), (5, AV.one (A1.v (Value.int IntKind.i64 y1)))]
    [(1, some { kind := Kind.box, row := [D.s y2, D.s y3], fl := [Own.sh, Own.sh] })] GL)
noncomputable def sUpperWrite.A9 : Ex × St → Option Res := fun r => evA XX 100 (lpL XX 100) 9 sUpperWrite.c r.fst r.snd (outE XX 100 Tryz.f100)
noncomputable def sUpperWrite.P13 (y0 : ByteArray) (y1 : Int) (y2 : Bool) (y3 : List (List D)) (y4 : List (List D)) (y5 : List (List D)) (y6 : Int) (y7 : Bool) (y8 : Int) (y9 : ByteArray) : Option (Ex × St) := evB XX 100 (lpL XX 100) 13 (bodyAt 9 sUpperWrite.c)
  (mkG 0 96 [(1, AV.one (A1.p true 1 [] 0)), (3, AV.one (A1.v (Value.string y0))), (5, AV.one (A1.v (Value.int IntKind.i64 y1))), (6, AV.one (A1.p true 6 [] 0)), (78, AV.one (A1.v (Value.bool y2)))]
    [(1, some { kind := Kind.box, row := [D.s y3, D.s y4], fl := [Own.sh, Own.sh] }),
      (6,
        some
          { kind := Kind.box, row := [D.s y5, D.v (Value.int IntKind.i64 y6), D.v (Value.bool y7), D.v (Value.int IntKind.i64 y8), D.v (Value.string y9)],
            fl := [Own.sh, Own.deep, Own.deep, Own.deep, Own.deep] })]
    GL)
  (backL (lpL XX 100) (bodyAt 9 sUpperWrite.c) (XX.live 100 9))
noncomputable def sUpperWrite.x9 (y0 : ByteArray) : Ex × St := (Ex.exit 2, mkG 0 96 [(3, AV.one (A1.v (Value.string y0)))] [] GL)
noncomputable def sUpperWrite.q9 (y0 : ByteArray) (y1 : ByteArray) : Ex × St := (Ex.ret, mkG 0 96 [(2, AV.one (A1.v (Value.string y0))), (3, AV.one (A1.v (Value.string y1)))] [] GL)
noncomputable def sUpperWrite.P14 (y0 : ByteArray) (y1 : Int) (y2 : List (List D)) (y3 : List (List D)) (y4 : List (List D)) (y5 : Int) (y6 : Bool) (y7 : Int) (y8 : ByteArray) : Option (Ex × St) := evB XX 100 (lpL XX 100) 14 (bodyAt 9 sUpperWrite.c)
  (mkG 0 96 [(1, AV.one (A1.p true 1 [] 0)), (3, AV.one (A1.v (Value.string y0))), (5, AV.one (A1.v (Value.int IntKind.i64 y1))), (6, AV.one (A1.p true 6 [] 0))]
    [(1, some { kind := Kind.box, row := [D.s y2, D.s y3], fl := [Own.sh, Own.sh] }),
      (6,
        some
          { kind := Kind.box, row := [D.s y4, D.v (Value.int IntKind.i64 y5), D.v (Value.bool y6), D.v (Value.int IntKind.i64 y7), D.v (Value.string y8)],
            fl := [Own.sh, Own.deep, Own.deep, Own.deep, Own.deep] })]
    GL)
  (backL (lpL XX 100) (bodyAt 9 sUpperWrite.c) (XX.live 100 9))
theorem sUpperWrite.e (a0 : List (List D)) (a1 : List (List D)) :
    sUpperWrite [AV.g [A1.s a0, A1.s a1]] [] =
    (sUpperWrite.L3 (ByteArray.mk #[]) 0 a0 a1).bind sUpperWrite.A3 := by
  refine (sUpperWrite.run _ _ (by kernel_rfl)).trans ?_
  delta sUpperWrite sUpperWrite.L3 sUpperWrite.A3 XX
  generalize lpL (Y.ctx (lim' Y)) 100 = lp
  generalize lim' Y = call
  kernel_rfl
theorem sUpperWrite.s3 (y0 : ByteArray) (y1 : Int) (y2 : List (List D)) (y3 : List (List D)) :
    sUpperWrite.L3 y0 y1 y2 y3 =
    bif decide (y1 < (↑y2.length : Int)) then
  bif decide (0 ≤ y1) && decide (y1 < (↑y2.length : Int)) && decide ((y2.getD y1.toNat []).length = 1) then
    bif fitsRow [CK.sl] (y2.getD y1.toNat []) 0 && decide (1 ≤ (y2.getD y1.toNat []).length) then
      (sl2PathOk [AV.one (A1.s ((y2.getD y1.toNat []).getD 0 D.h).es)] []).bind fun val =>
        bif fitsCells [R1.bool] val.1 && true then
          bif !(val.1.getD 0 TC.d).bool then some (sUpperWrite.q3 (ByteArray.mk #[]) y0 y2 y3)
          else
            bif decide (y0.size + 5 ≤ 70368744177664) then
              bif decide (0 ≤ y1) && decide (y1 < (↑y2.length : Int)) && decide ((y2.getD y1.toNat []).length = 1) then
                bif fitsRow [CK.sl] (y2.getD y1.toNat []) 0 && decide (1 ≤ (y2.getD y1.toNat []).length) then
                  (sl3Name [AV.one (A1.s ((y2.getD y1.toNat []).getD 0 D.h).es)] []).bind fun val =>
                    bif fitsCells [R1.str] val.1 && true then
                      bif decide ((y0 ++ (ByteArray.mk #[104, 105, 100, 101, 32])).size + (val.1.getD 0 TC.d).str.size ≤ 70368744177664) then
                        bif decide ((y0 ++ (ByteArray.mk #[104, 105, 100, 101, 32]) ++ (val.1.getD 0 TC.d).str).size + 1 ≤ 70368744177664) then
                          sUpperWrite.L3
                            (y0 ++ (ByteArray.mk #[104, 105, 100, 101, 32]) ++ (val.1.getD 0 TC.d).str ++ (ByteArray.mk #[10]))
                            (IntKind.i64.wrap (y1 + 1)) y2 y3
                        else none
                      else none
                    else none
                else none
              else none
            else none
        else none
    else none
  else none
else some (sUpperWrite.x3 y0 y2 y3) := by
  refine (lpL_eq (Y := Y) (c := lim' Y) (fn := 100) (rid := 3) (b := bodyAt 3 sUpperWrite.c) (by kernel_rfl) _).trans ?_
  delta sUpperWrite.L3 sl2PathOk sUpperWrite.q3 sl3Name sUpperWrite.x3 XX
  generalize lpL (Y.ctx (lim' Y)) 100 = lp
  generalize lim' Y = call
  kernel_rfl
theorem sUpperWrite.a3q3 (y0 : ByteArray) (y1 : ByteArray) (y2 : List (List D)) (y3 : List (List D)) :
    sUpperWrite.A3 (sUpperWrite.q3 y0 y1 y2 y3) =
    some { cells := [TC.v (Value.string y0)], objs := [] } := by
  delta sUpperWrite.A3 sUpperWrite.q3 XX
  generalize lpL (Y.ctx (lim' Y)) 100 = lp
  generalize lim' Y = call
  kernel_rfl
theorem sUpperWrite.a3x3 (y0 : ByteArray) (y1 : List (List D)) (y2 : List (List D)) :
    sUpperWrite.A3 (sUpperWrite.x3 y0 y1 y2) =
    (sUpperWrite.L9 y0 0 y1 y2).bind sUpperWrite.A9 := by
  delta sUpperWrite.A3 sUpperWrite.x3 sUpperWrite.L9 sUpperWrite.A9 XX
  generalize lpL (Y.ctx (lim' Y)) 100 = lp
  generalize lim' Y = call
  kernel_rfl
theorem sUpperWrite.s9 (y0 : ByteArray) (y1 : Int) (y2 : List (List D)) (y3 : List (List D)) :
    sUpperWrite.L9 y0 y1 y2 y3 =
    bif decide (y1 < (↑y3.length : Int)) then
  bif decide (0 ≤ y1) && decide (y1 < (↑y3.length : Int)) && decide ((y3.getD y1.toNat []).length = 5) then
    bif fitsRow [CK.sl, CK.int IntKind.i64, CK.bool, CK.int IntKind.i64, CK.str] (y3.getD y1.toNat []) 0 && decide (5 ≤ (y3.getD y1.toNat []).length) then
      bif ((y3.getD y1.toNat []).getD 1 D.h).int != 2 then
        sUpperWrite.P13 y0 y1 true y2 y3 ((y3.getD y1.toNat []).getD 0 D.h).es ((y3.getD y1.toNat []).getD 1 D.h).int ((y3.getD y1.toNat []).getD 2 D.h).bool ((y3.getD y1.toNat []).getD 3 D.h).int
          ((y3.getD y1.toNat []).getD 4 D.h).str
      else
        bif decide ((↑((y3.getD y1.toNat []).getD 0 D.h).es.length : Int) > 0) then
          (sl3EntryOk
                [AV.g
                    [A1.s ((y3.getD y1.toNat []).getD 0 D.h).es, A1.v (Value.int IntKind.i64 ((y3.getD y1.toNat []).getD 1 D.h).int), A1.v (Value.bool ((y3.getD y1.toNat []).getD 2 D.h).bool),
                      A1.v (Value.int IntKind.i64 ((y3.getD y1.toNat []).getD 3 D.h).int), A1.v (Value.string ((y3.getD y1.toNat []).getD 4 D.h).str)]]
                []).bind
            fun val =>
            bif fitsCells [R1.bool] val.1 && true then
              bif !(val.1.getD 0 TC.d).bool then
                sUpperWrite.P13 y0 y1 true y2 y3 ((y3.getD y1.toNat []).getD 0 D.h).es ((y3.getD y1.toNat []).getD 1 D.h).int ((y3.getD y1.toNat []).getD 2 D.h).bool
                  ((y3.getD y1.toNat []).getD 3 D.h).int ((y3.getD y1.toNat []).getD 4 D.h).str
              else
                bif (↑((y3.getD y1.toNat []).getD 0 D.h).es.length : Int) == 0 then
                  bif !((y3.getD y1.toNat []).getD 2 D.h).bool then
                    sUpperWrite.P13 y0 y1 true y2 y3 ((y3.getD y1.toNat []).getD 0 D.h).es ((y3.getD y1.toNat []).getD 1 D.h).int ((y3.getD y1.toNat []).getD 2 D.h).bool
                      ((y3.getD y1.toNat []).getD 3 D.h).int ((y3.getD y1.toNat []).getD 4 D.h).str
                  else
                    bif !((y3.getD y1.toNat []).getD 4 D.h).str.toList == [] then
                      sUpperWrite.P13 y0 y1 true y2 y3 ((y3.getD y1.toNat []).getD 0 D.h).es ((y3.getD y1.toNat []).getD 1 D.h).int ((y3.getD y1.toNat []).getD 2 D.h).bool
                        ((y3.getD y1.toNat []).getD 3 D.h).int ((y3.getD y1.toNat []).getD 4 D.h).str
                    else
                      (sl1In [AV.one (A1.v (Value.int IntKind.i64 ((y3.getD y1.toNat []).getD 3 D.h).int)), AV.one (A1.v (Value.int IntKind.i64 0)), AV.one (A1.v (Value.int IntKind.i64 7))] []).bind
                        fun val =>
                        bif fitsCells [R1.bool] val.1 && true then
                          sUpperWrite.P13 y0 y1 (!(val.1.getD 0 TC.d).bool) y2 y3 ((y3.getD y1.toNat []).getD 0 D.h).es ((y3.getD y1.toNat []).getD 1 D.h).int ((y3.getD y1.toNat []).getD 2 D.h).bool
                            ((y3.getD y1.toNat []).getD 3 D.h).int ((y3.getD y1.toNat []).getD 4 D.h).str
                        else none
                else
                  sUpperWrite.P13 y0 y1 false y2 y3 ((y3.getD y1.toNat []).getD 0 D.h).es ((y3.getD y1.toNat []).getD 1 D.h).int ((y3.getD y1.toNat []).getD 2 D.h).bool
                    ((y3.getD y1.toNat []).getD 3 D.h).int ((y3.getD y1.toNat []).getD 4 D.h).str
            else none
        else
          bif (↑((y3.getD y1.toNat []).getD 0 D.h).es.length : Int) == 0 then
            bif !((y3.getD y1.toNat []).getD 2 D.h).bool then
              sUpperWrite.P13 y0 y1 true y2 y3 ((y3.getD y1.toNat []).getD 0 D.h).es ((y3.getD y1.toNat []).getD 1 D.h).int ((y3.getD y1.toNat []).getD 2 D.h).bool
                ((y3.getD y1.toNat []).getD 3 D.h).int ((y3.getD y1.toNat []).getD 4 D.h).str
            else
              bif !((y3.getD y1.toNat []).getD 4 D.h).str.toList == [] then
                sUpperWrite.P13 y0 y1 true y2 y3 ((y3.getD y1.toNat []).getD 0 D.h).es ((y3.getD y1.toNat []).getD 1 D.h).int ((y3.getD y1.toNat []).getD 2 D.h).bool
                  ((y3.getD y1.toNat []).getD 3 D.h).int ((y3.getD y1.toNat []).getD 4 D.h).str
              else
                (sl1In [AV.one (A1.v (Value.int IntKind.i64 ((y3.getD y1.toNat []).getD 3 D.h).int)), AV.one (A1.v (Value.int IntKind.i64 0)), AV.one (A1.v (Value.int IntKind.i64 7))] []).bind
                  fun val =>
                  bif fitsCells [R1.bool] val.1 && true then
                    sUpperWrite.P13 y0 y1 (!(val.1.getD 0 TC.d).bool) y2 y3 ((y3.getD y1.toNat []).getD 0 D.h).es ((y3.getD y1.toNat []).getD 1 D.h).int ((y3.getD y1.toNat []).getD 2 D.h).bool
                      ((y3.getD y1.toNat []).getD 3 D.h).int ((y3.getD y1.toNat []).getD 4 D.h).str
                  else none
          else
            sUpperWrite.P13 y0 y1 false y2 y3 ((y3.getD y1.toNat []).getD 0 D.h).es ((y3.getD y1.toNat []).getD 1 D.h).int ((y3.getD y1.toNat []).getD 2 D.h).bool
              ((y3.getD y1.toNat []).getD 3 D.h).int ((y3.getD y1.toNat []).getD 4 D.h).str
    else none
  else none
else some (sUpperWrite.x9 y0) := by
  refine (lpL_eq (Y := Y) (c := lim' Y) (fn := 100) (rid := 9) (b := bodyAt 9 sUpperWrite.c) (by kernel_rfl) _).trans ?_
  delta sUpperWrite.L9 sUpperWrite.P13 sl3EntryOk sl1In sUpperWrite.x9 XX
  refine join_use [13, 14] (by kernel_rfl) fun J e1 => ?_
  try simp only [← e1]
  clear e1
  generalize lpL (Y.ctx (lim' Y)) 100 = lp
  generalize lim' Y = call
  kernel_rfl
theorem sUpperWrite.p13 (y0 : ByteArray) (y1 : Int) (y2 : Bool) (y3 : List (List D)) (y4 : List (List D)) (y5 : List (List D)) (y6 : Int) (y7 : Bool) (y8 : Int) (y9 : ByteArray) :
    sUpperWrite.P13 y0 y1 y2 y3 y4 y5 y6 y7 y8 y9 =
    bif y2 then some (sUpperWrite.q9 (ByteArray.mk #[]) y0) else sUpperWrite.P14 y0 y1 y3 y4 y5 y6 y7 y8 y9 := by
  delta sUpperWrite.P13 sUpperWrite.q9 sUpperWrite.P14 XX
  refine join_at [13, 14] 13 (by kernel_rfl) fun J e1 => ?_
  try simp only [← e1]
  clear e1
  generalize lpL (Y.ctx (lim' Y)) 100 = lp
  generalize lim' Y = call
  kernel_rfl
theorem sUpperWrite.a9x9 (y0 : ByteArray) :
    sUpperWrite.A9 (sUpperWrite.x9 y0) =
    bif decide ((↑y0.size : Int) > 4000) then some { cells := [TC.v (Value.string (ByteArray.mk #[]))], objs := [] } else some { cells := [TC.v (Value.string y0)], objs := [] } := by
  delta sUpperWrite.A9 sUpperWrite.x9 XX
  generalize lpL (Y.ctx (lim' Y)) 100 = lp
  generalize lim' Y = call
  kernel_rfl
theorem sUpperWrite.a9q9 (y0 : ByteArray) (y1 : ByteArray) :
    sUpperWrite.A9 (sUpperWrite.q9 y0 y1) =
    some { cells := [TC.v (Value.string y0)], objs := [] } := by
  delta sUpperWrite.A9 sUpperWrite.q9 XX
  generalize lpL (Y.ctx (lim' Y)) 100 = lp
  generalize lim' Y = call
  kernel_rfl
theorem sUpperWrite.p14 (y0 : ByteArray) (y1 : Int) (y2 : List (List D)) (y3 : List (List D)) (y4 : List (List D)) (y5 : Int) (y6 : Bool) (y7 : Int) (y8 : ByteArray) :
    sUpperWrite.P14 y0 y1 y2 y3 y4 y5 y6 y7 y8 =
    (sl3Name [AV.one (A1.s y4)] []).bind fun val =>
  bif fitsCells [R1.str] val.1 && true then
    (sl1Line
          [AV.one (A1.v (Value.string (val.1.getD 0 TC.d).str)),
            AV.g [A1.v (Value.bool y6), A1.v (Value.int IntKind.i64 y7), A1.v (Value.string y8), A1.v (Value.slice none 0 0), A1.v (Value.slice none 0 0)]]
          []).bind
      fun val =>
      bif fitsCells [R1.str] val.1 && true then
        bif decide (y0.size + (val.1.getD 0 TC.d).str.size ≤ 70368744177664) then sUpperWrite.L9 (y0 ++ (val.1.getD 0 TC.d).str) (IntKind.i64.wrap (y1 + 1)) y2 y3 else none
      else none
  else none := by
  delta sUpperWrite.P14 sl3Name sl1Line sUpperWrite.L9 XX
  refine join_at [13, 14] 14 (by kernel_rfl) fun J e1 => ?_
  try simp only [← e1]
  clear e1
  generalize lpL (Y.ctx (lim' Y)) 100 = lp
  generalize lim' Y = call
  kernel_rfl
noncomputable def sl41Copy.L3 (y0 : Int) (y1 : List (List D)) (y2 : List (List D)) (y3 : List (List D)) (y4 : List (List D)) (y5 : List (List D)) (y6 : List (List D)) : Option (Ex × St) := lpL XX 101 (bodyAt 3 sl41Copy.c)
  (mkG 0 51 [(1, AV.one (A1.p true 1 [] 0)), (2, AV.one (A1.p true 2 [] 0)), (3, AV.one (A1.p true 3 [] 0)), (4, AV.one (A1.v (Value.int IntKind.i64 y0)))]
    [(1, some { kind := Kind.box, row := [D.s y1, D.s y2], fl := [Own.sh, Own.sh] }), (2, some { kind := Kind.box, row := [D.s y3, D.s y4], fl := [Own.deep, Own.deep] }),
      (3, some { kind := Kind.box, row := [D.s y5, D.s y6], fl := [Own.deep, Own.deep] })]
    GL)
noncomputable def sl41Copy.A3 : Ex × St → Option Res := fun r => evA XX 101 (lpL XX 101) 3 sl41Copy.c r.fst r.snd (outE XX 101 Tryz.f101)
noncomputable def sl41Copy.x3 (y0 : List (List D)) (y1 : List (List D)) (y2 : List (List D)) (y3 : List (List D)) (y4 : List (List D)) (y5 : List (List D)) : Ex × St := (Ex.exit 0,
  mkG 0 51 [(1, AV.one (A1.p true 1 [] 0)), (2, AV.one (A1.p true 2 [] 0)), (3, AV.one (A1.p true 3 [] 0))]
    [(1, some { kind := Kind.box, row := [D.s y0, D.s y1], fl := [Own.sh, Own.sh] }), (2, some { kind := Kind.box, row := [D.s y2, D.s y3], fl := [Own.deep, Own.deep] }),
      (3, some { kind := Kind.box, row := [D.s y4, D.s y5], fl := [Own.deep, Own.deep] })]
    GL)
noncomputable def sl41Copy.L7 (y0 : Int) (y1 : List (List D)) (y2 : List (List D)) (y3 : List (List D)) (y4 : List (List D)) (y5 : List (List D)) (y6 : List (List D)) : Option (Ex × St) := lpL XX 101 (bodyAt 7 sl41Copy.c)
  (mkG 0 51 [(1, AV.one (A1.p true 1 [] 0)), (2, AV.one (A1.p true 2 [] 0)), (3, AV.one (A1.p true 3 [] 0)), (5, AV.one (A1.v (Value.int IntKind.i64 y0)))]
    [(1, some { kind := Kind.box, row := [D.s y1, D.s y2], fl := [Own.sh, Own.sh] }), (2, some { kind := Kind.box, row := [D.s y3, D.s y4], fl := [Own.deep, Own.deep] }),
      (3, some { kind := Kind.box, row := [D.s y5, D.s y6], fl := [Own.deep, Own.deep] })]
    GL)
noncomputable def sl41Copy.A7 : Ex × St → Option Res := fun r => evA XX 101 (lpL XX 101) 7 sl41Copy.c r.fst r.snd (outE XX 101 Tryz.f101)
noncomputable def sl41Copy.x7 (y0 : List (List D)) (y1 : List (List D)) (y2 : List (List D)) (y3 : List (List D)) : Ex × St := (Ex.exit 2,
  mkG 0 51 [(2, AV.one (A1.p true 2 [] 0)), (3, AV.one (A1.p true 3 [] 0))]
    [(2, some { kind := Kind.box, row := [D.s y0, D.s y1], fl := [Own.deep, Own.deep] }), (3, some { kind := Kind.box, row := [D.s y2, D.s y3], fl := [Own.deep, Own.deep] })] GL)
theorem sl41Copy.e (a0 : List (List D)) (a1 : List (List D)) :
    sl41Copy [AV.g [A1.s a0, A1.s a1]] [] =
    (sl41Copy.L3 0 a0 a1 [] [] [] []).bind sl41Copy.A3 := by
  refine (sl41Copy.run _ _ (by kernel_rfl)).trans ?_
  delta sl41Copy sl41Copy.L3 sl41Copy.A3 XX
  generalize lpL (Y.ctx (lim' Y)) 101 = lp
  generalize lim' Y = call
  kernel_rfl
theorem sl41Copy.s3 (y0 : Int) (y1 : List (List D)) (y2 : List (List D)) (y3 : List (List D)) (y4 : List (List D)) (y5 : List (List D)) (y6 : List (List D)) :
    sl41Copy.L3 y0 y1 y2 y3 y4 y5 y6 =
    bif decide (y0 < (↑y1.length : Int)) then
  bif decide (0 ≤ y0) && decide (y0 < (↑y1.length : Int)) && decide ((y1.getD y0.toNat []).length = 1) then
    bif fitsRow [CK.sl] (y1.getD y0.toNat []) 0 && decide (1 ≤ (y1.getD y0.toNat []).length) then
      bif
          rowsLen 1 ((y1.getD y0.toNat []).getD 0 D.h).es && rowsCell false ((y1.getD y0.toNat []).getD 0 D.h).es && true &&
            decide ((0 + ((y1.getD y0.toNat []).getD 0 D.h).es.length) * 17 ≤ 70368744177664) then
        bif rowsLen 1 y5 && true && true && true && decide ((y5.length + 1) * 25 ≤ 70368744177664) then
          sl41Copy.L3 (IntKind.i64.wrap (y0 + 1)) y1 y2 y3 y4 (y5 ++ [[D.s ((y1.getD y0.toNat []).getD 0 D.h).es]]) y6
        else none
      else none
    else none
  else none
else some (sl41Copy.x3 y1 y2 y3 y4 y5 y6) := by
  refine (lpL_eq (Y := Y) (c := lim' Y) (fn := 101) (rid := 3) (b := bodyAt 3 sl41Copy.c) (by kernel_rfl) _).trans ?_
  delta sl41Copy.L3 sl41Copy.x3 XX
  generalize lpL (Y.ctx (lim' Y)) 101 = lp
  generalize lim' Y = call
  kernel_rfl
theorem sl41Copy.a3x3 (y0 : List (List D)) (y1 : List (List D)) (y2 : List (List D)) (y3 : List (List D)) (y4 : List (List D)) (y5 : List (List D)) :
    sl41Copy.A3 (sl41Copy.x3 y0 y1 y2 y3 y4 y5) =
    (sl41Copy.L7 0 y0 y1 y2 y3 y4 y5).bind sl41Copy.A7 := by
  delta sl41Copy.A3 sl41Copy.x3 sl41Copy.L7 sl41Copy.A7 XX
  generalize lpL (Y.ctx (lim' Y)) 101 = lp
  generalize lim' Y = call
  kernel_rfl
theorem sl41Copy.s7 (y0 : Int) (y1 : List (List D)) (y2 : List (List D)) (y3 : List (List D)) (y4 : List (List D)) (y5 : List (List D)) (y6 : List (List D)) :
    sl41Copy.L7 y0 y1 y2 y3 y4 y5 y6 =
    bif decide (y0 < (↑y2.length : Int)) then
  bif decide (0 ≤ y0) && decide (y0 < (↑y2.length : Int)) && decide ((y2.getD y0.toNat []).length = 5) then
    bif fitsRow [CK.sl, CK.int IntKind.i64, CK.bool, CK.int IntKind.i64, CK.str] (y2.getD y0.toNat []) 0 && decide (5 ≤ (y2.getD y0.toNat []).length) then
      bif
          rowsLen 1 ((y2.getD y0.toNat []).getD 0 D.h).es && rowsCell false ((y2.getD y0.toNat []).getD 0 D.h).es && true &&
            decide ((0 + ((y2.getD y0.toNat []).getD 0 D.h).es.length) * 17 ≤ 70368744177664) then
        bif rowsLen 5 y6 && true && true && true && decide ((y6.length + 1) * 65 ≤ 70368744177664) then
          sl41Copy.L7 (IntKind.i64.wrap (y0 + 1)) y1 y2 y3 y4 y5
            (y6 ++
              [[D.s ((y2.getD y0.toNat []).getD 0 D.h).es, D.v (Value.int IntKind.i64 ((y2.getD y0.toNat []).getD 1 D.h).int), D.v (Value.bool ((y2.getD y0.toNat []).getD 2 D.h).bool),
                  D.v (Value.int IntKind.i64 ((y2.getD y0.toNat []).getD 3 D.h).int), D.v (Value.string ((y2.getD y0.toNat []).getD 4 D.h).str)]])
        else none
      else none
    else none
  else none
else some (sl41Copy.x7 y3 y4 y5 y6) := by
  refine (lpL_eq (Y := Y) (c := lim' Y) (fn := 101) (rid := 7) (b := bodyAt 7 sl41Copy.c) (by kernel_rfl) _).trans ?_
  delta sl41Copy.L7 sl41Copy.x7 XX
  generalize lpL (Y.ctx (lim' Y)) 101 = lp
  generalize lim' Y = call
  kernel_rfl
theorem sl41Copy.a7x7 (y0 : List (List D)) (y1 : List (List D)) (y2 : List (List D)) (y3 : List (List D)) :
    sl41Copy.A7 (sl41Copy.x7 y0 y1 y2 y3) =
    some { cells := [TC.o Own.deep y2, TC.o Own.deep y3], objs := [] } := by
  delta sl41Copy.A7 sl41Copy.x7 XX
  generalize lpL (Y.ctx (lim' Y)) 101 = lp
  generalize lim' Y = call
  kernel_rfl
theorem ilinesOf.e (a0 : ByteArray) :
    ilinesOf [AV.one (A1.v (Value.string a0))] [] =
    (strings_Split [AV.one (A1.v (Value.string a0)), AV.one (A1.v (Value.string (ByteArray.mk #[10])))] []).bind fun val =>
  bif fitsCells [R1.own Own.deep] val.1 && true then
    bif
        decide (none.getD 0 ≤ IntKind.i64.wrap ((↑(val.1.getD 0 TC.d).es.length : Int) - 1)) &&
            decide (IntKind.i64.wrap ((↑(val.1.getD 0 TC.d).es.length : Int) - 1) ≤ (↑(val.1.getD 0 TC.d).es.length : Int)) &&
          true then
      some { cells := [TC.s (List.drop 0 (List.take (IntKind.i64.wrap ((↑(val.1.getD 0 TC.d).es.length : Int) - 1)).toNat (val.1.getD 0 TC.d).es))], objs := [] }
    else none
  else none := by
  refine (ilinesOf.run _ _ (by kernel_rfl)).trans ?_
  delta ilinesOf strings_Split XX
  generalize lpL (Y.ctx (lim' Y)) 102 = lp
  generalize lim' Y = call
  kernel_rfl
theorem strings_CutPrefix.e (a0 : ByteArray) (a1 : ByteArray) :
    strings_CutPrefix [AV.one (A1.v (Value.string a0)), AV.one (A1.v (Value.string a1))] [] =
    (internal_stringslite_CutPrefix [AV.one (A1.v (Value.string a0)), AV.one (A1.v (Value.string a1))] []).bind fun val =>
  bif fitsCells [R1.str, R1.bool] val.1 && true then some { cells := [TC.v (Value.string (val.1.getD 0 TC.d).str), TC.v (Value.bool (val.1.getD 1 TC.d).bool)], objs := [] } else none := by
  refine (strings_CutPrefix.run _ _ (by kernel_rfl)).trans ?_
  delta strings_CutPrefix internal_stringslite_CutPrefix XX
  generalize lpL (Y.ctx (lim' Y)) 103 = lp
  generalize lim' Y = call
  kernel_rfl
theorem ipathRead.e (a0 : ByteArray) :
    ipathRead [AV.one (A1.v (Value.string a0))] [] =
    (strings_TrimPrefix [AV.one (A1.v (Value.string a0)), AV.one (A1.v (Value.string (ByteArray.mk #[47])))] []).bind fun val =>
  bif fitsCells [R1.str] val.1 && true then
    bif (val.1.getD 0 TC.d).str.toList == [] then some { cells := [TC.o Own.deep []], objs := [] }
    else
      (strings_Split [AV.one (A1.v (Value.string (val.1.getD 0 TC.d).str)), AV.one (A1.v (Value.string (ByteArray.mk #[47])))] []).bind fun val =>
        bif fitsCells [R1.own Own.deep] val.1 && true then some { cells := [TC.o Own.deep (val.1.getD 0 TC.d).es], objs := [] } else none
  else none := by
  refine (ipathRead.run _ _ (by kernel_rfl)).trans ?_
  delta ipathRead strings_TrimPrefix strings_Split XX
  generalize lpL (Y.ctx (lim' Y)) 104 = lp
  generalize lim' Y = call
  kernel_rfl
noncomputable def ipartRead.P5 (y0 : Bool) (y1 : Int) (y2 : ByteArray) (y3 : List (List D)) (y4 : List (List D)) (y5 : List (List D)) (y6 : Bool) (y7 : Int) (y8 : ByteArray) (y9 : List (List D)) (y10 : List (List D)) : Option Res := evB XX 105 (lpL XX 105) 5 ipartRead.c
  (mkG 0 32 [(3, AV.one (A1.p true 3 [] 0)), (4, AV.one (A1.r 4 [] 0)), (5, AV.one (A1.p true 5 [] 0))]
    [(3, some { kind := Kind.box, row := [D.v (Value.bool y0), D.v (Value.int IntKind.i64 y1), D.v (Value.string y2), D.s y3, D.s y4], fl := [Own.deep, Own.deep, Own.deep, Own.deep, Own.deep] }),
      (4, some { kind := Kind.virt, row := [D.s y5], fl := [Own.deep] }),
      (5, some { kind := Kind.box, row := [D.v (Value.bool y6), D.v (Value.int IntKind.i64 y7), D.v (Value.string y8), D.s y9, D.s y10], fl := [Own.deep, Own.deep, Own.deep, Own.deep, Own.deep] })]
    GL)
  (outE XX 105 Tryz.f105)
theorem ipartRead.e (a0 : ByteArray) :
    ipartRead [AV.one (A1.v (Value.string a0))] [] =
    (strings_Split [AV.one (A1.v (Value.string a0)), AV.one (A1.v (Value.string (ByteArray.mk #[32])))] []).bind fun val =>
  bif fitsCells [R1.own Own.deep] val.1 && true then
    bif rowsLen 1 (val.1.getD 0 TC.d).es && true && true && true && decide (((val.1.getD 0 TC.d).es.length + 3) * 17 ≤ 70368744177664) then
      bif
          decide (0 < (↑((val.1.getD 0 TC.d).es ++ [[D.v (Value.string (ByteArray.mk #[]))], [D.v (Value.string (ByteArray.mk #[]))], [D.v (Value.string (ByteArray.mk #[]))]]).length : Int)) &&
            decide ((((val.1.getD 0 TC.d).es ++ [[D.v (Value.string (ByteArray.mk #[]))], [D.v (Value.string (ByteArray.mk #[]))], [D.v (Value.string (ByteArray.mk #[]))]]).getD 0 []).length = 1) then
        bif
            fitsRow [CK.str] (((val.1.getD 0 TC.d).es ++ [[D.v (Value.string (ByteArray.mk #[]))], [D.v (Value.string (ByteArray.mk #[]))], [D.v (Value.string (ByteArray.mk #[]))]]).getD 0 []) 0 &&
              decide (1 ≤ (((val.1.getD 0 TC.d).es ++ [[D.v (Value.string (ByteArray.mk #[]))], [D.v (Value.string (ByteArray.mk #[]))], [D.v (Value.string (ByteArray.mk #[]))]]).getD 0 []).length) then
          bif
              decide (2 < (↑((val.1.getD 0 TC.d).es ++ [[D.v (Value.string (ByteArray.mk #[]))], [D.v (Value.string (ByteArray.mk #[]))], [D.v (Value.string (ByteArray.mk #[]))]]).length : Int)) &&
                decide ((((val.1.getD 0 TC.d).es ++ [[D.v (Value.string (ByteArray.mk #[]))], [D.v (Value.string (ByteArray.mk #[]))], [D.v (Value.string (ByteArray.mk #[]))]]).getD 2 []).length = 1) then
            bif
                fitsRow [CK.str] (((val.1.getD 0 TC.d).es ++ [[D.v (Value.string (ByteArray.mk #[]))], [D.v (Value.string (ByteArray.mk #[]))], [D.v (Value.string (ByteArray.mk #[]))]]).getD 2 []) 0 &&
                  decide (1 ≤ (((val.1.getD 0 TC.d).es ++ [[D.v (Value.string (ByteArray.mk #[]))], [D.v (Value.string (ByteArray.mk #[]))], [D.v (Value.string (ByteArray.mk #[]))]]).getD 2 []).length) then
              (inumRead
                    [AV.one
                        (A1.v
                          (Value.string
                            ((((val.1.getD 0 TC.d).es ++ [[D.v (Value.string (ByteArray.mk #[]))], [D.v (Value.string (ByteArray.mk #[]))], [D.v (Value.string (ByteArray.mk #[]))]]).getD 2 []).getD 0
                                D.h).str))]
                    []).bind
                fun val_1 =>
                bif fitsCells [R1.int IntKind.i64] val_1.1 && true then
                  bif
                      !((((val.1.getD 0 TC.d).es ++ [[D.v (Value.string (ByteArray.mk #[]))], [D.v (Value.string (ByteArray.mk #[]))], [D.v (Value.string (ByteArray.mk #[]))]]).getD 0 []).getD 0
                                D.h).str.toList ==
                          [(ByteArray.mk #[100, 105, 114]).get! 0, (ByteArray.mk #[100, 105, 114]).get! 1,
                            (ByteArray.mk #[100, 105, 114]).get! 2] then
                    bif
                        decide (3 < (↑((val.1.getD 0 TC.d).es ++ [[D.v (Value.string (ByteArray.mk #[]))], [D.v (Value.string (ByteArray.mk #[]))], [D.v (Value.string (ByteArray.mk #[]))]]).length : Int)) &&
                          decide
                            ((((val.1.getD 0 TC.d).es ++ [[D.v (Value.string (ByteArray.mk #[]))], [D.v (Value.string (ByteArray.mk #[]))], [D.v (Value.string (ByteArray.mk #[]))]]).getD 3 []).length = 1) then
                      bif
                          fitsRow [CK.str] (((val.1.getD 0 TC.d).es ++ [[D.v (Value.string (ByteArray.mk #[]))], [D.v (Value.string (ByteArray.mk #[]))], [D.v (Value.string (ByteArray.mk #[]))]]).getD 3 [])
                              0 &&
                            decide
                              (1 ≤
                                (((val.1.getD 0 TC.d).es ++ [[D.v (Value.string (ByteArray.mk #[]))], [D.v (Value.string (ByteArray.mk #[]))], [D.v (Value.string (ByteArray.mk #[]))]]).getD 3 []).length) then
                        (idataRead
                              [AV.one
                                  (A1.v
                                    (Value.string
                                      ((((val.1.getD 0 TC.d).es ++ [[D.v (Value.string (ByteArray.mk #[]))], [D.v (Value.string (ByteArray.mk #[]))], [D.v (Value.string (ByteArray.mk #[]))]]).getD 3 []).getD 0
                                          D.h).str))]
                              []).bind
                          fun val_2 =>
                          bif fitsCells [R1.str] val_2.1 && true then
                            ipartRead.P5 false 0 (ByteArray.mk #[]) [] []
                              ((val.1.getD 0 TC.d).es ++ [[D.v (Value.string (ByteArray.mk #[]))], [D.v (Value.string (ByteArray.mk #[]))], [D.v (Value.string (ByteArray.mk #[]))]])
                              (((((val.1.getD 0 TC.d).es ++ [[D.v (Value.string (ByteArray.mk #[]))], [D.v (Value.string (ByteArray.mk #[]))], [D.v (Value.string (ByteArray.mk #[]))]]).getD 0 []).getD 0
                                      D.h).str.toList ==
                                [(ByteArray.mk #[100, 105, 114]).get! 0, (ByteArray.mk #[100, 105, 114]).get! 1,
                                  (ByteArray.mk #[100, 105, 114]).get! 2])
                              (val_1.1.getD 0 TC.d).int (val_2.1.getD 0 TC.d).str [] []
                          else none
                      else none
                    else none
                  else
                    ipartRead.P5 false 0 (ByteArray.mk #[]) [] []
                      ((val.1.getD 0 TC.d).es ++ [[D.v (Value.string (ByteArray.mk #[]))], [D.v (Value.string (ByteArray.mk #[]))], [D.v (Value.string (ByteArray.mk #[]))]])
                      (((((val.1.getD 0 TC.d).es ++ [[D.v (Value.string (ByteArray.mk #[]))], [D.v (Value.string (ByteArray.mk #[]))], [D.v (Value.string (ByteArray.mk #[]))]]).getD 0 []).getD 0
                              D.h).str.toList ==
                        [(ByteArray.mk #[100, 105, 114]).get! 0, (ByteArray.mk #[100, 105, 114]).get! 1,
                          (ByteArray.mk #[100, 105, 114]).get! 2])
                      (val_1.1.getD 0 TC.d).int (ByteArray.mk #[]) [] []
                else none
            else none
          else none
        else none
      else none
    else none
  else none := by
  refine (ipartRead.run _ _ (by kernel_rfl)).trans ?_
  delta ipartRead strings_Split inumRead idataRead ipartRead.P5 XX
  refine join_use [5] (by kernel_rfl) fun J e1 => ?_
  try simp only [← e1]
  clear e1
  generalize lpL (Y.ctx (lim' Y)) 105 = lp
  generalize lim' Y = call
  kernel_rfl
theorem ipartRead.p5 (y0 : Bool) (y1 : Int) (y2 : ByteArray) (y3 : List (List D)) (y4 : List (List D)) (y5 : List (List D)) (y6 : Bool) (y7 : Int) (y8 : ByteArray) (y9 : List (List D)) (y10 : List (List D)) :
    ipartRead.P5 y0 y1 y2 y3 y4 y5 y6 y7 y8 y9 y10 =
    bif decide (1 < (↑y5.length : Int)) && decide ((y5.getD 1 []).length = 1) then
  bif fitsRow [CK.str] (y5.getD 1 []) 0 && decide (1 ≤ (y5.getD 1 []).length) then
    (ipathRead [AV.one (A1.v (Value.string ((y5.getD 1 []).getD 0 D.h).str))] []).bind fun val =>
      bif fitsCells [R1.own Own.deep] val.1 && true then
        some { cells := [TC.o Own.deep (val.1.getD 0 TC.d).es, TC.v (Value.bool y6), TC.v (Value.int IntKind.i64 y7), TC.v (Value.string y8), TC.s y9, TC.s y10], objs := [] }
      else none
  else none
else none := by
  delta ipartRead.P5 ipathRead XX
  refine join_at [5] 5 (by kernel_rfl) fun J e1 => ?_
  try simp only [← e1]
  clear e1
  generalize lpL (Y.ctx (lim' Y)) 105 = lp
  generalize lim' Y = call
  kernel_rfl
noncomputable def iUpperWrite.L3 (y0 : List (List D)) (y1 : Int) (y2 : Int) (y3 : List (List D)) (y4 : List (List D)) (y5 : ByteArray) : Option (Ex × St) := lpL XX 106 (bodyAt 3 iUpperWrite.c)
  (mkG 0 88 [(1, AV.one (A1.p true 1 [] 0)), (3, AV.one (A1.p true 3 [] 0)), (12, AV.one (A1.s y0)), (13, AV.one (A1.v (Value.int IntKind.i64 y1))), (14, AV.one (A1.v (Value.int IntKind.i64 y2)))]
    [(1, some { kind := Kind.box, row := [D.s y3, D.s y4], fl := [Own.sh, Own.sh] }), (3, some { kind := Kind.bld 170 5, row := [D.v (Value.string y5), D.h], fl := [Own.deep, Own.deep] })] GL)
noncomputable def iUpperWrite.A3 : Ex × St → Option Res := fun r => evA XX 106 (lpL XX 106) 3 iUpperWrite.c r.fst r.snd (outE XX 106 Tryz.f106)
noncomputable def iUpperWrite.q3 (y0 : ByteArray) (y1 : List (List D)) (y2 : List (List D)) (y3 : ByteArray) : Ex × St := (Ex.ret,
  mkG 0 88 [(1, AV.one (A1.p true 1 [] 0)), (2, AV.one (A1.v (Value.string y0))), (3, AV.one (A1.p true 3 [] 0))]
    [(1, some { kind := Kind.box, row := [D.s y1, D.s y2], fl := [Own.sh, Own.sh] }), (3, some { kind := Kind.bld 170 5, row := [D.v (Value.string y3), D.h], fl := [Own.deep, Own.deep] })] GL)
noncomputable def iUpperWrite.x3 (y0 : List (List D)) (y1 : List (List D)) (y2 : ByteArray) : Ex × St := (Ex.exit 0,
  mkG 0 88 [(1, AV.one (A1.p true 1 [] 0)), (3, AV.one (A1.p true 3 [] 0))]
    [(1, some { kind := Kind.box, row := [D.s y0, D.s y1], fl := [Own.sh, Own.sh] }), (3, some { kind := Kind.bld 170 5, row := [D.v (Value.string y2), D.h], fl := [Own.deep, Own.deep] })] GL)
noncomputable def iUpperWrite.L10 (y0 : List (List D)) (y1 : Int) (y2 : Int) (y3 : ByteArray) : Option (Ex × St) := lpL XX 106 (bodyAt 10 iUpperWrite.c)
  (mkG 0 88 [(3, AV.one (A1.p true 3 [] 0)), (29, AV.one (A1.s y0)), (30, AV.one (A1.v (Value.int IntKind.i64 y1))), (31, AV.one (A1.v (Value.int IntKind.i64 y2)))]
    [(3, some { kind := Kind.bld 170 5, row := [D.v (Value.string y3), D.h], fl := [Own.deep, Own.deep] })] GL)
noncomputable def iUpperWrite.A10 : Ex × St → Option Res := fun r => evA XX 106 (lpL XX 106) 10 iUpperWrite.c r.fst r.snd (outE XX 106 Tryz.f106)
noncomputable def iUpperWrite.P13 (y0 : Bool) (y1 : List (List D)) (y2 : Int) (y3 : Int) (y4 : ByteArray) (y5 : List (List D)) (y6 : Int) (y7 : Bool) (y8 : Int) (y9 : ByteArray) : Option (Ex × St) := evB XX 106 (lpL XX 106) 13 (bodyAt 10 iUpperWrite.c)
  (mkG 0 88
    [(3, AV.one (A1.p true 3 [] 0)), (7, AV.one (A1.p true 7 [] 0)), (8, AV.one (A1.v (Value.bool y0))), (29, AV.one (A1.s y1)), (30, AV.one (A1.v (Value.int IntKind.i64 y2))),
      (31, AV.one (A1.v (Value.int IntKind.i64 y3)))]
    [(3, some { kind := Kind.bld 170 5, row := [D.v (Value.string y4), D.h], fl := [Own.deep, Own.deep] }),
      (7,
        some
          { kind := Kind.box, row := [D.s y5, D.v (Value.int IntKind.i64 y6), D.v (Value.bool y7), D.v (Value.int IntKind.i64 y8), D.v (Value.string y9)],
            fl := [Own.sh, Own.deep, Own.deep, Own.deep, Own.deep] })]
    GL)
  (backL (lpL XX 106) (bodyAt 10 iUpperWrite.c) (XX.live 106 10))
noncomputable def iUpperWrite.x10 (y0 : ByteArray) : Ex × St := (Ex.exit 2, mkG 0 88 [(3, AV.one (A1.p true 3 [] 0))] [(3, some { kind := Kind.bld 170 5, row := [D.v (Value.string y0), D.h], fl := [Own.deep, Own.deep] })] GL)
noncomputable def iUpperWrite.P14 (y0 : List (List D)) (y1 : Int) (y2 : Int) (y3 : Bool) (y4 : ByteArray) (y5 : List (List D)) (y6 : Int) (y7 : Bool) (y8 : Int) (y9 : ByteArray) : Option (Ex × St) := evB XX 106 (lpL XX 106) 14 (bodyAt 10 iUpperWrite.c)
  (mkG 0 88
    [(3, AV.one (A1.p true 3 [] 0)), (7, AV.one (A1.p true 7 [] 0)), (29, AV.one (A1.s y0)), (30, AV.one (A1.v (Value.int IntKind.i64 y1))), (31, AV.one (A1.v (Value.int IntKind.i64 y2))),
      (69, AV.one (A1.v (Value.bool y3)))]
    [(3, some { kind := Kind.bld 170 5, row := [D.v (Value.string y4), D.h], fl := [Own.deep, Own.deep] }),
      (7,
        some
          { kind := Kind.box, row := [D.s y5, D.v (Value.int IntKind.i64 y6), D.v (Value.bool y7), D.v (Value.int IntKind.i64 y8), D.v (Value.string y9)],
            fl := [Own.sh, Own.deep, Own.deep, Own.deep, Own.deep] })]
    GL)
  (backL (lpL XX 106) (bodyAt 10 iUpperWrite.c) (XX.live 106 10))
noncomputable def iUpperWrite.q10 (y0 : ByteArray) (y1 : ByteArray) : Ex × St := (Ex.ret, mkG 0 88 [(2, AV.one (A1.v (Value.string y0))), (3, AV.one (A1.p true 3 [] 0))] [(3, some { kind := Kind.bld 170 5, row := [D.v (Value.string y1), D.h], fl := [Own.deep, Own.deep] })] GL)
noncomputable def iUpperWrite.P15 (y0 : List (List D)) (y1 : Int) (y2 : Int) (y3 : ByteArray) (y4 : List (List D)) (y5 : Int) (y6 : Bool) (y7 : Int) (y8 : ByteArray) : Option (Ex × St) := evB XX 106 (lpL XX 106) 15 (bodyAt 10 iUpperWrite.c)
  (mkG 0 88 [(3, AV.one (A1.p true 3 [] 0)), (7, AV.one (A1.p true 7 [] 0)), (29, AV.one (A1.s y0)), (30, AV.one (A1.v (Value.int IntKind.i64 y1))), (31, AV.one (A1.v (Value.int IntKind.i64 y2)))]
    [(3, some { kind := Kind.bld 170 5, row := [D.v (Value.string y3), D.h], fl := [Own.deep, Own.deep] }),
      (7,
        some
          { kind := Kind.box, row := [D.s y4, D.v (Value.int IntKind.i64 y5), D.v (Value.bool y6), D.v (Value.int IntKind.i64 y7), D.v (Value.string y8)],
            fl := [Own.sh, Own.deep, Own.deep, Own.deep, Own.deep] })]
    GL)
  (backL (lpL XX 106) (bodyAt 10 iUpperWrite.c) (XX.live 106 10))
theorem iUpperWrite.e (a0 : List (List D)) (a1 : List (List D)) :
    iUpperWrite [AV.g [A1.s a0, A1.s a1]] [] =
    (iUpperWrite.L3 a0 (↑a0.length : Int) 0 a0 a1 (ByteArray.mk #[])).bind iUpperWrite.A3 := by
  refine (iUpperWrite.run _ _ (by kernel_rfl)).trans ?_
  delta iUpperWrite iUpperWrite.L3 iUpperWrite.A3 XX
  generalize lpL (Y.ctx (lim' Y)) 106 = lp
  generalize lim' Y = call
  kernel_rfl
theorem iUpperWrite.s3 (y0 : List (List D)) (y1 : Int) (y2 : Int) (y3 : List (List D)) (y4 : List (List D)) (y5 : ByteArray) :
    iUpperWrite.L3 y0 y1 y2 y3 y4 y5 =
    bif decide (y2 < y1) then
  bif decide (0 ≤ y2) && decide (y2 < (↑y0.length : Int)) && decide ((y0.getD y2.toNat []).length = 1) then
    bif fitsRow [CK.sl] (y0.getD y2.toNat []) 0 && decide (1 ≤ (y0.getD y2.toNat []).length) then
      (inamesOk [AV.one (A1.s ((y0.getD y2.toNat []).getD 0 D.h).es), AV.one (A1.v (Value.int IntKind.i64 1))] []).bind fun val =>
        bif fitsCells [R1.bool] val.1 && true then
          bif !(val.1.getD 0 TC.d).bool then some (iUpperWrite.q3 (ByteArray.mk #[]) y3 y4 y5)
          else
            (ipathText [AV.one (A1.s ((y0.getD y2.toNat []).getD 0 D.h).es)] []).bind fun val =>
              bif fitsCells [R1.str] val.1 && true then
                bif decide (5 + (val.1.getD 0 TC.d).str.size ≤ 70368744177664) then
                  bif decide (((ByteArray.mk #[104, 105, 100, 101, 32]) ++ (val.1.getD 0 TC.d).str).size + 1 ≤ 70368744177664) then
                    (strings_Builder_WriteString
                          [AV.one (A1.p true 0 [] 0),
                            AV.one
                              (A1.v
                                (Value.string
                                  ((ByteArray.mk #[104, 105, 100, 101, 32]) ++ (val.1.getD 0 TC.d).str ++ (ByteArray.mk #[10]))))]
                          [{ kind := Kind.bld 170 5, row := [D.v (Value.string y5), D.h], fl := [Own.deep, Own.deep] }]).bind
                      fun val =>
                      bif
                          fitsCells [R1.int IntKind.i64, R1.any] val.1 &&
                            fitsCos [{ ob := { kind := Kind.bld 170 5, row := [D.v (Value.string y5), D.h], fl := [Own.deep, Own.deep] }, src := Src.box 3 }] val.2 then
                        iUpperWrite.L3 y0 y1 (IntKind.i64.wrap (y2 + 1)) y3 y4 ((val.2.getD 0 { kind := Kind.ro, row := [], fl := [] }).2.getD 0 D.h).str
                      else none
                  else none
                else none
              else none
        else none
    else none
  else none
else some (iUpperWrite.x3 y3 y4 y5) := by
  refine (lpL_eq (Y := Y) (c := lim' Y) (fn := 106) (rid := 3) (b := bodyAt 3 iUpperWrite.c) (by kernel_rfl) _).trans ?_
  delta iUpperWrite.L3 inamesOk iUpperWrite.q3 ipathText strings_Builder_WriteString iUpperWrite.x3 XX
  generalize lpL (Y.ctx (lim' Y)) 106 = lp
  generalize lim' Y = call
  kernel_rfl
theorem iUpperWrite.a3q3 (y0 : ByteArray) (y1 : List (List D)) (y2 : List (List D)) (y3 : ByteArray) :
    iUpperWrite.A3 (iUpperWrite.q3 y0 y1 y2 y3) =
    some { cells := [TC.v (Value.string y0)], objs := [] } := by
  delta iUpperWrite.A3 iUpperWrite.q3 XX
  generalize lpL (Y.ctx (lim' Y)) 106 = lp
  generalize lim' Y = call
  kernel_rfl
theorem iUpperWrite.a3x3 (y0 : List (List D)) (y1 : List (List D)) (y2 : ByteArray) :
    iUpperWrite.A3 (iUpperWrite.x3 y0 y1 y2) =
    (iUpperWrite.L10 y1 (↑y1.length : Int) 0 y2).bind iUpperWrite.A10 := by
  delta iUpperWrite.A3 iUpperWrite.x3 iUpperWrite.L10 iUpperWrite.A10 XX
  generalize lpL (Y.ctx (lim' Y)) 106 = lp
  generalize lim' Y = call
  kernel_rfl
theorem iUpperWrite.s10 (y0 : List (List D)) (y1 : Int) (y2 : Int) (y3 : ByteArray) :
    iUpperWrite.L10 y0 y1 y2 y3 =
    bif decide (y2 < y1) then
  bif decide (0 ≤ y2) && decide (y2 < (↑y0.length : Int)) && decide ((y0.getD y2.toNat []).length = 5) then
    bif fitsRow [CK.sl, CK.int IntKind.i64, CK.bool, CK.int IntKind.i64, CK.str] (y0.getD y2.toNat []) 0 && decide (5 ≤ (y0.getD y2.toNat []).length) then
      bif (↑((y0.getD y2.toNat []).getD 0 D.h).es.length : Int) == 0 then
        bif ((y0.getD y2.toNat []).getD 1 D.h).int == 2 then
          bif ((y0.getD y2.toNat []).getD 2 D.h).bool then
            (imodeOk [AV.one (A1.v (Value.int IntKind.i64 ((y0.getD y2.toNat []).getD 3 D.h).int))] []).bind fun val =>
              bif fitsCells [R1.bool] val.1 && true then
                bif (val.1.getD 0 TC.d).bool then
                  iUpperWrite.P13 (((y0.getD y2.toNat []).getD 4 D.h).str.toList == []) y0 y1 y2 y3 ((y0.getD y2.toNat []).getD 0 D.h).es ((y0.getD y2.toNat []).getD 1 D.h).int
                    ((y0.getD y2.toNat []).getD 2 D.h).bool ((y0.getD y2.toNat []).getD 3 D.h).int ((y0.getD y2.toNat []).getD 4 D.h).str
                else
                  iUpperWrite.P13 false y0 y1 y2 y3 ((y0.getD y2.toNat []).getD 0 D.h).es ((y0.getD y2.toNat []).getD 1 D.h).int ((y0.getD y2.toNat []).getD 2 D.h).bool
                    ((y0.getD y2.toNat []).getD 3 D.h).int ((y0.getD y2.toNat []).getD 4 D.h).str
              else none
          else
            iUpperWrite.P13 false y0 y1 y2 y3 ((y0.getD y2.toNat []).getD 0 D.h).es ((y0.getD y2.toNat []).getD 1 D.h).int ((y0.getD y2.toNat []).getD 2 D.h).bool
              ((y0.getD y2.toNat []).getD 3 D.h).int ((y0.getD y2.toNat []).getD 4 D.h).str
        else
          iUpperWrite.P13 false y0 y1 y2 y3 ((y0.getD y2.toNat []).getD 0 D.h).es ((y0.getD y2.toNat []).getD 1 D.h).int ((y0.getD y2.toNat []).getD 2 D.h).bool ((y0.getD y2.toNat []).getD 3 D.h).int
            ((y0.getD y2.toNat []).getD 4 D.h).str
      else
        iUpperWrite.P13 false y0 y1 y2 y3 ((y0.getD y2.toNat []).getD 0 D.h).es ((y0.getD y2.toNat []).getD 1 D.h).int ((y0.getD y2.toNat []).getD 2 D.h).bool ((y0.getD y2.toNat []).getD 3 D.h).int
          ((y0.getD y2.toNat []).getD 4 D.h).str
    else none
  else none
else some (iUpperWrite.x10 y3) := by
  refine (lpL_eq (Y := Y) (c := lim' Y) (fn := 106) (rid := 10) (b := bodyAt 10 iUpperWrite.c) (by kernel_rfl) _).trans ?_
  delta iUpperWrite.L10 imodeOk iUpperWrite.P13 iUpperWrite.x10 XX
  refine join_use [13, 14, 15] (by kernel_rfl) fun J e1 => ?_
  try simp only [← e1]
  clear e1
  generalize lpL (Y.ctx (lim' Y)) 106 = lp
  generalize lim' Y = call
  kernel_rfl
theorem iUpperWrite.p13 (y0 : Bool) (y1 : List (List D)) (y2 : Int) (y3 : Int) (y4 : ByteArray) (y5 : List (List D)) (y6 : Int) (y7 : Bool) (y8 : Int) (y9 : ByteArray) :
    iUpperWrite.P13 y0 y1 y2 y3 y4 y5 y6 y7 y8 y9 =
    bif !y0 then
  (ientryOk [AV.g [A1.s y5, A1.v (Value.int IntKind.i64 y6), A1.v (Value.bool y7), A1.v (Value.int IntKind.i64 y8), A1.v (Value.string y9)]] []).bind fun val =>
    bif fitsCells [R1.bool] val.1 && true then bif !(val.1.getD 0 TC.d).bool then iUpperWrite.P14 y1 y2 y3 true y4 y5 y6 y7 y8 y9 else iUpperWrite.P14 y1 y2 y3 (y6 != 2) y4 y5 y6 y7 y8 y9 else none
else iUpperWrite.P14 y1 y2 y3 false y4 y5 y6 y7 y8 y9 := by
  delta iUpperWrite.P13 ientryOk iUpperWrite.P14 XX
  refine join_at [13, 14, 15] 13 (by kernel_rfl) fun J e1 => ?_
  try simp only [← e1]
  clear e1
  generalize lpL (Y.ctx (lim' Y)) 106 = lp
  generalize lim' Y = call
  kernel_rfl
theorem iUpperWrite.a10x10 (y0 : ByteArray) :
    iUpperWrite.A10 (iUpperWrite.x10 y0) =
    (strings_Builder_Len [AV.one (A1.p true 0 [] 0)] [{ kind := Kind.bld 170 5, row := [D.v (Value.string y0), D.h], fl := [Own.deep, Own.deep] }]).bind fun val =>
  bif fitsCells [R1.int IntKind.i64] val.1 && fitsCos [{ ob := { kind := Kind.bld 170 5, row := [D.v (Value.string y0), D.h], fl := [Own.deep, Own.deep] }, src := Src.box 3 }] val.2 then
    bif decide ((val.1.getD 0 TC.d).int > 4000) then some { cells := [TC.v (Value.string (ByteArray.mk #[]))], objs := [] }
    else
      (strings_Builder_String [AV.one (A1.p true 0 [] 0)]
            [{ kind := Kind.bld 170 5, row := [D.v (Value.string ((val.2.getD 0 { kind := Kind.ro, row := [], fl := [] }).2.getD 0 D.h).str), D.h], fl := [Own.deep, Own.deep] }]).bind
        fun val_1 =>
        bif
            fitsCells [R1.str] val_1.1 &&
              fitsCos
                [{ ob := { kind := Kind.bld 170 5, row := [D.v (Value.string ((val.2.getD 0 { kind := Kind.ro, row := [], fl := [] }).2.getD 0 D.h).str), D.h], fl := [Own.deep, Own.deep] },
                    src := Src.box 3 }]
                val_1.2 then
          some { cells := [TC.v (Value.string (val_1.1.getD 0 TC.d).str)], objs := [] }
        else none
  else none := by
  delta iUpperWrite.A10 iUpperWrite.x10 strings_Builder_Len strings_Builder_String XX
  generalize lpL (Y.ctx (lim' Y)) 106 = lp
  generalize lim' Y = call
  kernel_rfl
theorem iUpperWrite.p14 (y0 : List (List D)) (y1 : Int) (y2 : Int) (y3 : Bool) (y4 : ByteArray) (y5 : List (List D)) (y6 : Int) (y7 : Bool) (y8 : Int) (y9 : ByteArray) :
    iUpperWrite.P14 y0 y1 y2 y3 y4 y5 y6 y7 y8 y9 =
    bif y3 then some (iUpperWrite.q10 (ByteArray.mk #[]) y4) else iUpperWrite.P15 y0 y1 y2 y4 y5 y6 y7 y8 y9 := by
  delta iUpperWrite.P14 iUpperWrite.q10 iUpperWrite.P15 XX
  refine join_at [13, 14, 15] 14 (by kernel_rfl) fun J e1 => ?_
  try simp only [← e1]
  clear e1
  generalize lpL (Y.ctx (lim' Y)) 106 = lp
  generalize lim' Y = call
  kernel_rfl
theorem iUpperWrite.a10q10 (y0 : ByteArray) (y1 : ByteArray) :
    iUpperWrite.A10 (iUpperWrite.q10 y0 y1) =
    some { cells := [TC.v (Value.string y0)], objs := [] } := by
  delta iUpperWrite.A10 iUpperWrite.q10 XX
  generalize lpL (Y.ctx (lim' Y)) 106 = lp
  generalize lim' Y = call
  kernel_rfl
theorem iUpperWrite.p15 (y0 : List (List D)) (y1 : Int) (y2 : Int) (y3 : ByteArray) (y4 : List (List D)) (y5 : Int) (y6 : Bool) (y7 : Int) (y8 : ByteArray) :
    iUpperWrite.P15 y0 y1 y2 y3 y4 y5 y6 y7 y8 =
    (iTree_line [AV.g [A1.v (Value.bool y6), A1.v (Value.int IntKind.i64 y7), A1.v (Value.string y8), A1.v (Value.slice none 0 0), A1.v (Value.slice none 0 0)], AV.one (A1.s y4)] []).bind fun val =>
  bif fitsCells [R1.str] val.1 && true then
    (strings_Builder_WriteString [AV.one (A1.p true 0 [] 0), AV.one (A1.v (Value.string (val.1.getD 0 TC.d).str))]
          [{ kind := Kind.bld 170 5, row := [D.v (Value.string y3), D.h], fl := [Own.deep, Own.deep] }]).bind
      fun val =>
      bif fitsCells [R1.int IntKind.i64, R1.any] val.1 && fitsCos [{ ob := { kind := Kind.bld 170 5, row := [D.v (Value.string y3), D.h], fl := [Own.deep, Own.deep] }, src := Src.box 3 }] val.2 then
        iUpperWrite.L10 y0 y1 (IntKind.i64.wrap (y2 + 1)) ((val.2.getD 0 { kind := Kind.ro, row := [], fl := [] }).2.getD 0 D.h).str
      else none
  else none := by
  delta iUpperWrite.P15 iTree_line strings_Builder_WriteString iUpperWrite.L10 XX
  refine join_at [13, 14, 15] 15 (by kernel_rfl) fun J e1 => ?_
  try simp only [← e1]
  clear e1
  generalize lpL (Y.ctx (lim' Y)) 106 = lp
  generalize lim' Y = call
  kernel_rfl
noncomputable def weqStringSS.L4 (y0 : List (List D)) (y1 : List (List D)) (y2 : Int) : Option (Ex × St) := lpL XX 107 (bodyAt 4 weqStringSS.c) (mkG 0 27 [(0, AV.one (A1.s y0)), (1, AV.one (A1.s y1)), (5, AV.one (A1.v (Value.int IntKind.i64 y2)))] [] GL)
noncomputable def weqStringSS.A4 : Ex × St → Option Res := fun r => evA XX 107 (lpL XX 107) 4 weqStringSS.c r.fst r.snd (outE XX 107 Tryz.f107)
noncomputable def weqStringSS.q4 (y0 : Bool) : Ex × St := (Ex.ret, mkG 0 27 [(4, AV.one (A1.v (Value.bool y0)))] [] GL)
noncomputable def weqStringSS.x4 : Ex × St := (Ex.exit 0, mkG 0 27 [] [] GL)
theorem weqStringSS.e (a0 : List (List D)) (a1 : List (List D)) :
    weqStringSS [AV.one (A1.s a0), AV.one (A1.s a1)] [] =
    bif (↑a0.length : Int) != (↑a1.length : Int) then some { cells := [TC.v (Value.bool false)], objs := [] } else (weqStringSS.L4 a0 a1 0).bind weqStringSS.A4 := by
  refine (weqStringSS.run _ _ (by kernel_rfl)).trans ?_
  delta weqStringSS weqStringSS.L4 weqStringSS.A4 XX
  generalize lpL (Y.ctx (lim' Y)) 107 = lp
  generalize lim' Y = call
  kernel_rfl
theorem weqStringSS.s4 (y0 : List (List D)) (y1 : List (List D)) (y2 : Int) :
    weqStringSS.L4 y0 y1 y2 =
    bif decide (y2 < (↑y0.length : Int)) then
  bif decide (0 ≤ y2) && decide (y2 < (↑y0.length : Int)) && decide ((y0.getD y2.toNat []).length = 1) then
    bif fitsRow [CK.sl] (y0.getD y2.toNat []) 0 && decide (1 ≤ (y0.getD y2.toNat []).length) then
      bif decide (0 ≤ y2) && decide (y2 < (↑y1.length : Int)) && decide ((y1.getD y2.toNat []).length = 1) then
        bif fitsRow [CK.sl] (y1.getD y2.toNat []) 0 && decide (1 ≤ (y1.getD y2.toNat []).length) then
          (weqStringS [AV.one (A1.s ((y0.getD y2.toNat []).getD 0 D.h).es), AV.one (A1.s ((y1.getD y2.toNat []).getD 0 D.h).es)] []).bind fun val =>
            bif fitsCells [R1.bool] val.1 && true then bif !(val.1.getD 0 TC.d).bool then some (weqStringSS.q4 false) else weqStringSS.L4 y0 y1 (IntKind.i64.wrap (y2 + 1)) else none
        else none
      else none
    else none
  else none
else some weqStringSS.x4 := by
  refine (lpL_eq (Y := Y) (c := lim' Y) (fn := 107) (rid := 4) (b := bodyAt 4 weqStringSS.c) (by kernel_rfl) _).trans ?_
  delta weqStringSS.L4 weqStringS weqStringSS.q4 weqStringSS.x4 XX
  generalize lpL (Y.ctx (lim' Y)) 107 = lp
  generalize lim' Y = call
  kernel_rfl
theorem weqStringSS.a4q4 (y0 : Bool) :
    weqStringSS.A4 (weqStringSS.q4 y0) =
    some { cells := [TC.v (Value.bool y0)], objs := [] } := by
  delta weqStringSS.A4 weqStringSS.q4 XX
  generalize lpL (Y.ctx (lim' Y)) 107 = lp
  generalize lim' Y = call
  kernel_rfl
theorem weqStringSS.a4x4 :
    weqStringSS.A4 weqStringSS.x4 =
    some { cells := [TC.v (Value.bool true)], objs := [] } := by
  delta weqStringSS.A4 weqStringSS.x4 XX
  generalize lpL (Y.ctx (lim' Y)) 107 = lp
  generalize lim' Y = call
  kernel_rfl
noncomputable def weqEntryS.L4 (y0 : List (List D)) (y1 : List (List D)) (y2 : Int) : Option (Ex × St) := lpL XX 108 (bodyAt 4 weqEntryS.c) (mkG 0 27 [(0, AV.one (A1.s y0)), (1, AV.one (A1.s y1)), (5, AV.one (A1.v (Value.int IntKind.i64 y2)))] [] GL)
noncomputable def weqEntryS.A4 : Ex × St → Option Res := fun r => evA XX 108 (lpL XX 108) 4 weqEntryS.c r.fst r.snd (outE XX 108 Tryz.f108)
noncomputable def weqEntryS.q4 (y0 : Bool) : Ex × St := (Ex.ret, mkG 0 27 [(4, AV.one (A1.v (Value.bool y0)))] [] GL)
noncomputable def weqEntryS.x4 : Ex × St := (Ex.exit 0, mkG 0 27 [] [] GL)
theorem weqEntryS.e (a0 : List (List D)) (a1 : List (List D)) :
    weqEntryS [AV.one (A1.s a0), AV.one (A1.s a1)] [] =
    bif (↑a0.length : Int) != (↑a1.length : Int) then some { cells := [TC.v (Value.bool false)], objs := [] } else (weqEntryS.L4 a0 a1 0).bind weqEntryS.A4 := by
  refine (weqEntryS.run _ _ (by kernel_rfl)).trans ?_
  delta weqEntryS weqEntryS.L4 weqEntryS.A4 XX
  generalize lpL (Y.ctx (lim' Y)) 108 = lp
  generalize lim' Y = call
  kernel_rfl
theorem weqEntryS.s4 (y0 : List (List D)) (y1 : List (List D)) (y2 : Int) :
    weqEntryS.L4 y0 y1 y2 =
    bif decide (y2 < (↑y0.length : Int)) then
  bif decide (0 ≤ y2) && decide (y2 < (↑y0.length : Int)) && decide ((y0.getD y2.toNat []).length = 5) then
    bif fitsRow [CK.sl, CK.int IntKind.i64, CK.bool, CK.int IntKind.i64, CK.str] (y0.getD y2.toNat []) 0 && decide (5 ≤ (y0.getD y2.toNat []).length) then
      bif decide (0 ≤ y2) && decide (y2 < (↑y1.length : Int)) && decide ((y1.getD y2.toNat []).length = 5) then
        bif fitsRow [CK.sl, CK.int IntKind.i64, CK.bool, CK.int IntKind.i64, CK.str] (y1.getD y2.toNat []) 0 && decide (5 ≤ (y1.getD y2.toNat []).length) then
          (weqEntry
                [AV.g
                    [A1.s ((y0.getD y2.toNat []).getD 0 D.h).es, A1.v (Value.int IntKind.i64 ((y0.getD y2.toNat []).getD 1 D.h).int), A1.v (Value.bool ((y0.getD y2.toNat []).getD 2 D.h).bool),
                      A1.v (Value.int IntKind.i64 ((y0.getD y2.toNat []).getD 3 D.h).int), A1.v (Value.string ((y0.getD y2.toNat []).getD 4 D.h).str)],
                  AV.g
                    [A1.s ((y1.getD y2.toNat []).getD 0 D.h).es, A1.v (Value.int IntKind.i64 ((y1.getD y2.toNat []).getD 1 D.h).int), A1.v (Value.bool ((y1.getD y2.toNat []).getD 2 D.h).bool),
                      A1.v (Value.int IntKind.i64 ((y1.getD y2.toNat []).getD 3 D.h).int), A1.v (Value.string ((y1.getD y2.toNat []).getD 4 D.h).str)]]
                []).bind
            fun val => bif fitsCells [R1.bool] val.1 && true then bif !(val.1.getD 0 TC.d).bool then some (weqEntryS.q4 false) else weqEntryS.L4 y0 y1 (IntKind.i64.wrap (y2 + 1)) else none
        else none
      else none
    else none
  else none
else some weqEntryS.x4 := by
  refine (lpL_eq (Y := Y) (c := lim' Y) (fn := 108) (rid := 4) (b := bodyAt 4 weqEntryS.c) (by kernel_rfl) _).trans ?_
  delta weqEntryS.L4 weqEntry weqEntryS.q4 weqEntryS.x4 XX
  generalize lpL (Y.ctx (lim' Y)) 108 = lp
  generalize lim' Y = call
  kernel_rfl
theorem weqEntryS.a4q4 (y0 : Bool) :
    weqEntryS.A4 (weqEntryS.q4 y0) =
    some { cells := [TC.v (Value.bool y0)], objs := [] } := by
  delta weqEntryS.A4 weqEntryS.q4 XX
  generalize lpL (Y.ctx (lim' Y)) 108 = lp
  generalize lim' Y = call
  kernel_rfl
theorem weqEntryS.a4x4 :
    weqEntryS.A4 weqEntryS.x4 =
    some { cells := [TC.v (Value.bool true)], objs := [] } := by
  delta weqEntryS.A4 weqEntryS.x4 XX
  generalize lpL (Y.ctx (lim' Y)) 108 = lp
  generalize lim' Y = call
  kernel_rfl
noncomputable def wmarkStringSS.L2 (y0 : Int) (y1 : Int) (y2 : List (List D)) : Option (Ex × St) := lpL XX 109 (bodyAt 2 wmarkStringSS.c)
  (mkG 1 19 [(0, AV.one (A1.r 0 [] 0)), (1, AV.one (A1.v (Value.int IntKind.i64 y0))), (5, AV.one (A1.v (Value.int IntKind.i64 y1)))]
    [(0, some { kind := Kind.virt, row := [D.s y2], fl := [Own.deep] })] GL)
noncomputable def wmarkStringSS.A2 : Ex × St → Option Res := fun r => evA XX 109 (lpL XX 109) 2 wmarkStringSS.c r.fst r.snd (outE XX 109 Tryz.f109)
noncomputable def wmarkStringSS.x2 (y0 : Int) (y1 : List (List D)) : Ex × St := (Ex.exit 0, mkG 1 19 [(1, AV.one (A1.v (Value.int IntKind.i64 y0)))] [(0, some { kind := Kind.virt, row := [D.s y1], fl := [Own.deep] })] GL)
theorem wmarkStringSS.e (a0 : List (List D)) (a1 : Int) :
    wmarkStringSS [AV.one (A1.r 0 [] 0), AV.one (A1.v (Value.int IntKind.i64 a1))] [{ kind := Kind.virt, row := [D.s a0], fl := [Own.deep] }] =
    (wmarkStringSS.L2 a1 0 a0).bind wmarkStringSS.A2 := by
  refine (wmarkStringSS.run _ _ (by kernel_rfl)).trans ?_
  delta wmarkStringSS wmarkStringSS.L2 wmarkStringSS.A2 XX
  generalize lpL (Y.ctx (lim' Y)) 109 = lp
  generalize lim' Y = call
  kernel_rfl
theorem wmarkStringSS.s2 (y0 : Int) (y1 : Int) (y2 : List (List D)) :
    wmarkStringSS.L2 y0 y1 y2 =
    bif decide (y1 < (↑y2.length : Int)) then
  bif decide (0 ≤ y1) && decide (y1 < (↑y2.length : Int)) && decide ((y2.getD y1.toNat []).length = 1) then
    bif fitsRow [CK.sl] (y2.getD y1.toNat []) 0 && decide (1 ≤ (y2.getD y1.toNat []).length) then
      (wmarkStringS [AV.one (A1.r 0 [] 0), AV.one (A1.v (Value.int IntKind.i64 y0))] [{ kind := Kind.virt, row := [D.s ((y2.getD y1.toNat []).getD 0 D.h).es], fl := [Own.deep] }]).bind fun val =>
        bif
            fitsCells [R1.int IntKind.i64] val.1 &&
              fitsCos [{ ob := { kind := Kind.virt, row := [D.s ((y2.getD y1.toNat []).getD 0 D.h).es], fl := [Own.deep] }, src := Src.sl 0 [(0, y1.toNat)] 0 }] val.2 then
          wmarkStringSS.L2 (val.1.getD 0 TC.d).int (IntKind.i64.wrap (y1 + 1))
            (y2.set y1.toNat ((y2.getD y1.toNat []).set 0 (D.s ((val.2.getD 0 { kind := Kind.ro, row := [], fl := [] }).2.getD 0 D.h).es)))
        else none
    else none
  else none
else some (wmarkStringSS.x2 y0 y2) := by
  refine (lpL_eq (Y := Y) (c := lim' Y) (fn := 109) (rid := 2) (b := bodyAt 2 wmarkStringSS.c) (by kernel_rfl) _).trans ?_
  delta wmarkStringSS.L2 wmarkStringS wmarkStringSS.x2 XX
  generalize lpL (Y.ctx (lim' Y)) 109 = lp
  generalize lim' Y = call
  kernel_rfl
theorem wmarkStringSS.a2x2 (y0 : Int) (y1 : List (List D)) :
    wmarkStringSS.A2 (wmarkStringSS.x2 y0 y1) =
    some { cells := [TC.v (Value.int IntKind.i64 y0)], objs := [{ kind := Kind.virt, row := [D.s y1], fl := [Own.deep] }] } := by
  delta wmarkStringSS.A2 wmarkStringSS.x2 XX
  generalize lpL (Y.ctx (lim' Y)) 109 = lp
  generalize lim' Y = call
  kernel_rfl
noncomputable def wmarkEntryS.L2 (y0 : Int) (y1 : Int) (y2 : List (List D)) : Option (Ex × St) := lpL XX 110 (bodyAt 2 wmarkEntryS.c)
  (mkG 1 51 [(0, AV.one (A1.r 0 [] 0)), (1, AV.one (A1.v (Value.int IntKind.i64 y0))), (5, AV.one (A1.v (Value.int IntKind.i64 y1)))]
    [(0, some { kind := Kind.virt, row := [D.s y2], fl := [Own.deep] })] GL)
noncomputable def wmarkEntryS.A2 : Ex × St → Option Res := fun r => evA XX 110 (lpL XX 110) 2 wmarkEntryS.c r.fst r.snd (outE XX 110 Tryz.f110)
noncomputable def wmarkEntryS.P8 (y0 : Int) (y1 : Int) (y2 : List (List D)) : Option (Ex × St) := evB XX 110 (lpL XX 110) 8 (bodyAt 2 wmarkEntryS.c)
  (mkG 1 51 [(0, AV.one (A1.r 0 [] 0)), (1, AV.one (A1.v (Value.int IntKind.i64 y0))), (5, AV.one (A1.v (Value.int IntKind.i64 y1)))]
    [(0, some { kind := Kind.virt, row := [D.s y2], fl := [Own.deep] })] GL)
  (backL (lpL XX 110) (bodyAt 2 wmarkEntryS.c) (XX.live 110 2))
noncomputable def wmarkEntryS.x2 (y0 : Int) (y1 : List (List D)) : Ex × St := (Ex.exit 0, mkG 1 51 [(1, AV.one (A1.v (Value.int IntKind.i64 y0)))] [(0, some { kind := Kind.virt, row := [D.s y1], fl := [Own.deep] })] GL)
theorem wmarkEntryS.e (a0 : List (List D)) (a1 : Int) :
    wmarkEntryS [AV.one (A1.r 0 [] 0), AV.one (A1.v (Value.int IntKind.i64 a1))] [{ kind := Kind.virt, row := [D.s a0], fl := [Own.deep] }] =
    (wmarkEntryS.L2 a1 0 a0).bind wmarkEntryS.A2 := by
  refine (wmarkEntryS.run _ _ (by kernel_rfl)).trans ?_
  delta wmarkEntryS wmarkEntryS.L2 wmarkEntryS.A2 XX
  generalize lpL (Y.ctx (lim' Y)) 110 = lp
  generalize lim' Y = call
  kernel_rfl
theorem wmarkEntryS.s2 (y0 : Int) (y1 : Int) (y2 : List (List D)) :
    wmarkEntryS.L2 y0 y1 y2 =
    bif decide (y1 < (↑y2.length : Int)) then
  bif decide (0 ≤ y1) && decide (y1 < (↑y2.length : Int)) && decide ((y2.getD y1.toNat []).length = 5) then
    bif fitsRow [CK.sl] (y2.getD y1.toNat []) 0 && decide (1 ≤ (y2.getD y1.toNat []).length) then
      (wmarkStringS [AV.one (A1.r 0 [] 0), AV.one (A1.v (Value.int IntKind.i64 y0))] [{ kind := Kind.virt, row := [D.s ((y2.getD y1.toNat []).getD 0 D.h).es], fl := [Own.deep] }]).bind fun val =>
        bif
            fitsCells [R1.int IntKind.i64] val.1 &&
              fitsCos [{ ob := { kind := Kind.virt, row := [D.s ((y2.getD y1.toNat []).getD 0 D.h).es], fl := [Own.deep] }, src := Src.sl 0 [(0, y1.toNat)] 0 }] val.2 then
          bif
              decide (0 ≤ y1) && decide (y1 < (↑(y2.set y1.toNat ((y2.getD y1.toNat []).set 0 (D.s ((val.2.getD 0 { kind := Kind.ro, row := [], fl := [] }).2.getD 0 D.h).es))).length : Int)) &&
                decide (((y2.set y1.toNat ((y2.getD y1.toNat []).set 0 (D.s ((val.2.getD 0 { kind := Kind.ro, row := [], fl := [] }).2.getD 0 D.h).es))).getD y1.toNat []).length = 5) then
            bif decide (2 ≤ ((y2.set y1.toNat ((y2.getD y1.toNat []).set 0 (D.s ((val.2.getD 0 { kind := Kind.ro, row := [], fl := [] }).2.getD 0 D.h).es))).getD y1.toNat []).length) && true then
              bif
                  decide (0 ≤ y1) &&
                      decide
                        (y1 <
                          (↑((y2.set y1.toNat ((y2.getD y1.toNat []).set 0 (D.s ((val.2.getD 0 { kind := Kind.ro, row := [], fl := [] }).2.getD 0 D.h).es))).set y1.toNat
                                  (List.take 1 ((y2.set y1.toNat ((y2.getD y1.toNat []).set 0 (D.s ((val.2.getD 0 { kind := Kind.ro, row := [], fl := [] }).2.getD 0 D.h).es))).getD y1.toNat []) ++
                                      [D.v (Value.int IntKind.i64 (val.1.getD 0 TC.d).int)] ++
                                    List.drop 2
                                      ((y2.set y1.toNat ((y2.getD y1.toNat []).set 0 (D.s ((val.2.getD 0 { kind := Kind.ro, row := [], fl := [] }).2.getD 0 D.h).es))).getD y1.toNat []))).length :
                            Int)) &&
                    decide
                      ((((y2.set y1.toNat ((y2.getD y1.toNat []).set 0 (D.s ((val.2.getD 0 { kind := Kind.ro, row := [], fl := [] }).2.getD 0 D.h).es))).set y1.toNat
                                (List.take 1 ((y2.set y1.toNat ((y2.getD y1.toNat []).set 0 (D.s ((val.2.getD 0 { kind := Kind.ro, row := [], fl := [] }).2.getD 0 D.h).es))).getD y1.toNat []) ++
                                    [D.v (Value.int IntKind.i64 (val.1.getD 0 TC.d).int)] ++
                                  List.drop 2 ((y2.set y1.toNat ((y2.getD y1.toNat []).set 0 (D.s ((val.2.getD 0 { kind := Kind.ro, row := [], fl := [] }).2.getD 0 D.h).es))).getD y1.toNat []))).getD
                            y1.toNat []).length =
                        5) then
                bif
                    decide
                        (3 ≤
                          (((y2.set y1.toNat ((y2.getD y1.toNat []).set 0 (D.s ((val.2.getD 0 { kind := Kind.ro, row := [], fl := [] }).2.getD 0 D.h).es))).set y1.toNat
                                  (List.take 1 ((y2.set y1.toNat ((y2.getD y1.toNat []).set 0 (D.s ((val.2.getD 0 { kind := Kind.ro, row := [], fl := [] }).2.getD 0 D.h).es))).getD y1.toNat []) ++
                                      [D.v (Value.int IntKind.i64 (val.1.getD 0 TC.d).int)] ++
                                    List.drop 2
                                      ((y2.set y1.toNat ((y2.getD y1.toNat []).set 0 (D.s ((val.2.getD 0 { kind := Kind.ro, row := [], fl := [] }).2.getD 0 D.h).es))).getD y1.toNat []))).getD
                              y1.toNat []).length) &&
                      true then
                  wmarkEntryS.P8 (IntKind.i64.wrap ((val.1.getD 0 TC.d).int + 1)) y1
                    (((y2.set y1.toNat ((y2.getD y1.toNat []).set 0 (D.s ((val.2.getD 0 { kind := Kind.ro, row := [], fl := [] }).2.getD 0 D.h).es))).set y1.toNat
                          (List.take 1 ((y2.set y1.toNat ((y2.getD y1.toNat []).set 0 (D.s ((val.2.getD 0 { kind := Kind.ro, row := [], fl := [] }).2.getD 0 D.h).es))).getD y1.toNat []) ++
                              [D.v (Value.int IntKind.i64 (val.1.getD 0 TC.d).int)] ++
                            List.drop 2 ((y2.set y1.toNat ((y2.getD y1.toNat []).set 0 (D.s ((val.2.getD 0 { kind := Kind.ro, row := [], fl := [] }).2.getD 0 D.h).es))).getD y1.toNat []))).set
                      y1.toNat
                      (List.take 2
                            (((y2.set y1.toNat ((y2.getD y1.toNat []).set 0 (D.s ((val.2.getD 0 { kind := Kind.ro, row := [], fl := [] }).2.getD 0 D.h).es))).set y1.toNat
                                  (List.take 1 ((y2.set y1.toNat ((y2.getD y1.toNat []).set 0 (D.s ((val.2.getD 0 { kind := Kind.ro, row := [], fl := [] }).2.getD 0 D.h).es))).getD y1.toNat []) ++
                                      [D.v (Value.int IntKind.i64 (val.1.getD 0 TC.d).int)] ++
                                    List.drop 2
                                      ((y2.set y1.toNat ((y2.getD y1.toNat []).set 0 (D.s ((val.2.getD 0 { kind := Kind.ro, row := [], fl := [] }).2.getD 0 D.h).es))).getD y1.toNat []))).getD
                              y1.toNat []) ++
                          [D.v (Value.bool ((IntKind.i64.wrap ((val.1.getD 0 TC.d).int + 1)).tmod 3 == 0))] ++
                        List.drop 3
                          (((y2.set y1.toNat ((y2.getD y1.toNat []).set 0 (D.s ((val.2.getD 0 { kind := Kind.ro, row := [], fl := [] }).2.getD 0 D.h).es))).set y1.toNat
                                (List.take 1 ((y2.set y1.toNat ((y2.getD y1.toNat []).set 0 (D.s ((val.2.getD 0 { kind := Kind.ro, row := [], fl := [] }).2.getD 0 D.h).es))).getD y1.toNat []) ++
                                    [D.v (Value.int IntKind.i64 (val.1.getD 0 TC.d).int)] ++
                                  List.drop 2 ((y2.set y1.toNat ((y2.getD y1.toNat []).set 0 (D.s ((val.2.getD 0 { kind := Kind.ro, row := [], fl := [] }).2.getD 0 D.h).es))).getD y1.toNat []))).getD
                            y1.toNat [])))
                else none
              else none
            else none
          else none
        else none
    else none
  else none
else some (wmarkEntryS.x2 y0 y2) := by
  refine (lpL_eq (Y := Y) (c := lim' Y) (fn := 110) (rid := 2) (b := bodyAt 2 wmarkEntryS.c) (by kernel_rfl) _).trans ?_
  delta wmarkEntryS.L2 wmarkStringS wmarkEntryS.P8 wmarkEntryS.x2 XX
  refine join_use [8] (by kernel_rfl) fun J e1 => ?_
  try simp only [← e1]
  clear e1
  generalize lpL (Y.ctx (lim' Y)) 110 = lp
  generalize lim' Y = call
  kernel_rfl
theorem wmarkEntryS.p8 (y0 : Int) (y1 : Int) (y2 : List (List D)) :
    wmarkEntryS.P8 y0 y1 y2 =
    bif decide (0 ≤ y1) && decide (y1 < (↑y2.length : Int)) && decide ((y2.getD y1.toNat []).length = 5) then
  bif decide (4 ≤ (y2.getD y1.toNat []).length) && true then
    (wmarkText [AV.one (A1.v (Value.int IntKind.i64 (IntKind.i64.wrap (IntKind.i64.wrap (y0 + 1) + 1))))] []).bind fun val =>
      bif fitsCells [R1.str] val.1 && true then
        bif
            decide (0 ≤ y1) &&
                decide (y1 < (↑(y2.set y1.toNat (List.take 3 (y2.getD y1.toNat []) ++ [D.v (Value.int IntKind.i64 (IntKind.i64.wrap (y0 + 1)))] ++ List.drop 4 (y2.getD y1.toNat []))).length : Int)) &&
              decide
                (((y2.set y1.toNat (List.take 3 (y2.getD y1.toNat []) ++ [D.v (Value.int IntKind.i64 (IntKind.i64.wrap (y0 + 1)))] ++ List.drop 4 (y2.getD y1.toNat []))).getD y1.toNat []).length =
                  5) then
          bif
              decide
                  (5 ≤
                    ((y2.set y1.toNat (List.take 3 (y2.getD y1.toNat []) ++ [D.v (Value.int IntKind.i64 (IntKind.i64.wrap (y0 + 1)))] ++ List.drop 4 (y2.getD y1.toNat []))).getD y1.toNat
                        []).length) &&
                true then
            wmarkEntryS.L2 (IntKind.i64.wrap (IntKind.i64.wrap (IntKind.i64.wrap (y0 + 1) + 1) + 1)) (IntKind.i64.wrap (y1 + 1))
              ((y2.set y1.toNat (List.take 3 (y2.getD y1.toNat []) ++ [D.v (Value.int IntKind.i64 (IntKind.i64.wrap (y0 + 1)))] ++ List.drop 4 (y2.getD y1.toNat []))).set y1.toNat
                (List.take 4
                      ((y2.set y1.toNat (List.take 3 (y2.getD y1.toNat []) ++ [D.v (Value.int IntKind.i64 (IntKind.i64.wrap (y0 + 1)))] ++ List.drop 4 (y2.getD y1.toNat []))).getD y1.toNat []) ++
                    [D.v (Value.string (val.1.getD 0 TC.d).str)] ++
                  List.drop 5
                    ((y2.set y1.toNat (List.take 3 (y2.getD y1.toNat []) ++ [D.v (Value.int IntKind.i64 (IntKind.i64.wrap (y0 + 1)))] ++ List.drop 4 (y2.getD y1.toNat []))).getD y1.toNat [])))
          else none
        else none
      else none
  else none
else none := by
  delta wmarkEntryS.P8 wmarkText wmarkEntryS.L2 XX
  refine join_at [8] 8 (by kernel_rfl) fun J e1 => ?_
  try simp only [← e1]
  clear e1
  generalize lpL (Y.ctx (lim' Y)) 110 = lp
  generalize lim' Y = call
  kernel_rfl
theorem wmarkEntryS.a2x2 (y0 : Int) (y1 : List (List D)) :
    wmarkEntryS.A2 (wmarkEntryS.x2 y0 y1) =
    some { cells := [TC.v (Value.int IntKind.i64 y0)], objs := [{ kind := Kind.virt, row := [D.s y1], fl := [Own.deep] }] } := by
  delta wmarkEntryS.A2 wmarkEntryS.x2 XX
  generalize lpL (Y.ctx (lim' Y)) 110 = lp
  generalize lim' Y = call
  kernel_rfl
noncomputable def wheldStringSS.L2 (y0 : List (List D)) (y1 : Int) (y2 : Int) : Option (Ex × St) := lpL XX 111 (bodyAt 2 wheldStringSS.c) (mkG 0 21 [(0, AV.one (A1.s y0)), (1, AV.one (A1.v (Value.int IntKind.i64 y1))), (5, AV.one (A1.v (Value.int IntKind.i64 y2)))] [] GL)
noncomputable def wheldStringSS.A2 : Ex × St → Option Res := fun r => evA XX 111 (lpL XX 111) 2 wheldStringSS.c r.fst r.snd (outE XX 111 Tryz.f111)
noncomputable def wheldStringSS.q2 (y0 : Int) (y1 : Int) : Ex × St := (Ex.ret, mkG 0 21 [(1, AV.one (A1.v (Value.int IntKind.i64 y0))), (4, AV.one (A1.v (Value.int IntKind.i64 y1)))] [] GL)
noncomputable def wheldStringSS.x2 (y0 : Int) : Ex × St := (Ex.exit 0, mkG 0 21 [(1, AV.one (A1.v (Value.int IntKind.i64 y0)))] [] GL)
theorem wheldStringSS.e (a0 : List (List D)) (a1 : Int) :
    wheldStringSS [AV.one (A1.s a0), AV.one (A1.v (Value.int IntKind.i64 a1))] [] =
    (wheldStringSS.L2 a0 a1 0).bind wheldStringSS.A2 := by
  refine (wheldStringSS.run _ _ (by kernel_rfl)).trans ?_
  delta wheldStringSS wheldStringSS.L2 wheldStringSS.A2 XX
  generalize lpL (Y.ctx (lim' Y)) 111 = lp
  generalize lim' Y = call
  kernel_rfl
theorem wheldStringSS.s2 (y0 : List (List D)) (y1 : Int) (y2 : Int) :
    wheldStringSS.L2 y0 y1 y2 =
    bif decide (y2 < (↑y0.length : Int)) then
  bif decide (0 ≤ y2) && decide (y2 < (↑y0.length : Int)) && decide ((y0.getD y2.toNat []).length = 1) then
    bif fitsRow [CK.sl] (y0.getD y2.toNat []) 0 && decide (1 ≤ (y0.getD y2.toNat []).length) then
      (wheldStringS [AV.one (A1.s ((y0.getD y2.toNat []).getD 0 D.h).es), AV.one (A1.v (Value.int IntKind.i64 y1))] []).bind fun val =>
        bif fitsCells [R1.int IntKind.i64] val.1 && true then
          bif decide ((val.1.getD 0 TC.d).int < 0) then some (wheldStringSS.q2 (val.1.getD 0 TC.d).int (-1)) else wheldStringSS.L2 y0 (val.1.getD 0 TC.d).int (IntKind.i64.wrap (y2 + 1))
        else none
    else none
  else none
else some (wheldStringSS.x2 y1) := by
  refine (lpL_eq (Y := Y) (c := lim' Y) (fn := 111) (rid := 2) (b := bodyAt 2 wheldStringSS.c) (by kernel_rfl) _).trans ?_
  delta wheldStringSS.L2 wheldStringS wheldStringSS.q2 wheldStringSS.x2 XX
  generalize lpL (Y.ctx (lim' Y)) 111 = lp
  generalize lim' Y = call
  kernel_rfl
theorem wheldStringSS.a2q2 (y0 : Int) (y1 : Int) :
    wheldStringSS.A2 (wheldStringSS.q2 y0 y1) =
    some { cells := [TC.v (Value.int IntKind.i64 y1)], objs := [] } := by
  delta wheldStringSS.A2 wheldStringSS.q2 XX
  generalize lpL (Y.ctx (lim' Y)) 111 = lp
  generalize lim' Y = call
  kernel_rfl
theorem wheldStringSS.a2x2 (y0 : Int) :
    wheldStringSS.A2 (wheldStringSS.x2 y0) =
    some { cells := [TC.v (Value.int IntKind.i64 y0)], objs := [] } := by
  delta wheldStringSS.A2 wheldStringSS.x2 XX
  generalize lpL (Y.ctx (lim' Y)) 111 = lp
  generalize lim' Y = call
  kernel_rfl
noncomputable def wheldEntryS.L2 (y0 : List (List D)) (y1 : Int) (y2 : Int) : Option (Ex × St) := lpL XX 112 (bodyAt 2 wheldEntryS.c) (mkG 0 61 [(0, AV.one (A1.s y0)), (1, AV.one (A1.v (Value.int IntKind.i64 y1))), (5, AV.one (A1.v (Value.int IntKind.i64 y2)))] [] GL)
noncomputable def wheldEntryS.A2 : Ex × St → Option Res := fun r => evA XX 112 (lpL XX 112) 2 wheldEntryS.c r.fst r.snd (outE XX 112 Tryz.f112)
noncomputable def wheldEntryS.q2 (y0 : Int) (y1 : Int) : Ex × St := (Ex.ret, mkG 0 61 [(1, AV.one (A1.v (Value.int IntKind.i64 y0))), (4, AV.one (A1.v (Value.int IntKind.i64 y1)))] [] GL)
noncomputable def wheldEntryS.P10 (y0 : List (List D)) (y1 : Int) (y2 : Int) : Option (Ex × St) := evB XX 112 (lpL XX 112) 10 (bodyAt 2 wheldEntryS.c) (mkG 0 61 [(0, AV.one (A1.s y0)), (1, AV.one (A1.v (Value.int IntKind.i64 y1))), (5, AV.one (A1.v (Value.int IntKind.i64 y2)))] [] GL)
  (backL (lpL XX 112) (bodyAt 2 wheldEntryS.c) (XX.live 112 2))
noncomputable def wheldEntryS.x2 (y0 : Int) : Ex × St := (Ex.exit 0, mkG 0 61 [(1, AV.one (A1.v (Value.int IntKind.i64 y0)))] [] GL)
noncomputable def wheldEntryS.P17 (y0 : List (List D)) (y1 : Int) (y2 : Int) (y3 : Bool) : Option (Ex × St) := evB XX 112 (lpL XX 112) 17 (bodyAt 2 wheldEntryS.c)
  (mkG 0 61 [(0, AV.one (A1.s y0)), (1, AV.one (A1.v (Value.int IntKind.i64 y1))), (5, AV.one (A1.v (Value.int IntKind.i64 y2))), (57, AV.one (A1.v (Value.bool y3)))] [] GL)
  (backL (lpL XX 112) (bodyAt 2 wheldEntryS.c) (XX.live 112 2))
theorem wheldEntryS.e (a0 : List (List D)) (a1 : Int) :
    wheldEntryS [AV.one (A1.s a0), AV.one (A1.v (Value.int IntKind.i64 a1))] [] =
    (wheldEntryS.L2 a0 a1 0).bind wheldEntryS.A2 := by
  refine (wheldEntryS.run _ _ (by kernel_rfl)).trans ?_
  delta wheldEntryS wheldEntryS.L2 wheldEntryS.A2 XX
  generalize lpL (Y.ctx (lim' Y)) 112 = lp
  generalize lim' Y = call
  kernel_rfl
theorem wheldEntryS.s2 (y0 : List (List D)) (y1 : Int) (y2 : Int) :
    wheldEntryS.L2 y0 y1 y2 =
    bif decide (y2 < (↑y0.length : Int)) then
  bif decide (0 ≤ y2) && decide (y2 < (↑y0.length : Int)) && decide ((y0.getD y2.toNat []).length = 5) then
    bif fitsRow [CK.sl] (y0.getD y2.toNat []) 0 && decide (1 ≤ (y0.getD y2.toNat []).length) then
      (wheldStringS [AV.one (A1.s ((y0.getD y2.toNat []).getD 0 D.h).es), AV.one (A1.v (Value.int IntKind.i64 y1))] []).bind fun val =>
        bif fitsCells [R1.int IntKind.i64] val.1 && true then
          bif decide ((val.1.getD 0 TC.d).int < 0) then some (wheldEntryS.q2 (val.1.getD 0 TC.d).int (-1))
          else
            bif decide (0 ≤ y2) && decide (y2 < (↑y0.length : Int)) && decide ((y0.getD y2.toNat []).length = 5) then
              bif fitsRow [CK.int IntKind.i64] (y0.getD y2.toNat []) 1 && decide (2 ≤ (y0.getD y2.toNat []).length) then
                bif ((y0.getD y2.toNat []).getD 1 D.h).int != (val.1.getD 0 TC.d).int then some (wheldEntryS.q2 (val.1.getD 0 TC.d).int (-1))
                else wheldEntryS.P10 y0 (IntKind.i64.wrap ((val.1.getD 0 TC.d).int + 1)) y2
              else none
            else none
        else none
    else none
  else none
else some (wheldEntryS.x2 y1) := by
  refine (lpL_eq (Y := Y) (c := lim' Y) (fn := 112) (rid := 2) (b := bodyAt 2 wheldEntryS.c) (by kernel_rfl) _).trans ?_
  delta wheldEntryS.L2 wheldStringS wheldEntryS.q2 wheldEntryS.P10 wheldEntryS.x2 XX
  refine join_use [10, 17] (by kernel_rfl) fun J e1 => ?_
  try simp only [← e1]
  clear e1
  generalize lpL (Y.ctx (lim' Y)) 112 = lp
  generalize lim' Y = call
  kernel_rfl
theorem wheldEntryS.a2q2 (y0 : Int) (y1 : Int) :
    wheldEntryS.A2 (wheldEntryS.q2 y0 y1) =
    some { cells := [TC.v (Value.int IntKind.i64 y1)], objs := [] } := by
  delta wheldEntryS.A2 wheldEntryS.q2 XX
  generalize lpL (Y.ctx (lim' Y)) 112 = lp
  generalize lim' Y = call
  kernel_rfl
theorem wheldEntryS.p10 (y0 : List (List D)) (y1 : Int) (y2 : Int) :
    wheldEntryS.P10 y0 y1 y2 =
    bif decide (0 ≤ y2) && decide (y2 < (↑y0.length : Int)) && decide ((y0.getD y2.toNat []).length = 5) then
  bif fitsRow [CK.bool] (y0.getD y2.toNat []) 2 && decide (3 ≤ (y0.getD y2.toNat []).length) then
    bif !((y0.getD y2.toNat []).getD 2 D.h).bool == (y1.tmod 3 == 0) then some (wheldEntryS.q2 y1 (-1))
    else
      bif decide (0 ≤ y2) && decide (y2 < (↑y0.length : Int)) && decide ((y0.getD y2.toNat []).length = 5) then
        bif fitsRow [CK.int IntKind.i64] (y0.getD y2.toNat []) 3 && decide (4 ≤ (y0.getD y2.toNat []).length) then
          bif ((y0.getD y2.toNat []).getD 3 D.h).int != IntKind.i64.wrap (y1 + 1) then some (wheldEntryS.q2 (IntKind.i64.wrap (y1 + 1)) (-1))
          else
            bif decide (0 ≤ y2) && decide (y2 < (↑y0.length : Int)) && decide ((y0.getD y2.toNat []).length = 5) then
              bif fitsRow [CK.str] (y0.getD y2.toNat []) 4 && decide (5 ≤ (y0.getD y2.toNat []).length) then
                (wmarkText [AV.one (A1.v (Value.int IntKind.i64 (IntKind.i64.wrap (IntKind.i64.wrap (y1 + 1) + 1))))] []).bind fun val =>
                  bif fitsCells [R1.str] val.1 && true then
                    wheldEntryS.P17 y0 (IntKind.i64.wrap (IntKind.i64.wrap (y1 + 1) + 1)) y2 !((y0.getD y2.toNat []).getD 4 D.h).str.toList == (val.1.getD 0 TC.d).str.toList
                  else none
              else none
            else none
        else none
      else none
  else none
else none := by
  delta wheldEntryS.P10 wheldEntryS.q2 wmarkText wheldEntryS.P17 XX
  refine join_at [10, 17] 10 (by kernel_rfl) fun J e1 => ?_
  try simp only [← e1]
  clear e1
  generalize lpL (Y.ctx (lim' Y)) 112 = lp
  generalize lim' Y = call
  kernel_rfl
theorem wheldEntryS.a2x2 (y0 : Int) :
    wheldEntryS.A2 (wheldEntryS.x2 y0) =
    some { cells := [TC.v (Value.int IntKind.i64 y0)], objs := [] } := by
  delta wheldEntryS.A2 wheldEntryS.x2 XX
  generalize lpL (Y.ctx (lim' Y)) 112 = lp
  generalize lim' Y = call
  kernel_rfl
theorem wheldEntryS.p17 (y0 : List (List D)) (y1 : Int) (y2 : Int) (y3 : Bool) :
    wheldEntryS.P17 y0 y1 y2 y3 =
    bif y3 then some (wheldEntryS.q2 y1 (-1)) else wheldEntryS.L2 y0 (IntKind.i64.wrap (y1 + 1)) (IntKind.i64.wrap (y2 + 1)) := by
  delta wheldEntryS.P17 wheldEntryS.q2 wheldEntryS.L2 XX
  refine join_at [10, 17] 17 (by kernel_rfl) fun J e1 => ?_
  try simp only [← e1]
  clear e1
  generalize lpL (Y.ctx (lim' Y)) 112 = lp
  generalize lim' Y = call
  kernel_rfl
noncomputable def sl1NameOk.L2 (y0 : ByteArray) (y1 : Int) : Option (Ex × St) := lpL XX 125 (bodyAt 2 sl1NameOk.c) (mkG 0 36 [(0, AV.one (A1.v (Value.string y0))), (3, AV.one (A1.v (Value.int IntKind.i64 y1)))] [] GL)
noncomputable def sl1NameOk.A2 : Ex × St → Option Res := fun r => evA XX 125 (lpL XX 125) 2 sl1NameOk.c r.fst r.snd (outE XX 125 Tryz.f125)
noncomputable def sl1NameOk.P5 (y0 : ByteArray) (y1 : Int) (y2 : Bool) : Option (Ex × St) := evB XX 125 (lpL XX 125) 5 (bodyAt 2 sl1NameOk.c) (mkG 0 36 [(0, AV.one (A1.v (Value.string y0))), (3, AV.one (A1.v (Value.int IntKind.i64 y1))), (32, AV.one (A1.v (Value.bool y2)))] [] GL)
  (backL (lpL XX 125) (bodyAt 2 sl1NameOk.c) (XX.live 125 2))
noncomputable def sl1NameOk.x2 (y0 : ByteArray) : Ex × St := (Ex.exit 0, mkG 0 36 [(0, AV.one (A1.v (Value.string y0)))] [] GL)
noncomputable def sl1NameOk.q2 (y0 : ByteArray) (y1 : Bool) : Ex × St := (Ex.ret, mkG 0 36 [(0, AV.one (A1.v (Value.string y0))), (2, AV.one (A1.v (Value.bool y1)))] [] GL)
theorem sl1NameOk.e (a0 : ByteArray) :
    sl1NameOk [AV.one (A1.v (Value.string a0))] [] =
    (sl1NameOk.L2 a0 0).bind sl1NameOk.A2 := by
  refine (sl1NameOk.run _ _ (by kernel_rfl)).trans ?_
  delta sl1NameOk sl1NameOk.L2 sl1NameOk.A2 XX
  generalize lpL (Y.ctx (lim' Y)) 125 = lp
  generalize lim' Y = call
  kernel_rfl
theorem sl1NameOk.s2 (y0 : ByteArray) (y1 : Int) :
    sl1NameOk.L2 y0 y1 =
    bif decide (y1 < (↑y0.size : Int)) then
  bif decide (0 ≤ y1) && decide (y1 < (↑y0.size : Int)) then
    bif decide (byteAt y0 y1.toNat ≥ 97) then
      bif decide (0 ≤ y1) && decide (y1 < (↑y0.size : Int)) then
        bif decide (byteAt y0 y1.toNat ≤ 122) then sl1NameOk.P5 y0 y1 false
        else
          bif decide (0 ≤ y1) && decide (y1 < (↑y0.size : Int)) then
            bif decide (byteAt y0 y1.toNat ≥ 48) then bif decide (0 ≤ y1) && decide (y1 < (↑y0.size : Int)) then sl1NameOk.P5 y0 y1 !decide (byteAt y0 y1.toNat ≤ 57) else none
            else sl1NameOk.P5 y0 y1 true
          else none
      else none
    else
      bif decide (0 ≤ y1) && decide (y1 < (↑y0.size : Int)) then
        bif decide (byteAt y0 y1.toNat ≥ 48) then bif decide (0 ≤ y1) && decide (y1 < (↑y0.size : Int)) then sl1NameOk.P5 y0 y1 !decide (byteAt y0 y1.toNat ≤ 57) else none else sl1NameOk.P5 y0 y1 true
      else none
  else none
else some (sl1NameOk.x2 y0) := by
  refine (lpL_eq (Y := Y) (c := lim' Y) (fn := 125) (rid := 2) (b := bodyAt 2 sl1NameOk.c) (by kernel_rfl) _).trans ?_
  delta sl1NameOk.L2 sl1NameOk.P5 sl1NameOk.x2 XX
  refine join_use [5] (by kernel_rfl) fun J e1 => ?_
  try simp only [← e1]
  clear e1
  generalize lpL (Y.ctx (lim' Y)) 125 = lp
  generalize lim' Y = call
  kernel_rfl
theorem sl1NameOk.p5 (y0 : ByteArray) (y1 : Int) (y2 : Bool) :
    sl1NameOk.P5 y0 y1 y2 =
    bif y2 then some (sl1NameOk.q2 y0 false) else sl1NameOk.L2 y0 (IntKind.i64.wrap (y1 + 1)) := by
  delta sl1NameOk.P5 sl1NameOk.q2 sl1NameOk.L2 XX
  refine join_at [5] 5 (by kernel_rfl) fun J e1 => ?_
  try simp only [← e1]
  clear e1
  generalize lpL (Y.ctx (lim' Y)) 125 = lp
  generalize lim' Y = call
  kernel_rfl
theorem sl1NameOk.a2x2 (y0 : ByteArray) :
    sl1NameOk.A2 (sl1NameOk.x2 y0) =
    (sl1In [AV.one (A1.v (Value.int IntKind.i64 (↑y0.size : Int))), AV.one (A1.v (Value.int IntKind.i64 1)), AV.one (A1.v (Value.int IntKind.i64 5))] []).bind fun val =>
  bif fitsCells [R1.bool] val.1 && true then some { cells := [TC.v (Value.bool (val.1.getD 0 TC.d).bool)], objs := [] } else none := by
  delta sl1NameOk.A2 sl1NameOk.x2 sl1In XX
  generalize lpL (Y.ctx (lim' Y)) 125 = lp
  generalize lim' Y = call
  kernel_rfl
theorem sl1NameOk.a2q2 (y0 : ByteArray) (y1 : Bool) :
    sl1NameOk.A2 (sl1NameOk.q2 y0 y1) =
    some { cells := [TC.v (Value.bool y1)], objs := [] } := by
  delta sl1NameOk.A2 sl1NameOk.q2 XX
  generalize lpL (Y.ctx (lim' Y)) 125 = lp
  generalize lim' Y = call
  kernel_rfl
theorem sl1In.e (a0 : Int) (a1 : Int) (a2 : Int) :
    sl1In [AV.one (A1.v (Value.int IntKind.i64 a0)), AV.one (A1.v (Value.int IntKind.i64 a1)), AV.one (A1.v (Value.int IntKind.i64 a2))] [] =
    bif decide (a0 ≥ a1) then some { cells := [TC.v (Value.bool (decide (a0 ≤ a2)))], objs := [] } else some { cells := [TC.v (Value.bool false)], objs := [] } := by
  refine (sl1In.run _ _ (by kernel_rfl)).trans ?_
  delta sl1In XX
  generalize lpL (Y.ctx (lim' Y)) 126 = lp
  generalize lim' Y = call
  kernel_rfl
noncomputable def sl1Bytes.P5 (y0 : ByteArray) (y1 : Bool) (y2 : List (List D)) : Option Res := evB XX 146 (lpL XX 146) 5 sl1Bytes.c
  (mkG 0 50 [(0, AV.one (A1.v (Value.string y0))), (4, AV.one (A1.r 4 [] 0)), (18, AV.one (A1.v (Value.bool y1)))] [(4, some { kind := Kind.virt, row := [D.s y2], fl := [Own.deep] })] GL)
  (outE XX 146 Tryz.f146)
noncomputable def sl1Bytes.P6 (y0 : ByteArray) (y1 : List (List D)) : Option Res := evB XX 146 (lpL XX 146) 6 sl1Bytes.c (mkG 0 50 [(0, AV.one (A1.v (Value.string y0))), (4, AV.one (A1.r 4 [] 0))] [(4, some { kind := Kind.virt, row := [D.s y1], fl := [Own.deep] })] GL)
  (outE XX 146 Tryz.f146)
noncomputable def sl1Bytes.L7 (y0 : ByteArray) (y1 : Int) (y2 : List (List D)) : Option (Ex × St) := lpL XX 146 (bodyAt 7 sl1Bytes.c)
  (mkG 0 50 [(0, AV.one (A1.v (Value.string y0))), (4, AV.one (A1.r 4 [] 0)), (5, AV.one (A1.v (Value.int IntKind.i64 y1)))] [(4, some { kind := Kind.virt, row := [D.s y2], fl := [Own.deep] })] GL)
noncomputable def sl1Bytes.A7 : Ex × St → Option Res := fun r => evA XX 146 (lpL XX 146) 7 sl1Bytes.c r.fst r.snd (outE XX 146 Tryz.f146)
noncomputable def sl1Bytes.P12 (y0 : ByteArray) (y1 : Int) (y2 : Int) (y3 : Int) (y4 : Bool) (y5 : List (List D)) : Option (Ex × St) := evB XX 146 (lpL XX 146) 12 (bodyAt 7 sl1Bytes.c)
  (mkG 0 50
    [(0, AV.one (A1.v (Value.string y0))), (4, AV.one (A1.r 4 [] 0)), (5, AV.one (A1.v (Value.int IntKind.i64 y1))), (6, AV.one (A1.v (Value.int IntKind.i64 y2))),
      (7, AV.one (A1.v (Value.int IntKind.i64 y3))), (39, AV.one (A1.v (Value.bool y4)))]
    [(4, some { kind := Kind.virt, row := [D.s y5], fl := [Own.deep] })] GL)
  (backL (lpL XX 146) (bodyAt 7 sl1Bytes.c) (XX.live 146 7))
noncomputable def sl1Bytes.x7 (y0 : List (List D)) : Ex × St := (Ex.exit 0, mkG 0 50 [(4, AV.one (A1.r 4 [] 0))] [(4, some { kind := Kind.virt, row := [D.s y0], fl := [Own.deep] })] GL)
noncomputable def sl1Bytes.q7 (y0 : ByteArray) (y1 : Bool) (y2 : List (List D)) : Ex × St := (Ex.ret, mkG 0 50 [(2, AV.one (A1.v (Value.string y0))), (3, AV.one (A1.v (Value.bool y1))), (4, AV.one (A1.r 4 [] 0))] [(4, some { kind := Kind.virt, row := [D.s y2], fl := [Own.deep] })] GL)
noncomputable def sl1Bytes.P13 (y0 : ByteArray) (y1 : Int) (y2 : Int) (y3 : Int) (y4 : List (List D)) : Option (Ex × St) := evB XX 146 (lpL XX 146) 13 (bodyAt 7 sl1Bytes.c)
  (mkG 0 50
    [(0, AV.one (A1.v (Value.string y0))), (4, AV.one (A1.r 4 [] 0)), (5, AV.one (A1.v (Value.int IntKind.i64 y1))), (6, AV.one (A1.v (Value.int IntKind.i64 y2))),
      (7, AV.one (A1.v (Value.int IntKind.i64 y3)))]
    [(4, some { kind := Kind.virt, row := [D.s y4], fl := [Own.deep] })] GL)
  (backL (lpL XX 146) (bodyAt 7 sl1Bytes.c) (XX.live 146 7))
theorem sl1Bytes.e (a0 : ByteArray) :
    sl1Bytes [AV.one (A1.v (Value.string a0))] [] =
    bif a0.toList == [(ByteArray.mk #[45]).get! 0] then some { cells := [TC.v (Value.string (ByteArray.mk #[])), TC.v (Value.bool true)], objs := [] }
else bif (↑a0.size : Int).tmod 2 == 1 then sl1Bytes.P5 a0 true [] else sl1Bytes.P5 a0 (a0.toList == []) [] := by
  refine (sl1Bytes.run _ _ (by kernel_rfl)).trans ?_
  delta sl1Bytes sl1Bytes.P5 XX
  refine join_use [5, 6] (by kernel_rfl) fun J e1 => ?_
  try simp only [← e1]
  clear e1
  generalize lpL (Y.ctx (lim' Y)) 146 = lp
  generalize lim' Y = call
  kernel_rfl
theorem sl1Bytes.p5 (y0 : ByteArray) (y1 : Bool) (y2 : List (List D)) :
    sl1Bytes.P5 y0 y1 y2 =
    bif y1 then some { cells := [TC.v (Value.string (ByteArray.mk #[])), TC.v (Value.bool false)], objs := [] } else sl1Bytes.P6 y0 y2 := by
  delta sl1Bytes.P5 sl1Bytes.P6 XX
  refine join_at [5, 6] 5 (by kernel_rfl) fun J e1 => ?_
  try simp only [← e1]
  clear e1
  generalize lpL (Y.ctx (lim' Y)) 146 = lp
  generalize lim' Y = call
  kernel_rfl
theorem sl1Bytes.p6 (y0 : ByteArray) (y1 : List (List D)) :
    sl1Bytes.P6 y0 y1 =
    (sl1Bytes.L7 y0 0 y1).bind sl1Bytes.A7 := by
  delta sl1Bytes.P6 sl1Bytes.L7 sl1Bytes.A7 XX
  refine join_at [5, 6] 6 (by kernel_rfl) fun J e1 => ?_
  have eA := evA_J [5, 6] 7 (by kernel_rfl) e1
  try simp only [eA]
  clear eA
  try simp only [← e1]
  clear e1
  show _ = _
  generalize lpL (Y.ctx (lim' Y)) 146 = lp
  generalize lim' Y = call
  kernel_rfl
theorem sl1Bytes.s7 (y0 : ByteArray) (y1 : Int) (y2 : List (List D)) :
    sl1Bytes.L7 y0 y1 y2 =
    bif decide (y1 < (↑y0.size : Int)) then
  bif decide (0 ≤ y1) && decide (y1 < (↑y0.size : Int)) then
    (sl1Digit [AV.one (A1.v (Value.int IntKind.u8 (byteAt y0 y1.toNat)))] []).bind fun val =>
      bif fitsCells [R1.int IntKind.i64] val.1 && true then
        bif decide (0 ≤ IntKind.i64.wrap (y1 + 1)) && decide (IntKind.i64.wrap (y1 + 1) < (↑y0.size : Int)) then
          (sl1Digit [AV.one (A1.v (Value.int IntKind.u8 (byteAt y0 (IntKind.i64.wrap (y1 + 1)).toNat)))] []).bind fun val_1 =>
            bif fitsCells [R1.int IntKind.i64] val_1.1 && true then
              bif decide ((val.1.getD 0 TC.d).int > 15) then sl1Bytes.P12 y0 y1 (val.1.getD 0 TC.d).int (val_1.1.getD 0 TC.d).int true y2
              else sl1Bytes.P12 y0 y1 (val.1.getD 0 TC.d).int (val_1.1.getD 0 TC.d).int (decide ((val_1.1.getD 0 TC.d).int > 15)) y2
            else none
        else none
      else none
  else none
else some (sl1Bytes.x7 y2) := by
  refine (lpL_eq (Y := Y) (c := lim' Y) (fn := 146) (rid := 7) (b := bodyAt 7 sl1Bytes.c) (by kernel_rfl) _).trans ?_
  delta sl1Bytes.L7 sl1Digit sl1Bytes.P12 sl1Bytes.x7 XX
  refine join_use [12, 13] (by kernel_rfl) fun J e1 => ?_
  try simp only [← e1]
  clear e1
  generalize lpL (Y.ctx (lim' Y)) 146 = lp
  generalize lim' Y = call
  kernel_rfl
theorem sl1Bytes.p12 (y0 : ByteArray) (y1 : Int) (y2 : Int) (y3 : Int) (y4 : Bool) (y5 : List (List D)) :
    sl1Bytes.P12 y0 y1 y2 y3 y4 y5 =
    bif y4 then some (sl1Bytes.q7 (ByteArray.mk #[]) false y5) else sl1Bytes.P13 y0 y1 y2 y3 y5 := by
  delta sl1Bytes.P12 sl1Bytes.q7 sl1Bytes.P13 XX
  refine join_at [12, 13] 12 (by kernel_rfl) fun J e1 => ?_
  try simp only [← e1]
  clear e1
  generalize lpL (Y.ctx (lim' Y)) 146 = lp
  generalize lim' Y = call
  kernel_rfl
theorem sl1Bytes.a7x7 (y0 : List (List D)) :
    sl1Bytes.A7 (sl1Bytes.x7 y0) =
    bif bytesB y0 then some { cells := [TC.v (Value.string (strOf y0)), TC.v (Value.bool true)], objs := [] } else none := by
  delta sl1Bytes.A7 sl1Bytes.x7 XX
  refine join_behind [5, 6] 7 (by kernel_rfl) fun J e1 => ?_
  have eA := evA_J [5, 6] 7 (by kernel_rfl) e1
  try simp only [eA]
  clear eA
  try simp only [← e1]
  clear e1
  show _ = _
  generalize lpL (Y.ctx (lim' Y)) 146 = lp
  generalize lim' Y = call
  kernel_rfl
theorem sl1Bytes.a7q7 (y0 : ByteArray) (y1 : Bool) (y2 : List (List D)) :
    sl1Bytes.A7 (sl1Bytes.q7 y0 y1 y2) =
    some { cells := [TC.v (Value.string y0), TC.v (Value.bool y1)], objs := [] } := by
  delta sl1Bytes.A7 sl1Bytes.q7 XX
  refine join_behind [5, 6] 7 (by kernel_rfl) fun J e1 => ?_
  have eA := evA_J [5, 6] 7 (by kernel_rfl) e1
  try simp only [eA]
  clear eA
  try simp only [← e1]
  clear e1
  show _ = _
  generalize lpL (Y.ctx (lim' Y)) 146 = lp
  generalize lim' Y = call
  kernel_rfl
theorem sl1Bytes.p13 (y0 : ByteArray) (y1 : Int) (y2 : Int) (y3 : Int) (y4 : List (List D)) :
    sl1Bytes.P13 y0 y1 y2 y3 y4 =
    bif rowsLen 1 y4 && true && true && true && decide ((y4.length + 1) * 2 ≤ 70368744177664) then
  sl1Bytes.L7 y0 (IntKind.i64.wrap (y1 + 2)) (y4 ++ [[D.v (Value.int IntKind.u8 (IntKind.u8.wrap (IntKind.i64.wrap (IntKind.i64.wrap (16 * y2) + y3))))]])
else none := by
  delta sl1Bytes.P13 sl1Bytes.L7 XX
  refine join_at [12, 13] 13 (by kernel_rfl) fun J e1 => ?_
  try simp only [← e1]
  clear e1
  generalize lpL (Y.ctx (lim' Y)) 146 = lp
  generalize lim' Y = call
  kernel_rfl
noncomputable def sl3Name.L3 (y0 : List (List D)) (y1 : ByteArray) (y2 : Int) : Option (Ex × St) := lpL XX 147 (bodyAt 3 sl3Name.c) (mkG 0 21 [(0, AV.one (A1.s y0)), (3, AV.one (A1.v (Value.string y1))), (4, AV.one (A1.v (Value.int IntKind.i64 y2)))] [] GL)
noncomputable def sl3Name.A3 : Ex × St → Option Res := fun r => evA XX 147 (lpL XX 147) 3 sl3Name.c r.fst r.snd (outE XX 147 Tryz.f147)
noncomputable def sl3Name.x3 (y0 : ByteArray) : Ex × St := (Ex.exit 0, mkG 0 21 [(3, AV.one (A1.v (Value.string y0)))] [] GL)
theorem sl3Name.e (a0 : List (List D)) :
    sl3Name [AV.one (A1.s a0)] [] =
    (sl3Name.L3 a0 (ByteArray.mk #[]) 0).bind sl3Name.A3 := by
  refine (sl3Name.run _ _ (by kernel_rfl)).trans ?_
  delta sl3Name sl3Name.L3 sl3Name.A3 XX
  generalize lpL (Y.ctx (lim' Y)) 147 = lp
  generalize lim' Y = call
  kernel_rfl
theorem sl3Name.s3 (y0 : List (List D)) (y1 : ByteArray) (y2 : Int) :
    sl3Name.L3 y0 y1 y2 =
    bif decide (y2 < (↑y0.length : Int)) then
  bif decide (y1.size + 1 ≤ 70368744177664) then
    bif decide (0 ≤ y2) && decide (y2 < (↑y0.length : Int)) && decide ((y0.getD y2.toNat []).length = 1) then
      bif fitsRow [CK.str] (y0.getD y2.toNat []) 0 && decide (1 ≤ (y0.getD y2.toNat []).length) then
        bif decide ((y1 ++ (ByteArray.mk #[47])).size + ((y0.getD y2.toNat []).getD 0 D.h).str.size ≤ 70368744177664) then
          sl3Name.L3 y0 (y1 ++ (ByteArray.mk #[47]) ++ ((y0.getD y2.toNat []).getD 0 D.h).str) (IntKind.i64.wrap (y2 + 1))
        else none
      else none
    else none
  else none
else some (sl3Name.x3 y1) := by
  refine (lpL_eq (Y := Y) (c := lim' Y) (fn := 147) (rid := 3) (b := bodyAt 3 sl3Name.c) (by kernel_rfl) _).trans ?_
  delta sl3Name.L3 sl3Name.x3 XX
  generalize lpL (Y.ctx (lim' Y)) 147 = lp
  generalize lim' Y = call
  kernel_rfl
theorem sl3Name.a3x3 (y0 : ByteArray) :
    sl3Name.A3 (sl3Name.x3 y0) =
    bif y0.toList == [] then some { cells := [TC.v (Value.string (ByteArray.mk #[47]))], objs := [] } else some { cells := [TC.v (Value.string y0)], objs := [] } := by
  delta sl3Name.A3 sl3Name.x3 XX
  generalize lpL (Y.ctx (lim' Y)) 147 = lp
  generalize lim' Y = call
  kernel_rfl
noncomputable def sl3EntryOk.P2 (y0 : Bool) (y1 : List (List D)) (y2 : Int) (y3 : Bool) (y4 : Int) (y5 : ByteArray) : Option Res := evB XX 148 (lpL XX 148) 2 sl3EntryOk.c
  (mkG 0 90 [(1, AV.one (A1.p true 1 [] 0)), (24, AV.one (A1.v (Value.bool y0)))]
    [(1,
        some
          { kind := Kind.box, row := [D.s y1, D.v (Value.int IntKind.i64 y2), D.v (Value.bool y3), D.v (Value.int IntKind.i64 y4), D.v (Value.string y5)],
            fl := [Own.sh, Own.deep, Own.deep, Own.deep, Own.deep] })]
    GL)
  (outE XX 148 Tryz.f148)
noncomputable def sl3EntryOk.P3 (y0 : List (List D)) (y1 : Int) (y2 : Bool) (y3 : Int) (y4 : ByteArray) : Option Res := evB XX 148 (lpL XX 148) 3 sl3EntryOk.c
  (mkG 0 90 [(1, AV.one (A1.p true 1 [] 0))]
    [(1,
        some
          { kind := Kind.box, row := [D.s y0, D.v (Value.int IntKind.i64 y1), D.v (Value.bool y2), D.v (Value.int IntKind.i64 y3), D.v (Value.string y4)],
            fl := [Own.sh, Own.deep, Own.deep, Own.deep, Own.deep] })]
    GL)
  (outE XX 148 Tryz.f148)
theorem sl3EntryOk.e (a0 : List (List D)) (a1 : Int) (a2 : Bool) (a3 : Int) (a4 : ByteArray) :
    sl3EntryOk [AV.g [A1.s a0, A1.v (Value.int IntKind.i64 a1), A1.v (Value.bool a2), A1.v (Value.int IntKind.i64 a3), A1.v (Value.string a4)]] [] =
    bif decide ((↑a0.length : Int) > 0) then
  (sl2PathOk [AV.one (A1.s a0)] []).bind fun val =>
    bif fitsCells [R1.bool] val.1 && true then
      bif !(val.1.getD 0 TC.d).bool then sl3EntryOk.P2 true a0 a1 a2 a3 a4
      else
        (sl1In [AV.one (A1.v (Value.int IntKind.i64 a3)), AV.one (A1.v (Value.int IntKind.i64 0)), AV.one (A1.v (Value.int IntKind.i64 7))] []).bind fun val =>
          bif fitsCells [R1.bool] val.1 && true then bif !(val.1.getD 0 TC.d).bool then sl3EntryOk.P2 true a0 a1 a2 a3 a4 else sl3EntryOk.P2 (decide ((↑a4.size : Int) > 24)) a0 a1 a2 a3 a4 else none
    else none
else
  (sl1In [AV.one (A1.v (Value.int IntKind.i64 a3)), AV.one (A1.v (Value.int IntKind.i64 0)), AV.one (A1.v (Value.int IntKind.i64 7))] []).bind fun val =>
    bif fitsCells [R1.bool] val.1 && true then bif !(val.1.getD 0 TC.d).bool then sl3EntryOk.P2 true a0 a1 a2 a3 a4 else sl3EntryOk.P2 (decide ((↑a4.size : Int) > 24)) a0 a1 a2 a3 a4 else none := by
  refine (sl3EntryOk.run _ _ (by kernel_rfl)).trans ?_
  delta sl3EntryOk sl2PathOk sl3EntryOk.P2 sl1In XX
  refine join_use [2, 3] (by kernel_rfl) fun J e1 => ?_
  try simp only [← e1]
  clear e1
  generalize lpL (Y.ctx (lim' Y)) 148 = lp
  generalize lim' Y = call
  kernel_rfl
theorem sl3EntryOk.p2 (y0 : Bool) (y1 : List (List D)) (y2 : Int) (y3 : Bool) (y4 : Int) (y5 : ByteArray) :
    sl3EntryOk.P2 y0 y1 y2 y3 y4 y5 =
    bif y0 then some { cells := [TC.v (Value.bool false)], objs := [] } else sl3EntryOk.P3 y1 y2 y3 y4 y5 := by
  delta sl3EntryOk.P2 sl3EntryOk.P3 XX
  refine join_at [2, 3] 2 (by kernel_rfl) fun J e1 => ?_
  try simp only [← e1]
  clear e1
  generalize lpL (Y.ctx (lim' Y)) 148 = lp
  generalize lim' Y = call
  kernel_rfl
theorem sl3EntryOk.p3 (y0 : List (List D)) (y1 : Int) (y2 : Bool) (y3 : Int) (y4 : ByteArray) :
    sl3EntryOk.P3 y0 y1 y2 y3 y4 =
    bif y1 == 1 then
  bif decide ((↑y0.length : Int) > 0) then
    bif !y2 then bif y3 == 0 then some { cells := [TC.v (Value.bool (y4.toList == []))], objs := [] } else some { cells := [TC.v (Value.bool false)], objs := [] }
    else some { cells := [TC.v (Value.bool false)], objs := [] }
  else some { cells := [TC.v (Value.bool false)], objs := [] }
else
  bif y1 == 2 then
    bif decide ((↑y0.length : Int) > 0) then bif !y2 then some { cells := [TC.v (Value.bool true)], objs := [] } else some { cells := [TC.v (Value.bool (y4.toList == []))], objs := [] }
    else some { cells := [TC.v (Value.bool false)], objs := [] }
  else
    bif y1 == 3 then bif !y2 then some { cells := [TC.v (Value.bool (y4.toList == []))], objs := [] } else some { cells := [TC.v (Value.bool false)], objs := [] }
    else
      bif y1 == 4 then
        bif decide ((↑y0.length : Int) > 0) then bif !y2 then some { cells := [TC.v (Value.bool (y3 == 0))], objs := [] } else some { cells := [TC.v (Value.bool false)], objs := [] }
        else some { cells := [TC.v (Value.bool false)], objs := [] }
      else some { cells := [TC.v (Value.bool false)], objs := [] } := by
  delta sl3EntryOk.P3 XX
  refine join_at [2, 3] 3 (by kernel_rfl) fun J e1 => ?_
  try simp only [← e1]
  clear e1
  generalize lpL (Y.ctx (lim' Y)) 148 = lp
  generalize lim' Y = call
  kernel_rfl
theorem sl1Line.e (a0 : ByteArray) (a1 : Bool) (a2 : Int) (a3 : ByteArray) (a4 : List (List D)) (a5 : List (List D)) :
    sl1Line [AV.one (A1.v (Value.string a0)), AV.g [A1.v (Value.bool a1), A1.v (Value.int IntKind.i64 a2), A1.v (Value.string a3), A1.s a4, A1.s a5]] [] =
    bif a1 then
  bif decide (4 + a0.size ≤ 70368744177664) then
    bif decide (((ByteArray.mk #[100, 105, 114, 32]) ++ a0).size + 1 ≤ 70368744177664) then
      (sl1Dec [AV.one (A1.v (Value.int IntKind.i64 a2))] []).bind fun val =>
        bif fitsCells [R1.str] val.1 && true then
          bif
              decide
                (((ByteArray.mk #[100, 105, 114, 32]) ++ a0 ++ (ByteArray.mk #[32])).size + (val.1.getD 0 TC.d).str.size ≤ 70368744177664) then
            bif
                decide
                  (((ByteArray.mk #[100, 105, 114, 32]) ++ a0 ++ (ByteArray.mk #[32]) ++ (val.1.getD 0 TC.d).str).size + 1 ≤ 70368744177664) then
              some
                {
                  cells :=
                    [TC.v
                        (Value.string
                          ((ByteArray.mk #[100, 105, 114, 32]) ++ a0 ++ (ByteArray.mk #[32]) ++ (val.1.getD 0 TC.d).str ++
                            (ByteArray.mk #[10])))],
                  objs := [] }
            else none
          else none
        else none
    else none
  else none
else
  bif decide (5 + a0.size ≤ 70368744177664) then
    bif decide (((ByteArray.mk #[102, 105, 108, 101, 32]) ++ a0).size + 1 ≤ 70368744177664) then
      (sl1Dec [AV.one (A1.v (Value.int IntKind.i64 a2))] []).bind fun val =>
        bif fitsCells [R1.str] val.1 && true then
          bif
              decide
                (((ByteArray.mk #[102, 105, 108, 101, 32]) ++ a0 ++ (ByteArray.mk #[32])).size + (val.1.getD 0 TC.d).str.size ≤
                  70368744177664) then
            bif
                decide
                  (((ByteArray.mk #[102, 105, 108, 101, 32]) ++ a0 ++ (ByteArray.mk #[32]) ++ (val.1.getD 0 TC.d).str).size + 1 ≤
                    70368744177664) then
              (sl1Hex [AV.one (A1.v (Value.string a3))] []).bind fun val_1 =>
                bif fitsCells [R1.str] val_1.1 && true then
                  bif
                      decide
                        (((ByteArray.mk #[102, 105, 108, 101, 32]) ++ a0 ++ (ByteArray.mk #[32]) ++ (val.1.getD 0 TC.d).str ++
                                (ByteArray.mk #[32])).size +
                            (val_1.1.getD 0 TC.d).str.size ≤
                          70368744177664) then
                    bif
                        decide
                          (((ByteArray.mk #[102, 105, 108, 101, 32]) ++ a0 ++ (ByteArray.mk #[32]) ++ (val.1.getD 0 TC.d).str ++
                                    (ByteArray.mk #[32]) ++
                                  (val_1.1.getD 0 TC.d).str).size +
                              1 ≤
                            70368744177664) then
                      some
                        {
                          cells :=
                            [TC.v
                                (Value.string
                                  ((ByteArray.mk #[102, 105, 108, 101, 32]) ++ a0 ++ (ByteArray.mk #[32]) ++
                                          (val.1.getD 0 TC.d).str ++
                                        (ByteArray.mk #[32]) ++
                                      (val_1.1.getD 0 TC.d).str ++
                                    (ByteArray.mk #[10])))],
                          objs := [] }
                    else none
                  else none
                else none
            else none
          else none
        else none
    else none
  else none := by
  refine (sl1Line.run _ _ (by kernel_rfl)).trans ?_
  delta sl1Line sl1Dec sl1Hex XX
  generalize lpL (Y.ctx (lim' Y)) 149 = lp
  generalize lim' Y = call
  kernel_rfl
theorem sl1Line_n.e (a0 : ByteArray) (a1 : Bool) (a2 : Int) (a3 : ByteArray) :
    sl1Line [AV.one (A1.v (Value.string a0)), AV.g [A1.v (Value.bool a1), A1.v (Value.int IntKind.i64 a2), A1.v (Value.string a3), A1.v (Value.slice none 0 0), A1.v (Value.slice none 0 0)]] [] =
    bif a1 then
  bif decide (4 + a0.size ≤ 70368744177664) then
    bif decide (((ByteArray.mk #[100, 105, 114, 32]) ++ a0).size + 1 ≤ 70368744177664) then
      (sl1Dec [AV.one (A1.v (Value.int IntKind.i64 a2))] []).bind fun val =>
        bif fitsCells [R1.str] val.1 && true then
          bif
              decide
                (((ByteArray.mk #[100, 105, 114, 32]) ++ a0 ++ (ByteArray.mk #[32])).size + (val.1.getD 0 TC.d).str.size ≤ 70368744177664) then
            bif
                decide
                  (((ByteArray.mk #[100, 105, 114, 32]) ++ a0 ++ (ByteArray.mk #[32]) ++ (val.1.getD 0 TC.d).str).size + 1 ≤ 70368744177664) then
              some
                {
                  cells :=
                    [TC.v
                        (Value.string
                          ((ByteArray.mk #[100, 105, 114, 32]) ++ a0 ++ (ByteArray.mk #[32]) ++ (val.1.getD 0 TC.d).str ++
                            (ByteArray.mk #[10])))],
                  objs := [] }
            else none
          else none
        else none
    else none
  else none
else
  bif decide (5 + a0.size ≤ 70368744177664) then
    bif decide (((ByteArray.mk #[102, 105, 108, 101, 32]) ++ a0).size + 1 ≤ 70368744177664) then
      (sl1Dec [AV.one (A1.v (Value.int IntKind.i64 a2))] []).bind fun val =>
        bif fitsCells [R1.str] val.1 && true then
          bif
              decide
                (((ByteArray.mk #[102, 105, 108, 101, 32]) ++ a0 ++ (ByteArray.mk #[32])).size + (val.1.getD 0 TC.d).str.size ≤
                  70368744177664) then
            bif
                decide
                  (((ByteArray.mk #[102, 105, 108, 101, 32]) ++ a0 ++ (ByteArray.mk #[32]) ++ (val.1.getD 0 TC.d).str).size + 1 ≤
                    70368744177664) then
              (sl1Hex [AV.one (A1.v (Value.string a3))] []).bind fun val_1 =>
                bif fitsCells [R1.str] val_1.1 && true then
                  bif
                      decide
                        (((ByteArray.mk #[102, 105, 108, 101, 32]) ++ a0 ++ (ByteArray.mk #[32]) ++ (val.1.getD 0 TC.d).str ++
                                (ByteArray.mk #[32])).size +
                            (val_1.1.getD 0 TC.d).str.size ≤
                          70368744177664) then
                    bif
                        decide
                          (((ByteArray.mk #[102, 105, 108, 101, 32]) ++ a0 ++ (ByteArray.mk #[32]) ++ (val.1.getD 0 TC.d).str ++
                                    (ByteArray.mk #[32]) ++
                                  (val_1.1.getD 0 TC.d).str).size +
                              1 ≤
                            70368744177664) then
                      some
                        {
                          cells :=
                            [TC.v
                                (Value.string
                                  ((ByteArray.mk #[102, 105, 108, 101, 32]) ++ a0 ++ (ByteArray.mk #[32]) ++
                                          (val.1.getD 0 TC.d).str ++
                                        (ByteArray.mk #[32]) ++
                                      (val_1.1.getD 0 TC.d).str ++
                                    (ByteArray.mk #[10])))],
                          objs := [] }
                    else none
                  else none
                else none
            else none
          else none
        else none
    else none
  else none := by
  refine (sl1Line.run _ _ (by kernel_rfl)).trans ?_
  delta sl1Line sl1Dec sl1Hex XX
  generalize lpL (Y.ctx (lim' Y)) 149 = lp
  generalize lim' Y = call
  kernel_rfl
theorem internal_stringslite_CutPrefix.e (a0 : ByteArray) (a1 : ByteArray) :
    internal_stringslite_CutPrefix [AV.one (A1.v (Value.string a0)), AV.one (A1.v (Value.string a1))] [] =
    (internal_stringslite_HasPrefix [AV.one (A1.v (Value.string a0)), AV.one (A1.v (Value.string a1))] []).bind fun val =>
  bif fitsCells [R1.bool] val.1 && true then
    bif !(val.1.getD 0 TC.d).bool then some { cells := [TC.v (Value.string a0), TC.v (Value.bool false)], objs := [] }
    else
      bif decide ((↑a1.size : Int) ≤ (↑a0.size : Int)) && decide ((↑a0.size : Int) ≤ (↑a0.size : Int)) then
        some { cells := [TC.v (Value.string (a0.extract (↑a1.size : Int).toNat (↑a0.size : Int).toNat)), TC.v (Value.bool true)], objs := [] }
      else none
  else none := by
  refine (internal_stringslite_CutPrefix.run _ _ (by kernel_rfl)).trans ?_
  delta internal_stringslite_CutPrefix internal_stringslite_HasPrefix XX
  generalize lpL (Y.ctx (lim' Y)) 151 = lp
  generalize lim' Y = call
  kernel_rfl
theorem inumRead.e (a0 : ByteArray) :
    inumRead [AV.one (A1.v (Value.string a0))] [] =
    (strconv_Atoi [AV.one (A1.v (Value.string a0))] []).bind fun val =>
  bif fitsCells [R1.int IntKind.i64, R1.any] val.1 && true then some { cells := [TC.v (Value.int IntKind.i64 (val.1.getD 0 TC.d).int)], objs := [] } else none := by
  refine (inumRead.run _ _ (by kernel_rfl)).trans ?_
  delta inumRead strconv_Atoi XX
  generalize lpL (Y.ctx (lim' Y)) 153 = lp
  generalize lim' Y = call
  kernel_rfl
theorem idataRead.e (a0 : ByteArray) :
    idataRead [AV.one (A1.v (Value.string a0))] [] =
    (iunhex [AV.one (A1.v (Value.string a0))] []).bind fun val => bif fitsCells [R1.str] val.1 && true then some { cells := [TC.v (Value.string (val.1.getD 0 TC.d).str)], objs := [] } else none := by
  refine (idataRead.run _ _ (by kernel_rfl)).trans ?_
  delta idataRead iunhex XX
  generalize lpL (Y.ctx (lim' Y)) 154 = lp
  generalize lim' Y = call
  kernel_rfl
noncomputable def inamesOk.L2 (y0 : List (List D)) (y1 : Int) (y2 : List (List D)) (y3 : Int) (y4 : Int) : Option (Ex × St) := lpL XX 155 (bodyAt 2 inamesOk.c)
  (mkG 0 21 [(0, AV.one (A1.s y0)), (1, AV.one (A1.v (Value.int IntKind.i64 y1))), (7, AV.one (A1.s y2)), (8, AV.one (A1.v (Value.int IntKind.i64 y3))), (9, AV.one (A1.v (Value.int IntKind.i64 y4)))]
    [] GL)
noncomputable def inamesOk.A2 : Ex × St → Option Res := fun r => evA XX 155 (lpL XX 155) 2 inamesOk.c r.fst r.snd (outE XX 155 Tryz.f155)
noncomputable def inamesOk.q2 (y0 : List (List D)) (y1 : Int) (y2 : Bool) : Ex × St := (Ex.ret, mkG 0 21 [(0, AV.one (A1.s y0)), (1, AV.one (A1.v (Value.int IntKind.i64 y1))), (4, AV.one (A1.v (Value.bool y2)))] [] GL)
noncomputable def inamesOk.x2 (y0 : List (List D)) (y1 : Int) : Ex × St := (Ex.exit 0, mkG 0 21 [(0, AV.one (A1.s y0)), (1, AV.one (A1.v (Value.int IntKind.i64 y1)))] [] GL)
theorem inamesOk.e (a0 : List (List D)) (a1 : Int) :
    inamesOk [AV.one (A1.s a0), AV.one (A1.v (Value.int IntKind.i64 a1))] [] =
    (inamesOk.L2 a0 a1 a0 (↑a0.length : Int) 0).bind inamesOk.A2 := by
  refine (inamesOk.run _ _ (by kernel_rfl)).trans ?_
  delta inamesOk inamesOk.L2 inamesOk.A2 XX
  generalize lpL (Y.ctx (lim' Y)) 155 = lp
  generalize lim' Y = call
  kernel_rfl
theorem inamesOk.s2 (y0 : List (List D)) (y1 : Int) (y2 : List (List D)) (y3 : Int) (y4 : Int) :
    inamesOk.L2 y0 y1 y2 y3 y4 =
    bif decide (y4 < y3) then
  bif decide (0 ≤ y4) && decide (y4 < (↑y2.length : Int)) && decide ((y2.getD y4.toNat []).length = 1) then
    bif fitsRow [CK.str] (y2.getD y4.toNat []) 0 && decide (1 ≤ (y2.getD y4.toNat []).length) then
      (inameOk [AV.one (A1.v (Value.string ((y2.getD y4.toNat []).getD 0 D.h).str))] []).bind fun val =>
        bif fitsCells [R1.bool] val.1 && true then bif !(val.1.getD 0 TC.d).bool then some (inamesOk.q2 y0 y1 false) else inamesOk.L2 y0 y1 y2 y3 (IntKind.i64.wrap (y4 + 1)) else none
    else none
  else none
else some (inamesOk.x2 y0 y1) := by
  refine (lpL_eq (Y := Y) (c := lim' Y) (fn := 155) (rid := 2) (b := bodyAt 2 inamesOk.c) (by kernel_rfl) _).trans ?_
  delta inamesOk.L2 inameOk inamesOk.q2 inamesOk.x2 XX
  generalize lpL (Y.ctx (lim' Y)) 155 = lp
  generalize lim' Y = call
  kernel_rfl
theorem inamesOk.a2q2 (y0 : List (List D)) (y1 : Int) (y2 : Bool) :
    inamesOk.A2 (inamesOk.q2 y0 y1 y2) =
    some { cells := [TC.v (Value.bool y2)], objs := [] } := by
  delta inamesOk.A2 inamesOk.q2 XX
  generalize lpL (Y.ctx (lim' Y)) 155 = lp
  generalize lim' Y = call
  kernel_rfl
theorem inamesOk.a2x2 (y0 : List (List D)) (y1 : Int) :
    inamesOk.A2 (inamesOk.x2 y0 y1) =
    (iwithin [AV.one (A1.v (Value.int IntKind.i64 (↑y0.length : Int))), AV.one (A1.v (Value.int IntKind.i64 y1)), AV.one (A1.v (Value.int IntKind.i64 4))] []).bind fun val =>
  bif fitsCells [R1.bool] val.1 && true then some { cells := [TC.v (Value.bool (val.1.getD 0 TC.d).bool)], objs := [] } else none := by
  delta inamesOk.A2 inamesOk.x2 iwithin XX
  generalize lpL (Y.ctx (lim' Y)) 155 = lp
  generalize lim' Y = call
  kernel_rfl
theorem ipathText.e (a0 : List (List D)) :
    ipathText [AV.one (A1.s a0)] [] =
    bif (↑a0.length : Int) == 0 then some { cells := [TC.v (Value.string (ByteArray.mk #[47]))], objs := [] }
else
  (strings_Join [AV.one (A1.s a0), AV.one (A1.v (Value.string (ByteArray.mk #[47])))] []).bind fun val =>
    bif fitsCells [R1.str] val.1 && true then
      bif decide (1 + (val.1.getD 0 TC.d).str.size ≤ 70368744177664) then some { cells := [TC.v (Value.string ((ByteArray.mk #[47]) ++ (val.1.getD 0 TC.d).str))], objs := [] } else none
    else none := by
  refine (ipathText.run _ _ (by kernel_rfl)).trans ?_
  delta ipathText strings_Join XX
  generalize lpL (Y.ctx (lim' Y)) 157 = lp
  generalize lim' Y = call
  kernel_rfl
theorem imodeOk.e (a0 : Int) :
    imodeOk [AV.one (A1.v (Value.int IntKind.i64 a0))] [] =
    (iwithin [AV.one (A1.v (Value.int IntKind.i64 a0)), AV.one (A1.v (Value.int IntKind.i64 0)), AV.one (A1.v (Value.int IntKind.i64 7))] []).bind fun val =>
  bif fitsCells [R1.bool] val.1 && true then some { cells := [TC.v (Value.bool (val.1.getD 0 TC.d).bool)], objs := [] } else none := by
  refine (imodeOk.run _ _ (by kernel_rfl)).trans ?_
  delta imodeOk iwithin XX
  generalize lpL (Y.ctx (lim' Y)) 158 = lp
  generalize lim' Y = call
  kernel_rfl
noncomputable def ientryOk.P4 (y0 : Int) (y1 : List (List D)) (y2 : Int) (y3 : Bool) (y4 : Int) (y5 : ByteArray) : Option Res := evB XX 159 (lpL XX 159) 4 ientryOk.c
  (mkG 0 71 [(1, AV.one (A1.p true 1 [] 0)), (3, AV.one (A1.v (Value.int IntKind.i64 y0)))]
    [(1,
        some
          { kind := Kind.box, row := [D.s y1, D.v (Value.int IntKind.i64 y2), D.v (Value.bool y3), D.v (Value.int IntKind.i64 y4), D.v (Value.string y5)],
            fl := [Own.sh, Own.deep, Own.deep, Own.deep, Own.deep] })]
    GL)
  (outE XX 159 Tryz.f159)
noncomputable def ientryOk.P5 (y0 : Bool) (y1 : List (List D)) (y2 : Int) (y3 : Bool) (y4 : Int) (y5 : ByteArray) : Option Res := evB XX 159 (lpL XX 159) 5 ientryOk.c
  (mkG 0 71 [(1, AV.one (A1.p true 1 [] 0)), (23, AV.one (A1.v (Value.bool y0)))]
    [(1,
        some
          { kind := Kind.box, row := [D.s y1, D.v (Value.int IntKind.i64 y2), D.v (Value.bool y3), D.v (Value.int IntKind.i64 y4), D.v (Value.string y5)],
            fl := [Own.sh, Own.deep, Own.deep, Own.deep, Own.deep] })]
    GL)
  (outE XX 159 Tryz.f159)
noncomputable def ientryOk.P6 (y0 : List (List D)) (y1 : Int) (y2 : Bool) (y3 : Int) (y4 : ByteArray) : Option Res := evB XX 159 (lpL XX 159) 6 ientryOk.c
  (mkG 0 71 [(1, AV.one (A1.p true 1 [] 0))]
    [(1,
        some
          { kind := Kind.box, row := [D.s y0, D.v (Value.int IntKind.i64 y1), D.v (Value.bool y2), D.v (Value.int IntKind.i64 y3), D.v (Value.string y4)],
            fl := [Own.sh, Own.deep, Own.deep, Own.deep, Own.deep] })]
    GL)
  (outE XX 159 Tryz.f159)
theorem ientryOk.e (a0 : List (List D)) (a1 : Int) (a2 : Bool) (a3 : Int) (a4 : ByteArray) :
    ientryOk [AV.g [A1.s a0, A1.v (Value.int IntKind.i64 a1), A1.v (Value.bool a2), A1.v (Value.int IntKind.i64 a3), A1.v (Value.string a4)]] [] =
    bif a1 == 3 then ientryOk.P4 0 a0 a1 a2 a3 a4 else ientryOk.P4 1 a0 a1 a2 a3 a4 := by
  refine (ientryOk.run _ _ (by kernel_rfl)).trans ?_
  delta ientryOk ientryOk.P4 XX
  refine join_use [4, 5, 6] (by kernel_rfl) fun J e1 => ?_
  try simp only [← e1]
  clear e1
  generalize lpL (Y.ctx (lim' Y)) 159 = lp
  generalize lim' Y = call
  kernel_rfl
theorem ientryOk.p4 (y0 : Int) (y1 : List (List D)) (y2 : Int) (y3 : Bool) (y4 : Int) (y5 : ByteArray) :
    ientryOk.P4 y0 y1 y2 y3 y4 y5 =
    (inamesOk [AV.one (A1.s y1), AV.one (A1.v (Value.int IntKind.i64 y0))] []).bind fun val =>
  bif fitsCells [R1.bool] val.1 && true then
    bif !(val.1.getD 0 TC.d).bool then ientryOk.P5 true y1 y2 y3 y4 y5
    else
      (imodeOk [AV.one (A1.v (Value.int IntKind.i64 y4))] []).bind fun val =>
        bif fitsCells [R1.bool] val.1 && true then bif !(val.1.getD 0 TC.d).bool then ientryOk.P5 true y1 y2 y3 y4 y5 else ientryOk.P5 (decide ((↑y5.size : Int) > 24)) y1 y2 y3 y4 y5 else none
  else none := by
  delta ientryOk.P4 inamesOk ientryOk.P5 imodeOk XX
  refine join_at [4, 5, 6] 4 (by kernel_rfl) fun J e1 => ?_
  try simp only [← e1]
  clear e1
  generalize lpL (Y.ctx (lim' Y)) 159 = lp
  generalize lim' Y = call
  kernel_rfl
theorem ientryOk.p5 (y0 : Bool) (y1 : List (List D)) (y2 : Int) (y3 : Bool) (y4 : Int) (y5 : ByteArray) :
    ientryOk.P5 y0 y1 y2 y3 y4 y5 =
    bif y0 then some { cells := [TC.v (Value.bool false)], objs := [] } else ientryOk.P6 y1 y2 y3 y4 y5 := by
  delta ientryOk.P5 ientryOk.P6 XX
  refine join_at [4, 5, 6] 5 (by kernel_rfl) fun J e1 => ?_
  try simp only [← e1]
  clear e1
  generalize lpL (Y.ctx (lim' Y)) 159 = lp
  generalize lim' Y = call
  kernel_rfl
theorem ientryOk.p6 (y0 : List (List D)) (y1 : Int) (y2 : Bool) (y3 : Int) (y4 : ByteArray) :
    ientryOk.P6 y0 y1 y2 y3 y4 =
    bif y1 == 1 then
  bif !y2 then bif y3 == 0 then some { cells := [TC.v (Value.bool (y4.toList == []))], objs := [] } else some { cells := [TC.v (Value.bool false)], objs := [] }
  else some { cells := [TC.v (Value.bool false)], objs := [] }
else
  bif y1 == 2 then bif !y2 then some { cells := [TC.v (Value.bool true)], objs := [] } else some { cells := [TC.v (Value.bool (y4.toList == []))], objs := [] }
  else
    bif y1 == 3 then bif !y2 then some { cells := [TC.v (Value.bool (y4.toList == []))], objs := [] } else some { cells := [TC.v (Value.bool false)], objs := [] }
    else
      bif y1 == 4 then bif !y2 then some { cells := [TC.v (Value.bool (y3 == 0))], objs := [] } else some { cells := [TC.v (Value.bool false)], objs := [] }
      else some { cells := [TC.v (Value.bool false)], objs := [] } := by
  delta ientryOk.P6 XX
  refine join_at [4, 5, 6] 6 (by kernel_rfl) fun J e1 => ?_
  try simp only [← e1]
  clear e1
  generalize lpL (Y.ctx (lim' Y)) 159 = lp
  generalize lim' Y = call
  kernel_rfl
theorem iTree_line.e (a0 : Bool) (a1 : Int) (a2 : ByteArray) (a3 : List (List D)) (a4 : List (List D)) (a5 : List (List D)) :
    iTree_line [AV.g [A1.v (Value.bool a0), A1.v (Value.int IntKind.i64 a1), A1.v (Value.string a2), A1.s a3, A1.s a4], AV.one (A1.s a5)] [] =
    bif a0 then
  (ipathText [AV.one (A1.s a5)] []).bind fun val =>
    bif fitsCells [R1.str] val.1 && true then
      bif decide (4 + (val.1.getD 0 TC.d).str.size ≤ 70368744177664) then
        bif decide (((ByteArray.mk #[100, 105, 114, 32]) ++ (val.1.getD 0 TC.d).str).size + 1 ≤ 70368744177664) then
          (strconv_Itoa [AV.one (A1.v (Value.int IntKind.i64 a1))] []).bind fun val_1 =>
            bif fitsCells [R1.str] val_1.1 && true then
              bif
                  decide
                    (((ByteArray.mk #[100, 105, 114, 32]) ++ (val.1.getD 0 TC.d).str ++ (ByteArray.mk #[32])).size +
                        (val_1.1.getD 0 TC.d).str.size ≤
                      70368744177664) then
                bif
                    decide
                      (((ByteArray.mk #[100, 105, 114, 32]) ++ (val.1.getD 0 TC.d).str ++ (ByteArray.mk #[32]) ++
                              (val_1.1.getD 0 TC.d).str).size +
                          1 ≤
                        70368744177664) then
                  some
                    {
                      cells :=
                        [TC.v
                            (Value.string
                              ((ByteArray.mk #[100, 105, 114, 32]) ++ (val.1.getD 0 TC.d).str ++ (ByteArray.mk #[32]) ++
                                  (val_1.1.getD 0 TC.d).str ++
                                (ByteArray.mk #[10])))],
                      objs := [] }
                else none
              else none
            else none
        else none
      else none
    else none
else
  (ipathText [AV.one (A1.s a5)] []).bind fun val =>
    bif fitsCells [R1.str] val.1 && true then
      bif decide (5 + (val.1.getD 0 TC.d).str.size ≤ 70368744177664) then
        bif decide (((ByteArray.mk #[102, 105, 108, 101, 32]) ++ (val.1.getD 0 TC.d).str).size + 1 ≤ 70368744177664) then
          (strconv_Itoa [AV.one (A1.v (Value.int IntKind.i64 a1))] []).bind fun val_1 =>
            bif fitsCells [R1.str] val_1.1 && true then
              bif
                  decide
                    (((ByteArray.mk #[102, 105, 108, 101, 32]) ++ (val.1.getD 0 TC.d).str ++ (ByteArray.mk #[32])).size +
                        (val_1.1.getD 0 TC.d).str.size ≤
                      70368744177664) then
                bif
                    decide
                      (((ByteArray.mk #[102, 105, 108, 101, 32]) ++ (val.1.getD 0 TC.d).str ++ (ByteArray.mk #[32]) ++
                              (val_1.1.getD 0 TC.d).str).size +
                          1 ≤
                        70368744177664) then
                  (idataText [AV.one (A1.v (Value.string a2))] []).bind fun val_2 =>
                    bif fitsCells [R1.str] val_2.1 && true then
                      bif
                          decide
                            (((ByteArray.mk #[102, 105, 108, 101, 32]) ++ (val.1.getD 0 TC.d).str ++ (ByteArray.mk #[32]) ++
                                      (val_1.1.getD 0 TC.d).str ++
                                    (ByteArray.mk #[32])).size +
                                (val_2.1.getD 0 TC.d).str.size ≤
                              70368744177664) then
                        bif
                            decide
                              (((ByteArray.mk #[102, 105, 108, 101, 32]) ++ (val.1.getD 0 TC.d).str ++ (ByteArray.mk #[32]) ++
                                          (val_1.1.getD 0 TC.d).str ++
                                        (ByteArray.mk #[32]) ++
                                      (val_2.1.getD 0 TC.d).str).size +
                                  1 ≤
                                70368744177664) then
                          some
                            {
                              cells :=
                                [TC.v
                                    (Value.string
                                      ((ByteArray.mk #[102, 105, 108, 101, 32]) ++ (val.1.getD 0 TC.d).str ++ (ByteArray.mk #[32]) ++
                                              (val_1.1.getD 0 TC.d).str ++
                                            (ByteArray.mk #[32]) ++
                                          (val_2.1.getD 0 TC.d).str ++
                                        (ByteArray.mk #[10])))],
                              objs := [] }
                        else none
                      else none
                    else none
                else none
              else none
            else none
        else none
      else none
    else none := by
  refine (iTree_line.run _ _ (by kernel_rfl)).trans ?_
  delta iTree_line ipathText strconv_Itoa idataText XX
  generalize lpL (Y.ctx (lim' Y)) 160 = lp
  generalize lim' Y = call
  kernel_rfl
theorem iTree_line_n.e (a0 : Bool) (a1 : Int) (a2 : ByteArray) (a5 : List (List D)) :
    iTree_line [AV.g [A1.v (Value.bool a0), A1.v (Value.int IntKind.i64 a1), A1.v (Value.string a2), A1.v (Value.slice none 0 0), A1.v (Value.slice none 0 0)], AV.one (A1.s a5)] [] =
    bif a0 then
  (ipathText [AV.one (A1.s a5)] []).bind fun val =>
    bif fitsCells [R1.str] val.1 && true then
      bif decide (4 + (val.1.getD 0 TC.d).str.size ≤ 70368744177664) then
        bif decide (((ByteArray.mk #[100, 105, 114, 32]) ++ (val.1.getD 0 TC.d).str).size + 1 ≤ 70368744177664) then
          (strconv_Itoa [AV.one (A1.v (Value.int IntKind.i64 a1))] []).bind fun val_1 =>
            bif fitsCells [R1.str] val_1.1 && true then
              bif
                  decide
                    (((ByteArray.mk #[100, 105, 114, 32]) ++ (val.1.getD 0 TC.d).str ++ (ByteArray.mk #[32])).size +
                        (val_1.1.getD 0 TC.d).str.size ≤
                      70368744177664) then
                bif
                    decide
                      (((ByteArray.mk #[100, 105, 114, 32]) ++ (val.1.getD 0 TC.d).str ++ (ByteArray.mk #[32]) ++
                              (val_1.1.getD 0 TC.d).str).size +
                          1 ≤
                        70368744177664) then
                  some
                    {
                      cells :=
                        [TC.v
                            (Value.string
                              ((ByteArray.mk #[100, 105, 114, 32]) ++ (val.1.getD 0 TC.d).str ++ (ByteArray.mk #[32]) ++
                                  (val_1.1.getD 0 TC.d).str ++
                                (ByteArray.mk #[10])))],
                      objs := [] }
                else none
              else none
            else none
        else none
      else none
    else none
else
  (ipathText [AV.one (A1.s a5)] []).bind fun val =>
    bif fitsCells [R1.str] val.1 && true then
      bif decide (5 + (val.1.getD 0 TC.d).str.size ≤ 70368744177664) then
        bif decide (((ByteArray.mk #[102, 105, 108, 101, 32]) ++ (val.1.getD 0 TC.d).str).size + 1 ≤ 70368744177664) then
          (strconv_Itoa [AV.one (A1.v (Value.int IntKind.i64 a1))] []).bind fun val_1 =>
            bif fitsCells [R1.str] val_1.1 && true then
              bif
                  decide
                    (((ByteArray.mk #[102, 105, 108, 101, 32]) ++ (val.1.getD 0 TC.d).str ++ (ByteArray.mk #[32])).size +
                        (val_1.1.getD 0 TC.d).str.size ≤
                      70368744177664) then
                bif
                    decide
                      (((ByteArray.mk #[102, 105, 108, 101, 32]) ++ (val.1.getD 0 TC.d).str ++ (ByteArray.mk #[32]) ++
                              (val_1.1.getD 0 TC.d).str).size +
                          1 ≤
                        70368744177664) then
                  (idataText [AV.one (A1.v (Value.string a2))] []).bind fun val_2 =>
                    bif fitsCells [R1.str] val_2.1 && true then
                      bif
                          decide
                            (((ByteArray.mk #[102, 105, 108, 101, 32]) ++ (val.1.getD 0 TC.d).str ++ (ByteArray.mk #[32]) ++
                                      (val_1.1.getD 0 TC.d).str ++
                                    (ByteArray.mk #[32])).size +
                                (val_2.1.getD 0 TC.d).str.size ≤
                              70368744177664) then
                        bif
                            decide
                              (((ByteArray.mk #[102, 105, 108, 101, 32]) ++ (val.1.getD 0 TC.d).str ++ (ByteArray.mk #[32]) ++
                                          (val_1.1.getD 0 TC.d).str ++
                                        (ByteArray.mk #[32]) ++
                                      (val_2.1.getD 0 TC.d).str).size +
                                  1 ≤
                                70368744177664) then
                          some
                            {
                              cells :=
                                [TC.v
                                    (Value.string
                                      ((ByteArray.mk #[102, 105, 108, 101, 32]) ++ (val.1.getD 0 TC.d).str ++ (ByteArray.mk #[32]) ++
                                              (val_1.1.getD 0 TC.d).str ++
                                            (ByteArray.mk #[32]) ++
                                          (val_2.1.getD 0 TC.d).str ++
                                        (ByteArray.mk #[10])))],
                              objs := [] }
                        else none
                      else none
                    else none
                else none
              else none
            else none
        else none
      else none
    else none := by
  refine (iTree_line.run _ _ (by kernel_rfl)).trans ?_
  delta iTree_line ipathText strconv_Itoa idataText XX
  generalize lpL (Y.ctx (lim' Y)) 160 = lp
  generalize lim' Y = call
  kernel_rfl
noncomputable def weqEntry.P9 (y0 : List (List D)) (y1 : Int) (y2 : Bool) (y3 : Int) (y4 : ByteArray) (y5 : List (List D)) (y6 : Int) (y7 : Bool) (y8 : Int) (y9 : ByteArray) : Option Res := evB XX 163 (lpL XX 163) 9 weqEntry.c
  (mkG 0 31 [(2, AV.one (A1.p true 2 [] 0)), (3, AV.one (A1.p true 3 [] 0))]
    [(2,
        some
          { kind := Kind.box, row := [D.s y0, D.v (Value.int IntKind.i64 y1), D.v (Value.bool y2), D.v (Value.int IntKind.i64 y3), D.v (Value.string y4)],
            fl := [Own.sh, Own.deep, Own.deep, Own.deep, Own.deep] }),
      (3,
        some
          { kind := Kind.box, row := [D.s y5, D.v (Value.int IntKind.i64 y6), D.v (Value.bool y7), D.v (Value.int IntKind.i64 y8), D.v (Value.string y9)],
            fl := [Own.sh, Own.deep, Own.deep, Own.deep, Own.deep] })]
    GL)
  (outE XX 163 Tryz.f163)
theorem weqEntry.e (a0 : List (List D)) (a1 : Int) (a2 : Bool) (a3 : Int) (a4 : ByteArray) (a5 : List (List D)) (a6 : Int) (a7 : Bool) (a8 : Int) (a9 : ByteArray) :
    weqEntry
  [AV.g [A1.s a0, A1.v (Value.int IntKind.i64 a1), A1.v (Value.bool a2), A1.v (Value.int IntKind.i64 a3), A1.v (Value.string a4)],
    AV.g [A1.s a5, A1.v (Value.int IntKind.i64 a6), A1.v (Value.bool a7), A1.v (Value.int IntKind.i64 a8), A1.v (Value.string a9)]]
  [] =
    (weqStringS [AV.one (A1.s a0), AV.one (A1.s a5)] []).bind fun val =>
  bif fitsCells [R1.bool] val.1 && true then
    bif !(val.1.getD 0 TC.d).bool then some { cells := [TC.v (Value.bool false)], objs := [] }
    else
      bif a1 != a6 then some { cells := [TC.v (Value.bool false)], objs := [] }
      else
        bif !a2 == a7 then some { cells := [TC.v (Value.bool false)], objs := [] }
        else bif a3 != a8 then some { cells := [TC.v (Value.bool false)], objs := [] } else weqEntry.P9 a0 a1 a2 a3 a4 a5 a6 a7 a8 a9
  else none := by
  refine (weqEntry.run _ _ (by kernel_rfl)).trans ?_
  delta weqEntry weqStringS weqEntry.P9 XX
  refine join_use [9] (by kernel_rfl) fun J e1 => ?_
  try simp only [← e1]
  clear e1
  generalize lpL (Y.ctx (lim' Y)) 163 = lp
  generalize lim' Y = call
  kernel_rfl
theorem weqEntry.p9 (y0 : List (List D)) (y1 : Int) (y2 : Bool) (y3 : Int) (y4 : ByteArray) (y5 : List (List D)) (y6 : Int) (y7 : Bool) (y8 : Int) (y9 : ByteArray) :
    weqEntry.P9 y0 y1 y2 y3 y4 y5 y6 y7 y8 y9 =
    bif !y4.toList == y9.toList then some { cells := [TC.v (Value.bool false)], objs := [] } else some { cells := [TC.v (Value.bool true)], objs := [] } := by
  delta weqEntry.P9 XX
  refine join_at [9] 9 (by kernel_rfl) fun J e1 => ?_
  try simp only [← e1]
  clear e1
  generalize lpL (Y.ctx (lim' Y)) 163 = lp
  generalize lim' Y = call
  kernel_rfl
noncomputable def inameOk.L2 (y0 : ByteArray) (y1 : Int) (y2 : Int) : Option (Ex × St) := lpL XX 187 (bodyAt 2 inameOk.c) (mkG 0 35 [(0, AV.one (A1.v (Value.string y0))), (5, AV.one (A1.v (Value.int IntKind.i64 y1))), (6, AV.one (A1.v (Value.int IntKind.i64 y2)))] [] GL)
noncomputable def inameOk.A2 : Ex × St → Option Res := fun r => evA XX 187 (lpL XX 187) 2 inameOk.c r.fst r.snd (outE XX 187 Tryz.f187)
noncomputable def inameOk.P5 (y0 : ByteArray) (y1 : Int) (y2 : Int) (y3 : Bool) : Option (Ex × St) := evB XX 187 (lpL XX 187) 5 (bodyAt 2 inameOk.c)
  (mkG 0 35 [(0, AV.one (A1.v (Value.string y0))), (5, AV.one (A1.v (Value.int IntKind.i64 y1))), (6, AV.one (A1.v (Value.int IntKind.i64 y2))), (30, AV.one (A1.v (Value.bool y3)))] [] GL)
  (backL (lpL XX 187) (bodyAt 2 inameOk.c) (XX.live 187 2))
noncomputable def inameOk.x2 (y0 : ByteArray) : Ex × St := (Ex.exit 0, mkG 0 35 [(0, AV.one (A1.v (Value.string y0)))] [] GL)
noncomputable def inameOk.q2 (y0 : ByteArray) (y1 : Bool) : Ex × St := (Ex.ret, mkG 0 35 [(0, AV.one (A1.v (Value.string y0))), (2, AV.one (A1.v (Value.bool y1)))] [] GL)
theorem inameOk.e (a0 : ByteArray) :
    inameOk [AV.one (A1.v (Value.string a0))] [] =
    (inameOk.L2 a0 (↑a0.size : Int) 0).bind inameOk.A2 := by
  refine (inameOk.run _ _ (by kernel_rfl)).trans ?_
  delta inameOk inameOk.L2 inameOk.A2 XX
  generalize lpL (Y.ctx (lim' Y)) 187 = lp
  generalize lim' Y = call
  kernel_rfl
theorem inameOk.s2 (y0 : ByteArray) (y1 : Int) (y2 : Int) :
    inameOk.L2 y0 y1 y2 =
    bif decide (y2 < y1) then
  bif decide (0 ≤ y2) && decide (y2 < (↑y0.size : Int)) then
    bif decide (byteAt y0 y2.toNat < 97) then
      bif decide (0 ≤ y2) && decide (y2 < (↑y0.size : Int)) then
        bif decide (byteAt y0 y2.toNat < 48) then inameOk.P5 y0 y1 y2 true
        else bif decide (0 ≤ y2) && decide (y2 < (↑y0.size : Int)) then inameOk.P5 y0 y1 y2 (decide (byteAt y0 y2.toNat > 57)) else none
      else none
    else
      bif decide (0 ≤ y2) && decide (y2 < (↑y0.size : Int)) then
        bif decide (byteAt y0 y2.toNat > 122) then
          bif decide (0 ≤ y2) && decide (y2 < (↑y0.size : Int)) then
            bif decide (byteAt y0 y2.toNat < 48) then inameOk.P5 y0 y1 y2 true
            else bif decide (0 ≤ y2) && decide (y2 < (↑y0.size : Int)) then inameOk.P5 y0 y1 y2 (decide (byteAt y0 y2.toNat > 57)) else none
          else none
        else inameOk.P5 y0 y1 y2 false
      else none
  else none
else some (inameOk.x2 y0) := by
  refine (lpL_eq (Y := Y) (c := lim' Y) (fn := 187) (rid := 2) (b := bodyAt 2 inameOk.c) (by kernel_rfl) _).trans ?_
  delta inameOk.L2 inameOk.P5 inameOk.x2 XX
  refine join_use [5] (by kernel_rfl) fun J e1 => ?_
  try simp only [← e1]
  clear e1
  generalize lpL (Y.ctx (lim' Y)) 187 = lp
  generalize lim' Y = call
  kernel_rfl
theorem inameOk.p5 (y0 : ByteArray) (y1 : Int) (y2 : Int) (y3 : Bool) :
    inameOk.P5 y0 y1 y2 y3 =
    bif y3 then some (inameOk.q2 y0 false) else inameOk.L2 y0 y1 (IntKind.i64.wrap (y2 + 1)) := by
  delta inameOk.P5 inameOk.q2 inameOk.L2 XX
  refine join_at [5] 5 (by kernel_rfl) fun J e1 => ?_
  try simp only [← e1]
  clear e1
  generalize lpL (Y.ctx (lim' Y)) 187 = lp
  generalize lim' Y = call
  kernel_rfl
theorem inameOk.a2x2 (y0 : ByteArray) :
    inameOk.A2 (inameOk.x2 y0) =
    (iwithin [AV.one (A1.v (Value.int IntKind.i64 (↑y0.size : Int))), AV.one (A1.v (Value.int IntKind.i64 1)), AV.one (A1.v (Value.int IntKind.i64 5))] []).bind fun val =>
  bif fitsCells [R1.bool] val.1 && true then some { cells := [TC.v (Value.bool (val.1.getD 0 TC.d).bool)], objs := [] } else none := by
  delta inameOk.A2 inameOk.x2 iwithin XX
  generalize lpL (Y.ctx (lim' Y)) 187 = lp
  generalize lim' Y = call
  kernel_rfl
theorem inameOk.a2q2 (y0 : ByteArray) (y1 : Bool) :
    inameOk.A2 (inameOk.q2 y0 y1) =
    some { cells := [TC.v (Value.bool y1)], objs := [] } := by
  delta inameOk.A2 inameOk.q2 XX
  generalize lpL (Y.ctx (lim' Y)) 187 = lp
  generalize lim' Y = call
  kernel_rfl
noncomputable def sl1Digit.P2 (y0 : Int) (y1 : Bool) : Option Res := evB XX 192 (lpL XX 192) 2 sl1Digit.c (mkG 0 24 [(0, AV.one (A1.v (Value.int IntKind.u8 y0))), (3, AV.one (A1.v (Value.bool y1)))] [] GL) (outE XX 192 Tryz.f192)
noncomputable def sl1Digit.P4 (y0 : Int) (y1 : Bool) : Option Res := evB XX 192 (lpL XX 192) 4 sl1Digit.c (mkG 0 24 [(0, AV.one (A1.v (Value.int IntKind.u8 y0))), (13, AV.one (A1.v (Value.bool y1)))] [] GL) (outE XX 192 Tryz.f192)
theorem sl1Digit.e (a0 : Int) :
    sl1Digit [AV.one (A1.v (Value.int IntKind.u8 a0))] [] =
    bif decide (a0 ≥ 48) then sl1Digit.P2 a0 (decide (a0 ≤ 57)) else sl1Digit.P2 a0 false := by
  refine (sl1Digit.run _ _ (by kernel_rfl)).trans ?_
  delta sl1Digit sl1Digit.P2 XX
  refine join_use [2, 4] (by kernel_rfl) fun J e1 => ?_
  try simp only [← e1]
  clear e1
  generalize lpL (Y.ctx (lim' Y)) 192 = lp
  generalize lim' Y = call
  kernel_rfl
theorem sl1Digit.p2 (y0 : Int) (y1 : Bool) :
    sl1Digit.P2 y0 y1 =
    bif y1 then some { cells := [TC.v (Value.int IntKind.i64 (IntKind.i64.wrap (IntKind.u8.wrap (y0 - 48))))], objs := [] }
else bif decide (y0 ≥ 97) then sl1Digit.P4 y0 (decide (y0 ≤ 102)) else sl1Digit.P4 y0 false := by
  delta sl1Digit.P2 sl1Digit.P4 XX
  refine join_at [2, 4] 2 (by kernel_rfl) fun J e1 => ?_
  try simp only [← e1]
  clear e1
  generalize lpL (Y.ctx (lim' Y)) 192 = lp
  generalize lim' Y = call
  kernel_rfl
theorem sl1Digit.p4 (y0 : Int) (y1 : Bool) :
    sl1Digit.P4 y0 y1 =
    bif y1 then some { cells := [TC.v (Value.int IntKind.i64 (IntKind.i64.wrap (IntKind.i64.wrap (IntKind.u8.wrap (y0 - 97)) + 10)))], objs := [] }
else some { cells := [TC.v (Value.int IntKind.i64 99)], objs := [] } := by
  delta sl1Digit.P4 XX
  refine join_at [2, 4] 4 (by kernel_rfl) fun J e1 => ?_
  try simp only [← e1]
  clear e1
  generalize lpL (Y.ctx (lim' Y)) 192 = lp
  generalize lim' Y = call
  kernel_rfl
theorem sl1Dec.e (a0 : Int) :
    sl1Dec [AV.one (A1.v (Value.int IntKind.i64 a0))] [] =
    bif decide (a0 < -9223372036854775807) then
  some
    {
      cells :=
        [TC.v
            (Value.string
              (ByteArray.mk #[45, 57, 50, 50, 51, 51, 55, 50, 48, 51, 54, 56, 53, 52, 55, 55, 53, 56, 48, 56]))],
      objs := [] }
else
  bif decide (a0 < 0) then
    (sl1Dec [AV.one (A1.v (Value.int IntKind.i64 (IntKind.i64.wrap (0 - a0))))] []).bind fun val =>
      bif fitsCells [R1.str] val.1 && true then
        bif decide (1 + (val.1.getD 0 TC.d).str.size ≤ 70368744177664) then some { cells := [TC.v (Value.string ((ByteArray.mk #[45]) ++ (val.1.getD 0 TC.d).str))], objs := [] } else none
      else none
  else
    bif decide (a0 < 10) then some { cells := [TC.v (Value.string (strOf [[D.v (Value.int IntKind.u8 (IntKind.u8.wrap (IntKind.i64.wrap (48 + a0))))]]))], objs := [] }
    else
      (sl1Dec [AV.one (A1.v (Value.int IntKind.i64 (IntKind.i64.wrap (a0.tdiv 10))))] []).bind fun val =>
        bif fitsCells [R1.str] val.1 && true then
          bif decide ((val.1.getD 0 TC.d).str.size + 1 ≤ 70368744177664) then
            some { cells := [TC.v (Value.string ((val.1.getD 0 TC.d).str ++ strOf [[D.v (Value.int IntKind.u8 (IntKind.u8.wrap (IntKind.i64.wrap (48 + a0.tmod 10))))]]))], objs := [] }
          else none
        else none := by
  refine (sl1Dec.run _ _ (by kernel_rfl)).trans ?_
  delta sl1Dec XX
  generalize lpL (Y.ctx (lim' Y)) 193 = lp
  generalize lim' Y = call
  kernel_rfl
noncomputable def sl1Hex.L3 (y0 : ByteArray) (y1 : ByteArray) (y2 : Int) : Option (Ex × St) := lpL XX 194 (bodyAt 3 sl1Hex.c) (mkG 0 37 [(0, AV.one (A1.v (Value.string y0))), (3, AV.one (A1.v (Value.string y1))), (4, AV.one (A1.v (Value.int IntKind.i64 y2)))] [] GL)
noncomputable def sl1Hex.A3 : Ex × St → Option Res := fun r => evA XX 194 (lpL XX 194) 3 sl1Hex.c r.fst r.snd (outE XX 194 Tryz.f194)
noncomputable def sl1Hex.x3 (y0 : ByteArray) : Ex × St := (Ex.exit 0, mkG 0 37 [(3, AV.one (A1.v (Value.string y0)))] [] GL)
theorem sl1Hex.e (a0 : ByteArray) :
    sl1Hex [AV.one (A1.v (Value.string a0))] [] =
    (sl1Hex.L3 a0 (ByteArray.mk #[]) 0).bind sl1Hex.A3 := by
  refine (sl1Hex.run _ _ (by kernel_rfl)).trans ?_
  delta sl1Hex sl1Hex.L3 sl1Hex.A3 XX
  generalize lpL (Y.ctx (lim' Y)) 194 = lp
  generalize lim' Y = call
  kernel_rfl
theorem sl1Hex.s3 (y0 : ByteArray) (y1 : ByteArray) (y2 : Int) :
    sl1Hex.L3 y0 y1 y2 =
    bif decide (y2 < (↑y0.size : Int)) then
  bif decide (0 ≤ y2) && decide (y2 < (↑y0.size : Int)) then
    bif decide (0 ≤ y2) && decide (y2 < (↑y0.size : Int)) then
      bif
          decide (IntKind.u8.wrap ((byteAt y0 y2.toNat).tdiv 16) ≤ IntKind.u8.wrap (IntKind.u8.wrap ((byteAt y0 y2.toNat).tdiv 16) + 1)) &&
            decide (IntKind.u8.wrap (IntKind.u8.wrap ((byteAt y0 y2.toNat).tdiv 16) + 1) ≤ (↑(ByteArray.mk #[48, 49, 50, 51, 52, 53, 54, 55, 56, 57, 97, 98, 99, 100, 101, 102]).size : Int)) then
        bif
            decide
              (y1.size +
                  ((ByteArray.mk #[48, 49, 50, 51, 52, 53, 54, 55, 56, 57, 97, 98, 99, 100, 101, 102]).extract
                      (IntKind.u8.wrap ((byteAt y0 y2.toNat).tdiv 16)).toNat (IntKind.u8.wrap (IntKind.u8.wrap ((byteAt y0 y2.toNat).tdiv 16) + 1)).toNat).size ≤
                70368744177664) then
          bif decide (0 ≤ y2) && decide (y2 < (↑y0.size : Int)) then
            bif decide (0 ≤ y2) && decide (y2 < (↑y0.size : Int)) then
              bif
                  decide ((byteAt y0 y2.toNat).tmod 16 ≤ IntKind.u8.wrap ((byteAt y0 y2.toNat).tmod 16 + 1)) &&
                    decide (IntKind.u8.wrap ((byteAt y0 y2.toNat).tmod 16 + 1) ≤ (↑(ByteArray.mk #[48, 49, 50, 51, 52, 53, 54, 55, 56, 57, 97, 98, 99, 100, 101, 102]).size : Int)) then
                bif
                    decide
                      ((y1 ++
                              (ByteArray.mk #[48, 49, 50, 51, 52, 53, 54, 55, 56, 57, 97, 98, 99, 100, 101, 102]).extract
                                (IntKind.u8.wrap ((byteAt y0 y2.toNat).tdiv 16)).toNat (IntKind.u8.wrap (IntKind.u8.wrap ((byteAt y0 y2.toNat).tdiv 16) + 1)).toNat).size +
                          ((ByteArray.mk #[48, 49, 50, 51, 52, 53, 54, 55, 56, 57, 97, 98, 99, 100, 101, 102]).extract
                              ((byteAt y0 y2.toNat).tmod 16).toNat (IntKind.u8.wrap ((byteAt y0 y2.toNat).tmod 16 + 1)).toNat).size ≤
                        70368744177664) then
                  sl1Hex.L3 y0
                    (y1 ++
                        (ByteArray.mk #[48, 49, 50, 51, 52, 53, 54, 55, 56, 57, 97, 98, 99, 100, 101, 102]).extract
                          (IntKind.u8.wrap ((byteAt y0 y2.toNat).tdiv 16)).toNat (IntKind.u8.wrap (IntKind.u8.wrap ((byteAt y0 y2.toNat).tdiv 16) + 1)).toNat ++
                      (ByteArray.mk #[48, 49, 50, 51, 52, 53, 54, 55, 56, 57, 97, 98, 99, 100, 101, 102]).extract
                        ((byteAt y0 y2.toNat).tmod 16).toNat (IntKind.u8.wrap ((byteAt y0 y2.toNat).tmod 16 + 1)).toNat)
                    (IntKind.i64.wrap (y2 + 1))
                else none
              else none
            else none
          else none
        else none
      else none
    else none
  else none
else some (sl1Hex.x3 y1) := by
  refine (lpL_eq (Y := Y) (c := lim' Y) (fn := 194) (rid := 3) (b := bodyAt 3 sl1Hex.c) (by kernel_rfl) _).trans ?_
  delta sl1Hex.L3 sl1Hex.x3 XX
  generalize lpL (Y.ctx (lim' Y)) 194 = lp
  generalize lim' Y = call
  kernel_rfl
theorem sl1Hex.a3x3 (y0 : ByteArray) :
    sl1Hex.A3 (sl1Hex.x3 y0) =
    bif y0.toList == [] then some { cells := [TC.v (Value.string (ByteArray.mk #[45]))], objs := [] } else some { cells := [TC.v (Value.string y0)], objs := [] } := by
  delta sl1Hex.A3 sl1Hex.x3 XX
  generalize lpL (Y.ctx (lim' Y)) 194 = lp
  generalize lim' Y = call
  kernel_rfl
theorem internal_stringslite_HasPrefix.e (a0 : ByteArray) (a1 : ByteArray) :
    internal_stringslite_HasPrefix [AV.one (A1.v (Value.string a0)), AV.one (A1.v (Value.string a1))] [] =
    bif decide ((↑a0.size : Int) ≥ (↑a1.size : Int)) then
  bif decide ((↑a1.size : Int) ≤ (↑a0.size : Int)) then some { cells := [TC.v (Value.bool ((a0.extract 0 (↑a1.size : Int).toNat).toList == a1.toList))], objs := [] } else none
else some { cells := [TC.v (Value.bool false)], objs := [] } := by
  refine (internal_stringslite_HasPrefix.run _ _ (by kernel_rfl)).trans ?_
  delta internal_stringslite_HasPrefix XX
  generalize lpL (Y.ctx (lim' Y)) 196 = lp
  generalize lim' Y = call
  kernel_rfl
noncomputable def iunhex.L3 (y0 : ByteArray) (y1 : Int) (y2 : List (List D)) : Option (Ex × St) := lpL XX 199 (bodyAt 3 iunhex.c)
  (mkG 0 45 [(0, AV.one (A1.v (Value.string y0))), (3, AV.one (A1.r 3 [] 0)), (4, AV.one (A1.v (Value.int IntKind.i64 y1)))] [(3, some { kind := Kind.virt, row := [D.s y2], fl := [Own.deep] })] GL)
noncomputable def iunhex.A3 : Ex × St → Option Res := fun r => evA XX 199 (lpL XX 199) 3 iunhex.c r.fst r.snd (outE XX 199 Tryz.f199)
noncomputable def iunhex.P5 (y0 : ByteArray) (y1 : Int) (y2 : List (List D)) : Option (Ex × St) := evB XX 199 (lpL XX 199) 5 (bodyAt 3 iunhex.c)
  (mkG 0 45 [(0, AV.one (A1.v (Value.string y0))), (3, AV.one (A1.r 3 [] 0)), (4, AV.one (A1.v (Value.int IntKind.i64 y1)))] [(3, some { kind := Kind.virt, row := [D.s y2], fl := [Own.deep] })] GL)
  (backL (lpL XX 199) (bodyAt 3 iunhex.c) (XX.live 199 3))
noncomputable def iunhex.x3 (y0 : List (List D)) : Ex × St := (Ex.exit 0, mkG 0 45 [(3, AV.one (A1.r 3 [] 0))] [(3, some { kind := Kind.virt, row := [D.s y0], fl := [Own.deep] })] GL)
theorem iunhex.e (a0 : ByteArray) :
    iunhex [AV.one (A1.v (Value.string a0))] [] =
    (iunhex.L3 a0 0 []).bind iunhex.A3 := by
  refine (iunhex.run _ _ (by kernel_rfl)).trans ?_
  delta iunhex iunhex.L3 iunhex.A3 XX
  generalize lpL (Y.ctx (lim' Y)) 199 = lp
  generalize lim' Y = call
  kernel_rfl
theorem iunhex.s3 (y0 : ByteArray) (y1 : Int) (y2 : List (List D)) :
    iunhex.L3 y0 y1 y2 =
    bif decide (IntKind.i64.wrap (y1 + 1) < (↑y0.size : Int)) then
  bif decide (0 ≤ y1) && decide (y1 < (↑y0.size : Int)) then
    (inibble [AV.one (A1.v (Value.int IntKind.u8 (byteAt y0 y1.toNat)))] []).bind fun val =>
      bif fitsCells [R1.int IntKind.i64] val.1 && true then
        bif decide ((val.1.getD 0 TC.d).int ≥ 0) then
          bif decide (0 ≤ IntKind.i64.wrap (y1 + 1)) && decide (IntKind.i64.wrap (y1 + 1) < (↑y0.size : Int)) then
            (inibble [AV.one (A1.v (Value.int IntKind.u8 (byteAt y0 (IntKind.i64.wrap (y1 + 1)).toNat)))] []).bind fun val =>
              bif fitsCells [R1.int IntKind.i64] val.1 && true then bif decide ((val.1.getD 0 TC.d).int ≥ 0) then iunhex.P5 y0 y1 y2 else some (iunhex.x3 y2) else none
          else none
        else some (iunhex.x3 y2)
      else none
  else none
else some (iunhex.x3 y2) := by
  refine (lpL_eq (Y := Y) (c := lim' Y) (fn := 199) (rid := 3) (b := bodyAt 3 iunhex.c) (by kernel_rfl) _).trans ?_
  delta iunhex.L3 inibble iunhex.P5 iunhex.x3 XX
  refine join_use [5] (by kernel_rfl) fun J e1 => ?_
  try simp only [← e1]
  clear e1
  generalize lpL (Y.ctx (lim' Y)) 199 = lp
  generalize lim' Y = call
  kernel_rfl
theorem iunhex.p5 (y0 : ByteArray) (y1 : Int) (y2 : List (List D)) :
    iunhex.P5 y0 y1 y2 =
    bif decide (0 ≤ y1) && decide (y1 < (↑y0.size : Int)) then
  (inibble [AV.one (A1.v (Value.int IntKind.u8 (byteAt y0 y1.toNat)))] []).bind fun val =>
    bif fitsCells [R1.int IntKind.i64] val.1 && true then
      bif decide (0 ≤ IntKind.i64.wrap (y1 + 1)) && decide (IntKind.i64.wrap (y1 + 1) < (↑y0.size : Int)) then
        (inibble [AV.one (A1.v (Value.int IntKind.u8 (byteAt y0 (IntKind.i64.wrap (y1 + 1)).toNat)))] []).bind fun val_1 =>
          bif fitsCells [R1.int IntKind.i64] val_1.1 && true then
            bif rowsLen 1 y2 && true && true && true && decide ((y2.length + 1) * 2 ≤ 70368744177664) then
              iunhex.L3 y0 (IntKind.i64.wrap (y1 + 2))
                (y2 ++ [[D.v (Value.int IntKind.u8 (IntKind.u8.wrap (IntKind.i64.wrap (IntKind.i64.wrap (16 * (val.1.getD 0 TC.d).int) + (val_1.1.getD 0 TC.d).int))))]])
            else none
          else none
      else none
    else none
else none := by
  delta iunhex.P5 inibble iunhex.L3 XX
  refine join_at [5] 5 (by kernel_rfl) fun J e1 => ?_
  try simp only [← e1]
  clear e1
  generalize lpL (Y.ctx (lim' Y)) 199 = lp
  generalize lim' Y = call
  kernel_rfl
theorem iunhex.a3x3 (y0 : List (List D)) :
    iunhex.A3 (iunhex.x3 y0) =
    bif bytesB y0 then some { cells := [TC.v (Value.string (strOf y0))], objs := [] } else none := by
  delta iunhex.A3 iunhex.x3 XX
  generalize lpL (Y.ctx (lim' Y)) 199 = lp
  generalize lim' Y = call
  kernel_rfl
theorem idataText.e (a0 : ByteArray) :
    idataText [AV.one (A1.v (Value.string a0))] [] =
    bif a0.toList == [] then some { cells := [TC.v (Value.string (ByteArray.mk #[45]))], objs := [] }
else (ihexOf [AV.one (A1.v (Value.string a0))] []).bind fun val => bif fitsCells [R1.str] val.1 && true then some { cells := [TC.v (Value.string (val.1.getD 0 TC.d).str)], objs := [] } else none := by
  refine (idataText.run _ _ (by kernel_rfl)).trans ?_
  delta idataText ihexOf XX
  generalize lpL (Y.ctx (lim' Y)) 203 = lp
  generalize lim' Y = call
  kernel_rfl
noncomputable def inibble.P2 (y0 : Int) (y1 : Bool) : Option Res := evB XX 232 (lpL XX 232) 2 inibble.c (mkG 0 35 [(0, AV.one (A1.v (Value.int IntKind.u8 y0))), (3, AV.one (A1.v (Value.bool y1)))] [] GL) (outE XX 232 Tryz.f232)
noncomputable def inibble.P4 (y0 : Int) (y1 : Bool) : Option Res := evB XX 232 (lpL XX 232) 4 inibble.c (mkG 0 35 [(0, AV.one (A1.v (Value.int IntKind.u8 y0))), (13, AV.one (A1.v (Value.bool y1)))] [] GL) (outE XX 232 Tryz.f232)
noncomputable def inibble.P6 (y0 : Int) (y1 : Bool) : Option Res := evB XX 232 (lpL XX 232) 6 inibble.c (mkG 0 35 [(0, AV.one (A1.v (Value.int IntKind.u8 y0))), (24, AV.one (A1.v (Value.bool y1)))] [] GL) (outE XX 232 Tryz.f232)
theorem inibble.e (a0 : Int) :
    inibble [AV.one (A1.v (Value.int IntKind.u8 a0))] [] =
    bif decide (a0 ≥ 48) then inibble.P2 a0 (decide (a0 ≤ 57)) else inibble.P2 a0 false := by
  refine (inibble.run _ _ (by kernel_rfl)).trans ?_
  delta inibble inibble.P2 XX
  refine join_use [2, 4, 6] (by kernel_rfl) fun J e1 => ?_
  try simp only [← e1]
  clear e1
  generalize lpL (Y.ctx (lim' Y)) 232 = lp
  generalize lim' Y = call
  kernel_rfl
theorem inibble.p2 (y0 : Int) (y1 : Bool) :
    inibble.P2 y0 y1 =
    bif y1 then some { cells := [TC.v (Value.int IntKind.i64 (IntKind.i64.wrap (IntKind.u8.wrap (y0 - 48))))], objs := [] }
else bif decide (y0 ≥ 97) then inibble.P4 y0 (decide (y0 ≤ 102)) else inibble.P4 y0 false := by
  delta inibble.P2 inibble.P4 XX
  refine join_at [2, 4, 6] 2 (by kernel_rfl) fun J e1 => ?_
  try simp only [← e1]
  clear e1
  generalize lpL (Y.ctx (lim' Y)) 232 = lp
  generalize lim' Y = call
  kernel_rfl
theorem inibble.p4 (y0 : Int) (y1 : Bool) :
    inibble.P4 y0 y1 =
    bif y1 then some { cells := [TC.v (Value.int IntKind.i64 (IntKind.i64.wrap (IntKind.i64.wrap (IntKind.u8.wrap (y0 - 97)) + 10)))], objs := [] }
else bif decide (y0 ≥ 65) then inibble.P6 y0 (decide (y0 ≤ 70)) else inibble.P6 y0 false := by
  delta inibble.P4 inibble.P6 XX
  refine join_at [2, 4, 6] 4 (by kernel_rfl) fun J e1 => ?_
  try simp only [← e1]
  clear e1
  generalize lpL (Y.ctx (lim' Y)) 232 = lp
  generalize lim' Y = call
  kernel_rfl
theorem inibble.p6 (y0 : Int) (y1 : Bool) :
    inibble.P6 y0 y1 =
    bif y1 then some { cells := [TC.v (Value.int IntKind.i64 (IntKind.i64.wrap (IntKind.i64.wrap (IntKind.u8.wrap (y0 - 65)) + 10)))], objs := [] }
else some { cells := [TC.v (Value.int IntKind.i64 (-1))], objs := [] } := by
  delta inibble.P6 XX
  refine join_at [2, 4, 6] 6 (by kernel_rfl) fun J e1 => ?_
  try simp only [← e1]
  clear e1
  generalize lpL (Y.ctx (lim' Y)) 232 = lp
  generalize lim' Y = call
  kernel_rfl
noncomputable def ihexOf.L3 (y0 : ByteArray) (y1 : Int) (y2 : List (List D)) : Option (Ex × St) := lpL XX 236 (bodyAt 3 ihexOf.c)
  (mkG 0 27 [(0, AV.one (A1.v (Value.string y0))), (3, AV.one (A1.r 3 [] 0)), (4, AV.one (A1.v (Value.int IntKind.i64 y1)))] [(3, some { kind := Kind.virt, row := [D.s y2], fl := [Own.deep] })] GL)
noncomputable def ihexOf.A3 : Ex × St → Option Res := fun r => evA XX 236 (lpL XX 236) 3 ihexOf.c r.fst r.snd (outE XX 236 Tryz.f236)
noncomputable def ihexOf.x3 (y0 : List (List D)) : Ex × St := (Ex.exit 0, mkG 0 27 [(3, AV.one (A1.r 3 [] 0))] [(3, some { kind := Kind.virt, row := [D.s y0], fl := [Own.deep] })] GL)
theorem ihexOf.e (a0 : ByteArray) :
    ihexOf [AV.one (A1.v (Value.string a0))] [] =
    (ihexOf.L3 a0 0 []).bind ihexOf.A3 := by
  refine (ihexOf.run _ _ (by kernel_rfl)).trans ?_
  delta ihexOf ihexOf.L3 ihexOf.A3 XX
  generalize lpL (Y.ctx (lim' Y)) 236 = lp
  generalize lim' Y = call
  kernel_rfl
theorem ihexOf.s3 (y0 : ByteArray) (y1 : Int) (y2 : List (List D)) :
    ihexOf.L3 y0 y1 y2 =
    bif decide (y1 < (↑y0.size : Int)) then
  bif decide (0 ≤ y1) && decide (y1 < (↑y0.size : Int)) then
    bif decide (IntKind.u8.wrap ((byteAt y0 y1.toNat).tdiv 16) < (↑(ByteArray.mk #[48, 49, 50, 51, 52, 53, 54, 55, 56, 57, 97, 98, 99, 100, 101, 102]).size : Int)) then
      bif decide (0 ≤ y1) && decide (y1 < (↑y0.size : Int)) then
        bif decide ((byteAt y0 y1.toNat).tmod 16 < (↑(ByteArray.mk #[48, 49, 50, 51, 52, 53, 54, 55, 56, 57, 97, 98, 99, 100, 101, 102]).size : Int)) then
          bif rowsLen 1 y2 && true && true && true && decide ((y2.length + 2) * 2 ≤ 70368744177664) then
            ihexOf.L3 y0 (IntKind.i64.wrap (y1 + 1))
              (y2 ++
                [[D.v
                      (Value.int IntKind.u8
                        (byteAt
                          (ByteArray.mk #[48, 49, 50, 51, 52, 53, 54, 55, 56, 57, 97, 98, 99, 100, 101, 102])
                          (IntKind.u8.wrap ((byteAt y0 y1.toNat).tdiv 16)).toNat))],
                  [D.v
                      (Value.int IntKind.u8
                        (byteAt
                          (ByteArray.mk #[48, 49, 50, 51, 52, 53, 54, 55, 56, 57, 97, 98, 99, 100, 101, 102])
                          ((byteAt y0 y1.toNat).tmod 16).toNat))]])
          else none
        else none
      else none
    else none
  else none
else some (ihexOf.x3 y2) := by
  refine (lpL_eq (Y := Y) (c := lim' Y) (fn := 236) (rid := 3) (b := bodyAt 3 ihexOf.c) (by kernel_rfl) _).trans ?_
  delta ihexOf.L3 ihexOf.x3 XX
  generalize lpL (Y.ctx (lim' Y)) 236 = lp
  generalize lim' Y = call
  kernel_rfl
theorem ihexOf.a3x3 (y0 : List (List D)) :
    ihexOf.A3 (ihexOf.x3 y0) =
    bif bytesB y0 then some { cells := [TC.v (Value.string (strOf y0))], objs := [] } else none := by
  delta ihexOf.A3 ihexOf.x3 XX
  generalize lpL (Y.ctx (lim' Y)) 236 = lp
  generalize lim' Y = call
  kernel_rfl
end Go.PVx
