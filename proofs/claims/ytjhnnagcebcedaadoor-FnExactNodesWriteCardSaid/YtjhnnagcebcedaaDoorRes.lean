/- A part of the proof: PvDRes. -/
import Derived.Test.YtjhnnagcebcedaaDoorTab
import Derived.KernelRfl
set_option linter.unusedSimpArgs false
set_option linter.unusedVariables false
/- PRINTED by a tool of this work (wip/pv/tool/gen2.py): what each function's code comes to. -/
namespace Go.PVx
open Go.PV Go.Proofs
set_option maxRecDepth 100000
set_option linter.unusedVariables false
noncomputable def wFnExactNodesWrite.P4 (y0 : Int) (y1 : List (List D)) : Option Res := evK XX 4 (lpL XX 4) (dropC 4 wFnExactNodesWrite.c)
  (mkG 0 27 [(1, AV.one (A1.p true 1 [] 0))] [(1, some { kind := Kind.box, row := [D.v (Value.int IntKind.i64 y0), D.s y1], fl := [Own.deep, Own.sh] })] GL) (outE XX 4 Tryd.f4)
noncomputable def wFnExactNodesWrite.P6 (y0 : ByteArray) (y1 : Int) (y2 : List (List D)) (y3 : Int) (y4 : List (List D)) : Option Res := evK XX 4 (lpL XX 4) (dropC 6 wFnExactNodesWrite.c)
  (mkG 0 27 [(1, AV.one (A1.p true 1 [] 0)), (4, AV.one (A1.v (Value.string y0))), (5, AV.one (A1.p true 5 [] 0))]
    [(1, some { kind := Kind.box, row := [D.v (Value.int IntKind.i64 y1), D.s y2], fl := [Own.deep, Own.sh] }),
      (5, some { kind := Kind.box, row := [D.v (Value.int IntKind.i64 y3), D.s y4], fl := [Own.deep, Own.deep] })]
    GL)
  (outE XX 4 Tryd.f4)
noncomputable def wFnExactNodesWrite.P9 : Option Res := evK XX 4 (lpL XX 4) (dropC 9 wFnExactNodesWrite.c) (mkG 0 27 [] [] GL) (outE XX 4 Tryd.f4)
theorem wFnExactNodesWrite.e (a0 : Int) (a1 : List (List D)) :
    wFnExactNodesWrite [AV.g [A1.v (Value.int IntKind.i64 a0), A1.s a1]] [] =
    (wszNodes [AV.g [A1.v (Value.int IntKind.i64 a0), A1.s a1], AV.one (A1.v (Value.int IntKind.i64 1048576))] []).bind fun val =>
  bif fitsCells [R1.int IntKind.i64] val.1 && true then bif decide ((val.1.getD 0 TC.d).int < 0) then some { cells := [TC.v (Value.bool true)], objs := [] } else wFnExactNodesWrite.P4 a0 a1 else none := by
  refine (wFnExactNodesWrite.run _ _ (by kernel_rfl)).trans ?_
  delta wFnExactNodesWrite wszNodes wFnExactNodesWrite.P4 XX
  refine cut_use0 3 4 rfl (wFnExactNodesWrite.c) (by kernel_rfl) fun K e1 => ?_
  try simp only [← e1]
  clear e1
  generalize lpL (Y.ctx (lim' Y)) 4 = lp
  generalize lim' Y = call
  kernel_rfl
theorem wFnExactNodesWrite.p4 (y0 : Int) (y1 : List (List D)) :
    wFnExactNodesWrite.P4 y0 y1 =
    (wtoNodes [AV.g [A1.v (Value.int IntKind.i64 y0), A1.s y1]] []).bind fun val =>
  bif fitsCells [R1.int IntKind.i64, R1.own Own.deep] val.1 && true then
    (sNodesWrite [AV.g [A1.v (Value.int IntKind.i64 (val.1.getD 0 TC.d).int), A1.s (val.1.getD 1 TC.d).es]] []).bind fun val =>
      bif fitsCells [R1.str] val.1 && true then
        (wtoNodes [AV.g [A1.v (Value.int IntKind.i64 y0), A1.s y1]] []).bind fun val_1 =>
          bif fitsCells [R1.int IntKind.i64, R1.own Own.deep] val_1.1 && true then wFnExactNodesWrite.P6 (val.1.getD 0 TC.d).str y0 y1 (val_1.1.getD 0 TC.d).int (val_1.1.getD 1 TC.d).es else none
      else none
  else none := by
  delta wFnExactNodesWrite.P4 wtoNodes sNodesWrite wFnExactNodesWrite.P6 XX
  refine cut_use 4 1 6 rfl (wFnExactNodesWrite.c) (by kernel_rfl) fun K e1 => ?_
  try simp only [← e1]
  clear e1
  generalize lpL (Y.ctx (lim' Y)) 4 = lp
  generalize lim' Y = call
  kernel_rfl
theorem wFnExactNodesWrite.p6 (y0 : ByteArray) (y1 : Int) (y2 : List (List D)) (y3 : Int) (y4 : List (List D)) :
    wFnExactNodesWrite.P6 y0 y1 y2 y3 y4 =
    (iNodesWrite [AV.g [A1.v (Value.int IntKind.i64 y3), A1.s y4]] []).bind fun val =>
  bif fitsCells [R1.str] val.1 && true then
    bif !(val.1.getD 0 TC.d).str.toList == y0.toList then some { cells := [TC.v (Value.bool false)], objs := [] }
    else
      (wtoNodes [AV.g [A1.v (Value.int IntKind.i64 y1), A1.s y2]] []).bind fun val =>
        bif fitsCells [R1.int IntKind.i64, R1.own Own.deep] val.1 && true then
          (weqNodes [AV.g [A1.v (Value.int IntKind.i64 y3), A1.s y4], AV.g [A1.v (Value.int IntKind.i64 (val.1.getD 0 TC.d).int), A1.s (val.1.getD 1 TC.d).es]] []).bind fun val =>
            bif fitsCells [R1.bool] val.1 && true then bif !(val.1.getD 0 TC.d).bool then some { cells := [TC.v (Value.bool false)], objs := [] } else wFnExactNodesWrite.P9 else none
        else none
  else none := by
  delta wFnExactNodesWrite.P6 iNodesWrite wtoNodes weqNodes wFnExactNodesWrite.P9 XX
  refine cut_use 6 2 9 rfl (wFnExactNodesWrite.c) (by kernel_rfl) fun K e1 => ?_
  try simp only [← e1]
  clear e1
  generalize lpL (Y.ctx (lim' Y)) 4 = lp
  generalize lim' Y = call
  kernel_rfl
theorem wFnExactNodesWrite.p9 :
    wFnExactNodesWrite.P9 =
    some { cells := [TC.v (Value.bool true)], objs := [] } := by
  delta wFnExactNodesWrite.P9 XX
  generalize lpL (Y.ctx (lim' Y)) 4 = lp
  generalize lim' Y = call
  kernel_rfl


theorem wszNodes.e (a0 : Int) (a1 : List (List D)) (a2 : Int) :
    wszNodes [AV.g [A1.v (Value.int IntKind.i64 a0), A1.s a1], AV.one (A1.v (Value.int IntKind.i64 a2))] [] =
    (wszNodeOfS [AV.one (A1.s a1), AV.one (A1.v (Value.int IntKind.i64 a2))] []).bind fun val =>
  bif fitsCells [R1.int IntKind.i64] val.1 && true then
    bif decide ((val.1.getD 0 TC.d).int < 0) then some { cells := [TC.v (Value.int IntKind.i64 (-1))], objs := [] }
    else some { cells := [TC.v (Value.int IntKind.i64 (val.1.getD 0 TC.d).int)], objs := [] }
  else none := by
  refine (wszNodes.run _ _ (by kernel_rfl)).trans ?_
  delta wszNodes wszNodeOfS XX
  generalize lpL (Y.ctx (lim' Y)) 10 = lp
  generalize lim' Y = call
  kernel_rfl


noncomputable def sNodesWrite.L5 (y0 : ByteArray) (y1 : Int) (y2 : Int) (y3 : List (List D)) : Option (Ex × St) := lpL XX 11 (bodyAt 5 sNodesWrite.c)
  (mkG 0 40 [(1, AV.one (A1.p true 1 [] 0)), (3, AV.one (A1.v (Value.string y0))), (4, AV.one (A1.v (Value.int IntKind.i64 y1)))]
    [(1, some { kind := Kind.box, row := [D.v (Value.int IntKind.i64 y2), D.s y3], fl := [Own.deep, Own.sh] })] GL)
noncomputable def sNodesWrite.A5 : Ex × St → Option Res := fun r => evA XX 11 (lpL XX 11) 5 sNodesWrite.c r.fst r.snd (outE XX 11 Tryd.f11)
noncomputable def sNodesWrite.x5 (y0 : ByteArray) : Ex × St := (Ex.exit 0, mkG 0 40 [(3, AV.one (A1.v (Value.string y0)))] [] GL)
theorem sNodesWrite.e (a0 : Int) (a1 : List (List D)) :
    sNodesWrite [AV.g [A1.v (Value.int IntKind.i64 a0), A1.s a1]] [] =
    (sl33Ok [AV.g [A1.v (Value.int IntKind.i64 a0), A1.s a1]] []).bind fun val =>
  bif fitsCells [R1.bool] val.1 && true then
    bif !(val.1.getD 0 TC.d).bool then some { cells := [TC.v (Value.string (ByteArray.mk #[]))], objs := [] }
    else
      (sl1Dec [AV.one (A1.v (Value.int IntKind.i64 a0))] []).bind fun val =>
        bif fitsCells [R1.str] val.1 && true then
          bif decide (5 + (val.1.getD 0 TC.d).str.size ≤ 70368744177664) then
            bif decide (((ByteArray.mk #[110, 101, 120, 116, 32]) ++ (val.1.getD 0 TC.d).str).size + 1 ≤ 70368744177664) then
              (sNodesWrite.L5 ((ByteArray.mk #[110, 101, 120, 116, 32]) ++ (val.1.getD 0 TC.d).str ++ (ByteArray.mk #[10])) 0 a0
                    a1).bind
                sNodesWrite.A5
            else none
          else none
        else none
  else none := by
  refine (sNodesWrite.run _ _ (by kernel_rfl)).trans ?_
  delta sNodesWrite sl33Ok sl1Dec sNodesWrite.L5 sNodesWrite.A5 XX
  generalize lpL (Y.ctx (lim' Y)) 11 = lp
  generalize lim' Y = call
  kernel_rfl
theorem sNodesWrite.s5 (y0 : ByteArray) (y1 : Int) (y2 : Int) (y3 : List (List D)) :
    sNodesWrite.L5 y0 y1 y2 y3 =
    bif decide (y1 < (↑y3.length : Int)) then
  bif decide (0 ≤ y1) && decide (y1 < (↑y3.length : Int)) && decide ((y3.getD y1.toNat []).length = 2) then
    bif fitsRow [CK.int IntKind.i64] (y3.getD y1.toNat []) 0 && decide (1 ≤ (y3.getD y1.toNat []).length) then
      (sl1Dec [AV.one (A1.v (Value.int IntKind.i64 ((y3.getD y1.toNat []).getD 0 D.h).int))] []).bind fun val =>
        bif fitsCells [R1.str] val.1 && true then
          bif decide (y0.size + (val.1.getD 0 TC.d).str.size ≤ 70368744177664) then
            bif decide ((y0 ++ (val.1.getD 0 TC.d).str).size + 1 ≤ 70368744177664) then
              bif decide (0 ≤ y1) && decide (y1 < (↑y3.length : Int)) && decide ((y3.getD y1.toNat []).length = 2) then
                bif fitsRow [CK.sl] (y3.getD y1.toNat []) 1 && decide (2 ≤ (y3.getD y1.toNat []).length) then
                  (sl3Name [AV.one (A1.s ((y3.getD y1.toNat []).getD 1 D.h).es)] []).bind fun val_1 =>
                    bif fitsCells [R1.str] val_1.1 && true then
                      bif decide ((y0 ++ (val.1.getD 0 TC.d).str ++ (ByteArray.mk #[32])).size + (val_1.1.getD 0 TC.d).str.size ≤ 70368744177664) then
                        bif decide ((y0 ++ (val.1.getD 0 TC.d).str ++ (ByteArray.mk #[32]) ++ (val_1.1.getD 0 TC.d).str).size + 1 ≤ 70368744177664) then
                          sNodesWrite.L5 (y0 ++ (val.1.getD 0 TC.d).str ++ (ByteArray.mk #[32]) ++ (val_1.1.getD 0 TC.d).str ++ (ByteArray.mk #[10])) (IntKind.i64.wrap (y1 + 1)) y2
                            y3
                        else none
                      else none
                    else none
                else none
              else none
            else none
          else none
        else none
    else none
  else none
else some (sNodesWrite.x5 y0) := by
  refine (lpL_eq (Y := Y) (c := lim' Y) (fn := 11) (rid := 5) (b := bodyAt 5 sNodesWrite.c) (by kernel_rfl) _).trans ?_
  delta sNodesWrite.L5 sl1Dec sl3Name sNodesWrite.x5 XX
  generalize lpL (Y.ctx (lim' Y)) 11 = lp
  generalize lim' Y = call
  kernel_rfl
theorem sNodesWrite.a5x5 (y0 : ByteArray) :
    sNodesWrite.A5 (sNodesWrite.x5 y0) =
    some { cells := [TC.v (Value.string y0)], objs := [] } := by
  delta sNodesWrite.A5 sNodesWrite.x5 XX
  generalize lpL (Y.ctx (lim' Y)) 11 = lp
  generalize lim' Y = call
  kernel_rfl


theorem wtoNodes.e (a0 : Int) (a1 : List (List D)) :
    wtoNodes [AV.g [A1.v (Value.int IntKind.i64 a0), A1.s a1]] [] =
    (wtoNodeOfS [AV.one (A1.s a1)] []).bind fun val =>
  bif fitsCells [R1.own Own.deep] val.1 && true then some { cells := [TC.v (Value.int IntKind.i64 a0), TC.o Own.deep (val.1.getD 0 TC.d).es], objs := [] } else none := by
  refine (wtoNodes.run _ _ (by kernel_rfl)).trans ?_
  delta wtoNodes wtoNodeOfS XX
  generalize lpL (Y.ctx (lim' Y)) 12 = lp
  generalize lim' Y = call
  kernel_rfl


noncomputable def iNodesWrite.L5 (y0 : ByteArray) (y1 : List (List D)) (y2 : Int) (y3 : Int) : Option (Ex × St) := lpL XX 13 (bodyAt 5 iNodesWrite.c)
  (mkG 0 34 [(3, AV.one (A1.v (Value.string y0))), (15, AV.one (A1.s y1)), (16, AV.one (A1.v (Value.int IntKind.i64 y2))), (17, AV.one (A1.v (Value.int IntKind.i64 y3)))] [] GL)
noncomputable def iNodesWrite.A5 : Ex × St → Option Res := fun r => evA XX 13 (lpL XX 13) 5 iNodesWrite.c r.fst r.snd (outE XX 13 Tryd.f13)
noncomputable def iNodesWrite.x5 (y0 : ByteArray) : Ex × St := (Ex.exit 0, mkG 0 34 [(3, AV.one (A1.v (Value.string y0)))] [] GL)
theorem iNodesWrite.e (a0 : Int) (a1 : List (List D)) :
    iNodesWrite [AV.g [A1.v (Value.int IntKind.i64 a0), A1.s a1]] [] =
    (inodesWell [AV.g [A1.v (Value.int IntKind.i64 a0), A1.s a1]] []).bind fun val =>
  bif fitsCells [R1.bool] val.1 && true then
    bif !(val.1.getD 0 TC.d).bool then some { cells := [TC.v (Value.string (ByteArray.mk #[]))], objs := [] }
    else
      (strconv_Itoa [AV.one (A1.v (Value.int IntKind.i64 a0))] []).bind fun val =>
        bif fitsCells [R1.str] val.1 && true then
          bif decide (5 + (val.1.getD 0 TC.d).str.size ≤ 70368744177664) then
            bif decide (((ByteArray.mk #[110, 101, 120, 116, 32]) ++ (val.1.getD 0 TC.d).str).size + 1 ≤ 70368744177664) then
              (iNodesWrite.L5 ((ByteArray.mk #[110, 101, 120, 116, 32]) ++ (val.1.getD 0 TC.d).str ++ (ByteArray.mk #[10])) a1
                    (↑a1.length : Int) 0).bind
                iNodesWrite.A5
            else none
          else none
        else none
  else none := by
  refine (iNodesWrite.run _ _ (by kernel_rfl)).trans ?_
  delta iNodesWrite inodesWell strconv_Itoa iNodesWrite.L5 iNodesWrite.A5 XX
  generalize lpL (Y.ctx (lim' Y)) 13 = lp
  generalize lim' Y = call
  kernel_rfl
theorem iNodesWrite.s5 (y0 : ByteArray) (y1 : List (List D)) (y2 : Int) (y3 : Int) :
    iNodesWrite.L5 y0 y1 y2 y3 =
    bif decide (y3 < y2) then
  bif decide (0 ≤ y3) && decide (y3 < (↑y1.length : Int)) && decide ((y1.getD y3.toNat []).length = 2) then
    bif fitsRow [CK.int IntKind.i64, CK.sl] (y1.getD y3.toNat []) 0 && decide (2 ≤ (y1.getD y3.toNat []).length) then
      (strconv_Itoa [AV.one (A1.v (Value.int IntKind.i64 ((y1.getD y3.toNat []).getD 0 D.h).int))] []).bind fun val =>
        bif fitsCells [R1.str] val.1 && true then
          bif decide ((val.1.getD 0 TC.d).str.size + 1 ≤ 70368744177664) then
            (ipathText [AV.one (A1.s ((y1.getD y3.toNat []).getD 1 D.h).es)] []).bind fun val_1 =>
              bif fitsCells [R1.str] val_1.1 && true then
                bif decide (((val.1.getD 0 TC.d).str ++ (ByteArray.mk #[32])).size + (val_1.1.getD 0 TC.d).str.size ≤ 70368744177664) then
                  bif decide (((val.1.getD 0 TC.d).str ++ (ByteArray.mk #[32]) ++ (val_1.1.getD 0 TC.d).str).size + 1 ≤ 70368744177664) then
                    bif decide (y0.size + ((val.1.getD 0 TC.d).str ++ (ByteArray.mk #[32]) ++ (val_1.1.getD 0 TC.d).str ++ (ByteArray.mk #[10])).size ≤ 70368744177664) then
                      iNodesWrite.L5 (y0 ++ ((val.1.getD 0 TC.d).str ++ (ByteArray.mk #[32]) ++ (val_1.1.getD 0 TC.d).str ++ (ByteArray.mk #[10]))) y1 y2 (IntKind.i64.wrap (y3 + 1))
                    else none
                  else none
                else none
              else none
          else none
        else none
    else none
  else none
else some (iNodesWrite.x5 y0) := by
  refine (lpL_eq (Y := Y) (c := lim' Y) (fn := 13) (rid := 5) (b := bodyAt 5 iNodesWrite.c) (by kernel_rfl) _).trans ?_
  delta iNodesWrite.L5 strconv_Itoa ipathText iNodesWrite.x5 XX
  generalize lpL (Y.ctx (lim' Y)) 13 = lp
  generalize lim' Y = call
  kernel_rfl
theorem iNodesWrite.a5x5 (y0 : ByteArray) :
    iNodesWrite.A5 (iNodesWrite.x5 y0) =
    some { cells := [TC.v (Value.string y0)], objs := [] } := by
  delta iNodesWrite.A5 iNodesWrite.x5 XX
  generalize lpL (Y.ctx (lim' Y)) 13 = lp
  generalize lim' Y = call
  kernel_rfl


theorem weqNodes.e (a0 : Int) (a1 : List (List D)) (a2 : Int) (a3 : List (List D)) :
    weqNodes [AV.g [A1.v (Value.int IntKind.i64 a0), A1.s a1], AV.g [A1.v (Value.int IntKind.i64 a2), A1.s a3]] [] =
    bif a0 != a2 then some { cells := [TC.v (Value.bool false)], objs := [] }
else
  (weqNodeOfS [AV.one (A1.s a1), AV.one (A1.s a3)] []).bind fun val =>
    bif fitsCells [R1.bool] val.1 && true then bif !(val.1.getD 0 TC.d).bool then some { cells := [TC.v (Value.bool false)], objs := [] } else some { cells := [TC.v (Value.bool true)], objs := [] }
    else none := by
  refine (weqNodes.run _ _ (by kernel_rfl)).trans ?_
  delta weqNodes weqNodeOfS XX
  generalize lpL (Y.ctx (lim' Y)) 14 = lp
  generalize lim' Y = call
  kernel_rfl


noncomputable def wszStringS.L5 (y0 : List (List D)) (y1 : Int) (y2 : Int) : Option (Ex × St) := lpL XX 15 (bodyAt 5 wszStringS.c) (mkG 0 28 [(0, AV.one (A1.s y0)), (1, AV.one (A1.v (Value.int IntKind.i64 y1))), (5, AV.one (A1.v (Value.int IntKind.i64 y2)))] [] GL)
noncomputable def wszStringS.A5 : Ex × St → Option Res := fun r => evA XX 15 (lpL XX 15) 5 wszStringS.c r.fst r.snd (outE XX 15 Tryd.f15)
noncomputable def wszStringS.q5 (y0 : Int) (y1 : Int) : Ex × St := (Ex.ret, mkG 0 28 [(1, AV.one (A1.v (Value.int IntKind.i64 y0))), (4, AV.one (A1.v (Value.int IntKind.i64 y1)))] [] GL)
noncomputable def wszStringS.x5 (y0 : Int) : Ex × St := (Ex.exit 0, mkG 0 28 [(1, AV.one (A1.v (Value.int IntKind.i64 y0)))] [] GL)
theorem wszStringS.e (a0 : List (List D)) (a1 : Int) :
    wszStringS [AV.one (A1.s a0), AV.one (A1.v (Value.int IntKind.i64 a1))] [] =
    bif decide (IntKind.i64.wrap (a1 - (↑a0.length : Int)) < 0) then some { cells := [TC.v (Value.int IntKind.i64 (-1))], objs := [] }
else (wszStringS.L5 a0 (IntKind.i64.wrap (a1 - (↑a0.length : Int))) 0).bind wszStringS.A5 := by
  refine (wszStringS.run _ _ (by kernel_rfl)).trans ?_
  delta wszStringS wszStringS.L5 wszStringS.A5 XX
  generalize lpL (Y.ctx (lim' Y)) 15 = lp
  generalize lim' Y = call
  kernel_rfl
theorem wszStringS.s5 (y0 : List (List D)) (y1 : Int) (y2 : Int) :
    wszStringS.L5 y0 y1 y2 =
    bif decide (y2 < (↑y0.length : Int)) then
  bif decide (0 ≤ y2) && decide (y2 < (↑y0.length : Int)) && decide ((y0.getD y2.toNat []).length = 1) then
    bif fitsRow [CK.str] (y0.getD y2.toNat []) 0 && decide (1 ≤ (y0.getD y2.toNat []).length) then
      bif decide (IntKind.i64.wrap (y1 - (↑((y0.getD y2.toNat []).getD 0 D.h).str.size : Int)) < 0) then
        some (wszStringS.q5 (IntKind.i64.wrap (y1 - (↑((y0.getD y2.toNat []).getD 0 D.h).str.size : Int))) (-1))
      else wszStringS.L5 y0 (IntKind.i64.wrap (y1 - (↑((y0.getD y2.toNat []).getD 0 D.h).str.size : Int))) (IntKind.i64.wrap (y2 + 1))
    else none
  else none
else some (wszStringS.x5 y1) := by
  refine (lpL_eq (Y := Y) (c := lim' Y) (fn := 15) (rid := 5) (b := bodyAt 5 wszStringS.c) (by kernel_rfl) _).trans ?_
  delta wszStringS.L5 wszStringS.q5 wszStringS.x5 XX
  generalize lpL (Y.ctx (lim' Y)) 15 = lp
  generalize lim' Y = call
  kernel_rfl
theorem wszStringS.a5q5 (y0 : Int) (y1 : Int) :
    wszStringS.A5 (wszStringS.q5 y0 y1) =
    some { cells := [TC.v (Value.int IntKind.i64 y1)], objs := [] } := by
  delta wszStringS.A5 wszStringS.q5 XX
  generalize lpL (Y.ctx (lim' Y)) 15 = lp
  generalize lim' Y = call
  kernel_rfl
theorem wszStringS.a5x5 (y0 : Int) :
    wszStringS.A5 (wszStringS.x5 y0) =
    some { cells := [TC.v (Value.int IntKind.i64 y0)], objs := [] } := by
  delta wszStringS.A5 wszStringS.x5 XX
  generalize lpL (Y.ctx (lim' Y)) 15 = lp
  generalize lim' Y = call
  kernel_rfl


noncomputable def sl3Name.L3 (y0 : List (List D)) (y1 : ByteArray) (y2 : Int) : Option (Ex × St) := lpL XX 18 (bodyAt 3 sl3Name.c) (mkG 0 21 [(0, AV.one (A1.s y0)), (3, AV.one (A1.v (Value.string y1))), (4, AV.one (A1.v (Value.int IntKind.i64 y2)))] [] GL)
noncomputable def sl3Name.A3 : Ex × St → Option Res := fun r => evA XX 18 (lpL XX 18) 3 sl3Name.c r.fst r.snd (outE XX 18 Tryd.f18)
noncomputable def sl3Name.x3 (y0 : ByteArray) : Ex × St := (Ex.exit 0, mkG 0 21 [(3, AV.one (A1.v (Value.string y0)))] [] GL)
theorem sl3Name.e (a0 : List (List D)) :
    sl3Name [AV.one (A1.s a0)] [] =
    (sl3Name.L3 a0 (ByteArray.mk #[]) 0).bind sl3Name.A3 := by
  refine (sl3Name.run _ _ (by kernel_rfl)).trans ?_
  delta sl3Name sl3Name.L3 sl3Name.A3 XX
  generalize lpL (Y.ctx (lim' Y)) 18 = lp
  generalize lim' Y = call
  kernel_rfl
theorem sl3Name.s3 (y0 : List (List D)) (y1 : ByteArray) (y2 : Int) :
    sl3Name.L3 y0 y1 y2 =
    bif decide (y2 < (↑y0.length : Int)) then
  bif decide (y1.size + 1 ≤ 70368744177664) then
    bif decide (0 ≤ y2) && decide (y2 < (↑y0.length : Int)) && decide ((y0.getD y2.toNat []).length = 1) then
      bif fitsRow [CK.str] (y0.getD y2.toNat []) 0 && decide (1 ≤ (y0.getD y2.toNat []).length) then
        bif decide ((y1 ++ (ByteArray.mk #[47])).size + ((y0.getD y2.toNat []).getD 0 D.h).str.size ≤ 70368744177664) then
          sl3Name.L3 y0 (y1 ++ (ByteArray.mk #[47]) ++ ((y0.getD y2.toNat []).getD 0 D.h).str) (IntKind.i64.wrap (y2 + 1))
        else none
      else none
    else none
  else none
else some (sl3Name.x3 y1) := by
  refine (lpL_eq (Y := Y) (c := lim' Y) (fn := 18) (rid := 3) (b := bodyAt 3 sl3Name.c) (by kernel_rfl) _).trans ?_
  delta sl3Name.L3 sl3Name.x3 XX
  generalize lpL (Y.ctx (lim' Y)) 18 = lp
  generalize lim' Y = call
  kernel_rfl
theorem sl3Name.a3x3 (y0 : ByteArray) :
    sl3Name.A3 (sl3Name.x3 y0) =
    bif y0.toList == [] then some { cells := [TC.v (Value.string (ByteArray.mk #[47]))], objs := [] } else some { cells := [TC.v (Value.string y0)], objs := [] } := by
  delta sl3Name.A3 sl3Name.x3 XX
  generalize lpL (Y.ctx (lim' Y)) 18 = lp
  generalize lim' Y = call
  kernel_rfl


noncomputable def sl1Dec.P3 (y0 : Int) : Option Res := evK XX 19 (lpL XX 19) (dropC 3 sl1Dec.c) (mkG 0 28 [(0, AV.one (A1.v (Value.int IntKind.i64 y0)))] [] GL) (outE XX 19 Tryd.f19)
theorem sl1Dec.e (a0 : Int) :
    sl1Dec [AV.one (A1.v (Value.int IntKind.i64 a0))] [] =
    bif decide (a0 < -9223372036854775807) then
  some
    {
      cells :=
        [TC.v
            (Value.string
              (ByteArray.mk #[45, 57, 50, 50, 51, 51, 55, 50, 48, 51, 54, 56, 53, 52, 55, 55, 53, 56, 48, 56]))],
      objs := [] }
else
  bif decide (a0 < 0) then
    (sl1Dec [AV.one (A1.v (Value.int IntKind.i64 (IntKind.i64.wrap (0 - a0))))] []).bind fun val =>
      bif fitsCells [R1.str] val.1 && true then
        bif decide (1 + (val.1.getD 0 TC.d).str.size ≤ 70368744177664) then some { cells := [TC.v (Value.string ((ByteArray.mk #[45]) ++ (val.1.getD 0 TC.d).str))], objs := [] } else none
      else none
  else sl1Dec.P3 a0 := by
  refine (sl1Dec.run _ _ (by kernel_rfl)).trans ?_
  delta sl1Dec sl1Dec.P3 XX
  refine cut_use0 2 3 rfl (sl1Dec.c) (by kernel_rfl) fun K e1 => ?_
  try simp only [← e1]
  clear e1
  generalize lpL (Y.ctx (lim' Y)) 19 = lp
  generalize lim' Y = call
  kernel_rfl
theorem sl1Dec.p3 (y0 : Int) :
    sl1Dec.P3 y0 =
    bif decide (y0 < 10) then some { cells := [TC.v (Value.string (strOf [[D.v (Value.int IntKind.u8 (IntKind.u8.wrap (IntKind.i64.wrap (48 + y0))))]]))], objs := [] }
else
  (sl1Dec [AV.one (A1.v (Value.int IntKind.i64 (IntKind.i64.wrap (y0.tdiv 10))))] []).bind fun val =>
    bif fitsCells [R1.str] val.1 && true then
      bif decide ((val.1.getD 0 TC.d).str.size + 1 ≤ 70368744177664) then
        some { cells := [TC.v (Value.string ((val.1.getD 0 TC.d).str ++ strOf [[D.v (Value.int IntKind.u8 (IntKind.u8.wrap (IntKind.i64.wrap (48 + y0.tmod 10))))]]))], objs := [] }
      else none
    else none := by
  delta sl1Dec.P3 sl1Dec XX
  generalize lpL (Y.ctx (lim' Y)) 19 = lp
  generalize lim' Y = call
  kernel_rfl


noncomputable def wtoStringS.L3 (y0 : List (List D)) (y1 : Int) (y2 : List (List D)) : Option (Ex × St) := lpL XX 21 (bodyAt 3 wtoStringS.c)
  (mkG 0 22 [(0, AV.one (A1.s y0)), (3, AV.one (A1.r 3 [] 0)), (4, AV.one (A1.v (Value.int IntKind.i64 y1)))] [(3, some { kind := Kind.virt, row := [D.s y2], fl := [Own.deep] })] GL)
noncomputable def wtoStringS.A3 : Ex × St → Option Res := fun r => evA XX 21 (lpL XX 21) 3 wtoStringS.c r.fst r.snd (outE XX 21 Tryd.f21)
noncomputable def wtoStringS.x3 (y0 : List (List D)) : Ex × St := (Ex.exit 0, mkG 0 22 [(3, AV.one (A1.r 3 [] 0))] [(3, some { kind := Kind.virt, row := [D.s y0], fl := [Own.deep] })] GL)
theorem wtoStringS.e (a0 : List (List D)) :
    wtoStringS [AV.one (A1.s a0)] [] =
    bif decide ((↑a0.length : Int) * ((↑16 : Int) + 1) ≤ 2 ^ 46) && true && true then (wtoStringS.L3 a0 0 (List.replicate (↑a0.length : Int).toNat [D.v (Value.string (ByteArray.mk #[]))])).bind wtoStringS.A3
else none := by
  refine (wtoStringS.run _ _ (by kernel_rfl)).trans ?_
  delta wtoStringS wtoStringS.L3 wtoStringS.A3 XX
  generalize lpL (Y.ctx (lim' Y)) 21 = lp
  generalize lim' Y = call
  kernel_rfl
theorem wtoStringS.s3 (y0 : List (List D)) (y1 : Int) (y2 : List (List D)) :
    wtoStringS.L3 y0 y1 y2 =
    bif decide (y1 < (↑y0.length : Int)) then
  bif decide (0 ≤ y1) && decide (y1 < (↑y0.length : Int)) && decide ((y0.getD y1.toNat []).length = 1) then
    bif fitsRow [CK.str] (y0.getD y1.toNat []) 0 && decide (1 ≤ (y0.getD y1.toNat []).length) then
      bif decide (0 ≤ y1) && decide (y1 < (↑y2.length : Int)) && decide ((y2.getD y1.toNat []).length = 1) then
        bif decide (1 ≤ (y2.getD y1.toNat []).length) && true then
          wtoStringS.L3 y0 (IntKind.i64.wrap (y1 + 1)) (y2.set y1.toNat (D.v (Value.string ((y0.getD y1.toNat []).getD 0 D.h).str) :: List.drop 1 (y2.getD y1.toNat [])))
        else none
      else none
    else none
  else none
else some (wtoStringS.x3 y2) := by
  refine (lpL_eq (Y := Y) (c := lim' Y) (fn := 21) (rid := 3) (b := bodyAt 3 wtoStringS.c) (by kernel_rfl) _).trans ?_
  delta wtoStringS.L3 wtoStringS.x3 XX
  generalize lpL (Y.ctx (lim' Y)) 21 = lp
  generalize lim' Y = call
  kernel_rfl
theorem wtoStringS.a3x3 (y0 : List (List D)) :
    wtoStringS.A3 (wtoStringS.x3 y0) =
    some { cells := [TC.o Own.deep y0], objs := [] } := by
  delta wtoStringS.A3 wtoStringS.x3 XX
  generalize lpL (Y.ctx (lim' Y)) 21 = lp
  generalize lim' Y = call
  kernel_rfl


theorem ipathText.e (a0 : List (List D)) :
    ipathText [AV.one (A1.s a0)] [] =
    bif (↑a0.length : Int) == 0 then some { cells := [TC.v (Value.string (ByteArray.mk #[47]))], objs := [] }
else
  (strings_Join [AV.one (A1.s a0), AV.one (A1.v (Value.string (ByteArray.mk #[47])))] []).bind fun val =>
    bif fitsCells [R1.str] val.1 && true then
      bif decide (1 + (val.1.getD 0 TC.d).str.size ≤ 70368744177664) then some { cells := [TC.v (Value.string ((ByteArray.mk #[47]) ++ (val.1.getD 0 TC.d).str))], objs := [] } else none
    else none := by
  refine (ipathText.run _ _ (by kernel_rfl)).trans ?_
  delta ipathText strings_Join XX
  generalize lpL (Y.ctx (lim' Y)) 23 = lp
  generalize lim' Y = call
  kernel_rfl


noncomputable def weqStringS.L4 (y0 : List (List D)) (y1 : List (List D)) (y2 : Int) : Option (Ex × St) := lpL XX 26 (bodyAt 4 weqStringS.c) (mkG 0 26 [(0, AV.one (A1.s y0)), (1, AV.one (A1.s y1)), (5, AV.one (A1.v (Value.int IntKind.i64 y2)))] [] GL)
noncomputable def weqStringS.A4 : Ex × St → Option Res := fun r => evA XX 26 (lpL XX 26) 4 weqStringS.c r.fst r.snd (outE XX 26 Tryd.f26)
noncomputable def weqStringS.q4 (y0 : Bool) : Ex × St := (Ex.ret, mkG 0 26 [(4, AV.one (A1.v (Value.bool y0)))] [] GL)
noncomputable def weqStringS.x4 : Ex × St := (Ex.exit 0, mkG 0 26 [] [] GL)
theorem weqStringS.e (a0 : List (List D)) (a1 : List (List D)) :
    weqStringS [AV.one (A1.s a0), AV.one (A1.s a1)] [] =
    bif (↑a0.length : Int) != (↑a1.length : Int) then some { cells := [TC.v (Value.bool false)], objs := [] } else (weqStringS.L4 a0 a1 0).bind weqStringS.A4 := by
  refine (weqStringS.run _ _ (by kernel_rfl)).trans ?_
  delta weqStringS weqStringS.L4 weqStringS.A4 XX
  generalize lpL (Y.ctx (lim' Y)) 26 = lp
  generalize lim' Y = call
  kernel_rfl
theorem weqStringS.s4 (y0 : List (List D)) (y1 : List (List D)) (y2 : Int) :
    weqStringS.L4 y0 y1 y2 =
    bif decide (y2 < (↑y0.length : Int)) then
  bif decide (0 ≤ y2) && decide (y2 < (↑y0.length : Int)) && decide ((y0.getD y2.toNat []).length = 1) then
    bif fitsRow [CK.str] (y0.getD y2.toNat []) 0 && decide (1 ≤ (y0.getD y2.toNat []).length) then
      bif decide (0 ≤ y2) && decide (y2 < (↑y1.length : Int)) && decide ((y1.getD y2.toNat []).length = 1) then
        bif fitsRow [CK.str] (y1.getD y2.toNat []) 0 && decide (1 ≤ (y1.getD y2.toNat []).length) then
          bif !((y0.getD y2.toNat []).getD 0 D.h).str.toList == ((y1.getD y2.toNat []).getD 0 D.h).str.toList then some (weqStringS.q4 false) else weqStringS.L4 y0 y1 (IntKind.i64.wrap (y2 + 1))
        else none
      else none
    else none
  else none
else some weqStringS.x4 := by
  refine (lpL_eq (Y := Y) (c := lim' Y) (fn := 26) (rid := 4) (b := bodyAt 4 weqStringS.c) (by kernel_rfl) _).trans ?_
  delta weqStringS.L4 weqStringS.q4 weqStringS.x4 XX
  generalize lpL (Y.ctx (lim' Y)) 26 = lp
  generalize lim' Y = call
  kernel_rfl
theorem weqStringS.a4q4 (y0 : Bool) :
    weqStringS.A4 (weqStringS.q4 y0) =
    some { cells := [TC.v (Value.bool y0)], objs := [] } := by
  delta weqStringS.A4 weqStringS.q4 XX
  generalize lpL (Y.ctx (lim' Y)) 26 = lp
  generalize lim' Y = call
  kernel_rfl
theorem weqStringS.a4x4 :
    weqStringS.A4 weqStringS.x4 =
    some { cells := [TC.v (Value.bool true)], objs := [] } := by
  delta weqStringS.A4 weqStringS.x4 XX
  generalize lpL (Y.ctx (lim' Y)) 26 = lp
  generalize lim' Y = call
  kernel_rfl


noncomputable def wszNodeOfS.L5 (y0 : List (List D)) (y1 : Int) (y2 : Int) : Option (Ex × St) := lpL XX 27 (bodyAt 5 wszNodeOfS.c) (mkG 0 27 [(0, AV.one (A1.s y0)), (1, AV.one (A1.v (Value.int IntKind.i64 y1))), (5, AV.one (A1.v (Value.int IntKind.i64 y2)))] [] GL)
noncomputable def wszNodeOfS.A5 : Ex × St → Option Res := fun r => evA XX 27 (lpL XX 27) 5 wszNodeOfS.c r.fst r.snd (outE XX 27 Tryd.f27)
noncomputable def wszNodeOfS.q5 (y0 : Int) (y1 : Int) : Ex × St := (Ex.ret, mkG 0 27 [(1, AV.one (A1.v (Value.int IntKind.i64 y0))), (4, AV.one (A1.v (Value.int IntKind.i64 y1)))] [] GL)
noncomputable def wszNodeOfS.x5 (y0 : Int) : Ex × St := (Ex.exit 0, mkG 0 27 [(1, AV.one (A1.v (Value.int IntKind.i64 y0)))] [] GL)
theorem wszNodeOfS.e (a0 : List (List D)) (a1 : Int) :
    wszNodeOfS [AV.one (A1.s a0), AV.one (A1.v (Value.int IntKind.i64 a1))] [] =
    bif decide (IntKind.i64.wrap (a1 - (↑a0.length : Int)) < 0) then some { cells := [TC.v (Value.int IntKind.i64 (-1))], objs := [] }
else (wszNodeOfS.L5 a0 (IntKind.i64.wrap (a1 - (↑a0.length : Int))) 0).bind wszNodeOfS.A5 := by
  refine (wszNodeOfS.run _ _ (by kernel_rfl)).trans ?_
  delta wszNodeOfS wszNodeOfS.L5 wszNodeOfS.A5 XX
  generalize lpL (Y.ctx (lim' Y)) 27 = lp
  generalize lim' Y = call
  kernel_rfl
theorem wszNodeOfS.s5 (y0 : List (List D)) (y1 : Int) (y2 : Int) :
    wszNodeOfS.L5 y0 y1 y2 =
    bif decide (y2 < (↑y0.length : Int)) then
  bif decide (0 ≤ y2) && decide (y2 < (↑y0.length : Int)) && decide ((y0.getD y2.toNat []).length = 2) then
    bif fitsRow [CK.int IntKind.i64, CK.sl] (y0.getD y2.toNat []) 0 && decide (2 ≤ (y0.getD y2.toNat []).length) then
      (wszNodeOf [AV.g [A1.v (Value.int IntKind.i64 ((y0.getD y2.toNat []).getD 0 D.h).int), A1.s ((y0.getD y2.toNat []).getD 1 D.h).es], AV.one (A1.v (Value.int IntKind.i64 y1))] []).bind fun val =>
        bif fitsCells [R1.int IntKind.i64] val.1 && true then
          bif decide ((val.1.getD 0 TC.d).int < 0) then some (wszNodeOfS.q5 (val.1.getD 0 TC.d).int (-1)) else wszNodeOfS.L5 y0 (val.1.getD 0 TC.d).int (IntKind.i64.wrap (y2 + 1))
        else none
    else none
  else none
else some (wszNodeOfS.x5 y1) := by
  refine (lpL_eq (Y := Y) (c := lim' Y) (fn := 27) (rid := 5) (b := bodyAt 5 wszNodeOfS.c) (by kernel_rfl) _).trans ?_
  delta wszNodeOfS.L5 wszNodeOf wszNodeOfS.q5 wszNodeOfS.x5 XX
  generalize lpL (Y.ctx (lim' Y)) 27 = lp
  generalize lim' Y = call
  kernel_rfl
theorem wszNodeOfS.a5q5 (y0 : Int) (y1 : Int) :
    wszNodeOfS.A5 (wszNodeOfS.q5 y0 y1) =
    some { cells := [TC.v (Value.int IntKind.i64 y1)], objs := [] } := by
  delta wszNodeOfS.A5 wszNodeOfS.q5 XX
  generalize lpL (Y.ctx (lim' Y)) 27 = lp
  generalize lim' Y = call
  kernel_rfl
theorem wszNodeOfS.a5x5 (y0 : Int) :
    wszNodeOfS.A5 (wszNodeOfS.x5 y0) =
    some { cells := [TC.v (Value.int IntKind.i64 y0)], objs := [] } := by
  delta wszNodeOfS.A5 wszNodeOfS.x5 XX
  generalize lpL (Y.ctx (lim' Y)) 27 = lp
  generalize lim' Y = call
  kernel_rfl


noncomputable def sl33Ok.L4 (y0 : Int) (y1 : Int) (y2 : List (List D)) : Option (Ex × St) := lpL XX 28 (bodyAt 4 sl33Ok.c)
  (mkG 0 72 [(1, AV.one (A1.p true 1 [] 0)), (3, AV.one (A1.v (Value.int IntKind.i64 y0)))] [(1, some { kind := Kind.box, row := [D.v (Value.int IntKind.i64 y1), D.s y2], fl := [Own.deep, Own.sh] })]
    GL)
noncomputable def sl33Ok.A4 : Ex × St → Option Res := fun r => evA XX 28 (lpL XX 28) 4 sl33Ok.c r.fst r.snd (outE XX 28 Tryd.f28)
noncomputable def sl33Ok.q4 (y0 : Bool) : Ex × St := (Ex.ret, mkG 0 72 [(2, AV.one (A1.v (Value.bool y0)))] [] GL)
noncomputable def sl33Ok.L10 (y0 : Int) (y1 : Int) (y2 : Int) (y3 : List (List D)) (y4 : Int) (y5 : List (List D)) : Option (Ex × St) := lpL XX 28 (bodyAt 10 (bodyAt 4 sl33Ok.c))
  (mkG 0 72 [(1, AV.one (A1.p true 1 [] 0)), (3, AV.one (A1.v (Value.int IntKind.i64 y0))), (4, AV.one (A1.p true 4 [] 0)), (5, AV.one (A1.v (Value.int IntKind.i64 y1)))]
    [(1, some { kind := Kind.box, row := [D.v (Value.int IntKind.i64 y2), D.s y3], fl := [Own.deep, Own.sh] }),
      (4, some { kind := Kind.box, row := [D.v (Value.int IntKind.i64 y4), D.s y5], fl := [Own.deep, Own.sh] })]
    GL)
noncomputable def sl33Ok.A10 : Ex × St → Option (Ex × St) := fun r => evA XX 28 (lpL XX 28) 10 (bodyAt 4 sl33Ok.c) r.fst r.snd (backL (lpL XX 28) (bodyAt 4 sl33Ok.c) (XX.live 28 4))
noncomputable def sl33Ok.x4 : Ex × St := (Ex.exit 0, mkG 0 72 [] [] GL)
noncomputable def sl33Ok.q10 (y0 : Bool) (y1 : Int) (y2 : Int) (y3 : List (List D)) : Ex × St := (Ex.ret,
  mkG 0 72 [(1, AV.one (A1.p true 1 [] 0)), (2, AV.one (A1.v (Value.bool y0))), (3, AV.one (A1.v (Value.int IntKind.i64 y1)))]
    [(1, some { kind := Kind.box, row := [D.v (Value.int IntKind.i64 y2), D.s y3], fl := [Own.deep, Own.sh] })] GL)
noncomputable def sl33Ok.x10 (y0 : Int) (y1 : Int) (y2 : List (List D)) : Ex × St := (Ex.exit 2,
  mkG 0 72 [(1, AV.one (A1.p true 1 [] 0)), (3, AV.one (A1.v (Value.int IntKind.i64 y0)))] [(1, some { kind := Kind.box, row := [D.v (Value.int IntKind.i64 y1), D.s y2], fl := [Own.deep, Own.sh] })]
    GL)
theorem sl33Ok.e (a0 : Int) (a1 : List (List D)) :
    sl33Ok [AV.g [A1.v (Value.int IntKind.i64 a0), A1.s a1]] [] =
    (sl1In [AV.one (A1.v (Value.int IntKind.i64 a0)), AV.one (A1.v (Value.int IntKind.i64 1)), AV.one (A1.v (Value.int IntKind.i64 10000))] []).bind fun val =>
  bif fitsCells [R1.bool] val.1 && true then
    bif !(val.1.getD 0 TC.d).bool then some { cells := [TC.v (Value.bool false)], objs := [] }
    else bif decide ((↑a1.length : Int) > 30) then some { cells := [TC.v (Value.bool false)], objs := [] } else (sl33Ok.L4 0 a0 a1).bind sl33Ok.A4
  else none := by
  refine (sl33Ok.run _ _ (by kernel_rfl)).trans ?_
  delta sl33Ok sl1In sl33Ok.L4 sl33Ok.A4 XX
  generalize lpL (Y.ctx (lim' Y)) 28 = lp
  generalize lim' Y = call
  kernel_rfl
theorem sl33Ok.s4 (y0 : Int) (y1 : Int) (y2 : List (List D)) :
    sl33Ok.L4 y0 y1 y2 =
    bif decide (y0 < (↑y2.length : Int)) then
  bif decide (0 ≤ y0) && decide (y0 < (↑y2.length : Int)) && decide ((y2.getD y0.toNat []).length = 2) then
    bif fitsRow [CK.int IntKind.i64, CK.sl] (y2.getD y0.toNat []) 0 && decide (2 ≤ (y2.getD y0.toNat []).length) then
      (sl1In [AV.one (A1.v (Value.int IntKind.i64 ((y2.getD y0.toNat []).getD 0 D.h).int)), AV.one (A1.v (Value.int IntKind.i64 1)), AV.one (A1.v (Value.int IntKind.i64 (IntKind.i64.wrap (y1 - 1))))]
            []).bind
        fun val =>
        bif fitsCells [R1.bool] val.1 && true then
          bif !(val.1.getD 0 TC.d).bool then some (sl33Ok.q4 false)
          else
            (sl2PathOk [AV.one (A1.s ((y2.getD y0.toNat []).getD 1 D.h).es)] []).bind fun val =>
              bif fitsCells [R1.bool] val.1 && true then
                bif !(val.1.getD 0 TC.d).bool then some (sl33Ok.q4 false)
                else
                  bif decide (y0 > 0) then
                    bif decide (0 ≤ IntKind.i64.wrap (y0 - 1)) && decide (IntKind.i64.wrap (y0 - 1) < (↑y2.length : Int)) && decide ((y2.getD (IntKind.i64.wrap (y0 - 1)).toNat []).length = 2) then
                      bif fitsRow [CK.sl] (y2.getD (IntKind.i64.wrap (y0 - 1)).toNat []) 1 && decide (2 ≤ (y2.getD (IntKind.i64.wrap (y0 - 1)).toNat []).length) then
                        (sl11Less [AV.one (A1.s ((y2.getD (IntKind.i64.wrap (y0 - 1)).toNat []).getD 1 D.h).es), AV.one (A1.s ((y2.getD y0.toNat []).getD 1 D.h).es)] []).bind fun val =>
                          bif fitsCells [R1.bool] val.1 && true then
                            bif !(val.1.getD 0 TC.d).bool then some (sl33Ok.q4 false)
                            else (sl33Ok.L10 y0 0 y1 y2 ((y2.getD y0.toNat []).getD 0 D.h).int ((y2.getD y0.toNat []).getD 1 D.h).es).bind sl33Ok.A10
                          else none
                      else none
                    else none
                  else (sl33Ok.L10 y0 0 y1 y2 ((y2.getD y0.toNat []).getD 0 D.h).int ((y2.getD y0.toNat []).getD 1 D.h).es).bind sl33Ok.A10
              else none
        else none
    else none
  else none
else some sl33Ok.x4 := by
  refine (lpL_eq (Y := Y) (c := lim' Y) (fn := 28) (rid := 4) (b := bodyAt 4 sl33Ok.c) (by kernel_rfl) _).trans ?_
  delta sl33Ok.L4 sl1In sl33Ok.q4 sl2PathOk sl11Less sl33Ok.L10 sl33Ok.A10 sl33Ok.x4 XX
  generalize lpL (Y.ctx (lim' Y)) 28 = lp
  generalize lim' Y = call
  kernel_rfl
theorem sl33Ok.a4q4 (y0 : Bool) :
    sl33Ok.A4 (sl33Ok.q4 y0) =
    some { cells := [TC.v (Value.bool y0)], objs := [] } := by
  delta sl33Ok.A4 sl33Ok.q4 XX
  generalize lpL (Y.ctx (lim' Y)) 28 = lp
  generalize lim' Y = call
  kernel_rfl
theorem sl33Ok.s10 (y0 : Int) (y1 : Int) (y2 : Int) (y3 : List (List D)) (y4 : Int) (y5 : List (List D)) :
    sl33Ok.L10 y0 y1 y2 y3 y4 y5 =
    bif decide (y1 < y0) then
  bif decide (0 ≤ y1) && decide (y1 < (↑y3.length : Int)) && decide ((y3.getD y1.toNat []).length = 2) then
    bif fitsRow [CK.int IntKind.i64] (y3.getD y1.toNat []) 0 && decide (1 ≤ (y3.getD y1.toNat []).length) then
      bif ((y3.getD y1.toNat []).getD 0 D.h).int == y4 then some (sl33Ok.q10 false y0 y2 y3) else sl33Ok.L10 y0 (IntKind.i64.wrap (y1 + 1)) y2 y3 y4 y5
    else none
  else none
else some (sl33Ok.x10 y0 y2 y3) := by
  refine (lpL_eq (Y := Y) (c := lim' Y) (fn := 28) (rid := 10) (b := bodyAt 10 (bodyAt 4 sl33Ok.c)) (by kernel_rfl) _).trans ?_
  delta sl33Ok.L10 sl33Ok.q10 sl33Ok.x10 XX
  generalize lpL (Y.ctx (lim' Y)) 28 = lp
  generalize lim' Y = call
  kernel_rfl
theorem sl33Ok.a4x4 :
    sl33Ok.A4 sl33Ok.x4 =
    some { cells := [TC.v (Value.bool true)], objs := [] } := by
  delta sl33Ok.A4 sl33Ok.x4 XX
  generalize lpL (Y.ctx (lim' Y)) 28 = lp
  generalize lim' Y = call
  kernel_rfl
theorem sl33Ok.a10q10 (y0 : Bool) (y1 : Int) (y2 : Int) (y3 : List (List D)) :
    sl33Ok.A10 (sl33Ok.q10 y0 y1 y2 y3) =
    some (sl33Ok.q4 y0) := by
  delta sl33Ok.A10 sl33Ok.q10 sl33Ok.q4 XX
  generalize lpL (Y.ctx (lim' Y)) 28 = lp
  generalize lim' Y = call
  kernel_rfl
theorem sl33Ok.a10x10 (y0 : Int) (y1 : Int) (y2 : List (List D)) :
    sl33Ok.A10 (sl33Ok.x10 y0 y1 y2) =
    sl33Ok.L4 (IntKind.i64.wrap (y0 + 1)) y1 y2 := by
  delta sl33Ok.A10 sl33Ok.x10 sl33Ok.L4 XX
  generalize lpL (Y.ctx (lim' Y)) 28 = lp
  generalize lim' Y = call
  kernel_rfl


noncomputable def wtoNodeOfS.L3 (y0 : List (List D)) (y1 : Int) (y2 : List (List D)) : Option (Ex × St) := lpL XX 29 (bodyAt 3 wtoNodeOfS.c)
  (mkG 0 23 [(0, AV.one (A1.s y0)), (3, AV.one (A1.r 3 [] 0)), (4, AV.one (A1.v (Value.int IntKind.i64 y1)))] [(3, some { kind := Kind.virt, row := [D.s y2], fl := [Own.deep] })] GL)
noncomputable def wtoNodeOfS.A3 : Ex × St → Option Res := fun r => evA XX 29 (lpL XX 29) 3 wtoNodeOfS.c r.fst r.snd (outE XX 29 Tryd.f29)
noncomputable def wtoNodeOfS.x3 (y0 : List (List D)) : Ex × St := (Ex.exit 0, mkG 0 23 [(3, AV.one (A1.r 3 [] 0))] [(3, some { kind := Kind.virt, row := [D.s y0], fl := [Own.deep] })] GL)
theorem wtoNodeOfS.e (a0 : List (List D)) :
    wtoNodeOfS [AV.one (A1.s a0)] [] =
    bif decide ((↑a0.length : Int) * ((↑32 : Int) + 1) ≤ 2 ^ 46) && true && true then
  (wtoNodeOfS.L3 a0 0 (List.replicate (↑a0.length : Int).toNat [D.v (Value.int IntKind.i64 0), D.s []])).bind wtoNodeOfS.A3
else none := by
  refine (wtoNodeOfS.run _ _ (by kernel_rfl)).trans ?_
  delta wtoNodeOfS wtoNodeOfS.L3 wtoNodeOfS.A3 XX
  generalize lpL (Y.ctx (lim' Y)) 29 = lp
  generalize lim' Y = call
  kernel_rfl
theorem wtoNodeOfS.s3 (y0 : List (List D)) (y1 : Int) (y2 : List (List D)) :
    wtoNodeOfS.L3 y0 y1 y2 =
    bif decide (y1 < (↑y0.length : Int)) then
  bif decide (0 ≤ y1) && decide (y1 < (↑y0.length : Int)) && decide ((y0.getD y1.toNat []).length = 2) then
    bif fitsRow [CK.int IntKind.i64, CK.sl] (y0.getD y1.toNat []) 0 && decide (2 ≤ (y0.getD y1.toNat []).length) then
      (wtoNodeOf [AV.g [A1.v (Value.int IntKind.i64 ((y0.getD y1.toNat []).getD 0 D.h).int), A1.s ((y0.getD y1.toNat []).getD 1 D.h).es]] []).bind fun val =>
        bif fitsCells [R1.int IntKind.i64, R1.own Own.deep] val.1 && true then
          bif decide (0 ≤ y1) && decide (y1 < (↑y2.length : Int)) && decide ((y2.getD y1.toNat []).length = 2) then
            bif decide (2 ≤ (y2.getD y1.toNat []).length) && true then
              wtoNodeOfS.L3 y0 (IntKind.i64.wrap (y1 + 1)) (y2.set y1.toNat (D.v (Value.int IntKind.i64 (val.1.getD 0 TC.d).int) :: D.s (val.1.getD 1 TC.d).es :: List.drop 2 (y2.getD y1.toNat [])))
            else none
          else none
        else none
    else none
  else none
else some (wtoNodeOfS.x3 y2) := by
  refine (lpL_eq (Y := Y) (c := lim' Y) (fn := 29) (rid := 3) (b := bodyAt 3 wtoNodeOfS.c) (by kernel_rfl) _).trans ?_
  delta wtoNodeOfS.L3 wtoNodeOf wtoNodeOfS.x3 XX
  generalize lpL (Y.ctx (lim' Y)) 29 = lp
  generalize lim' Y = call
  kernel_rfl
theorem wtoNodeOfS.a3x3 (y0 : List (List D)) :
    wtoNodeOfS.A3 (wtoNodeOfS.x3 y0) =
    some { cells := [TC.o Own.deep y0], objs := [] } := by
  delta wtoNodeOfS.A3 wtoNodeOfS.x3 XX
  generalize lpL (Y.ctx (lim' Y)) 29 = lp
  generalize lim' Y = call
  kernel_rfl


noncomputable def inodesWell.L2 (y0 : List (List D)) (y1 : Int) (y2 : Int) (y3 : Int) (y4 : List (List D)) : Option (Ex × St) := lpL XX 30 (bodyAt 2 inodesWell.c)
  (mkG 0 70 [(1, AV.one (A1.p true 1 [] 0)), (8, AV.one (A1.s y0)), (9, AV.one (A1.v (Value.int IntKind.i64 y1))), (10, AV.one (A1.v (Value.int IntKind.i64 y2)))]
    [(1, some { kind := Kind.box, row := [D.v (Value.int IntKind.i64 y3), D.s y4], fl := [Own.deep, Own.sh] })] GL)
noncomputable def inodesWell.A2 : Ex × St → Option Res := fun r => evA XX 30 (lpL XX 30) 2 inodesWell.c r.fst r.snd (outE XX 30 Tryd.f30)
noncomputable def inodesWell.q2 (y0 : Bool) (y1 : Int) (y2 : List (List D)) : Ex × St := (Ex.ret, mkG 0 70 [(1, AV.one (A1.p true 1 [] 0)), (2, AV.one (A1.v (Value.bool y0)))] [(1, some { kind := Kind.box, row := [D.v (Value.int IntKind.i64 y1), D.s y2], fl := [Own.deep, Own.sh] })] GL)
noncomputable def inodesWell.L7 (y0 : List (List D)) (y1 : Int) (y2 : Int) (y3 : List (List D)) (y4 : Int) (y5 : Int) (y6 : Int) (y7 : List (List D)) (y8 : Int) (y9 : List (List D)) : Option (Ex × St) := lpL XX 30 (bodyAt 7 (bodyAt 2 inodesWell.c))
  (mkG 0 70
    [(1, AV.one (A1.p true 1 [] 0)), (4, AV.one (A1.p true 4 [] 0)), (8, AV.one (A1.s y0)), (9, AV.one (A1.v (Value.int IntKind.i64 y1))), (10, AV.one (A1.v (Value.int IntKind.i64 y2))),
      (48, AV.one (A1.s y3)), (49, AV.one (A1.v (Value.int IntKind.i64 y4))), (50, AV.one (A1.v (Value.int IntKind.i64 y5)))]
    [(1, some { kind := Kind.box, row := [D.v (Value.int IntKind.i64 y6), D.s y7], fl := [Own.deep, Own.sh] }),
      (4, some { kind := Kind.box, row := [D.v (Value.int IntKind.i64 y8), D.s y9], fl := [Own.deep, Own.sh] })]
    GL)
noncomputable def inodesWell.A7 : Ex × St → Option (Ex × St) := fun r => evA XX 30 (lpL XX 30) 7 (bodyAt 2 inodesWell.c) r.fst r.snd (backL (lpL XX 30) (bodyAt 2 inodesWell.c) (XX.live 30 2))
noncomputable def inodesWell.x2 (y0 : Int) (y1 : List (List D)) : Ex × St := (Ex.exit 0, mkG 0 70 [(1, AV.one (A1.p true 1 [] 0))] [(1, some { kind := Kind.box, row := [D.v (Value.int IntKind.i64 y0), D.s y1], fl := [Own.deep, Own.sh] })] GL)
noncomputable def inodesWell.q7 (y0 : Bool) (y1 : List (List D)) (y2 : Int) (y3 : Int) (y4 : Int) (y5 : List (List D)) : Ex × St := (Ex.ret,
  mkG 0 70 [(1, AV.one (A1.p true 1 [] 0)), (2, AV.one (A1.v (Value.bool y0))), (8, AV.one (A1.s y1)), (9, AV.one (A1.v (Value.int IntKind.i64 y2))), (10, AV.one (A1.v (Value.int IntKind.i64 y3)))]
    [(1, some { kind := Kind.box, row := [D.v (Value.int IntKind.i64 y4), D.s y5], fl := [Own.deep, Own.sh] })] GL)
noncomputable def inodesWell.x7 (y0 : List (List D)) (y1 : Int) (y2 : Int) (y3 : Int) (y4 : List (List D)) : Ex × St := (Ex.exit 2,
  mkG 0 70 [(1, AV.one (A1.p true 1 [] 0)), (8, AV.one (A1.s y0)), (9, AV.one (A1.v (Value.int IntKind.i64 y1))), (10, AV.one (A1.v (Value.int IntKind.i64 y2)))]
    [(1, some { kind := Kind.box, row := [D.v (Value.int IntKind.i64 y3), D.s y4], fl := [Own.deep, Own.sh] })] GL)
theorem inodesWell.e (a0 : Int) (a1 : List (List D)) :
    inodesWell [AV.g [A1.v (Value.int IntKind.i64 a0), A1.s a1]] [] =
    (inodesWell.L2 a1 (↑a1.length : Int) 0 a0 a1).bind inodesWell.A2 := by
  refine (inodesWell.run _ _ (by kernel_rfl)).trans ?_
  delta inodesWell inodesWell.L2 inodesWell.A2 XX
  generalize lpL (Y.ctx (lim' Y)) 30 = lp
  generalize lim' Y = call
  kernel_rfl
theorem inodesWell.s2 (y0 : List (List D)) (y1 : Int) (y2 : Int) (y3 : Int) (y4 : List (List D)) :
    inodesWell.L2 y0 y1 y2 y3 y4 =
    bif decide (y2 < y1) then
  bif decide (0 ≤ y2) && decide (y2 < (↑y0.length : Int)) && decide ((y0.getD y2.toNat []).length = 2) then
    bif fitsRow [CK.int IntKind.i64, CK.sl] (y0.getD y2.toNat []) 0 && decide (2 ≤ (y0.getD y2.toNat []).length) then
      (inamesOk [AV.one (A1.s ((y0.getD y2.toNat []).getD 1 D.h).es), AV.one (A1.v (Value.int IntKind.i64 1))] []).bind fun val =>
        bif fitsCells [R1.bool] val.1 && true then
          bif !(val.1.getD 0 TC.d).bool then some (inodesWell.q2 false y3 y4)
          else
            bif decide (y2 > 0) then
              bif decide (0 ≤ IntKind.i64.wrap (y2 - 1)) && decide (IntKind.i64.wrap (y2 - 1) < (↑y4.length : Int)) && decide ((y4.getD (IntKind.i64.wrap (y2 - 1)).toNat []).length = 2) then
                bif fitsRow [CK.sl] (y4.getD (IntKind.i64.wrap (y2 - 1)).toNat []) 1 && decide (2 ≤ (y4.getD (IntKind.i64.wrap (y2 - 1)).toNat []).length) then
                  (slices_Compare_Sstring_string [AV.one (A1.s ((y4.getD (IntKind.i64.wrap (y2 - 1)).toNat []).getD 1 D.h).es), AV.one (A1.s ((y0.getD y2.toNat []).getD 1 D.h).es)] []).bind fun val =>
                    bif fitsCells [R1.int IntKind.i64] val.1 && true then
                      bif decide ((val.1.getD 0 TC.d).int ≥ 0) then some (inodesWell.q2 false y3 y4)
                      else
                        (iwithin
                              [AV.one (A1.v (Value.int IntKind.i64 ((y0.getD y2.toNat []).getD 0 D.h).int)), AV.one (A1.v (Value.int IntKind.i64 1)),
                                AV.one (A1.v (Value.int IntKind.i64 (IntKind.i64.wrap (y3 - 1))))]
                              []).bind
                          fun val =>
                          bif fitsCells [R1.bool] val.1 && true then
                            bif !(val.1.getD 0 TC.d).bool then some (inodesWell.q2 false y3 y4)
                            else
                              bif decide (none.getD 0 ≤ y2) && decide (y2 ≤ (↑y4.length : Int)) && true then
                                (inodesWell.L7 y0 y1 y2 (List.drop 0 (List.take y2.toNat y4)) (↑(List.drop 0 (List.take y2.toNat y4)).length : Int) 0 y3 y4 ((y0.getD y2.toNat []).getD 0 D.h).int
                                      ((y0.getD y2.toNat []).getD 1 D.h).es).bind
                                  inodesWell.A7
                              else none
                          else none
                    else none
                else none
              else none
            else
              (iwithin
                    [AV.one (A1.v (Value.int IntKind.i64 ((y0.getD y2.toNat []).getD 0 D.h).int)), AV.one (A1.v (Value.int IntKind.i64 1)),
                      AV.one (A1.v (Value.int IntKind.i64 (IntKind.i64.wrap (y3 - 1))))]
                    []).bind
                fun val =>
                bif fitsCells [R1.bool] val.1 && true then
                  bif !(val.1.getD 0 TC.d).bool then some (inodesWell.q2 false y3 y4)
                  else
                    bif decide (none.getD 0 ≤ y2) && decide (y2 ≤ (↑y4.length : Int)) && true then
                      (inodesWell.L7 y0 y1 y2 (List.drop 0 (List.take y2.toNat y4)) (↑(List.drop 0 (List.take y2.toNat y4)).length : Int) 0 y3 y4 ((y0.getD y2.toNat []).getD 0 D.h).int
                            ((y0.getD y2.toNat []).getD 1 D.h).es).bind
                        inodesWell.A7
                    else none
                else none
        else none
    else none
  else none
else some (inodesWell.x2 y3 y4) := by
  refine (lpL_eq (Y := Y) (c := lim' Y) (fn := 30) (rid := 2) (b := bodyAt 2 inodesWell.c) (by kernel_rfl) _).trans ?_
  delta inodesWell.L2 inamesOk inodesWell.q2 slices_Compare_Sstring_string iwithin inodesWell.L7 inodesWell.A7 inodesWell.x2 XX
  generalize lpL (Y.ctx (lim' Y)) 30 = lp
  generalize lim' Y = call
  kernel_rfl
theorem inodesWell.a2q2 (y0 : Bool) (y1 : Int) (y2 : List (List D)) :
    inodesWell.A2 (inodesWell.q2 y0 y1 y2) =
    some { cells := [TC.v (Value.bool y0)], objs := [] } := by
  delta inodesWell.A2 inodesWell.q2 XX
  generalize lpL (Y.ctx (lim' Y)) 30 = lp
  generalize lim' Y = call
  kernel_rfl
theorem inodesWell.s7 (y0 : List (List D)) (y1 : Int) (y2 : Int) (y3 : List (List D)) (y4 : Int) (y5 : Int) (y6 : Int) (y7 : List (List D)) (y8 : Int) (y9 : List (List D)) :
    inodesWell.L7 y0 y1 y2 y3 y4 y5 y6 y7 y8 y9 =
    bif decide (y5 < y4) then
  bif decide (0 ≤ y5) && decide (y5 < (↑y3.length : Int)) && decide ((y3.getD y5.toNat []).length = 2) then
    bif fitsRow [CK.int IntKind.i64, CK.sl] (y3.getD y5.toNat []) 0 && decide (2 ≤ (y3.getD y5.toNat []).length) then
      bif ((y3.getD y5.toNat []).getD 0 D.h).int == y8 then some (inodesWell.q7 false y0 y1 y2 y6 y7) else inodesWell.L7 y0 y1 y2 y3 y4 (IntKind.i64.wrap (y5 + 1)) y6 y7 y8 y9
    else none
  else none
else some (inodesWell.x7 y0 y1 y2 y6 y7) := by
  refine (lpL_eq (Y := Y) (c := lim' Y) (fn := 30) (rid := 7) (b := bodyAt 7 (bodyAt 2 inodesWell.c)) (by kernel_rfl) _).trans ?_
  delta inodesWell.L7 inodesWell.q7 inodesWell.x7 XX
  generalize lpL (Y.ctx (lim' Y)) 30 = lp
  generalize lim' Y = call
  kernel_rfl
theorem inodesWell.a2x2 (y0 : Int) (y1 : List (List D)) :
    inodesWell.A2 (inodesWell.x2 y0 y1) =
    (iwithin [AV.one (A1.v (Value.int IntKind.i64 y0)), AV.one (A1.v (Value.int IntKind.i64 1)), AV.one (A1.v (Value.int IntKind.i64 10000))] []).bind fun val =>
  bif fitsCells [R1.bool] val.1 && true then
    bif (val.1.getD 0 TC.d).bool then some { cells := [TC.v (Value.bool (decide ((↑y1.length : Int) ≤ 30)))], objs := [] } else some { cells := [TC.v (Value.bool false)], objs := [] }
  else none := by
  delta inodesWell.A2 inodesWell.x2 iwithin XX
  generalize lpL (Y.ctx (lim' Y)) 30 = lp
  generalize lim' Y = call
  kernel_rfl
theorem inodesWell.a7q7 (y0 : Bool) (y1 : List (List D)) (y2 : Int) (y3 : Int) (y4 : Int) (y5 : List (List D)) :
    inodesWell.A7 (inodesWell.q7 y0 y1 y2 y3 y4 y5) =
    some (inodesWell.q2 y0 y4 y5) := by
  delta inodesWell.A7 inodesWell.q7 inodesWell.q2 XX
  generalize lpL (Y.ctx (lim' Y)) 30 = lp
  generalize lim' Y = call
  kernel_rfl
theorem inodesWell.a7x7 (y0 : List (List D)) (y1 : Int) (y2 : Int) (y3 : Int) (y4 : List (List D)) :
    inodesWell.A7 (inodesWell.x7 y0 y1 y2 y3 y4) =
    inodesWell.L2 y0 y1 (IntKind.i64.wrap (y2 + 1)) y3 y4 := by
  delta inodesWell.A7 inodesWell.x7 inodesWell.L2 XX
  generalize lpL (Y.ctx (lim' Y)) 30 = lp
  generalize lim' Y = call
  kernel_rfl


noncomputable def weqNodeOfS.L4 (y0 : List (List D)) (y1 : List (List D)) (y2 : Int) : Option (Ex × St) := lpL XX 31 (bodyAt 4 weqNodeOfS.c) (mkG 0 27 [(0, AV.one (A1.s y0)), (1, AV.one (A1.s y1)), (5, AV.one (A1.v (Value.int IntKind.i64 y2)))] [] GL)
noncomputable def weqNodeOfS.A4 : Ex × St → Option Res := fun r => evA XX 31 (lpL XX 31) 4 weqNodeOfS.c r.fst r.snd (outE XX 31 Tryd.f31)
noncomputable def weqNodeOfS.q4 (y0 : Bool) : Ex × St := (Ex.ret, mkG 0 27 [(4, AV.one (A1.v (Value.bool y0)))] [] GL)
noncomputable def weqNodeOfS.x4 : Ex × St := (Ex.exit 0, mkG 0 27 [] [] GL)
theorem weqNodeOfS.e (a0 : List (List D)) (a1 : List (List D)) :
    weqNodeOfS [AV.one (A1.s a0), AV.one (A1.s a1)] [] =
    bif (↑a0.length : Int) != (↑a1.length : Int) then some { cells := [TC.v (Value.bool false)], objs := [] } else (weqNodeOfS.L4 a0 a1 0).bind weqNodeOfS.A4 := by
  refine (weqNodeOfS.run _ _ (by kernel_rfl)).trans ?_
  delta weqNodeOfS weqNodeOfS.L4 weqNodeOfS.A4 XX
  generalize lpL (Y.ctx (lim' Y)) 31 = lp
  generalize lim' Y = call
  kernel_rfl
theorem weqNodeOfS.s4 (y0 : List (List D)) (y1 : List (List D)) (y2 : Int) :
    weqNodeOfS.L4 y0 y1 y2 =
    bif decide (y2 < (↑y0.length : Int)) then
  bif decide (0 ≤ y2) && decide (y2 < (↑y0.length : Int)) && decide ((y0.getD y2.toNat []).length = 2) then
    bif fitsRow [CK.int IntKind.i64, CK.sl] (y0.getD y2.toNat []) 0 && decide (2 ≤ (y0.getD y2.toNat []).length) then
      bif decide (0 ≤ y2) && decide (y2 < (↑y1.length : Int)) && decide ((y1.getD y2.toNat []).length = 2) then
        bif fitsRow [CK.int IntKind.i64, CK.sl] (y1.getD y2.toNat []) 0 && decide (2 ≤ (y1.getD y2.toNat []).length) then
          (weqNodeOf
                [AV.g [A1.v (Value.int IntKind.i64 ((y0.getD y2.toNat []).getD 0 D.h).int), A1.s ((y0.getD y2.toNat []).getD 1 D.h).es],
                  AV.g [A1.v (Value.int IntKind.i64 ((y1.getD y2.toNat []).getD 0 D.h).int), A1.s ((y1.getD y2.toNat []).getD 1 D.h).es]]
                []).bind
            fun val => bif fitsCells [R1.bool] val.1 && true then bif !(val.1.getD 0 TC.d).bool then some (weqNodeOfS.q4 false) else weqNodeOfS.L4 y0 y1 (IntKind.i64.wrap (y2 + 1)) else none
        else none
      else none
    else none
  else none
else some weqNodeOfS.x4 := by
  refine (lpL_eq (Y := Y) (c := lim' Y) (fn := 31) (rid := 4) (b := bodyAt 4 weqNodeOfS.c) (by kernel_rfl) _).trans ?_
  delta weqNodeOfS.L4 weqNodeOf weqNodeOfS.q4 weqNodeOfS.x4 XX
  generalize lpL (Y.ctx (lim' Y)) 31 = lp
  generalize lim' Y = call
  kernel_rfl
theorem weqNodeOfS.a4q4 (y0 : Bool) :
    weqNodeOfS.A4 (weqNodeOfS.q4 y0) =
    some { cells := [TC.v (Value.bool y0)], objs := [] } := by
  delta weqNodeOfS.A4 weqNodeOfS.q4 XX
  generalize lpL (Y.ctx (lim' Y)) 31 = lp
  generalize lim' Y = call
  kernel_rfl
theorem weqNodeOfS.a4x4 :
    weqNodeOfS.A4 weqNodeOfS.x4 =
    some { cells := [TC.v (Value.bool true)], objs := [] } := by
  delta weqNodeOfS.A4 weqNodeOfS.x4 XX
  generalize lpL (Y.ctx (lim' Y)) 31 = lp
  generalize lim' Y = call
  kernel_rfl


noncomputable def sl2PathOk.L2 (y0 : List (List D)) (y1 : Int) : Option (Ex × St) := lpL XX 32 (bodyAt 2 sl2PathOk.c) (mkG 0 19 [(0, AV.one (A1.s y0)), (3, AV.one (A1.v (Value.int IntKind.i64 y1)))] [] GL)
noncomputable def sl2PathOk.A2 : Ex × St → Option Res := fun r => evA XX 32 (lpL XX 32) 2 sl2PathOk.c r.fst r.snd (outE XX 32 Tryd.f32)
noncomputable def sl2PathOk.q2 (y0 : List (List D)) (y1 : Bool) : Ex × St := (Ex.ret, mkG 0 19 [(0, AV.one (A1.s y0)), (2, AV.one (A1.v (Value.bool y1)))] [] GL)
noncomputable def sl2PathOk.x2 (y0 : List (List D)) : Ex × St := (Ex.exit 0, mkG 0 19 [(0, AV.one (A1.s y0))] [] GL)
theorem sl2PathOk.e (a0 : List (List D)) :
    sl2PathOk [AV.one (A1.s a0)] [] =
    (sl2PathOk.L2 a0 0).bind sl2PathOk.A2 := by
  refine (sl2PathOk.run _ _ (by kernel_rfl)).trans ?_
  delta sl2PathOk sl2PathOk.L2 sl2PathOk.A2 XX
  generalize lpL (Y.ctx (lim' Y)) 32 = lp
  generalize lim' Y = call
  kernel_rfl
theorem sl2PathOk.s2 (y0 : List (List D)) (y1 : Int) :
    sl2PathOk.L2 y0 y1 =
    bif decide (y1 < (↑y0.length : Int)) then
  bif decide (0 ≤ y1) && decide (y1 < (↑y0.length : Int)) && decide ((y0.getD y1.toNat []).length = 1) then
    bif fitsRow [CK.str] (y0.getD y1.toNat []) 0 && decide (1 ≤ (y0.getD y1.toNat []).length) then
      (sl1NameOk [AV.one (A1.v (Value.string ((y0.getD y1.toNat []).getD 0 D.h).str))] []).bind fun val =>
        bif fitsCells [R1.bool] val.1 && true then bif !(val.1.getD 0 TC.d).bool then some (sl2PathOk.q2 y0 false) else sl2PathOk.L2 y0 (IntKind.i64.wrap (y1 + 1)) else none
    else none
  else none
else some (sl2PathOk.x2 y0) := by
  refine (lpL_eq (Y := Y) (c := lim' Y) (fn := 32) (rid := 2) (b := bodyAt 2 sl2PathOk.c) (by kernel_rfl) _).trans ?_
  delta sl2PathOk.L2 sl1NameOk sl2PathOk.q2 sl2PathOk.x2 XX
  generalize lpL (Y.ctx (lim' Y)) 32 = lp
  generalize lim' Y = call
  kernel_rfl
theorem sl2PathOk.a2q2 (y0 : List (List D)) (y1 : Bool) :
    sl2PathOk.A2 (sl2PathOk.q2 y0 y1) =
    some { cells := [TC.v (Value.bool y1)], objs := [] } := by
  delta sl2PathOk.A2 sl2PathOk.q2 XX
  generalize lpL (Y.ctx (lim' Y)) 32 = lp
  generalize lim' Y = call
  kernel_rfl
theorem sl2PathOk.a2x2 (y0 : List (List D)) :
    sl2PathOk.A2 (sl2PathOk.x2 y0) =
    (sl1In [AV.one (A1.v (Value.int IntKind.i64 (↑y0.length : Int))), AV.one (A1.v (Value.int IntKind.i64 1)), AV.one (A1.v (Value.int IntKind.i64 4))] []).bind fun val =>
  bif fitsCells [R1.bool] val.1 && true then some { cells := [TC.v (Value.bool (val.1.getD 0 TC.d).bool)], objs := [] } else none := by
  delta sl2PathOk.A2 sl2PathOk.x2 sl1In XX
  generalize lpL (Y.ctx (lim' Y)) 32 = lp
  generalize lim' Y = call
  kernel_rfl


theorem sl1In.e (a0 : Int) (a1 : Int) (a2 : Int) :
    sl1In [AV.one (A1.v (Value.int IntKind.i64 a0)), AV.one (A1.v (Value.int IntKind.i64 a1)), AV.one (A1.v (Value.int IntKind.i64 a2))] [] =
    bif decide (a0 ≥ a1) then some { cells := [TC.v (Value.bool (decide (a0 ≤ a2)))], objs := [] } else some { cells := [TC.v (Value.bool false)], objs := [] } := by
  refine (sl1In.run _ _ (by kernel_rfl)).trans ?_
  delta sl1In XX
  generalize lpL (Y.ctx (lim' Y)) 33 = lp
  generalize lim' Y = call
  kernel_rfl


theorem iwithin.e (a0 : Int) (a1 : Int) (a2 : Int) :
    iwithin [AV.one (A1.v (Value.int IntKind.i64 a0)), AV.one (A1.v (Value.int IntKind.i64 a1)), AV.one (A1.v (Value.int IntKind.i64 a2))] [] =
    bif decide (a0 ≥ a1) then some { cells := [TC.v (Value.bool (decide (a0 ≤ a2)))], objs := [] } else some { cells := [TC.v (Value.bool false)], objs := [] } := by
  refine (iwithin.run _ _ (by kernel_rfl)).trans ?_
  delta iwithin XX
  generalize lpL (Y.ctx (lim' Y)) 34 = lp
  generalize lim' Y = call
  kernel_rfl


noncomputable def inamesOk.L2 (y0 : List (List D)) (y1 : Int) (y2 : List (List D)) (y3 : Int) (y4 : Int) : Option (Ex × St) := lpL XX 35 (bodyAt 2 inamesOk.c)
  (mkG 0 21 [(0, AV.one (A1.s y0)), (1, AV.one (A1.v (Value.int IntKind.i64 y1))), (7, AV.one (A1.s y2)), (8, AV.one (A1.v (Value.int IntKind.i64 y3))), (9, AV.one (A1.v (Value.int IntKind.i64 y4)))]
    [] GL)
noncomputable def inamesOk.A2 : Ex × St → Option Res := fun r => evA XX 35 (lpL XX 35) 2 inamesOk.c r.fst r.snd (outE XX 35 Tryd.f35)
noncomputable def inamesOk.q2 (y0 : List (List D)) (y1 : Int) (y2 : Bool) : Ex × St := (Ex.ret, mkG 0 21 [(0, AV.one (A1.s y0)), (1, AV.one (A1.v (Value.int IntKind.i64 y1))), (4, AV.one (A1.v (Value.bool y2)))] [] GL)
noncomputable def inamesOk.x2 (y0 : List (List D)) (y1 : Int) : Ex × St := (Ex.exit 0, mkG 0 21 [(0, AV.one (A1.s y0)), (1, AV.one (A1.v (Value.int IntKind.i64 y1)))] [] GL)
theorem inamesOk.e (a0 : List (List D)) (a1 : Int) :
    inamesOk [AV.one (A1.s a0), AV.one (A1.v (Value.int IntKind.i64 a1))] [] =
    (inamesOk.L2 a0 a1 a0 (↑a0.length : Int) 0).bind inamesOk.A2 := by
  refine (inamesOk.run _ _ (by kernel_rfl)).trans ?_
  delta inamesOk inamesOk.L2 inamesOk.A2 XX
  generalize lpL (Y.ctx (lim' Y)) 35 = lp
  generalize lim' Y = call
  kernel_rfl
theorem inamesOk.s2 (y0 : List (List D)) (y1 : Int) (y2 : List (List D)) (y3 : Int) (y4 : Int) :
    inamesOk.L2 y0 y1 y2 y3 y4 =
    bif decide (y4 < y3) then
  bif decide (0 ≤ y4) && decide (y4 < (↑y2.length : Int)) && decide ((y2.getD y4.toNat []).length = 1) then
    bif fitsRow [CK.str] (y2.getD y4.toNat []) 0 && decide (1 ≤ (y2.getD y4.toNat []).length) then
      (inameOk [AV.one (A1.v (Value.string ((y2.getD y4.toNat []).getD 0 D.h).str))] []).bind fun val =>
        bif fitsCells [R1.bool] val.1 && true then bif !(val.1.getD 0 TC.d).bool then some (inamesOk.q2 y0 y1 false) else inamesOk.L2 y0 y1 y2 y3 (IntKind.i64.wrap (y4 + 1)) else none
    else none
  else none
else some (inamesOk.x2 y0 y1) := by
  refine (lpL_eq (Y := Y) (c := lim' Y) (fn := 35) (rid := 2) (b := bodyAt 2 inamesOk.c) (by kernel_rfl) _).trans ?_
  delta inamesOk.L2 inameOk inamesOk.q2 inamesOk.x2 XX
  generalize lpL (Y.ctx (lim' Y)) 35 = lp
  generalize lim' Y = call
  kernel_rfl
theorem inamesOk.a2q2 (y0 : List (List D)) (y1 : Int) (y2 : Bool) :
    inamesOk.A2 (inamesOk.q2 y0 y1 y2) =
    some { cells := [TC.v (Value.bool y2)], objs := [] } := by
  delta inamesOk.A2 inamesOk.q2 XX
  generalize lpL (Y.ctx (lim' Y)) 35 = lp
  generalize lim' Y = call
  kernel_rfl
theorem inamesOk.a2x2 (y0 : List (List D)) (y1 : Int) :
    inamesOk.A2 (inamesOk.x2 y0 y1) =
    (iwithin [AV.one (A1.v (Value.int IntKind.i64 (↑y0.length : Int))), AV.one (A1.v (Value.int IntKind.i64 y1)), AV.one (A1.v (Value.int IntKind.i64 4))] []).bind fun val =>
  bif fitsCells [R1.bool] val.1 && true then some { cells := [TC.v (Value.bool (val.1.getD 0 TC.d).bool)], objs := [] } else none := by
  delta inamesOk.A2 inamesOk.x2 iwithin XX
  generalize lpL (Y.ctx (lim' Y)) 35 = lp
  generalize lim' Y = call
  kernel_rfl


theorem wszNodeOf.e (a0 : Int) (a1 : List (List D)) (a2 : Int) :
    wszNodeOf [AV.g [A1.v (Value.int IntKind.i64 a0), A1.s a1], AV.one (A1.v (Value.int IntKind.i64 a2))] [] =
    (wszStringS [AV.one (A1.s a1), AV.one (A1.v (Value.int IntKind.i64 a2))] []).bind fun val =>
  bif fitsCells [R1.int IntKind.i64] val.1 && true then
    bif decide ((val.1.getD 0 TC.d).int < 0) then some { cells := [TC.v (Value.int IntKind.i64 (-1))], objs := [] }
    else some { cells := [TC.v (Value.int IntKind.i64 (val.1.getD 0 TC.d).int)], objs := [] }
  else none := by
  refine (wszNodeOf.run _ _ (by kernel_rfl)).trans ?_
  delta wszNodeOf wszStringS XX
  generalize lpL (Y.ctx (lim' Y)) 40 = lp
  generalize lim' Y = call
  kernel_rfl


noncomputable def sl11Less.L2 (y0 : List (List D)) (y1 : List (List D)) (y2 : Int) : Option (Ex × St) := lpL XX 41 (bodyAt 2 sl11Less.c) (mkG 0 41 [(0, AV.one (A1.s y0)), (1, AV.one (A1.s y1)), (5, AV.one (A1.v (Value.int IntKind.i64 y2)))] [] GL)
noncomputable def sl11Less.A2 : Ex × St → Option Res := fun r => evA XX 41 (lpL XX 41) 2 sl11Less.c r.fst r.snd (outE XX 41 Tryd.f41)
noncomputable def sl11Less.q2 (y0 : List (List D)) (y1 : List (List D)) (y2 : Bool) : Ex × St := (Ex.ret, mkG 0 41 [(0, AV.one (A1.s y0)), (1, AV.one (A1.s y1)), (4, AV.one (A1.v (Value.bool y2)))] [] GL)
noncomputable def sl11Less.x2 (y0 : List (List D)) (y1 : List (List D)) : Ex × St := (Ex.exit 0, mkG 0 41 [(0, AV.one (A1.s y0)), (1, AV.one (A1.s y1))] [] GL)
theorem sl11Less.e (a0 : List (List D)) (a1 : List (List D)) :
    sl11Less [AV.one (A1.s a0), AV.one (A1.s a1)] [] =
    (sl11Less.L2 a0 a1 0).bind sl11Less.A2 := by
  refine (sl11Less.run _ _ (by kernel_rfl)).trans ?_
  delta sl11Less sl11Less.L2 sl11Less.A2 XX
  generalize lpL (Y.ctx (lim' Y)) 41 = lp
  generalize lim' Y = call
  kernel_rfl
theorem sl11Less.s2 (y0 : List (List D)) (y1 : List (List D)) (y2 : Int) :
    sl11Less.L2 y0 y1 y2 =
    bif decide (y2 < (↑y0.length : Int)) then
  bif decide (y2 < (↑y1.length : Int)) then
    bif decide (0 ≤ y2) && decide (y2 < (↑y0.length : Int)) && decide ((y0.getD y2.toNat []).length = 1) then
      bif fitsRow [CK.str] (y0.getD y2.toNat []) 0 && decide (1 ≤ (y0.getD y2.toNat []).length) then
        bif decide (0 ≤ y2) && decide (y2 < (↑y1.length : Int)) && decide ((y1.getD y2.toNat []).length = 1) then
          bif fitsRow [CK.str] (y1.getD y2.toNat []) 0 && decide (1 ≤ (y1.getD y2.toNat []).length) then
            bif !((y0.getD y2.toNat []).getD 0 D.h).str.toList == ((y1.getD y2.toNat []).getD 0 D.h).str.toList then
              bif decide (0 ≤ y2) && decide (y2 < (↑y0.length : Int)) && decide ((y0.getD y2.toNat []).length = 1) then
                bif fitsRow [CK.str] (y0.getD y2.toNat []) 0 && decide (1 ≤ (y0.getD y2.toNat []).length) then
                  bif decide (0 ≤ y2) && decide (y2 < (↑y1.length : Int)) && decide ((y1.getD y2.toNat []).length = 1) then
                    bif fitsRow [CK.str] (y1.getD y2.toNat []) 0 && decide (1 ≤ (y1.getD y2.toNat []).length) then
                      some (sl11Less.q2 y0 y1 (Op.bytesLess ((y0.getD y2.toNat []).getD 0 D.h).str.toList ((y1.getD y2.toNat []).getD 0 D.h).str.toList))
                    else none
                  else none
                else none
              else none
            else sl11Less.L2 y0 y1 (IntKind.i64.wrap (y2 + 1))
          else none
        else none
      else none
    else none
  else some (sl11Less.x2 y0 y1)
else some (sl11Less.x2 y0 y1) := by
  refine (lpL_eq (Y := Y) (c := lim' Y) (fn := 41) (rid := 2) (b := bodyAt 2 sl11Less.c) (by kernel_rfl) _).trans ?_
  delta sl11Less.L2 sl11Less.q2 sl11Less.x2 XX
  generalize lpL (Y.ctx (lim' Y)) 41 = lp
  generalize lim' Y = call
  kernel_rfl
theorem sl11Less.a2q2 (y0 : List (List D)) (y1 : List (List D)) (y2 : Bool) :
    sl11Less.A2 (sl11Less.q2 y0 y1 y2) =
    some { cells := [TC.v (Value.bool y2)], objs := [] } := by
  delta sl11Less.A2 sl11Less.q2 XX
  generalize lpL (Y.ctx (lim' Y)) 41 = lp
  generalize lim' Y = call
  kernel_rfl
theorem sl11Less.a2x2 (y0 : List (List D)) (y1 : List (List D)) :
    sl11Less.A2 (sl11Less.x2 y0 y1) =
    some { cells := [TC.v (Value.bool (decide ((↑y0.length : Int) < (↑y1.length : Int))))], objs := [] } := by
  delta sl11Less.A2 sl11Less.x2 XX
  generalize lpL (Y.ctx (lim' Y)) 41 = lp
  generalize lim' Y = call
  kernel_rfl


theorem wtoNodeOf.e (a0 : Int) (a1 : List (List D)) :
    wtoNodeOf [AV.g [A1.v (Value.int IntKind.i64 a0), A1.s a1]] [] =
    (wtoStringS [AV.one (A1.s a1)] []).bind fun val =>
  bif fitsCells [R1.own Own.deep] val.1 && true then some { cells := [TC.v (Value.int IntKind.i64 a0), TC.o Own.deep (val.1.getD 0 TC.d).es], objs := [] } else none := by
  refine (wtoNodeOf.run _ _ (by kernel_rfl)).trans ?_
  delta wtoNodeOf wtoStringS XX
  generalize lpL (Y.ctx (lim' Y)) 42 = lp
  generalize lim' Y = call
  kernel_rfl


noncomputable def slices_Compare_Sstring_string.L2 (y0 : List (List D)) (y1 : List (List D)) (y2 : List (List D)) (y3 : Int) (y4 : Int) : Option (Ex × St) := lpL XX 43 (bodyAt 2 slices_Compare_Sstring_string.c)
  (mkG 0 36 [(0, AV.one (A1.s y0)), (1, AV.one (A1.s y1)), (9, AV.one (A1.s y2)), (10, AV.one (A1.v (Value.int IntKind.i64 y3))), (11, AV.one (A1.v (Value.int IntKind.i64 y4)))] [] GL)
noncomputable def slices_Compare_Sstring_string.A2 : Ex × St → Option Res := fun r => evA XX 43 (lpL XX 43) 2 slices_Compare_Sstring_string.c r.fst r.snd (outE XX 43 Tryd.f43)
noncomputable def slices_Compare_Sstring_string.q2 (y0 : List (List D)) (y1 : List (List D)) (y2 : Int) : Ex × St := (Ex.ret, mkG 0 36 [(0, AV.one (A1.s y0)), (1, AV.one (A1.s y1)), (4, AV.one (A1.v (Value.int IntKind.i64 y2)))] [] GL)
noncomputable def slices_Compare_Sstring_string.x2 (y0 : List (List D)) (y1 : List (List D)) : Ex × St := (Ex.exit 0, mkG 0 36 [(0, AV.one (A1.s y0)), (1, AV.one (A1.s y1))] [] GL)
theorem slices_Compare_Sstring_string.e (a0 : List (List D)) (a1 : List (List D)) :
    slices_Compare_Sstring_string [AV.one (A1.s a0), AV.one (A1.s a1)] [] =
    (slices_Compare_Sstring_string.L2 a0 a1 a0 (↑a0.length : Int) 0).bind slices_Compare_Sstring_string.A2 := by
  refine (slices_Compare_Sstring_string.run _ _ (by kernel_rfl)).trans ?_
  delta slices_Compare_Sstring_string slices_Compare_Sstring_string.L2 slices_Compare_Sstring_string.A2 XX
  generalize lpL (Y.ctx (lim' Y)) 43 = lp
  generalize lim' Y = call
  kernel_rfl
theorem slices_Compare_Sstring_string.s2 (y0 : List (List D)) (y1 : List (List D)) (y2 : List (List D)) (y3 : Int) (y4 : Int) :
    slices_Compare_Sstring_string.L2 y0 y1 y2 y3 y4 =
    bif decide (y4 < y3) then
  bif decide (0 ≤ y4) && decide (y4 < (↑y2.length : Int)) && decide ((y2.getD y4.toNat []).length = 1) then
    bif fitsRow [CK.str] (y2.getD y4.toNat []) 0 && decide (1 ≤ (y2.getD y4.toNat []).length) then
      bif decide (y4 ≥ (↑y1.length : Int)) then some (slices_Compare_Sstring_string.q2 y0 y1 1)
      else
        bif decide (0 ≤ y4) && decide (y4 < (↑y1.length : Int)) && decide ((y1.getD y4.toNat []).length = 1) then
          bif fitsRow [CK.str] (y1.getD y4.toNat []) 0 && decide (1 ≤ (y1.getD y4.toNat []).length) then
            (cmp_Compare_string [AV.one (A1.v (Value.string ((y2.getD y4.toNat []).getD 0 D.h).str)), AV.one (A1.v (Value.string ((y1.getD y4.toNat []).getD 0 D.h).str))] []).bind fun val =>
              bif fitsCells [R1.int IntKind.i64] val.1 && true then
                bif (val.1.getD 0 TC.d).int != 0 then some (slices_Compare_Sstring_string.q2 y0 y1 (val.1.getD 0 TC.d).int)
                else slices_Compare_Sstring_string.L2 y0 y1 y2 y3 (IntKind.i64.wrap (y4 + 1))
              else none
          else none
        else none
    else none
  else none
else some (slices_Compare_Sstring_string.x2 y0 y1) := by
  refine (lpL_eq (Y := Y) (c := lim' Y) (fn := 43) (rid := 2) (b := bodyAt 2 slices_Compare_Sstring_string.c) (by kernel_rfl) _).trans ?_
  delta slices_Compare_Sstring_string.L2 slices_Compare_Sstring_string.q2 cmp_Compare_string slices_Compare_Sstring_string.x2 XX
  generalize lpL (Y.ctx (lim' Y)) 43 = lp
  generalize lim' Y = call
  kernel_rfl
theorem slices_Compare_Sstring_string.a2q2 (y0 : List (List D)) (y1 : List (List D)) (y2 : Int) :
    slices_Compare_Sstring_string.A2 (slices_Compare_Sstring_string.q2 y0 y1 y2) =
    some { cells := [TC.v (Value.int IntKind.i64 y2)], objs := [] } := by
  delta slices_Compare_Sstring_string.A2 slices_Compare_Sstring_string.q2 XX
  generalize lpL (Y.ctx (lim' Y)) 43 = lp
  generalize lim' Y = call
  kernel_rfl
theorem slices_Compare_Sstring_string.a2x2 (y0 : List (List D)) (y1 : List (List D)) :
    slices_Compare_Sstring_string.A2 (slices_Compare_Sstring_string.x2 y0 y1) =
    bif decide ((↑y0.length : Int) < (↑y1.length : Int)) then some { cells := [TC.v (Value.int IntKind.i64 (-1))], objs := [] } else some { cells := [TC.v (Value.int IntKind.i64 0)], objs := [] } := by
  delta slices_Compare_Sstring_string.A2 slices_Compare_Sstring_string.x2 XX
  generalize lpL (Y.ctx (lim' Y)) 43 = lp
  generalize lim' Y = call
  kernel_rfl


theorem weqNodeOf.e (a0 : Int) (a1 : List (List D)) (a2 : Int) (a3 : List (List D)) :
    weqNodeOf [AV.g [A1.v (Value.int IntKind.i64 a0), A1.s a1], AV.g [A1.v (Value.int IntKind.i64 a2), A1.s a3]] [] =
    bif a0 != a2 then some { cells := [TC.v (Value.bool false)], objs := [] }
else
  (weqStringS [AV.one (A1.s a1), AV.one (A1.s a3)] []).bind fun val =>
    bif fitsCells [R1.bool] val.1 && true then bif !(val.1.getD 0 TC.d).bool then some { cells := [TC.v (Value.bool false)], objs := [] } else some { cells := [TC.v (Value.bool true)], objs := [] }
    else none := by
  refine (weqNodeOf.run _ _ (by kernel_rfl)).trans ?_
  delta weqNodeOf weqStringS XX
  generalize lpL (Y.ctx (lim' Y)) 44 = lp
  generalize lim' Y = call
  kernel_rfl


noncomputable def sl1NameOk.L2 (y0 : ByteArray) (y1 : Int) : Option (Ex × St) := lpL XX 45 (bodyAt 2 sl1NameOk.c) (mkG 0 36 [(0, AV.one (A1.v (Value.string y0))), (3, AV.one (A1.v (Value.int IntKind.i64 y1)))] [] GL)
noncomputable def sl1NameOk.A2 : Ex × St → Option Res := fun r => evA XX 45 (lpL XX 45) 2 sl1NameOk.c r.fst r.snd (outE XX 45 Tryd.f45)
noncomputable def sl1NameOk.q2 (y0 : ByteArray) (y1 : Bool) : Ex × St := (Ex.ret, mkG 0 36 [(0, AV.one (A1.v (Value.string y0))), (2, AV.one (A1.v (Value.bool y1)))] [] GL)
noncomputable def sl1NameOk.x2 (y0 : ByteArray) : Ex × St := (Ex.exit 0, mkG 0 36 [(0, AV.one (A1.v (Value.string y0)))] [] GL)
theorem sl1NameOk.e (a0 : ByteArray) :
    sl1NameOk [AV.one (A1.v (Value.string a0))] [] =
    (sl1NameOk.L2 a0 0).bind sl1NameOk.A2 := by
  refine (sl1NameOk.run _ _ (by kernel_rfl)).trans ?_
  delta sl1NameOk sl1NameOk.L2 sl1NameOk.A2 XX
  generalize lpL (Y.ctx (lim' Y)) 45 = lp
  generalize lim' Y = call
  kernel_rfl
theorem sl1NameOk.s2 (y0 : ByteArray) (y1 : Int) :
    sl1NameOk.L2 y0 y1 =
    bif decide (y1 < (↑y0.size : Int)) then
  bif decide (0 ≤ y1) && decide (y1 < (↑y0.size : Int)) then
    bif decide (byteAt y0 y1.toNat ≥ 97) then
      bif decide (0 ≤ y1) && decide (y1 < (↑y0.size : Int)) then
        bif decide (byteAt y0 y1.toNat ≤ 122) then sl1NameOk.L2 y0 (IntKind.i64.wrap (y1 + 1))
        else
          bif decide (0 ≤ y1) && decide (y1 < (↑y0.size : Int)) then
            bif decide (byteAt y0 y1.toNat ≥ 48) then
              bif decide (0 ≤ y1) && decide (y1 < (↑y0.size : Int)) then bif !decide (byteAt y0 y1.toNat ≤ 57) then some (sl1NameOk.q2 y0 false) else sl1NameOk.L2 y0 (IntKind.i64.wrap (y1 + 1))
              else none
            else some (sl1NameOk.q2 y0 false)
          else none
      else none
    else
      bif decide (0 ≤ y1) && decide (y1 < (↑y0.size : Int)) then
        bif decide (byteAt y0 y1.toNat ≥ 48) then
          bif decide (0 ≤ y1) && decide (y1 < (↑y0.size : Int)) then bif !decide (byteAt y0 y1.toNat ≤ 57) then some (sl1NameOk.q2 y0 false) else sl1NameOk.L2 y0 (IntKind.i64.wrap (y1 + 1)) else none
        else some (sl1NameOk.q2 y0 false)
      else none
  else none
else some (sl1NameOk.x2 y0) := by
  refine (lpL_eq (Y := Y) (c := lim' Y) (fn := 45) (rid := 2) (b := bodyAt 2 sl1NameOk.c) (by kernel_rfl) _).trans ?_
  delta sl1NameOk.L2 sl1NameOk.q2 sl1NameOk.x2 XX
  generalize lpL (Y.ctx (lim' Y)) 45 = lp
  generalize lim' Y = call
  kernel_rfl
theorem sl1NameOk.a2q2 (y0 : ByteArray) (y1 : Bool) :
    sl1NameOk.A2 (sl1NameOk.q2 y0 y1) =
    some { cells := [TC.v (Value.bool y1)], objs := [] } := by
  delta sl1NameOk.A2 sl1NameOk.q2 XX
  generalize lpL (Y.ctx (lim' Y)) 45 = lp
  generalize lim' Y = call
  kernel_rfl
theorem sl1NameOk.a2x2 (y0 : ByteArray) :
    sl1NameOk.A2 (sl1NameOk.x2 y0) =
    (sl1In [AV.one (A1.v (Value.int IntKind.i64 (↑y0.size : Int))), AV.one (A1.v (Value.int IntKind.i64 1)), AV.one (A1.v (Value.int IntKind.i64 5))] []).bind fun val =>
  bif fitsCells [R1.bool] val.1 && true then some { cells := [TC.v (Value.bool (val.1.getD 0 TC.d).bool)], objs := [] } else none := by
  delta sl1NameOk.A2 sl1NameOk.x2 sl1In XX
  generalize lpL (Y.ctx (lim' Y)) 45 = lp
  generalize lim' Y = call
  kernel_rfl


noncomputable def inameOk.L2 (y0 : ByteArray) (y1 : Int) (y2 : Int) : Option (Ex × St) := lpL XX 46 (bodyAt 2 inameOk.c) (mkG 0 35 [(0, AV.one (A1.v (Value.string y0))), (5, AV.one (A1.v (Value.int IntKind.i64 y1))), (6, AV.one (A1.v (Value.int IntKind.i64 y2)))] [] GL)
noncomputable def inameOk.A2 : Ex × St → Option Res := fun r => evA XX 46 (lpL XX 46) 2 inameOk.c r.fst r.snd (outE XX 46 Tryd.f46)
noncomputable def inameOk.q2 (y0 : ByteArray) (y1 : Bool) : Ex × St := (Ex.ret, mkG 0 35 [(0, AV.one (A1.v (Value.string y0))), (2, AV.one (A1.v (Value.bool y1)))] [] GL)
noncomputable def inameOk.x2 (y0 : ByteArray) : Ex × St := (Ex.exit 0, mkG 0 35 [(0, AV.one (A1.v (Value.string y0)))] [] GL)
theorem inameOk.e (a0 : ByteArray) :
    inameOk [AV.one (A1.v (Value.string a0))] [] =
    (inameOk.L2 a0 (↑a0.size : Int) 0).bind inameOk.A2 := by
  refine (inameOk.run _ _ (by kernel_rfl)).trans ?_
  delta inameOk inameOk.L2 inameOk.A2 XX
  generalize lpL (Y.ctx (lim' Y)) 46 = lp
  generalize lim' Y = call
  kernel_rfl
theorem inameOk.s2 (y0 : ByteArray) (y1 : Int) (y2 : Int) :
    inameOk.L2 y0 y1 y2 =
    bif decide (y2 < y1) then
  bif decide (0 ≤ y2) && decide (y2 < (↑y0.size : Int)) then
    bif decide (byteAt y0 y2.toNat < 97) then
      bif decide (0 ≤ y2) && decide (y2 < (↑y0.size : Int)) then
        bif decide (byteAt y0 y2.toNat < 48) then some (inameOk.q2 y0 false)
        else bif decide (0 ≤ y2) && decide (y2 < (↑y0.size : Int)) then bif decide (byteAt y0 y2.toNat > 57) then some (inameOk.q2 y0 false) else inameOk.L2 y0 y1 (IntKind.i64.wrap (y2 + 1)) else none
      else none
    else
      bif decide (0 ≤ y2) && decide (y2 < (↑y0.size : Int)) then
        bif decide (byteAt y0 y2.toNat > 122) then
          bif decide (0 ≤ y2) && decide (y2 < (↑y0.size : Int)) then
            bif decide (byteAt y0 y2.toNat < 48) then some (inameOk.q2 y0 false)
            else
              bif decide (0 ≤ y2) && decide (y2 < (↑y0.size : Int)) then bif decide (byteAt y0 y2.toNat > 57) then some (inameOk.q2 y0 false) else inameOk.L2 y0 y1 (IntKind.i64.wrap (y2 + 1))
              else none
          else none
        else inameOk.L2 y0 y1 (IntKind.i64.wrap (y2 + 1))
      else none
  else none
else some (inameOk.x2 y0) := by
  refine (lpL_eq (Y := Y) (c := lim' Y) (fn := 46) (rid := 2) (b := bodyAt 2 inameOk.c) (by kernel_rfl) _).trans ?_
  delta inameOk.L2 inameOk.q2 inameOk.x2 XX
  generalize lpL (Y.ctx (lim' Y)) 46 = lp
  generalize lim' Y = call
  kernel_rfl
theorem inameOk.a2q2 (y0 : ByteArray) (y1 : Bool) :
    inameOk.A2 (inameOk.q2 y0 y1) =
    some { cells := [TC.v (Value.bool y1)], objs := [] } := by
  delta inameOk.A2 inameOk.q2 XX
  generalize lpL (Y.ctx (lim' Y)) 46 = lp
  generalize lim' Y = call
  kernel_rfl
theorem inameOk.a2x2 (y0 : ByteArray) :
    inameOk.A2 (inameOk.x2 y0) =
    (iwithin [AV.one (A1.v (Value.int IntKind.i64 (↑y0.size : Int))), AV.one (A1.v (Value.int IntKind.i64 1)), AV.one (A1.v (Value.int IntKind.i64 5))] []).bind fun val =>
  bif fitsCells [R1.bool] val.1 && true then some { cells := [TC.v (Value.bool (val.1.getD 0 TC.d).bool)], objs := [] } else none := by
  delta inameOk.A2 inameOk.x2 iwithin XX
  generalize lpL (Y.ctx (lim' Y)) 46 = lp
  generalize lim' Y = call
  kernel_rfl


theorem cmp_Compare_string.e (a0 : ByteArray) (a1 : ByteArray) :
    cmp_Compare_string [AV.one (A1.v (Value.string a0)), AV.one (A1.v (Value.string a1))] [] =
    (cmp_isNaN_string [AV.one (A1.v (Value.string a0))] []).bind fun val =>
  bif fitsCells [R1.bool] val.1 && true then
    (cmp_isNaN_string [AV.one (A1.v (Value.string a1))] []).bind fun val_1 =>
      bif fitsCells [R1.bool] val_1.1 && true then
        bif (val.1.getD 0 TC.d).bool then
          bif (val_1.1.getD 0 TC.d).bool then some { cells := [TC.v (Value.int IntKind.i64 0)], objs := [] } else some { cells := [TC.v (Value.int IntKind.i64 (-1))], objs := [] }
        else
          bif (val_1.1.getD 0 TC.d).bool then some { cells := [TC.v (Value.int IntKind.i64 1)], objs := [] }
          else
            bif Op.bytesLess a0.toList a1.toList then some { cells := [TC.v (Value.int IntKind.i64 (-1))], objs := [] }
            else
              bif !(Op.bytesLess a0.toList a1.toList || a0.toList == a1.toList) then some { cells := [TC.v (Value.int IntKind.i64 1)], objs := [] }
              else some { cells := [TC.v (Value.int IntKind.i64 0)], objs := [] }
      else none
  else none := by
  refine (cmp_Compare_string.run _ _ (by kernel_rfl)).trans ?_
  delta cmp_Compare_string cmp_isNaN_string XX
  generalize lpL (Y.ctx (lim' Y)) 51 = lp
  generalize lim' Y = call
  kernel_rfl


theorem cmp_isNaN_string.e (a0 : ByteArray) :
    cmp_isNaN_string [AV.one (A1.v (Value.string a0))] [] =
    some { cells := [TC.v (Value.bool !a0.toList == a0.toList)], objs := [] } := by
  refine (cmp_isNaN_string.run _ _ (by kernel_rfl)).trans ?_
  delta cmp_isNaN_string XX
  generalize lpL (Y.ctx (lim' Y)) 58 = lp
  generalize lim' Y = call
  kernel_rfl


end Go.PVx
