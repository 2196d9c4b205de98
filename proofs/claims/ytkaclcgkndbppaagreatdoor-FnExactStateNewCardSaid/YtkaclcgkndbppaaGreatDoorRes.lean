/- A part of the proof: PvSnRes. -/
import Derived.Test.YtkaclcgkndbppaaGreatDoorTab
import Derived.KernelRfl
set_option linter.unusedSimpArgs false
set_option linter.unusedVariables false
namespace Go.PVx
open Go.PV Go.Proofs
set_option maxRecDepth 100000
set_option linter.unusedVariables false
abbrev LLD := List (List D)
abbrev BAy := ByteArray
noncomputable def zab.P7 (y0 y1:Bool) (y2:Int) (y3:BAy) (y4 y5:LLD) (y6:Bool) (y7:Int) (y8:BAy) (y9 y10 y11 y12 y13 y14:LLD) (y15:Int) (y16 y17:LLD) (y18:Bool) (y19:Int) (y20:BAy) (y21 y22:LLD) : Option Res := evB XX 7 (lpL XX 7) 7 zab.c (mkG 0 96 [(1, .one (.p true 1 [] 0)), (4, .one (.p true 4 [] 0)), (5, .one (.v (.bool y0))), (6, .one (.p true 6 [] 0))] [(1, some ⟨.box, [.v (.bool y1), .v (.int .i64 y2), .v (.string y3), .s y4, .s y5], [.deep, .deep, .deep, .sh, .sh]⟩), (4, some ⟨.box, [.v (.bool y6), .v (.int .i64 y7), .v (.string y8), .s y9, .s y10, .s y11, .s y12, .s y13, .s y14, .v (.int .i64 y15), .s y16, .s y17], [.deep, .deep, .deep, .deep, .deep, .deep, .deep, .deep, .deep, .deep, .sh, .deep]⟩), (6, some ⟨.box, [.v (.bool y18), .v (.int .i64 y19), .v (.string y20), .s y21, .s y22], [.deep, .deep, .deep, .deep, .deep]⟩)] GL) (outE XX 7 Tryz.f7)
noncomputable def zab.P9 (y0 y1 y2 y3:Bool) (y4:Int) (y5:BAy) (y6 y7:LLD) (y8:Bool) (y9:Int) (y10:BAy) (y11 y12 y13 y14 y15 y16:LLD) (y17:Int) (y18 y19:LLD) (y20:Bool) (y21:Int) (y22:BAy) (y23 y24:LLD) (y25:Bool) (y26:Int) (y27:BAy) (y28 y29 y30 y31 y32 y33:LLD) (y34:Int) (y35 y36:LLD) : Option Res := evB XX 7 (lpL XX 7) 9 zab.c (mkG 0 96 [(1, .one (.p true 1 [] 0)), (4, .one (.p true 4 [] 0)), (5, .one (.v (.bool y0))), (6, .one (.p true 6 [] 0)), (7, .one (.p true 7 [] 0)), (8, .one (.v (.bool y1))), (40, .one (.v (.bool y2)))] [(1, some ⟨.box, [.v (.bool y3), .v (.int .i64 y4), .v (.string y5), .s y6, .s y7], [.deep, .deep, .deep, .sh, .sh]⟩), (4, some ⟨.box, [.v (.bool y8), .v (.int .i64 y9), .v (.string y10), .s y11, .s y12, .s y13, .s y14, .s y15, .s y16, .v (.int .i64 y17), .s y18, .s y19], [.deep, .deep, .deep, .deep, .deep, .deep, .deep, .deep, .deep, .deep, .sh, .deep]⟩), (6, some ⟨.box, [.v (.bool y20), .v (.int .i64 y21), .v (.string y22), .s y23, .s y24], [.deep, .deep, .deep, .deep, .deep]⟩), (7, some ⟨.box, [.v (.bool y25), .v (.int .i64 y26), .v (.string y27), .s y28, .s y29, .s y30, .s y31, .s y32, .s y33, .v (.int .i64 y34), .s y35, .s y36], [.deep, .deep, .deep, .deep, .deep, .deep, .deep, .deep, .deep, .deep, .deep, .deep]⟩)] GL) (outE XX 7 Tryz.f7)
noncomputable def zab.P10 (y0 y1 y2:Bool) (y3:Int) (y4:BAy) (y5 y6:LLD) (y7:Bool) (y8:Int) (y9:BAy) (y10 y11 y12 y13 y14 y15:LLD) (y16:Int) (y17 y18:LLD) (y19:Bool) (y20:Int) (y21:BAy) (y22 y23:LLD) (y24:Bool) (y25:Int) (y26:BAy) (y27 y28 y29 y30 y31 y32:LLD) (y33:Int) (y34 y35:LLD) : Option Res := evB XX 7 (lpL XX 7) 10 zab.c (mkG 0 96 [(1, .one (.p true 1 [] 0)), (4, .one (.p true 4 [] 0)), (5, .one (.v (.bool y0))), (6, .one (.p true 6 [] 0)), (7, .one (.p true 7 [] 0)), (8, .one (.v (.bool y1)))] [(1, some ⟨.box, [.v (.bool y2), .v (.int .i64 y3), .v (.string y4), .s y5, .s y6], [.deep, .deep, .deep, .sh, .sh]⟩), (4, some ⟨.box, [.v (.bool y7), .v (.int .i64 y8), .v (.string y9), .s y10, .s y11, .s y12, .s y13, .s y14, .s y15, .v (.int .i64 y16), .s y17, .s y18], [.deep, .deep, .deep, .deep, .deep, .deep, .deep, .deep, .deep, .deep, .sh, .deep]⟩), (6, some ⟨.box, [.v (.bool y19), .v (.int .i64 y20), .v (.string y21), .s y22, .s y23], [.deep, .deep, .deep, .deep, .deep]⟩), (7, some ⟨.box, [.v (.bool y24), .v (.int .i64 y25), .v (.string y26), .s y27, .s y28, .s y29, .s y30, .s y31, .s y32, .v (.int .i64 y33), .s y34, .s y35], [.deep, .deep, .deep, .deep, .deep, .deep, .deep, .deep, .deep, .deep, .deep, .deep]⟩)] GL) (outE XX 7 Tryz.f7)
noncomputable def zab.P15 (y0 y1 y2:Bool) (y3:Int) (y4:BAy) (y5 y6:LLD) (y7:Bool) (y8:Int) (y9:BAy) (y10 y11 y12 y13 y14 y15:LLD) (y16:Int) (y17 y18:LLD) (y19:Bool) (y20:Int) (y21:BAy) (y22 y23 y24 y25 y26 y27:LLD) (y28:Int) (y29 y30:LLD) : Option Res := evB XX 7 (lpL XX 7) 15 zab.c (mkG 0 96 [(1, .one (.p true 1 [] 0)), (4, .one (.p true 4 [] 0)), (5, .one (.v (.bool y0))), (7, .one (.p true 7 [] 0)), (61, .one (.v (.bool y1)))] [(1, some ⟨.box, [.v (.bool y2), .v (.int .i64 y3), .v (.string y4), .s y5, .s y6], [.deep, .deep, .deep, .sh, .sh]⟩), (4, some ⟨.box, [.v (.bool y7), .v (.int .i64 y8), .v (.string y9), .s y10, .s y11, .s y12, .s y13, .s y14, .s y15, .v (.int .i64 y16), .s y17, .s y18], [.deep, .deep, .deep, .deep, .deep, .deep, .deep, .deep, .deep, .deep, .sh, .deep]⟩), (7, some ⟨.box, [.v (.bool y19), .v (.int .i64 y20), .v (.string y21), .s y22, .s y23, .s y24, .s y25, .s y26, .s y27, .v (.int .i64 y28), .s y29, .s y30], [.deep, .deep, .deep, .deep, .deep, .deep, .deep, .deep, .deep, .deep, .deep, .deep]⟩)] GL) (outE XX 7 Tryz.f7)
noncomputable def zab.P16 (y0 y1:Bool) (y2:Int) (y3:BAy) (y4 y5:LLD) (y6:Bool) (y7:Int) (y8:BAy) (y9 y10 y11 y12 y13 y14:LLD) (y15:Int) (y16 y17:LLD) (y18:Bool) (y19:Int) (y20:BAy) (y21 y22 y23 y24 y25 y26:LLD) (y27:Int) (y28 y29:LLD) : Option Res := evB XX 7 (lpL XX 7) 16 zab.c (mkG 0 96 [(1, .one (.p true 1 [] 0)), (4, .one (.p true 4 [] 0)), (5, .one (.v (.bool y0))), (7, .one (.p true 7 [] 0))] [(1, some ⟨.box, [.v (.bool y1), .v (.int .i64 y2), .v (.string y3), .s y4, .s y5], [.deep, .deep, .deep, .sh, .sh]⟩), (4, some ⟨.box, [.v (.bool y6), .v (.int .i64 y7), .v (.string y8), .s y9, .s y10, .s y11, .s y12, .s y13, .s y14, .v (.int .i64 y15), .s y16, .s y17], [.deep, .deep, .deep, .deep, .deep, .deep, .deep, .deep, .deep, .deep, .sh, .deep]⟩), (7, some ⟨.box, [.v (.bool y18), .v (.int .i64 y19), .v (.string y20), .s y21, .s y22, .s y23, .s y24, .s y25, .s y26, .v (.int .i64 y27), .s y28, .s y29], [.deep, .deep, .deep, .deep, .deep, .deep, .deep, .deep, .deep, .deep, .deep, .deep]⟩)] GL) (outE XX 7 Tryz.f7)
noncomputable def zab.P25 (y0:Bool) (y1:Int) (y2 y3:Bool) (y4:Int) (y5:BAy) (y6 y7 y8 y9 y10 y11:LLD) (y12:Int) (y13 y14:LLD) (y15:Bool) (y16:Int) (y17:BAy) (y18 y19 y20 y21 y22 y23:LLD) (y24:Int) (y25 y26:LLD) (y27:Bool) (y28:Int) (y29:BAy) (y30 y31 y32 y33 y34 y35:LLD) (y36:Int) (y37 y38:LLD) : Option Res := evB XX 7 (lpL XX 7) 25 zab.c (mkG 0 96 [(4, .one (.p true 4 [] 0)), (5, .one (.v (.bool y0))), (7, .one (.p true 7 [] 0)), (10, .one (.v (.int .i64 y1))), (12, .one (.p true 12 [] 0)), (13, .one (.v (.bool y2)))] [(4, some ⟨.box, [.v (.bool y3), .v (.int .i64 y4), .v (.string y5), .s y6, .s y7, .s y8, .s y9, .s y10, .s y11, .v (.int .i64 y12), .s y13, .s y14], [.deep, .deep, .deep, .deep, .deep, .deep, .deep, .deep, .deep, .deep, .sh, .deep]⟩), (7, some ⟨.box, [.v (.bool y15), .v (.int .i64 y16), .v (.string y17), .s y18, .s y19, .s y20, .s y21, .s y22, .s y23, .v (.int .i64 y24), .s y25, .s y26], [.deep, .deep, .deep, .deep, .deep, .deep, .deep, .deep, .deep, .deep, .deep, .deep]⟩), (12, some ⟨.box, [.v (.bool y27), .v (.int .i64 y28), .v (.string y29), .s y30, .s y31, .s y32, .s y33, .s y34, .s y35, .v (.int .i64 y36), .s y37, .s y38], [.deep, .deep, .deep, .deep, .deep, .deep, .deep, .deep, .deep, .deep, .deep, .deep]⟩)] GL) (outE XX 7 Tryz.f7)
noncomputable def zab.P26 (y0:Int) (y1 y2:Bool) (y3:Int) (y4:BAy) (y5 y6 y7 y8 y9 y10:LLD) (y11:Int) (y12 y13:LLD) : Option Res := evB XX 7 (lpL XX 7) 26 zab.c (mkG 0 96 [(7, .one (.p true 7 [] 0)), (10, .one (.v (.int .i64 y0))), (87, .one (.v (.bool y1)))] [(7, some ⟨.box, [.v (.bool y2), .v (.int .i64 y3), .v (.string y4), .s y5, .s y6, .s y7, .s y8, .s y9, .s y10, .v (.int .i64 y11), .s y12, .s y13], [.deep, .deep, .deep, .deep, .deep, .deep, .deep, .deep, .deep, .deep, .deep, .deep]⟩)] GL) (outE XX 7 Tryz.f7)
noncomputable def zab.P27 (y0:Int) (y1:Bool) (y2:Int) (y3:BAy) (y4 y5 y6 y7 y8 y9:LLD) (y10:Int) (y11 y12:LLD) : Option Res := evB XX 7 (lpL XX 7) 27 zab.c (mkG 0 96 [(7, .one (.p true 7 [] 0)), (10, .one (.v (.int .i64 y0)))] [(7, some ⟨.box, [.v (.bool y1), .v (.int .i64 y2), .v (.string y3), .s y4, .s y5, .s y6, .s y7, .s y8, .s y9, .v (.int .i64 y10), .s y11, .s y12], [.deep, .deep, .deep, .deep, .deep, .deep, .deep, .deep, .deep, .deep, .deep, .deep]⟩)] GL) (outE XX 7 Tryz.f7)
theorem zab.e (a0:Bool) (a1:Int) (a2:BAy) (a3 a4:LLD) : zab [.g [.v (.bool a0), .v (.int .i64 a1), .v (.string a2), .s a3, .s a4]] [] = (zbA [.g [.v (.bool a0), .v (.int .i64 a1), .v (.string a2), .s a3, .s a4], .one (.v (.int .i64 1048576))] []).bind fun val => bif zaa [.int .i64] val.1 && true then bif decide ((val.1.getD 0 .d).int < 0) then some ⟨[.v (.bool true)], []⟩ else (zbZ [.g [.v (.bool a0), .v (.int .i64 a1), .v (.string a2), .s a3, .s a4]] []).bind fun val => bif zaa [.bool, .int .i64, .str, .own .deep, .own .deep] val.1 && true then (zb4 [.g [.v (.bool (val.1.getD 0 .d).bool), .v (.int .i64 (val.1.getD 1 .d).int), .v (.string (val.1.getD 2 .d).str), .s (val.1.getD 3 .d).es, .s (val.1.getD 4 .d).es]] []).bind fun val => bif zaa [.bool, .int .i64, .str, .own .deep, .own .deep, .own .deep, .own .deep, .own .deep, .own .deep, .int .i64, .sh, .own .deep, .bool] val.1 && true then (zbZ [.g [.v (.bool a0), .v (.int .i64 a1), .v (.string a2), .s a3, .s a4]] []).bind fun val_1 => bif zaa [.bool, .int .i64, .str, .own .deep, .own .deep] val_1.1 && true then zab.P7 (val.1.getD 12 .d).bool a0 a1 a2 a3 a4 (val.1.getD 0 .d).bool (val.1.getD 1 .d).int (val.1.getD 2 .d).str (val.1.getD 3 .d).es (val.1.getD 4 .d).es (val.1.getD 5 .d).es (val.1.getD 6 .d).es (val.1.getD 7 .d).es (val.1.getD 8 .d).es (val.1.getD 9 .d).int (val.1.getD 10 .d).es (val.1.getD 11 .d).es (val_1.1.getD 0 .d).bool (val_1.1.getD 1 .d).int (val_1.1.getD 2 .d).str (val_1.1.getD 3 .d).es (val_1.1.getD 4 .d).es else none else none else none else none := by
 refine (zab.run _ _ (by kernel_rfl)).trans ?_
 delta zab zbA zbZ zb4 zab.P7 XX
 refine zbw [7, 9, 10, 15, 16, 25, 26, 27] (by kernel_rfl) fun J e1 => ?_
 try simp only [← e1]
 clear e1
 generalize lpL (Y.ctx (lim' Y)) 7 = lp
 generalize lim' Y = call
 kernel_rfl
theorem zab.p7 (y0 y1:Bool) (y2:Int) (y3:BAy) (y4 y5:LLD) (y6:Bool) (y7:Int) (y8:BAy) (y9 y10 y11 y12 y13 y14:LLD) (y15:Int) (y16 y17:LLD) (y18:Bool) (y19:Int) (y20:BAy) (y21 y22:LLD) : zab.P7 y0 y1 y2 y3 y4 y5 y6 y7 y8 y9 y10 y11 y12 y13 y14 y15 y16 y17 y18 y19 y20 y21 y22 = (zbN [.g [.v (.bool y18), .v (.int .i64 y19), .v (.string y20), .s y21, .s y22]] []).bind fun val => bif zaa [.bool, .int .i64, .str, .own .deep, .own .deep, .own .deep, .own .deep, .own .deep, .own .deep, .int .i64, .own .deep, .own .deep, .bool] val.1 && true then (zbl [.g [.v (.bool (val.1.getD 0 .d).bool), .v (.int .i64 (val.1.getD 1 .d).int), .v (.string (val.1.getD 2 .d).str), .s (val.1.getD 3 .d).es, .s (val.1.getD 4 .d).es, .s (val.1.getD 5 .d).es, .s (val.1.getD 6 .d).es, .s (val.1.getD 7 .d).es, .s (val.1.getD 8 .d).es, .v (.int .i64 (val.1.getD 9 .d).int), .s (val.1.getD 10 .d).es, .s (val.1.getD 11 .d).es], .g [.v (.bool y6), .v (.int .i64 y7), .v (.string y8), .s y9, .s y10, .s y11, .s y12, .s y13, .s y14, .v (.int .i64 y15), .s y16, .s y17]] []).bind fun val_1 => bif zaa [.bool] val_1.1 && true then bif !(val_1.1.getD 0 .d).bool then zab.P9 y0 (val.1.getD 12 .d).bool true y1 y2 y3 y4 y5 y6 y7 y8 y9 y10 y11 y12 y13 y14 y15 y16 y17 y18 y19 y20 y21 y22 (val.1.getD 0 .d).bool (val.1.getD 1 .d).int (val.1.getD 2 .d).str (val.1.getD 3 .d).es (val.1.getD 4 .d).es (val.1.getD 5 .d).es (val.1.getD 6 .d).es (val.1.getD 7 .d).es (val.1.getD 8 .d).es (val.1.getD 9 .d).int (val.1.getD 10 .d).es (val.1.getD 11 .d).es else zab.P9 y0 (val.1.getD 12 .d).bool (!(val.1.getD 12 .d).bool == y0) y1 y2 y3 y4 y5 y6 y7 y8 y9 y10 y11 y12 y13 y14 y15 y16 y17 y18 y19 y20 y21 y22 (val.1.getD 0 .d).bool (val.1.getD 1 .d).int (val.1.getD 2 .d).str (val.1.getD 3 .d).es (val.1.getD 4 .d).es (val.1.getD 5 .d).es (val.1.getD 6 .d).es (val.1.getD 7 .d).es (val.1.getD 8 .d).es (val.1.getD 9 .d).int (val.1.getD 10 .d).es (val.1.getD 11 .d).es else none else none := by
 delta zab.P7 zbN zbl zab.P9 XX
 refine zbj [7, 9, 10, 15, 16, 25, 26, 27] 7 (by kernel_rfl) fun J e1 => ?_
 try simp only [← e1]
 clear e1
 generalize lpL (Y.ctx (lim' Y)) 7 = lp
 generalize lim' Y = call
 kernel_rfl
theorem zab.p9 (y0 y1 y2 y3:Bool) (y4:Int) (y5:BAy) (y6 y7:LLD) (y8:Bool) (y9:Int) (y10:BAy) (y11 y12 y13 y14 y15 y16:LLD) (y17:Int) (y18 y19:LLD) (y20:Bool) (y21:Int) (y22:BAy) (y23 y24:LLD) (y25:Bool) (y26:Int) (y27:BAy) (y28 y29 y30 y31 y32 y33:LLD) (y34:Int) (y35 y36:LLD) : zab.P9 y0 y1 y2 y3 y4 y5 y6 y7 y8 y9 y10 y11 y12 y13 y14 y15 y16 y17 y18 y19 y20 y21 y22 y23 y24 y25 y26 y27 y28 y29 y30 y31 y32 y33 y34 y35 y36 = bif y2 then some ⟨[.v (.bool false)], []⟩ else zab.P10 y0 y1 y3 y4 y5 y6 y7 y8 y9 y10 y11 y12 y13 y14 y15 y16 y17 y18 y19 y20 y21 y22 y23 y24 y25 y26 y27 y28 y29 y30 y31 y32 y33 y34 y35 y36 := by
 delta zab.P9 zab.P10 XX
 refine zbj [7, 9, 10, 15, 16, 25, 26, 27] 9 (by kernel_rfl) fun J e1 => ?_
 try simp only [← e1]
 clear e1
 generalize lpL (Y.ctx (lim' Y)) 7 = lp
 generalize lim' Y = call
 kernel_rfl
theorem zab.p10 (y0 y1 y2:Bool) (y3:Int) (y4:BAy) (y5 y6:LLD) (y7:Bool) (y8:Int) (y9:BAy) (y10 y11 y12 y13 y14 y15:LLD) (y16:Int) (y17 y18:LLD) (y19:Bool) (y20:Int) (y21:BAy) (y22 y23:LLD) (y24:Bool) (y25:Int) (y26:BAy) (y27 y28 y29 y30 y31 y32:LLD) (y33:Int) (y34 y35:LLD) : zab.P10 y0 y1 y2 y3 y4 y5 y6 y7 y8 y9 y10 y11 y12 y13 y14 y15 y16 y17 y18 y19 y20 y21 y22 y23 y24 y25 y26 y27 y28 y29 y30 y31 y32 y33 y34 y35 = (zbZ [.g [.v (.bool y2), .v (.int .i64 y3), .v (.string y4), .s y5, .s y6]] []).bind fun val => bif zaa [.bool, .int .i64, .str, .own .deep, .own .deep] val.1 && true then (zbz [.g [.v (.bool y19), .v (.int .i64 y20), .v (.string y21), .s y22, .s y23], .g [.v (.bool (val.1.getD 0 .d).bool), .v (.int .i64 (val.1.getD 1 .d).int), .v (.string (val.1.getD 2 .d).str), .s (val.1.getD 3 .d).es, .s (val.1.getD 4 .d).es]] []).bind fun val => bif zaa [.bool] val.1 && true then bif !(val.1.getD 0 .d).bool then some ⟨[.v (.bool false)], []⟩ else (zbM [.g [.v (.bool y19), .v (.int .i64 y20), .v (.string y21), .r 0 [] 0, .r 0 [] 1], .one (.v (.int .i64 1))] [⟨.virt, [.s y22, .s y23], [.deep, .deep]⟩]).bind fun val => bif zaa [.int .i64] val.1 && zaV [⟨⟨.virt, [.s y22, .s y23], [.deep, .deep]⟩, .grp 6 [3, 4] false⟩] val.2 then bif decide ((val.1.getD 0 .d).int < 0) then zab.P15 y0 true y2 y3 y4 y5 y6 y7 y8 y9 y10 y11 y12 y13 y14 y15 y16 y17 y18 y24 y25 y26 y27 y28 y29 y30 y31 y32 y33 y34 y35 else (zbl [.g [.v (.bool y24), .v (.int .i64 y25), .v (.string y26), .s y27, .s y28, .s y29, .s y30, .s y31, .s y32, .v (.int .i64 y33), .s y34, .s y35], .g [.v (.bool y7), .v (.int .i64 y8), .v (.string y9), .s y10, .s y11, .s y12, .s y13, .s y14, .s y15, .v (.int .i64 y16), .s y17, .s y18]] []).bind fun val => bif zaa [.bool] val.1 && true then bif !(val.1.getD 0 .d).bool then zab.P15 y0 true y2 y3 y4 y5 y6 y7 y8 y9 y10 y11 y12 y13 y14 y15 y16 y17 y18 y24 y25 y26 y27 y28 y29 y30 y31 y32 y33 y34 y35 else zab.P15 y0 (!y1 == y0) y2 y3 y4 y5 y6 y7 y8 y9 y10 y11 y12 y13 y14 y15 y16 y17 y18 y24 y25 y26 y27 y28 y29 y30 y31 y32 y33 y34 y35 else none else none else none else none := by
 delta zab.P10 zbZ zbz zbM zab.P15 zbl XX
 refine zbj [7, 9, 10, 15, 16, 25, 26, 27] 10 (by kernel_rfl) fun J e1 => ?_
 try simp only [← e1]
 clear e1
 generalize lpL (Y.ctx (lim' Y)) 7 = lp
 generalize lim' Y = call
 kernel_rfl
theorem zab.p15 (y0 y1 y2:Bool) (y3:Int) (y4:BAy) (y5 y6:LLD) (y7:Bool) (y8:Int) (y9:BAy) (y10 y11 y12 y13 y14 y15:LLD) (y16:Int) (y17 y18:LLD) (y19:Bool) (y20:Int) (y21:BAy) (y22 y23 y24 y25 y26 y27:LLD) (y28:Int) (y29 y30:LLD) : zab.P15 y0 y1 y2 y3 y4 y5 y6 y7 y8 y9 y10 y11 y12 y13 y14 y15 y16 y17 y18 y19 y20 y21 y22 y23 y24 y25 y26 y27 y28 y29 y30 = bif y1 then some ⟨[.v (.bool false)], []⟩ else zab.P16 y0 y2 y3 y4 y5 y6 y7 y8 y9 y10 y11 y12 y13 y14 y15 y16 y17 y18 y19 y20 y21 y22 y23 y24 y25 y26 y27 y28 y29 y30 := by
 delta zab.P15 zab.P16 XX
 refine zbj [7, 9, 10, 15, 16, 25, 26, 27] 15 (by kernel_rfl) fun J e1 => ?_
 try simp only [← e1]
 clear e1
 generalize lpL (Y.ctx (lim' Y)) 7 = lp
 generalize lim' Y = call
 kernel_rfl
theorem zab.p16 (y0 y1:Bool) (y2:Int) (y3:BAy) (y4 y5:LLD) (y6:Bool) (y7:Int) (y8:BAy) (y9 y10 y11 y12 y13 y14:LLD) (y15:Int) (y16 y17:LLD) (y18:Bool) (y19:Int) (y20:BAy) (y21 y22 y23 y24 y25 y26:LLD) (y27:Int) (y28 y29:LLD) : zab.P16 y0 y1 y2 y3 y4 y5 y6 y7 y8 y9 y10 y11 y12 y13 y14 y15 y16 y17 y18 y19 y20 y21 y22 y23 y24 y25 y26 y27 y28 y29 = (zbc [.g [.v (.bool y18), .v (.int .i64 y19), .v (.string y20), .r 0 [] 0, .r 0 [] 1, .r 0 [] 2, .r 0 [] 3, .r 0 [] 4, .r 0 [] 5, .v (.int .i64 y27), .r 0 [] 6, .r 0 [] 7], .one (.v (.int .i64 1))] [⟨.virt, [.s y21, .s y22, .s y23, .s y24, .s y25, .s y26, .s y28, .s y29], [.deep, .deep, .deep, .deep, .deep, .deep, .deep, .deep]⟩]).bind fun val => bif zaa [.int .i64] val.1 && zaV [⟨⟨.virt, [.s y21, .s y22, .s y23, .s y24, .s y25, .s y26, .s y28, .s y29], [.deep, .deep, .deep, .deep, .deep, .deep, .deep, .deep]⟩, .grp 7 [3, 4, 5, 6, 7, 8, 10, 11] false⟩] val.2 then (zaY [.g [.v (.bool y18), .v (.int .i64 y19), .v (.string y20), .s ((val.2.getD 0 ⟨.ro, [], []⟩).2.getD 0 .h).es, .s ((val.2.getD 0 ⟨.ro, [], []⟩).2.getD 1 .h).es, .s ((val.2.getD 0 ⟨.ro, [], []⟩).2.getD 2 .h).es, .s ((val.2.getD 0 ⟨.ro, [], []⟩).2.getD 3 .h).es, .s ((val.2.getD 0 ⟨.ro, [], []⟩).2.getD 4 .h).es, .s ((val.2.getD 0 ⟨.ro, [], []⟩).2.getD 5 .h).es, .v (.int .i64 y27), .s ((val.2.getD 0 ⟨.ro, [], []⟩).2.getD 6 .h).es, .s ((val.2.getD 0 ⟨.ro, [], []⟩).2.getD 7 .h).es], .one (.v (.int .i64 1))] []).bind fun val_1 => bif zaa [.int .i64] val_1.1 && true then bif decide ((val_1.1.getD 0 .d).int < 0) then some ⟨[.v (.bool false)], []⟩ else bif (val_1.1.getD 0 .d).int != (val.1.getD 0 .d).int then some ⟨[.v (.bool false)], []⟩ else (zbZ [.g [.v (.bool y1), .v (.int .i64 y2), .v (.string y3), .s y4, .s y5]] []).bind fun val_2 => bif zaa [.bool, .int .i64, .str, .own .deep, .own .deep] val_2.1 && true then (zbN [.g [.v (.bool (val_2.1.getD 0 .d).bool), .v (.int .i64 (val_2.1.getD 1 .d).int), .v (.string (val_2.1.getD 2 .d).str), .s (val_2.1.getD 3 .d).es, .s (val_2.1.getD 4 .d).es]] []).bind fun val_3 => bif zaa [.bool, .int .i64, .str, .own .deep, .own .deep, .own .deep, .own .deep, .own .deep, .own .deep, .int .i64, .own .deep, .own .deep, .bool] val_3.1 && true then zab.P25 y0 (val.1.getD 0 .d).int (val_3.1.getD 12 .d).bool y6 y7 y8 y9 y10 y11 y12 y13 y14 y15 y16 y17 y18 y19 y20 ((val.2.getD 0 ⟨.ro, [], []⟩).2.getD 0 .h).es ((val.2.getD 0 ⟨.ro, [], []⟩).2.getD 1 .h).es ((val.2.getD 0 ⟨.ro, [], []⟩).2.getD 2 .h).es ((val.2.getD 0 ⟨.ro, [], []⟩).2.getD 3 .h).es ((val.2.getD 0 ⟨.ro, [], []⟩).2.getD 4 .h).es ((val.2.getD 0 ⟨.ro, [], []⟩).2.getD 5 .h).es y27 ((val.2.getD 0 ⟨.ro, [], []⟩).2.getD 6 .h).es ((val.2.getD 0 ⟨.ro, [], []⟩).2.getD 7 .h).es (val_3.1.getD 0 .d).bool (val_3.1.getD 1 .d).int (val_3.1.getD 2 .d).str (val_3.1.getD 3 .d).es (val_3.1.getD 4 .d).es (val_3.1.getD 5 .d).es (val_3.1.getD 6 .d).es (val_3.1.getD 7 .d).es (val_3.1.getD 8 .d).es (val_3.1.getD 9 .d).int (val_3.1.getD 10 .d).es (val_3.1.getD 11 .d).es else none else none else none else none := by
 delta zab.P16 zbc zaY zbZ zbN zab.P25 XX
 refine zbj [7, 9, 10, 15, 16, 25, 26, 27] 16 (by kernel_rfl) fun J e1 => ?_
 try simp only [← e1]
 clear e1
 generalize lpL (Y.ctx (lim' Y)) 7 = lp
 generalize lim' Y = call
 kernel_rfl
theorem zab.p25 (y0:Bool) (y1:Int) (y2 y3:Bool) (y4:Int) (y5:BAy) (y6 y7 y8 y9 y10 y11:LLD) (y12:Int) (y13 y14:LLD) (y15:Bool) (y16:Int) (y17:BAy) (y18 y19 y20 y21 y22 y23:LLD) (y24:Int) (y25 y26:LLD) (y27:Bool) (y28:Int) (y29:BAy) (y30 y31 y32 y33 y34 y35:LLD) (y36:Int) (y37 y38:LLD) : zab.P25 y0 y1 y2 y3 y4 y5 y6 y7 y8 y9 y10 y11 y12 y13 y14 y15 y16 y17 y18 y19 y20 y21 y22 y23 y24 y25 y26 y27 y28 y29 y30 y31 y32 y33 y34 y35 y36 y37 y38 = (zbl [.g [.v (.bool y27), .v (.int .i64 y28), .v (.string y29), .s y30, .s y31, .s y32, .s y33, .s y34, .s y35, .v (.int .i64 y36), .s y37, .s y38], .g [.v (.bool y3), .v (.int .i64 y4), .v (.string y5), .s y6, .s y7, .s y8, .s y9, .s y10, .s y11, .v (.int .i64 y12), .s y13, .s y14]] []).bind fun val => bif zaa [.bool] val.1 && true then bif !(val.1.getD 0 .d).bool then zab.P26 y1 true y15 y16 y17 y18 y19 y20 y21 y22 y23 y24 y25 y26 else zab.P26 y1 (!y2 == y0) y15 y16 y17 y18 y19 y20 y21 y22 y23 y24 y25 y26 else none := by
 delta zab.P25 zbl zab.P26 XX
 refine zbj [7, 9, 10, 15, 16, 25, 26, 27] 25 (by kernel_rfl) fun J e1 => ?_
 try simp only [← e1]
 clear e1
 generalize lpL (Y.ctx (lim' Y)) 7 = lp
 generalize lim' Y = call
 kernel_rfl
theorem zab.p26 (y0:Int) (y1 y2:Bool) (y3:Int) (y4:BAy) (y5 y6 y7 y8 y9 y10:LLD) (y11:Int) (y12 y13:LLD) : zab.P26 y0 y1 y2 y3 y4 y5 y6 y7 y8 y9 y10 y11 y12 y13 = bif y1 then some ⟨[.v (.bool false)], []⟩ else zab.P27 y0 y2 y3 y4 y5 y6 y7 y8 y9 y10 y11 y12 y13 := by
 delta zab.P26 zab.P27 XX
 refine zbj [7, 9, 10, 15, 16, 25, 26, 27] 26 (by kernel_rfl) fun J e1 => ?_
 try simp only [← e1]
 clear e1
 generalize lpL (Y.ctx (lim' Y)) 7 = lp
 generalize lim' Y = call
 kernel_rfl
theorem zab.p27 (y0:Int) (y1:Bool) (y2:Int) (y3:BAy) (y4 y5 y6 y7 y8 y9:LLD) (y10:Int) (y11 y12:LLD) : zab.P27 y0 y1 y2 y3 y4 y5 y6 y7 y8 y9 y10 y11 y12 = (zaY [.g [.v (.bool y1), .v (.int .i64 y2), .v (.string y3), .s y4, .s y5, .s y6, .s y7, .s y8, .s y9, .v (.int .i64 y10), .s y11, .s y12], .one (.v (.int .i64 1))] []).bind fun val => bif zaa [.int .i64] val.1 && true then bif decide ((val.1.getD 0 .d).int < 0) then some ⟨[.v (.bool false)], []⟩ else bif (val.1.getD 0 .d).int != y0 then some ⟨[.v (.bool false)], []⟩ else some ⟨[.v (.bool true)], []⟩ else none := by
 delta zab.P27 zaY XX
 refine zbj [7, 9, 10, 15, 16, 25, 26, 27] 27 (by kernel_rfl) fun J e1 => ?_
 try simp only [← e1]
 clear e1
 generalize lpL (Y.ctx (lim' Y)) 7 = lp
 generalize lim' Y = call
 kernel_rfl
noncomputable def zaw.L5 (y0:LLD) (y1 y2:Int) : Option (Ex × St) := lpL XX 15 (zaq 5 zaw.c) (mkG 0 28 [(0, .one (.s y0)), (1, .one (.v (.int .i64 y1))), (5, .one (.v (.int .i64 y2)))] [] GL)
noncomputable def zaw.A5 : Ex × St → Option Res := fun r => evA XX 15 (lpL XX 15) 5 zaw.c r.fst r.snd (outE XX 15 Tryz.f15)
noncomputable def zaw.q5 (y0 y1:Int) : Ex × St := (Ex.ret, mkG 0 28 [(1, .one (.v (.int .i64 y0))), (4, .one (.v (.int .i64 y1)))] [] GL)
noncomputable def zaw.x5 (y0:Int) : Ex × St := (Ex.exit 0, mkG 0 28 [(1, .one (.v (.int .i64 y0)))] [] GL)
theorem zaw.e (a0:LLD) (a1:Int) : zaw [.one (.s a0), .one (.v (.int .i64 a1))] [] = bif decide (IntKind.i64.wrap (a1 - (↑a0.length : Int)) < 0) then some ⟨[.v (.int .i64 (-1))], []⟩ else (zaw.L5 a0 (IntKind.i64.wrap (a1 - (↑a0.length : Int))) 0).bind zaw.A5 := by
 refine (zaw.run _ _ (by kernel_rfl)).trans ?_
 delta zaw zaw.L5 zaw.A5 XX
 generalize lpL (Y.ctx (lim' Y)) 15 = lp
 generalize lim' Y = call
 kernel_rfl
theorem zaw.s5 (y0:LLD) (y1 y2:Int) : zaw.L5 y0 y1 y2 = bif decide (y2 < (↑y0.length : Int)) then bif decide (0 ≤ y2) && decide (y2 < (↑y0.length : Int)) && decide ((y0.getD y2.toNat []).length = 1) then bif zas [.str] (y0.getD y2.toNat []) 0 && decide (1 ≤ (y0.getD y2.toNat []).length) then bif decide (IntKind.i64.wrap (y1 - (↑((y0.getD y2.toNat []).getD 0 .h).str.size : Int)) < 0) then some (zaw.q5 (IntKind.i64.wrap (y1 - (↑((y0.getD y2.toNat []).getD 0 .h).str.size : Int))) (-1)) else zaw.L5 y0 (IntKind.i64.wrap (y1 - (↑((y0.getD y2.toNat []).getD 0 .h).str.size : Int))) (IntKind.i64.wrap (y2 + 1)) else none else none else some (zaw.x5 y1) := by
 refine (zbd (Y := Y) (c := lim' Y) (fn := 15) (rid := 5) (b := zaq 5 zaw.c) (by kernel_rfl) _).trans ?_
 delta zaw.L5 zaw.q5 zaw.x5 XX
 generalize lpL (Y.ctx (lim' Y)) 15 = lp
 generalize lim' Y = call
 kernel_rfl
theorem zaw.a5q5 (y0 y1:Int) : zaw.A5 (zaw.q5 y0 y1) = some ⟨[.v (.int .i64 y1)], []⟩ := by
 delta zaw.A5 zaw.q5 XX
 generalize lpL (Y.ctx (lim' Y)) 15 = lp
 generalize lim' Y = call
 kernel_rfl
theorem zaw.a5x5 (y0:Int) : zaw.A5 (zaw.x5 y0) = some ⟨[.v (.int .i64 y0)], []⟩ := by
 delta zaw.A5 zaw.x5 XX
 generalize lpL (Y.ctx (lim' Y)) 15 = lp
 generalize lim' Y = call
 kernel_rfl
noncomputable def zaN.L3 (y0:LLD) (y1:Int) (y2:LLD) : Option (Ex × St) := lpL XX 18 (zaq 3 zaN.c) (mkG 0 22 [(0, .one (.s y0)), (3, .one (.r 3 [] 0)), (4, .one (.v (.int .i64 y1)))] [(3, some ⟨.virt, [.s y2], [.deep]⟩)] GL)
noncomputable def zaN.A3 : Ex × St → Option Res := fun r => evA XX 18 (lpL XX 18) 3 zaN.c r.fst r.snd (outE XX 18 Tryz.f18)
noncomputable def zaN.x3 (y0:LLD) : Ex × St := (Ex.exit 0, mkG 0 22 [(3, .one (.r 3 [] 0))] [(3, some ⟨.virt, [.s y0], [.deep]⟩)] GL)
theorem zaN.e (a0:LLD) : zaN [.one (.s a0)] [] = bif decide ((↑a0.length : Int) * ((↑16 : Int) + 1) ≤ 2 ^ 46) && true && true then (zaN.L3 a0 0 (List.replicate (↑a0.length : Int).toNat [.v (.string (ByteArray.mk #[]))])).bind zaN.A3 else none := by
 refine (zaN.run _ _ (by kernel_rfl)).trans ?_
 delta zaN zaN.L3 zaN.A3 XX
 generalize lpL (Y.ctx (lim' Y)) 18 = lp
 generalize lim' Y = call
 kernel_rfl
theorem zaN.s3 (y0:LLD) (y1:Int) (y2:LLD) : zaN.L3 y0 y1 y2 = bif decide (y1 < (↑y0.length : Int)) then bif decide (0 ≤ y1) && decide (y1 < (↑y0.length : Int)) && decide ((y0.getD y1.toNat []).length = 1) then bif zas [.str] (y0.getD y1.toNat []) 0 && decide (1 ≤ (y0.getD y1.toNat []).length) then bif decide (0 ≤ y1) && decide (y1 < (↑y2.length : Int)) && decide ((y2.getD y1.toNat []).length = 1) then bif decide (1 ≤ (y2.getD y1.toNat []).length) && true then zaN.L3 y0 (IntKind.i64.wrap (y1 + 1)) (y2.set y1.toNat (.v (.string ((y0.getD y1.toNat []).getD 0 .h).str) :: List.drop 1 (y2.getD y1.toNat []))) else none else none else none else none else some (zaN.x3 y2) := by
 refine (zbd (Y := Y) (c := lim' Y) (fn := 18) (rid := 3) (b := zaq 3 zaN.c) (by kernel_rfl) _).trans ?_
 delta zaN.L3 zaN.x3 XX
 generalize lpL (Y.ctx (lim' Y)) 18 = lp
 generalize lim' Y = call
 kernel_rfl
theorem zaN.a3x3 (y0:LLD) : zaN.A3 (zaN.x3 y0) = some ⟨[.o .deep y0], []⟩ := by
 delta zaN.A3 zaN.x3 XX
 generalize lpL (Y.ctx (lim' Y)) 18 = lp
 generalize lim' Y = call
 kernel_rfl
noncomputable def za7.L4 (y0 y1:LLD) (y2:Int) : Option (Ex × St) := lpL XX 20 (zaq 4 za7.c) (mkG 0 27 [(0, .one (.s y0)), (1, .one (.s y1)), (5, .one (.v (.int .i64 y2)))] [] GL)
noncomputable def za7.A4 : Ex × St → Option Res := fun r => evA XX 20 (lpL XX 20) 4 za7.c r.fst r.snd (outE XX 20 Tryz.f20)
noncomputable def za7.q4 (y0:Bool) : Ex × St := (Ex.ret, mkG 0 27 [(4, .one (.v (.bool y0)))] [] GL)
noncomputable def za7.x4 : Ex × St := (Ex.exit 0, mkG 0 27 [] [] GL)
theorem za7.e (a0 a1:LLD) : za7 [.one (.s a0), .one (.s a1)] [] = bif (↑a0.length : Int) != (↑a1.length : Int) then some ⟨[.v (.bool false)], []⟩ else (za7.L4 a0 a1 0).bind za7.A4 := by
 refine (za7.run _ _ (by kernel_rfl)).trans ?_
 delta za7 za7.L4 za7.A4 XX
 generalize lpL (Y.ctx (lim' Y)) 20 = lp
 generalize lim' Y = call
 kernel_rfl
theorem za7.s4 (y0 y1:LLD) (y2:Int) : za7.L4 y0 y1 y2 = bif decide (y2 < (↑y0.length : Int)) then bif decide (0 ≤ y2) && decide (y2 < (↑y0.length : Int)) && decide ((y0.getD y2.toNat []).length = 5) then bif zas [.sl, .bool, .int .i64, .str, .int .i64] (y0.getD y2.toNat []) 0 && decide (5 ≤ (y0.getD y2.toNat []).length) then bif decide (0 ≤ y2) && decide (y2 < (↑y1.length : Int)) && decide ((y1.getD y2.toNat []).length = 5) then bif zas [.sl, .bool, .int .i64, .str, .int .i64] (y1.getD y2.toNat []) 0 && decide (5 ≤ (y1.getD y2.toNat []).length) then (zcv [.g [.s ((y0.getD y2.toNat []).getD 0 .h).es, .v (.bool ((y0.getD y2.toNat []).getD 1 .h).bool), .v (.int .i64 ((y0.getD y2.toNat []).getD 2 .h).int), .v (.string ((y0.getD y2.toNat []).getD 3 .h).str), .v (.int .i64 ((y0.getD y2.toNat []).getD 4 .h).int)], .g [.s ((y1.getD y2.toNat []).getD 0 .h).es, .v (.bool ((y1.getD y2.toNat []).getD 1 .h).bool), .v (.int .i64 ((y1.getD y2.toNat []).getD 2 .h).int), .v (.string ((y1.getD y2.toNat []).getD 3 .h).str), .v (.int .i64 ((y1.getD y2.toNat []).getD 4 .h).int)]] []).bind fun val => bif zaa [.bool] val.1 && true then bif !(val.1.getD 0 .d).bool then some (za7.q4 false) else za7.L4 y0 y1 (IntKind.i64.wrap (y2 + 1)) else none else none else none else none else none else some za7.x4 := by
 refine (zbd (Y := Y) (c := lim' Y) (fn := 20) (rid := 4) (b := zaq 4 za7.c) (by kernel_rfl) _).trans ?_
 delta za7.L4 zcv za7.q4 za7.x4 XX
 generalize lpL (Y.ctx (lim' Y)) 20 = lp
 generalize lim' Y = call
 kernel_rfl
theorem za7.a4x4 : za7.A4 za7.x4 = some ⟨[.v (.bool true)], []⟩ := by
 delta za7.A4 za7.x4 XX
 generalize lpL (Y.ctx (lim' Y)) 20 = lp
 generalize lim' Y = call
 kernel_rfl
noncomputable def zao.L4 (y0 y1:LLD) (y2:Int) : Option (Ex × St) := lpL XX 21 (zaq 4 zao.c) (mkG 0 26 [(0, .one (.s y0)), (1, .one (.s y1)), (5, .one (.v (.int .i64 y2)))] [] GL)
noncomputable def zao.A4 : Ex × St → Option Res := fun r => evA XX 21 (lpL XX 21) 4 zao.c r.fst r.snd (outE XX 21 Tryz.f21)
noncomputable def zao.q4 (y0:Bool) : Ex × St := (Ex.ret, mkG 0 26 [(4, .one (.v (.bool y0)))] [] GL)
noncomputable def zao.x4 : Ex × St := (Ex.exit 0, mkG 0 26 [] [] GL)
theorem zao.e (a0 a1:LLD) : zao [.one (.s a0), .one (.s a1)] [] = bif (↑a0.length : Int) != (↑a1.length : Int) then some ⟨[.v (.bool false)], []⟩ else (zao.L4 a0 a1 0).bind zao.A4 := by
 refine (zao.run _ _ (by kernel_rfl)).trans ?_
 delta zao zao.L4 zao.A4 XX
 generalize lpL (Y.ctx (lim' Y)) 21 = lp
 generalize lim' Y = call
 kernel_rfl
theorem zao.s4 (y0 y1:LLD) (y2:Int) : zao.L4 y0 y1 y2 = bif decide (y2 < (↑y0.length : Int)) then bif decide (0 ≤ y2) && decide (y2 < (↑y0.length : Int)) && decide ((y0.getD y2.toNat []).length = 1) then bif zas [.str] (y0.getD y2.toNat []) 0 && decide (1 ≤ (y0.getD y2.toNat []).length) then bif decide (0 ≤ y2) && decide (y2 < (↑y1.length : Int)) && decide ((y1.getD y2.toNat []).length = 1) then bif zas [.str] (y1.getD y2.toNat []) 0 && decide (1 ≤ (y1.getD y2.toNat []).length) then bif !((y0.getD y2.toNat []).getD 0 .h).str.toList == ((y1.getD y2.toNat []).getD 0 .h).str.toList then some (zao.q4 false) else zao.L4 y0 y1 (IntKind.i64.wrap (y2 + 1)) else none else none else none else none else some zao.x4 := by
 refine (zbd (Y := Y) (c := lim' Y) (fn := 21) (rid := 4) (b := zaq 4 zao.c) (by kernel_rfl) _).trans ?_
 delta zao.L4 zao.q4 zao.x4 XX
 generalize lpL (Y.ctx (lim' Y)) 21 = lp
 generalize lim' Y = call
 kernel_rfl
theorem zao.a4x4 : zao.A4 zao.x4 = some ⟨[.v (.bool true)], []⟩ := by
 delta zao.A4 zao.x4 XX
 generalize lpL (Y.ctx (lim' Y)) 21 = lp
 generalize lim' Y = call
 kernel_rfl
noncomputable def zbz.P9 (y0:Bool) (y1:Int) (y2:BAy) (y3 y4:LLD) (y5:Bool) (y6:Int) (y7:BAy) (y8 y9:LLD) : Option Res := evB XX 26 (lpL XX 26) 9 zbz.c (mkG 0 32 [(2, .one (.p true 2 [] 0)), (3, .one (.p true 3 [] 0))] [(2, some ⟨.box, [.v (.bool y0), .v (.int .i64 y1), .v (.string y2), .s y3, .s y4], [.deep, .deep, .deep, .sh, .sh]⟩), (3, some ⟨.box, [.v (.bool y5), .v (.int .i64 y6), .v (.string y7), .s y8, .s y9], [.deep, .deep, .deep, .sh, .sh]⟩)] GL) (outE XX 26 Tryz.f26)
theorem zbz.e (a0:Bool) (a1:Int) (a2:BAy) (a3 a4:LLD) (a5:Bool) (a6:Int) (a7:BAy) (a8 a9:LLD) : zbz [.g [.v (.bool a0), .v (.int .i64 a1), .v (.string a2), .s a3, .s a4], .g [.v (.bool a5), .v (.int .i64 a6), .v (.string a7), .s a8, .s a9]] [] = bif !a0 == a5 then some ⟨[.v (.bool false)], []⟩ else bif a1 != a6 then some ⟨[.v (.bool false)], []⟩ else bif !a2.toList == a7.toList then some ⟨[.v (.bool false)], []⟩ else (zao [.one (.s a3), .one (.s a8)] []).bind fun val => bif zaa [.bool] val.1 && true then bif !(val.1.getD 0 .d).bool then some ⟨[.v (.bool false)], []⟩ else zbz.P9 a0 a1 a2 a3 a4 a5 a6 a7 a8 a9 else none := by
 refine (zbz.run _ _ (by kernel_rfl)).trans ?_
 delta zbz zao zbz.P9 XX
 refine zbw [9] (by kernel_rfl) fun J e1 => ?_
 try simp only [← e1]
 clear e1
 generalize lpL (Y.ctx (lim' Y)) 26 = lp
 generalize lim' Y = call
 kernel_rfl
theorem zbz.p9 (y0:Bool) (y1:Int) (y2:BAy) (y3 y4:LLD) (y5:Bool) (y6:Int) (y7:BAy) (y8 y9:LLD) : zbz.P9 y0 y1 y2 y3 y4 y5 y6 y7 y8 y9 = (zaZ [.one (.s y4), .one (.s y9)] []).bind fun val => bif zaa [.bool] val.1 && true then bif !(val.1.getD 0 .d).bool then some ⟨[.v (.bool false)], []⟩ else some ⟨[.v (.bool true)], []⟩ else none := by
 delta zbz.P9 zaZ XX
 refine zbj [9] 9 (by kernel_rfl) fun J e1 => ?_
 try simp only [← e1]
 clear e1
 generalize lpL (Y.ctx (lim' Y)) 26 = lp
 generalize lim' Y = call
 kernel_rfl
noncomputable def zaJ.L2 (y0 y1:Int) (y2:LLD) : Option (Ex × St) := lpL XX 27 (zaq 2 zaJ.c) (mkG 1 51 [(0, .one (.r 0 [] 0)), (1, .one (.v (.int .i64 y0))), (5, .one (.v (.int .i64 y1)))] [(0, some ⟨.virt, [.s y2], [.deep]⟩)] GL)
noncomputable def zaJ.A2 : Ex × St → Option Res := fun r => evA XX 27 (lpL XX 27) 2 zaJ.c r.fst r.snd (outE XX 27 Tryz.f27)
noncomputable def zaJ.P8 (y0 y1:Int) (y2:LLD) : Option (Ex × St) := evB XX 27 (lpL XX 27) 8 (zaq 2 zaJ.c) (mkG 1 51 [(0, .one (.r 0 [] 0)), (1, .one (.v (.int .i64 y0))), (5, .one (.v (.int .i64 y1)))] [(0, some ⟨.virt, [.s y2], [.deep]⟩)] GL) (backL (lpL XX 27) (zaq 2 zaJ.c) (XX.live 27 2))
noncomputable def zaJ.x2 (y0:Int) (y1:LLD) : Ex × St := (Ex.exit 0, mkG 1 51 [(1, .one (.v (.int .i64 y0)))] [(0, some ⟨.virt, [.s y1], [.deep]⟩)] GL)
theorem zaJ.e (a0:LLD) (a1:Int) : zaJ [.one (.r 0 [] 0), .one (.v (.int .i64 a1))] [⟨.virt, [.s a0], [.deep]⟩] = (zaJ.L2 a1 0 a0).bind zaJ.A2 := by
 refine (zaJ.run _ _ (by kernel_rfl)).trans ?_
 delta zaJ zaJ.L2 zaJ.A2 XX
 generalize lpL (Y.ctx (lim' Y)) 27 = lp
 generalize lim' Y = call
 kernel_rfl
theorem zaJ.s2 (y0 y1:Int) (y2:LLD) : zaJ.L2 y0 y1 y2 = bif decide (y1 < (↑y2.length : Int)) then bif decide (0 ≤ y1) && decide (y1 < (↑y2.length : Int)) && decide ((y2.getD y1.toNat []).length = 5) then bif zas [.sl] (y2.getD y1.toNat []) 0 && decide (1 ≤ (y2.getD y1.toNat []).length) then (zaf [.one (.r 0 [] 0), .one (.v (.int .i64 y0))] [⟨.virt, [.s ((y2.getD y1.toNat []).getD 0 .h).es], [.deep]⟩]).bind fun val => bif zaa [.int .i64] val.1 && zaV [⟨⟨.virt, [.s ((y2.getD y1.toNat []).getD 0 .h).es], [.deep]⟩, .sl 0 [(0, y1.toNat)] 0⟩] val.2 then bif decide (0 ≤ y1) && decide (y1 < (↑(y2.set y1.toNat ((y2.getD y1.toNat []).set 0 (.s ((val.2.getD 0 ⟨.ro, [], []⟩).2.getD 0 .h).es))).length : Int)) && decide (((y2.set y1.toNat ((y2.getD y1.toNat []).set 0 (.s ((val.2.getD 0 ⟨.ro, [], []⟩).2.getD 0 .h).es))).getD y1.toNat []).length = 5) then bif decide (2 ≤ ((y2.set y1.toNat ((y2.getD y1.toNat []).set 0 (.s ((val.2.getD 0 ⟨.ro, [], []⟩).2.getD 0 .h).es))).getD y1.toNat []).length) && true then bif decide (0 ≤ y1) && decide (y1 < (↑((y2.set y1.toNat ((y2.getD y1.toNat []).set 0 (.s ((val.2.getD 0 ⟨.ro, [], []⟩).2.getD 0 .h).es))).set y1.toNat (List.take 1 ((y2.set y1.toNat ((y2.getD y1.toNat []).set 0 (.s ((val.2.getD 0 ⟨.ro, [], []⟩).2.getD 0 .h).es))).getD y1.toNat []) ++ [.v (.bool ((val.1.getD 0 .d).int.tmod 3 == 0))] ++ List.drop 2 ((y2.set y1.toNat ((y2.getD y1.toNat []).set 0 (.s ((val.2.getD 0 ⟨.ro, [], []⟩).2.getD 0 .h).es))).getD y1.toNat []))).length : Int)) && decide ((((y2.set y1.toNat ((y2.getD y1.toNat []).set 0 (.s ((val.2.getD 0 ⟨.ro, [], []⟩).2.getD 0 .h).es))).set y1.toNat (List.take 1 ((y2.set y1.toNat ((y2.getD y1.toNat []).set 0 (.s ((val.2.getD 0 ⟨.ro, [], []⟩).2.getD 0 .h).es))).getD y1.toNat []) ++ [.v (.bool ((val.1.getD 0 .d).int.tmod 3 == 0))] ++ List.drop 2 ((y2.set y1.toNat ((y2.getD y1.toNat []).set 0 (.s ((val.2.getD 0 ⟨.ro, [], []⟩).2.getD 0 .h).es))).getD y1.toNat []))).getD y1.toNat []).length = 5) then bif decide (3 ≤ (((y2.set y1.toNat ((y2.getD y1.toNat []).set 0 (.s ((val.2.getD 0 ⟨.ro, [], []⟩).2.getD 0 .h).es))).set y1.toNat (List.take 1 ((y2.set y1.toNat ((y2.getD y1.toNat []).set 0 (.s ((val.2.getD 0 ⟨.ro, [], []⟩).2.getD 0 .h).es))).getD y1.toNat []) ++ [.v (.bool ((val.1.getD 0 .d).int.tmod 3 == 0))] ++ List.drop 2 ((y2.set y1.toNat ((y2.getD y1.toNat []).set 0 (.s ((val.2.getD 0 ⟨.ro, [], []⟩).2.getD 0 .h).es))).getD y1.toNat []))).getD y1.toNat []).length) && true then zaJ.P8 (IntKind.i64.wrap ((val.1.getD 0 .d).int + 1)) y1 (((y2.set y1.toNat ((y2.getD y1.toNat []).set 0 (.s ((val.2.getD 0 ⟨.ro, [], []⟩).2.getD 0 .h).es))).set y1.toNat (List.take 1 ((y2.set y1.toNat ((y2.getD y1.toNat []).set 0 (.s ((val.2.getD 0 ⟨.ro, [], []⟩).2.getD 0 .h).es))).getD y1.toNat []) ++ [.v (.bool ((val.1.getD 0 .d).int.tmod 3 == 0))] ++ List.drop 2 ((y2.set y1.toNat ((y2.getD y1.toNat []).set 0 (.s ((val.2.getD 0 ⟨.ro, [], []⟩).2.getD 0 .h).es))).getD y1.toNat []))).set y1.toNat (List.take 2 (((y2.set y1.toNat ((y2.getD y1.toNat []).set 0 (.s ((val.2.getD 0 ⟨.ro, [], []⟩).2.getD 0 .h).es))).set y1.toNat (List.take 1 ((y2.set y1.toNat ((y2.getD y1.toNat []).set 0 (.s ((val.2.getD 0 ⟨.ro, [], []⟩).2.getD 0 .h).es))).getD y1.toNat []) ++ [.v (.bool ((val.1.getD 0 .d).int.tmod 3 == 0))] ++ List.drop 2 ((y2.set y1.toNat ((y2.getD y1.toNat []).set 0 (.s ((val.2.getD 0 ⟨.ro, [], []⟩).2.getD 0 .h).es))).getD y1.toNat []))).getD y1.toNat []) ++ [.v (.int .i64 (IntKind.i64.wrap ((val.1.getD 0 .d).int + 1)))] ++ List.drop 3 (((y2.set y1.toNat ((y2.getD y1.toNat []).set 0 (.s ((val.2.getD 0 ⟨.ro, [], []⟩).2.getD 0 .h).es))).set y1.toNat (List.take 1 ((y2.set y1.toNat ((y2.getD y1.toNat []).set 0 (.s ((val.2.getD 0 ⟨.ro, [], []⟩).2.getD 0 .h).es))).getD y1.toNat []) ++ [.v (.bool ((val.1.getD 0 .d).int.tmod 3 == 0))] ++ List.drop 2 ((y2.set y1.toNat ((y2.getD y1.toNat []).set 0 (.s ((val.2.getD 0 ⟨.ro, [], []⟩).2.getD 0 .h).es))).getD y1.toNat []))).getD y1.toNat []))) else none else none else none else none else none else none else none else some (zaJ.x2 y0 y2) := by
 refine (zbd (Y := Y) (c := lim' Y) (fn := 27) (rid := 2) (b := zaq 2 zaJ.c) (by kernel_rfl) _).trans ?_
 delta zaJ.L2 zaf zaJ.P8 zaJ.x2 XX
 refine zbw [8] (by kernel_rfl) fun J e1 => ?_
 try simp only [← e1]
 clear e1
 generalize lpL (Y.ctx (lim' Y)) 27 = lp
 generalize lim' Y = call
 kernel_rfl
theorem zaJ.p8 (y0 y1:Int) (y2:LLD) : zaJ.P8 y0 y1 y2 = (zaD [.one (.v (.int .i64 (IntKind.i64.wrap (y0 + 1))))] []).bind fun val => bif zaa [.str] val.1 && true then bif decide (0 ≤ y1) && decide (y1 < (↑y2.length : Int)) && decide ((y2.getD y1.toNat []).length = 5) then bif decide (4 ≤ (y2.getD y1.toNat []).length) && true then bif decide (0 ≤ y1) && decide (y1 < (↑(y2.set y1.toNat (List.take 3 (y2.getD y1.toNat []) ++ [.v (.string (val.1.getD 0 .d).str)] ++ List.drop 4 (y2.getD y1.toNat []))).length : Int)) && decide (((y2.set y1.toNat (List.take 3 (y2.getD y1.toNat []) ++ [.v (.string (val.1.getD 0 .d).str)] ++ List.drop 4 (y2.getD y1.toNat []))).getD y1.toNat []).length = 5) then bif decide (5 ≤ ((y2.set y1.toNat (List.take 3 (y2.getD y1.toNat []) ++ [.v (.string (val.1.getD 0 .d).str)] ++ List.drop 4 (y2.getD y1.toNat []))).getD y1.toNat []).length) && true then zaJ.L2 (IntKind.i64.wrap (IntKind.i64.wrap (IntKind.i64.wrap (y0 + 1) + 1) + 1)) (IntKind.i64.wrap (y1 + 1)) ((y2.set y1.toNat (List.take 3 (y2.getD y1.toNat []) ++ [.v (.string (val.1.getD 0 .d).str)] ++ List.drop 4 (y2.getD y1.toNat []))).set y1.toNat (List.take 4 ((y2.set y1.toNat (List.take 3 (y2.getD y1.toNat []) ++ [.v (.string (val.1.getD 0 .d).str)] ++ List.drop 4 (y2.getD y1.toNat []))).getD y1.toNat []) ++ [.v (.int .i64 (IntKind.i64.wrap (IntKind.i64.wrap (y0 + 1) + 1)))] ++ List.drop 5 ((y2.set y1.toNat (List.take 3 (y2.getD y1.toNat []) ++ [.v (.string (val.1.getD 0 .d).str)] ++ List.drop 4 (y2.getD y1.toNat []))).getD y1.toNat []))) else none else none else none else none else none := by
 delta zaJ.P8 zaD zaJ.L2 XX
 refine zbj [8] 8 (by kernel_rfl) fun J e1 => ?_
 try simp only [← e1]
 clear e1
 generalize lpL (Y.ctx (lim' Y)) 27 = lp
 generalize lim' Y = call
 kernel_rfl
theorem zaJ.a2x2 (y0:Int) (y1:LLD) : zaJ.A2 (zaJ.x2 y0 y1) = some ⟨[.v (.int .i64 y0)], [⟨.virt, [.s y1], [.deep]⟩]⟩ := by
 delta zaJ.A2 zaJ.x2 XX
 generalize lpL (Y.ctx (lim' Y)) 27 = lp
 generalize lim' Y = call
 kernel_rfl
theorem zbM.e (a0:Bool) (a1:Int) (a2:BAy) (a3 a4:LLD) (a5:Int) : zbM [.g [.v (.bool a0), .v (.int .i64 a1), .v (.string a2), .r 0 [] 0, .r 0 [] 1], .one (.v (.int .i64 a5))] [⟨.virt, [.s a3, .s a4], [.deep, .deep]⟩] = (zaf [.one (.r 0 [] 0), .one (.v (.int .i64 a5))] [⟨.virt, [.s a3], [.deep]⟩]).bind fun val => bif zaa [.int .i64] val.1 && zaV [⟨⟨.virt, [.s a3], [.deep]⟩, .sl 0 [] 0⟩] val.2 then (zap [.one (.r 0 [] 0), .one (.v (.int .i64 (val.1.getD 0 .d).int))] [⟨.virt, [.s a4], [.deep]⟩]).bind fun val_1 => bif zaa [.int .i64] val_1.1 && zaV [⟨⟨.virt, [.s a4], [.deep]⟩, .sl 0 [] 1⟩] val_1.2 then some ⟨[.v (.int .i64 (val_1.1.getD 0 .d).int)], [⟨.virt, [.s ((val.2.getD 0 ⟨.ro, [], []⟩).2.getD 0 .h).es, .s ((val_1.2.getD 0 ⟨.ro, [], []⟩).2.getD 0 .h).es], [.deep, .deep]⟩]⟩ else none else none := by
 refine (zbM.run _ _ (by kernel_rfl)).trans ?_
 delta zbM zaf zap XX
 generalize lpL (Y.ctx (lim' Y)) 28 = lp
 generalize lim' Y = call
 kernel_rfl
theorem zb3.e (a0:Bool) (a1:Int) (a2:BAy) (a3 a4:LLD) (a5:Int) : zb3 [.g [.v (.bool a0), .v (.int .i64 a1), .v (.string a2), .s a3, .s a4], .one (.v (.int .i64 a5))] [] = (zad [.one (.s a3), .one (.v (.int .i64 a5))] []).bind fun val => bif zaa [.int .i64] val.1 && true then bif decide ((val.1.getD 0 .d).int < 0) then some ⟨[.v (.int .i64 (-1))], []⟩ else (zah [.one (.s a4), .one (.v (.int .i64 (val.1.getD 0 .d).int))] []).bind fun val => bif zaa [.int .i64] val.1 && true then bif decide ((val.1.getD 0 .d).int < 0) then some ⟨[.v (.int .i64 (-1))], []⟩ else some ⟨[.v (.int .i64 (val.1.getD 0 .d).int)], []⟩ else none else none := by
 refine (zb3.run _ _ (by kernel_rfl)).trans ?_
 delta zb3 zad zah XX
 generalize lpL (Y.ctx (lim' Y)) 29 = lp
 generalize lim' Y = call
 kernel_rfl
noncomputable def zaf.L2 (y0 y1:Int) (y2:LLD) : Option (Ex × St) := lpL XX 32 (zaq 2 zaf.c) (mkG 1 20 [(0, .one (.r 0 [] 0)), (1, .one (.v (.int .i64 y0))), (5, .one (.v (.int .i64 y1)))] [(0, some ⟨.virt, [.s y2], [.deep]⟩)] GL)
noncomputable def zaf.A2 : Ex × St → Option Res := fun r => evA XX 32 (lpL XX 32) 2 zaf.c r.fst r.snd (outE XX 32 Tryz.f32)
noncomputable def zaf.x2 (y0:Int) (y1:LLD) : Ex × St := (Ex.exit 0, mkG 1 20 [(1, .one (.v (.int .i64 y0)))] [(0, some ⟨.virt, [.s y1], [.deep]⟩)] GL)
theorem zaf.e (a0:LLD) (a1:Int) : zaf [.one (.r 0 [] 0), .one (.v (.int .i64 a1))] [⟨.virt, [.s a0], [.deep]⟩] = (zaf.L2 a1 0 a0).bind zaf.A2 := by
 refine (zaf.run _ _ (by kernel_rfl)).trans ?_
 delta zaf zaf.L2 zaf.A2 XX
 generalize lpL (Y.ctx (lim' Y)) 32 = lp
 generalize lim' Y = call
 kernel_rfl
theorem zaf.s2 (y0 y1:Int) (y2:LLD) : zaf.L2 y0 y1 y2 = bif decide (y1 < (↑y2.length : Int)) then (zaD [.one (.v (.int .i64 y0))] []).bind fun val => bif zaa [.str] val.1 && true then bif decide (0 ≤ y1) && decide (y1 < (↑y2.length : Int)) && decide ((y2.getD y1.toNat []).length = 1) then bif decide (1 ≤ (y2.getD y1.toNat []).length) && true then zaf.L2 (IntKind.i64.wrap (y0 + 1)) (IntKind.i64.wrap (y1 + 1)) (y2.set y1.toNat (.v (.string (val.1.getD 0 .d).str) :: List.drop 1 (y2.getD y1.toNat []))) else none else none else none else some (zaf.x2 y0 y2) := by
 refine (zbd (Y := Y) (c := lim' Y) (fn := 32) (rid := 2) (b := zaq 2 zaf.c) (by kernel_rfl) _).trans ?_
 delta zaf.L2 zaD zaf.x2 XX
 generalize lpL (Y.ctx (lim' Y)) 32 = lp
 generalize lim' Y = call
 kernel_rfl
theorem zaf.a2x2 (y0:Int) (y1:LLD) : zaf.A2 (zaf.x2 y0 y1) = some ⟨[.v (.int .i64 y0)], [⟨.virt, [.s y1], [.deep]⟩]⟩ := by
 delta zaf.A2 zaf.x2 XX
 generalize lpL (Y.ctx (lim' Y)) 32 = lp
 generalize lim' Y = call
 kernel_rfl
noncomputable def zad.L2 (y0:LLD) (y1 y2:Int) : Option (Ex × St) := lpL XX 33 (zaq 2 zad.c) (mkG 0 22 [(0, .one (.s y0)), (1, .one (.v (.int .i64 y1))), (5, .one (.v (.int .i64 y2)))] [] GL)
noncomputable def zad.A2 : Ex × St → Option Res := fun r => evA XX 33 (lpL XX 33) 2 zad.c r.fst r.snd (outE XX 33 Tryz.f33)
noncomputable def zad.q2 (y0 y1:Int) : Ex × St := (Ex.ret, mkG 0 22 [(1, .one (.v (.int .i64 y0))), (4, .one (.v (.int .i64 y1)))] [] GL)
noncomputable def zad.x2 (y0:Int) : Ex × St := (Ex.exit 0, mkG 0 22 [(1, .one (.v (.int .i64 y0)))] [] GL)
theorem zad.e (a0:LLD) (a1:Int) : zad [.one (.s a0), .one (.v (.int .i64 a1))] [] = (zad.L2 a0 a1 0).bind zad.A2 := by
 refine (zad.run _ _ (by kernel_rfl)).trans ?_
 delta zad zad.L2 zad.A2 XX
 generalize lpL (Y.ctx (lim' Y)) 33 = lp
 generalize lim' Y = call
 kernel_rfl
theorem zad.s2 (y0:LLD) (y1 y2:Int) : zad.L2 y0 y1 y2 = bif decide (y2 < (↑y0.length : Int)) then bif decide (0 ≤ y2) && decide (y2 < (↑y0.length : Int)) && decide ((y0.getD y2.toNat []).length = 1) then bif zas [.str] (y0.getD y2.toNat []) 0 && decide (1 ≤ (y0.getD y2.toNat []).length) then (zaD [.one (.v (.int .i64 y1))] []).bind fun val => bif zaa [.str] val.1 && true then bif !((y0.getD y2.toNat []).getD 0 .h).str.toList == (val.1.getD 0 .d).str.toList then some (zad.q2 y1 (-1)) else zad.L2 y0 (IntKind.i64.wrap (y1 + 1)) (IntKind.i64.wrap (y2 + 1)) else none else none else none else some (zad.x2 y1) := by
 refine (zbd (Y := Y) (c := lim' Y) (fn := 33) (rid := 2) (b := zaq 2 zad.c) (by kernel_rfl) _).trans ?_
 delta zad.L2 zaD zad.q2 zad.x2 XX
 generalize lpL (Y.ctx (lim' Y)) 33 = lp
 generalize lim' Y = call
 kernel_rfl
theorem zad.a2x2 (y0:Int) : zad.A2 (zad.x2 y0) = some ⟨[.v (.int .i64 y0)], []⟩ := by
 delta zad.A2 zad.x2 XX
 generalize lpL (Y.ctx (lim' Y)) 33 = lp
 generalize lim' Y = call
 kernel_rfl
noncomputable def zbA.P8 (y0:Int) : Option Res := evB XX 34 (lpL XX 34) 8 zbA.c (mkG 0 25 [(1, .one (.v (.int .i64 y0)))] [] GL) (outE XX 34 Tryz.f34)
theorem zbA.e (a0:Bool) (a1:Int) (a2:BAy) (a3 a4:LLD) (a5:Int) : zbA [.g [.v (.bool a0), .v (.int .i64 a1), .v (.string a2), .s a3, .s a4], .one (.v (.int .i64 a5))] [] = bif decide (IntKind.i64.wrap (a5 - (↑a2.size : Int)) < 0) then some ⟨[.v (.int .i64 (-1))], []⟩ else (zaw [.one (.s a3), .one (.v (.int .i64 (IntKind.i64.wrap (a5 - (↑a2.size : Int)))))] []).bind fun val => bif zaa [.int .i64] val.1 && true then bif decide ((val.1.getD 0 .d).int < 0) then some ⟨[.v (.int .i64 (-1))], []⟩ else (zaU [.one (.s a4), .one (.v (.int .i64 (val.1.getD 0 .d).int))] []).bind fun val => bif zaa [.int .i64] val.1 && true then zbA.P8 (val.1.getD 0 .d).int else none else none := by
 refine (zbA.run _ _ (by kernel_rfl)).trans ?_
 delta zbA zaw zaU zbA.P8 XX
 refine zbw [8] (by kernel_rfl) fun J e1 => ?_
 try simp only [← e1]
 clear e1
 generalize lpL (Y.ctx (lim' Y)) 34 = lp
 generalize lim' Y = call
 kernel_rfl
theorem zbA.p8 (y0:Int) : zbA.P8 y0 = bif decide (y0 < 0) then some ⟨[.v (.int .i64 (-1))], []⟩ else some ⟨[.v (.int .i64 y0)], []⟩ := by
 delta zbA.P8 XX
 refine zbj [8] 8 (by kernel_rfl) fun J e1 => ?_
 try simp only [← e1]
 clear e1
 generalize lpL (Y.ctx (lim' Y)) 34 = lp
 generalize lim' Y = call
 kernel_rfl
theorem zb4.e (a0:Bool) (a1:Int) (a2:BAy) (a3 a4:LLD) : zb4 [.g [.v (.bool a0), .v (.int .i64 a1), .v (.string a2), .s a3, .s a4]] [] = (zcl [.g [.v (.bool a0), .v (.int .i64 a1), .v (.string a2), .s a3, .s a4]] []).bind fun val => bif zaa [.bool] val.1 && true then bif !(val.1.getD 0 .d).bool then some ⟨[.v (.bool false), .v (.int .i64 0), .v (.string (ByteArray.mk #[])), .o .deep [], .o .deep [], .o .deep [], .o .deep [], .o .deep [], .o .deep [], .v (.int .i64 0), .s [], .o .deep [], .v (.bool false)], []⟩ else (za9 [.g [.v (.bool a0), .v (.int .i64 a1), .v (.string a2), .s a3, .s a4]] []).bind fun val => bif zaa [.bool, .int .i64, .str, .own .deep, .own .deep] val.1 && true then (zbI [.g [.v (.bool a0), .v (.int .i64 a1), .v (.string a2), .s a3, .s a4]] []).bind fun val_1 => bif zaa [.own .deep] val_1.1 && true then (zae [.g [.v (.bool a0), .v (.int .i64 a1), .v (.string a2), .s a3, .s a4]] []).bind fun val_2 => bif zaa [.int .i64, .sh] val_2.1 && true then some ⟨[.v (.bool (val.1.getD 0 .d).bool), .v (.int .i64 (val.1.getD 1 .d).int), .v (.string (val.1.getD 2 .d).str), .o .deep (val.1.getD 3 .d).es, .o .deep (val.1.getD 4 .d).es, .o .deep (val_1.1.getD 0 .d).es, .o .deep [], .o .deep [], .o .deep [], .v (.int .i64 (val_2.1.getD 0 .d).int), .s (val_2.1.getD 1 .d).es, .o .deep [], .v (.bool true)], []⟩ else none else none else none else none := by
 refine (zb4.run _ _ (by kernel_rfl)).trans ?_
 delta zb4 zcl za9 zbI zae XX
 generalize lpL (Y.ctx (lim' Y)) 35 = lp
 generalize lim' Y = call
 kernel_rfl
theorem zbZ.e (a0:Bool) (a1:Int) (a2:BAy) (a3 a4:LLD) : zbZ [.g [.v (.bool a0), .v (.int .i64 a1), .v (.string a2), .s a3, .s a4]] [] = (zaN [.one (.s a3)] []).bind fun val => bif zaa [.own .deep] val.1 && true then (za4 [.one (.s a4)] []).bind fun val_1 => bif zaa [.own .deep] val_1.1 && true then some ⟨[.v (.bool a0), .v (.int .i64 a1), .v (.string a2), .o .deep (val.1.getD 0 .d).es, .o .deep (val_1.1.getD 0 .d).es], []⟩ else none else none := by
 refine (zbZ.run _ _ (by kernel_rfl)).trans ?_
 delta zbZ zaN za4 XX
 generalize lpL (Y.ctx (lim' Y)) 36 = lp
 generalize lim' Y = call
 kernel_rfl
theorem zbN.e (a0:Bool) (a1:Int) (a2:BAy) (a3 a4:LLD) : zbN [.g [.v (.bool a0), .v (.int .i64 a1), .v (.string a2), .s a3, .s a4]] [] = (zcF [.g [.v (.bool a0), .v (.int .i64 a1), .v (.string a2), .s a3, .s a4]] []).bind fun val => bif zaa [.bool] val.1 && true then bif !(val.1.getD 0 .d).bool then some ⟨[.v (.bool false), .v (.int .i64 0), .v (.string (ByteArray.mk #[])), .o .deep [], .o .deep [], .o .deep [], .o .deep [], .o .deep [], .o .deep [], .v (.int .i64 0), .o .deep [], .o .deep [], .v (.bool false)], []⟩ else (zaB [.g [.v (.bool a0), .v (.int .i64 a1), .v (.string a2), .s a3, .s a4]] []).bind fun val => bif zaa [.bool, .int .i64, .str, .own .deep, .own .deep] val.1 && true then (zbu [.g [.v (.bool a0), .v (.int .i64 a1), .v (.string a2), .s a3, .s a4]] []).bind fun val_1 => bif zaa [.own .deep] val_1.1 && true then (zaC [.g [.v (.bool a0), .v (.int .i64 a1), .v (.string a2), .s a3, .s a4]] []).bind fun val_2 => bif zaa [.int .i64, .own .deep] val_2.1 && true then some ⟨[.v (.bool (val.1.getD 0 .d).bool), .v (.int .i64 (val.1.getD 1 .d).int), .v (.string (val.1.getD 2 .d).str), .o .deep (val.1.getD 3 .d).es, .o .deep (val.1.getD 4 .d).es, .o .deep (val_1.1.getD 0 .d).es, .o .deep [], .o .deep [], .o .deep [], .v (.int .i64 (val_2.1.getD 0 .d).int), .o .deep (val_2.1.getD 1 .d).es, .o .deep [], .v (.bool true)], []⟩ else none else none else none else none := by
 refine (zbN.run _ _ (by kernel_rfl)).trans ?_
 delta zbN zcF zaB zbu zaC XX
 generalize lpL (Y.ctx (lim' Y)) 37 = lp
 generalize lim' Y = call
 kernel_rfl
noncomputable def zbl.P7 (y0:Bool) (y1:Int) (y2:BAy) (y3 y4 y5 y6 y7 y8:LLD) (y9:Int) (y10 y11:LLD) (y12:Bool) (y13:Int) (y14:BAy) (y15 y16 y17 y18 y19 y20:LLD) (y21:Int) (y22 y23:LLD) : Option Res := evB XX 38 (lpL XX 38) 7 zbl.c (mkG 0 41 [(2, .one (.p true 2 [] 0)), (3, .one (.p true 3 [] 0))] [(2, some ⟨.box, [.v (.bool y0), .v (.int .i64 y1), .v (.string y2), .s y3, .s y4, .s y5, .s y6, .s y7, .s y8, .v (.int .i64 y9), .s y10, .s y11], [.deep, .deep, .deep, .sh, .sh, .sh, .sh, .sh, .sh, .deep, .sh, .sh]⟩), (3, some ⟨.box, [.v (.bool y12), .v (.int .i64 y13), .v (.string y14), .s y15, .s y16, .s y17, .s y18, .s y19, .s y20, .v (.int .i64 y21), .s y22, .s y23], [.deep, .deep, .deep, .sh, .sh, .sh, .sh, .sh, .sh, .deep, .sh, .sh]⟩)] GL) (outE XX 38 Tryz.f38)
theorem zbl.e (a0:Bool) (a1:Int) (a2:BAy) (a3 a4 a5 a6 a7 a8:LLD) (a9:Int) (a10 a11:LLD) (a12:Bool) (a13:Int) (a14:BAy) (a15 a16 a17 a18 a19 a20:LLD) (a21:Int) (a22 a23:LLD) : zbl [.g [.v (.bool a0), .v (.int .i64 a1), .v (.string a2), .s a3, .s a4, .s a5, .s a6, .s a7, .s a8, .v (.int .i64 a9), .s a10, .s a11], .g [.v (.bool a12), .v (.int .i64 a13), .v (.string a14), .s a15, .s a16, .s a17, .s a18, .s a19, .s a20, .v (.int .i64 a21), .s a22, .s a23]] [] = (zbz [.g [.v (.bool a0), .v (.int .i64 a1), .v (.string a2), .s a3, .s a4], .g [.v (.bool a12), .v (.int .i64 a13), .v (.string a14), .s a15, .s a16]] []).bind fun val => bif zaa [.bool] val.1 && true then bif !(val.1.getD 0 .d).bool then some ⟨[.v (.bool false)], []⟩ else (za7 [.one (.s a5), .one (.s a17)] []).bind fun val => bif zaa [.bool] val.1 && true then bif !(val.1.getD 0 .d).bool then some ⟨[.v (.bool false)], []⟩ else (zcg [.g [.s a6, .s a7], .g [.s a18, .s a19]] []).bind fun val => bif zaa [.bool] val.1 && true then bif !(val.1.getD 0 .d).bool then some ⟨[.v (.bool false)], []⟩ else zbl.P7 a0 a1 a2 a3 a4 a5 a6 a7 a8 a9 a10 a11 a12 a13 a14 a15 a16 a17 a18 a19 a20 a21 a22 a23 else none else none else none := by
 refine (zbl.run _ _ (by kernel_rfl)).trans ?_
 delta zbl zbz za7 zcg zbl.P7 XX
 refine zbw [7] (by kernel_rfl) fun J e1 => ?_
 try simp only [← e1]
 clear e1
 generalize lpL (Y.ctx (lim' Y)) 38 = lp
 generalize lim' Y = call
 kernel_rfl
theorem zbl.p7 (y0:Bool) (y1:Int) (y2:BAy) (y3 y4 y5 y6 y7 y8:LLD) (y9:Int) (y10 y11:LLD) (y12:Bool) (y13:Int) (y14:BAy) (y15 y16 y17 y18 y19 y20:LLD) (y21:Int) (y22 y23:LLD) : zbl.P7 y0 y1 y2 y3 y4 y5 y6 y7 y8 y9 y10 y11 y12 y13 y14 y15 y16 y17 y18 y19 y20 y21 y22 y23 = (za5 [.one (.s y8), .one (.s y20)] []).bind fun val => bif zaa [.bool] val.1 && true then bif !(val.1.getD 0 .d).bool then some ⟨[.v (.bool false)], []⟩ else (zcq [.g [.v (.int .i64 y9), .s y10], .g [.v (.int .i64 y21), .s y22]] []).bind fun val => bif zaa [.bool] val.1 && true then bif !(val.1.getD 0 .d).bool then some ⟨[.v (.bool false)], []⟩ else (zao [.one (.s y11), .one (.s y23)] []).bind fun val => bif zaa [.bool] val.1 && true then bif !(val.1.getD 0 .d).bool then some ⟨[.v (.bool false)], []⟩ else some ⟨[.v (.bool true)], []⟩ else none else none else none := by
 delta zbl.P7 za5 zcq zao XX
 refine zbj [7] 7 (by kernel_rfl) fun J e1 => ?_
 try simp only [← e1]
 clear e1
 generalize lpL (Y.ctx (lim' Y)) 38 = lp
 generalize lim' Y = call
 kernel_rfl
noncomputable def zbc.P5 (y0:Int) (y1:Bool) (y2:Int) (y3:BAy) (y4:Int) (y5 y6 y7 y8 y9 y10 y11 y12:LLD) : Option Res := evB XX 39 (lpL XX 39) 5 zbc.c (mkG 1 30 [(1, .one (.v (.int .i64 y0))), (2, .one (.bx [A0.v (.bool y1), A0.v (.int .i64 y2), A0.v (.string y3), A0.r 0 [] 0, A0.r 0 [] 1, A0.r 0 [] 2, A0.r 0 [] 3, A0.r 0 [] 4, A0.r 0 [] 5, A0.v (.int .i64 y4), A0.r 0 [] 6, A0.r 0 [] 7] 0))] [(0, some ⟨.virt, [.s y5, .s y6, .s y7, .s y8, .s y9, .s y10, .s y11, .s y12], [.deep, .deep, .deep, .deep, .deep, .deep, .deep, .deep]⟩)] GL) (outE XX 39 Tryz.f39)
theorem zbc.e (a0:Bool) (a1:Int) (a2:BAy) (a3 a4 a5 a6 a7 a8:LLD) (a9:Int) (a10 a11:LLD) (a12:Int) : zbc [.g [.v (.bool a0), .v (.int .i64 a1), .v (.string a2), .r 0 [] 0, .r 0 [] 1, .r 0 [] 2, .r 0 [] 3, .r 0 [] 4, .r 0 [] 5, .v (.int .i64 a9), .r 0 [] 6, .r 0 [] 7], .one (.v (.int .i64 a12))] [⟨.virt, [.s a3, .s a4, .s a5, .s a6, .s a7, .s a8, .s a10, .s a11], [.deep, .deep, .deep, .deep, .deep, .deep, .deep, .deep]⟩] = (zbM [.g [.v (.bool a0), .v (.int .i64 a1), .v (.string a2), .r 0 [] 0, .r 0 [] 1], .one (.v (.int .i64 a12))] [⟨.virt, [.s a3, .s a4], [.deep, .deep]⟩]).bind fun val => bif zaa [.int .i64] val.1 && zaV [⟨⟨.virt, [.s a3, .s a4], [.deep, .deep]⟩, .grp 0 [0, 1] false⟩] val.2 then (zaJ [.one (.r 0 [] 0), .one (.v (.int .i64 (val.1.getD 0 .d).int))] [⟨.virt, [.s a5], [.deep]⟩]).bind fun val_1 => bif zaa [.int .i64] val_1.1 && zaV [⟨⟨.virt, [.s a5], [.deep]⟩, .sl 0 [] 2⟩] val_1.2 then (zbG [.g [.r 0 [] 0, .r 0 [] 1], .one (.v (.int .i64 (val_1.1.getD 0 .d).int))] [⟨.virt, [.s a6, .s a7], [.deep, .deep]⟩]).bind fun val_2 => bif zaa [.int .i64] val_2.1 && zaV [⟨⟨.virt, [.s a6, .s a7], [.deep, .deep]⟩, .grp 0 [3, 4] false⟩] val_2.2 then (zaQ [.one (.r 0 [] 0), .one (.v (.int .i64 (val_2.1.getD 0 .d).int))] [⟨.virt, [.s a8], [.deep]⟩]).bind fun val_3 => bif zaa [.int .i64] val_3.1 && zaV [⟨⟨.virt, [.s a8], [.deep]⟩, .sl 0 [] 5⟩] val_3.2 then zbc.P5 (val_3.1.getD 0 .d).int a0 a1 a2 a9 ((val.2.getD 0 ⟨.ro, [], []⟩).2.getD 0 .h).es ((val.2.getD 0 ⟨.ro, [], []⟩).2.getD 1 .h).es ((val_1.2.getD 0 ⟨.ro, [], []⟩).2.getD 0 .h).es ((val_2.2.getD 0 ⟨.ro, [], []⟩).2.getD 0 .h).es ((val_2.2.getD 0 ⟨.ro, [], []⟩).2.getD 1 .h).es ((val_3.2.getD 0 ⟨.ro, [], []⟩).2.getD 0 .h).es a10 a11 else none else none else none else none := by
 refine (zbc.run _ _ (by kernel_rfl)).trans ?_
 delta zbc zbM zaJ zbG zaQ zbc.P5 XX
 refine zbw [5] (by kernel_rfl) fun J e1 => ?_
 try simp only [← e1]
 clear e1
 generalize lpL (Y.ctx (lim' Y)) 39 = lp
 generalize lim' Y = call
 kernel_rfl
theorem zbc.p5 (y0:Int) (y1:Bool) (y2:Int) (y3:BAy) (y4:Int) (y5 y6 y7 y8 y9 y10 y11 y12:LLD) : zbc.P5 y0 y1 y2 y3 y4 y5 y6 y7 y8 y9 y10 y11 y12 = (zbJ [.g [.v (.int .i64 y4), .r 0 [] 0], .one (.v (.int .i64 y0))] [⟨.virt, [.s y11], [.deep]⟩]).bind fun val => bif zaa [.int .i64] val.1 && zaV [⟨⟨.virt, [.s y11], [.deep]⟩, .sl 0 [] 6⟩] val.2 then (zaf [.one (.r 0 [] 0), .one (.v (.int .i64 (val.1.getD 0 .d).int))] [⟨.virt, [.s y12], [.deep]⟩]).bind fun val_1 => bif zaa [.int .i64] val_1.1 && zaV [⟨⟨.virt, [.s y12], [.deep]⟩, .sl 0 [] 7⟩] val_1.2 then some ⟨[.v (.int .i64 (val_1.1.getD 0 .d).int)], [⟨.virt, [.s y5, .s y6, .s y7, .s y8, .s y9, .s y10, .s ((val.2.getD 0 ⟨.ro, [], []⟩).2.getD 0 .h).es, .s ((val_1.2.getD 0 ⟨.ro, [], []⟩).2.getD 0 .h).es], [.deep, .deep, .deep, .deep, .deep, .deep, .deep, .deep]⟩]⟩ else none else none := by
 delta zbc.P5 zbJ zaf XX
 refine zbj [5] 5 (by kernel_rfl) fun J e1 => ?_
 try simp only [← e1]
 clear e1
 generalize lpL (Y.ctx (lim' Y)) 39 = lp
 generalize lim' Y = call
 kernel_rfl
noncomputable def zaY.P9 (y0:Int) (y1 y2:Bool) (y3:Int) (y4:BAy) (y5 y6 y7 y8 y9 y10:LLD) (y11:Int) (y12 y13:LLD) : Option Res := evB XX 40 (lpL XX 40) 9 zaY.c (mkG 0 42 [(1, .one (.v (.int .i64 y0))), (2, .one (.p true 2 [] 0)), (22, .one (.v (.bool y1)))] [(2, some ⟨.box, [.v (.bool y2), .v (.int .i64 y3), .v (.string y4), .s y5, .s y6, .s y7, .s y8, .s y9, .s y10, .v (.int .i64 y11), .s y12, .s y13], [.deep, .deep, .deep, .sh, .sh, .sh, .sh, .sh, .sh, .deep, .sh, .sh]⟩)] GL) (outE XX 40 Tryz.f40)
noncomputable def zaY.P18 (y0:Int) (y1:Bool) : Option Res := evB XX 40 (lpL XX 40) 18 zaY.c (mkG 0 42 [(1, .one (.v (.int .i64 y0))), (40, .one (.v (.bool y1)))] [] GL) (outE XX 40 Tryz.f40)
theorem zaY.e (a0:Bool) (a1:Int) (a2:BAy) (a3 a4 a5 a6 a7 a8:LLD) (a9:Int) (a10 a11:LLD) (a12:Int) : zaY [.g [.v (.bool a0), .v (.int .i64 a1), .v (.string a2), .s a3, .s a4, .s a5, .s a6, .s a7, .s a8, .v (.int .i64 a9), .s a10, .s a11], .one (.v (.int .i64 a12))] [] = (zb3 [.g [.v (.bool a0), .v (.int .i64 a1), .v (.string a2), .s a3, .s a4], .one (.v (.int .i64 a12))] []).bind fun val => bif zaa [.int .i64] val.1 && true then bif decide ((val.1.getD 0 .d).int < 0) then some ⟨[.v (.int .i64 (-1))], []⟩ else (zak [.one (.s a5), .one (.v (.int .i64 (val.1.getD 0 .d).int))] []).bind fun val => bif zaa [.int .i64] val.1 && true then bif decide ((val.1.getD 0 .d).int < 0) then some ⟨[.v (.int .i64 (-1))], []⟩ else (zbH [.g [.s a6, .s a7], .one (.v (.int .i64 (val.1.getD 0 .d).int))] []).bind fun val => bif zaa [.int .i64] val.1 && true then zaY.P9 (val.1.getD 0 .d).int (decide ((val.1.getD 0 .d).int < 0)) a0 a1 a2 a3 a4 a5 a6 a7 a8 a9 a10 a11 else none else none else none := by
 refine (zaY.run _ _ (by kernel_rfl)).trans ?_
 delta zaY zb3 zak zbH zaY.P9 XX
 refine zbw [9, 18] (by kernel_rfl) fun J e1 => ?_
 try simp only [← e1]
 clear e1
 generalize lpL (Y.ctx (lim' Y)) 40 = lp
 generalize lim' Y = call
 kernel_rfl
theorem zaY.p9 (y0:Int) (y1 y2:Bool) (y3:Int) (y4:BAy) (y5 y6 y7 y8 y9 y10:LLD) (y11:Int) (y12 y13:LLD) : zaY.P9 y0 y1 y2 y3 y4 y5 y6 y7 y8 y9 y10 y11 y12 y13 = bif y1 then some ⟨[.v (.int .i64 (-1))], []⟩ else (zaL [.one (.s y10), .one (.v (.int .i64 y0))] []).bind fun val => bif zaa [.int .i64] val.1 && true then bif decide ((val.1.getD 0 .d).int < 0) then some ⟨[.v (.int .i64 (-1))], []⟩ else (zbv [.g [.v (.int .i64 y11), .s y12], .one (.v (.int .i64 (val.1.getD 0 .d).int))] []).bind fun val => bif zaa [.int .i64] val.1 && true then bif decide ((val.1.getD 0 .d).int < 0) then some ⟨[.v (.int .i64 (-1))], []⟩ else (zad [.one (.s y13), .one (.v (.int .i64 (val.1.getD 0 .d).int))] []).bind fun val => bif zaa [.int .i64] val.1 && true then zaY.P18 (val.1.getD 0 .d).int (decide ((val.1.getD 0 .d).int < 0)) else none else none else none := by
 delta zaY.P9 zaL zbv zad zaY.P18 XX
 refine zbj [9, 18] 9 (by kernel_rfl) fun J e1 => ?_
 try simp only [← e1]
 clear e1
 generalize lpL (Y.ctx (lim' Y)) 40 = lp
 generalize lim' Y = call
 kernel_rfl
theorem zaY.p18 (y0:Int) (y1:Bool) : zaY.P18 y0 y1 = bif y1 then some ⟨[.v (.int .i64 (-1))], []⟩ else some ⟨[.v (.int .i64 y0)], []⟩ := by
 delta zaY.P18 XX
 refine zbj [9, 18] 18 (by kernel_rfl) fun J e1 => ?_
 try simp only [← e1]
 clear e1
 generalize lpL (Y.ctx (lim' Y)) 40 = lp
 generalize lim' Y = call
 kernel_rfl
theorem zcg.e (a0 a1 a2 a3:LLD) : zcg [.g [.s a0, .s a1], .g [.s a2, .s a3]] [] = (zax [.one (.s a0), .one (.s a2)] []).bind fun val => bif zaa [.bool] val.1 && true then bif !(val.1.getD 0 .d).bool then some ⟨[.v (.bool false)], []⟩ else (zaO [.one (.s a1), .one (.s a3)] []).bind fun val => bif zaa [.bool] val.1 && true then bif !(val.1.getD 0 .d).bool then some ⟨[.v (.bool false)], []⟩ else some ⟨[.v (.bool true)], []⟩ else none else none := by
 refine (zcg.run _ _ (by kernel_rfl)).trans ?_
 delta zcg zax zaO XX
 generalize lpL (Y.ctx (lim' Y)) 43 = lp
 generalize lim' Y = call
 kernel_rfl
theorem zbG.e (a0 a1:LLD) (a2:Int) : zbG [.g [.r 0 [] 0, .r 0 [] 1], .one (.v (.int .i64 a2))] [⟨.virt, [.s a0, .s a1], [.deep, .deep]⟩] = (zar [.one (.r 0 [] 0), .one (.v (.int .i64 a2))] [⟨.virt, [.s a0], [.deep]⟩]).bind fun val => bif zaa [.int .i64] val.1 && zaV [⟨⟨.virt, [.s a0], [.deep]⟩, .sl 0 [] 0⟩] val.2 then (zaE [.one (.r 0 [] 0), .one (.v (.int .i64 (val.1.getD 0 .d).int))] [⟨.virt, [.s a1], [.deep]⟩]).bind fun val_1 => bif zaa [.int .i64] val_1.1 && zaV [⟨⟨.virt, [.s a1], [.deep]⟩, .sl 0 [] 1⟩] val_1.2 then some ⟨[.v (.int .i64 (val_1.1.getD 0 .d).int)], [⟨.virt, [.s ((val.2.getD 0 ⟨.ro, [], []⟩).2.getD 0 .h).es, .s ((val_1.2.getD 0 ⟨.ro, [], []⟩).2.getD 0 .h).es], [.deep, .deep]⟩]⟩ else none else none := by
 refine (zbG.run _ _ (by kernel_rfl)).trans ?_
 delta zbG zar zaE XX
 generalize lpL (Y.ctx (lim' Y)) 44 = lp
 generalize lim' Y = call
 kernel_rfl
theorem zbH.e (a0 a1:LLD) (a2:Int) : zbH [.g [.s a0, .s a1], .one (.v (.int .i64 a2))] [] = (zal [.one (.s a0), .one (.v (.int .i64 a2))] []).bind fun val => bif zaa [.int .i64] val.1 && true then bif decide ((val.1.getD 0 .d).int < 0) then some ⟨[.v (.int .i64 (-1))], []⟩ else (zat [.one (.s a1), .one (.v (.int .i64 (val.1.getD 0 .d).int))] []).bind fun val => bif zaa [.int .i64] val.1 && true then bif decide ((val.1.getD 0 .d).int < 0) then some ⟨[.v (.int .i64 (-1))], []⟩ else some ⟨[.v (.int .i64 (val.1.getD 0 .d).int)], []⟩ else none else none := by
 refine (zbH.run _ _ (by kernel_rfl)).trans ?_
 delta zbH zal zat XX
 generalize lpL (Y.ctx (lim' Y)) 45 = lp
 generalize lim' Y = call
 kernel_rfl
noncomputable def zcv.P9 (y0:LLD) (y1:Bool) (y2:Int) (y3:BAy) (y4:Int) (y5:LLD) (y6:Bool) (y7:Int) (y8:BAy) (y9:Int) : Option Res := evB XX 65 (lpL XX 65) 9 zcv.c (mkG 0 31 [(2, .one (.p true 2 [] 0)), (3, .one (.p true 3 [] 0))] [(2, some ⟨.box, [.s y0, .v (.bool y1), .v (.int .i64 y2), .v (.string y3), .v (.int .i64 y4)], [.sh, .deep, .deep, .deep, .deep]⟩), (3, some ⟨.box, [.s y5, .v (.bool y6), .v (.int .i64 y7), .v (.string y8), .v (.int .i64 y9)], [.sh, .deep, .deep, .deep, .deep]⟩)] GL) (outE XX 65 Tryz.f65)
theorem zcv.e (a0:LLD) (a1:Bool) (a2:Int) (a3:BAy) (a4:Int) (a5:LLD) (a6:Bool) (a7:Int) (a8:BAy) (a9:Int) : zcv [.g [.s a0, .v (.bool a1), .v (.int .i64 a2), .v (.string a3), .v (.int .i64 a4)], .g [.s a5, .v (.bool a6), .v (.int .i64 a7), .v (.string a8), .v (.int .i64 a9)]] [] = (zao [.one (.s a0), .one (.s a5)] []).bind fun val => bif zaa [.bool] val.1 && true then bif !(val.1.getD 0 .d).bool then some ⟨[.v (.bool false)], []⟩ else bif !a1 == a6 then some ⟨[.v (.bool false)], []⟩ else bif a2 != a7 then some ⟨[.v (.bool false)], []⟩ else bif !a3.toList == a8.toList then some ⟨[.v (.bool false)], []⟩ else zcv.P9 a0 a1 a2 a3 a4 a5 a6 a7 a8 a9 else none := by
 refine (zcv.run _ _ (by kernel_rfl)).trans ?_
 delta zcv zao zcv.P9 XX
 refine zbw [9] (by kernel_rfl) fun J e1 => ?_
 try simp only [← e1]
 clear e1
 generalize lpL (Y.ctx (lim' Y)) 65 = lp
 generalize lim' Y = call
 kernel_rfl
theorem zcv.p9 (y0:LLD) (y1:Bool) (y2:Int) (y3:BAy) (y4:Int) (y5:LLD) (y6:Bool) (y7:Int) (y8:BAy) (y9:Int) : zcv.P9 y0 y1 y2 y3 y4 y5 y6 y7 y8 y9 = bif y4 != y9 then some ⟨[.v (.bool false)], []⟩ else some ⟨[.v (.bool true)], []⟩ := by
 delta zcv.P9 XX
 refine zbj [9] 9 (by kernel_rfl) fun J e1 => ?_
 try simp only [← e1]
 clear e1
 generalize lpL (Y.ctx (lim' Y)) 65 = lp
 generalize lim' Y = call
 kernel_rfl
theorem zbI.e (a0:Bool) (a1:Int) (a2:BAy) (a3 a4:LLD) : zbI [.g [.v (.bool a0), .v (.int .i64 a1), .v (.string a2), .s a3, .s a4]] [] = (zcl [.g [.v (.bool a0), .v (.int .i64 a1), .v (.string a2), .s a3, .s a4]] []).bind fun val => bif zaa [.bool] val.1 && true then bif !(val.1.getD 0 .d).bool then some ⟨[.o .deep []], []⟩ else (za1 [.one (.s []), .g [.v (.bool a0), .v (.int .i64 a1), .v (.string a2), .s a3, .s a4]] []).bind fun val => bif zaa [.own .deep] val.1 && true then some ⟨[.o .deep (val.1.getD 0 .d).es], []⟩ else none else none := by
 refine (zbI.run _ _ (by kernel_rfl)).trans ?_
 delta zbI zcl za1 XX
 generalize lpL (Y.ctx (lim' Y)) 70 = lp
 generalize lim' Y = call
 kernel_rfl
noncomputable def za9.L3 (y0:Int) (y1:Bool) (y2:Int) (y3:BAy) (y4 y5:LLD) (y6:Bool) (y7:Int) (y8:BAy) (y9 y10:LLD) (y11:Bool) (y12:Int) (y13:BAy) (y14 y15:LLD) : Option (Ex × St) := lpL XX 72 (zaq 3 za9.c) (mkG 0 35 [(1, .one (.p true 1 [] 0)), (2, .one (.p true 2 [] 0)), (3, .one (.p true 3 [] 0)), (4, .one (.v (.int .i64 y0)))] [(1, some ⟨.box, [.v (.bool y1), .v (.int .i64 y2), .v (.string y3), .s y4, .s y5], [.deep, .deep, .deep, .sh, .sh]⟩), (2, some ⟨.box, [.v (.bool y6), .v (.int .i64 y7), .v (.string y8), .s y9, .s y10], [.deep, .deep, .deep, .deep, .deep]⟩), (3, some ⟨.box, [.v (.bool y11), .v (.int .i64 y12), .v (.string y13), .s y14, .s y15], [.deep, .deep, .deep, .deep, .deep]⟩)] GL)
noncomputable def za9.A3 : Ex × St → Option Res := fun r => evA XX 72 (lpL XX 72) 3 za9.c r.fst r.snd (outE XX 72 Tryz.f72)
noncomputable def za9.x3 (y0:Bool) (y1:Int) (y2:BAy) (y3 y4:LLD) (y5:Bool) (y6:Int) (y7:BAy) (y8 y9:LLD) : Ex × St := (Ex.exit 0, mkG 0 35 [(2, .one (.p true 2 [] 0)), (3, .one (.p true 3 [] 0))] [(2, some ⟨.box, [.v (.bool y0), .v (.int .i64 y1), .v (.string y2), .s y3, .s y4], [.deep, .deep, .deep, .deep, .deep]⟩), (3, some ⟨.box, [.v (.bool y5), .v (.int .i64 y6), .v (.string y7), .s y8, .s y9], [.deep, .deep, .deep, .deep, .deep]⟩)] GL)
theorem za9.e (a0:Bool) (a1:Int) (a2:BAy) (a3 a4:LLD) : za9 [.g [.v (.bool a0), .v (.int .i64 a1), .v (.string a2), .s a3, .s a4]] [] = bif zaF 1 a3 && zaT false a3 && true && decide ((0 + a3.length) * 17 ≤ 70368744177664) then (za9.L3 0 a0 a1 a2 a3 a4 false 0 (ByteArray.mk #[]) [] [] a0 a1 a2 a3 []).bind za9.A3 else none := by
 refine (za9.run _ _ (by kernel_rfl)).trans ?_
 delta za9 za9.L3 za9.A3 XX
 generalize lpL (Y.ctx (lim' Y)) 72 = lp
 generalize lim' Y = call
 kernel_rfl
theorem za9.s3 (y0:Int) (y1:Bool) (y2:Int) (y3:BAy) (y4 y5:LLD) (y6:Bool) (y7:Int) (y8:BAy) (y9 y10:LLD) (y11:Bool) (y12:Int) (y13:BAy) (y14 y15:LLD) : za9.L3 y0 y1 y2 y3 y4 y5 y6 y7 y8 y9 y10 y11 y12 y13 y14 y15 = bif decide (y0 < (↑y5.length : Int)) then bif decide (0 ≤ y0) && decide (y0 < (↑y5.length : Int)) && decide ((y5.getD y0.toNat []).length = 5) then bif zas [.bool, .int .i64, .str, .sl, .sl] (y5.getD y0.toNat []) 0 && decide (5 ≤ (y5.getD y0.toNat []).length) then (za9 [.g [.v (.bool ((y5.getD y0.toNat []).getD 0 .h).bool), .v (.int .i64 ((y5.getD y0.toNat []).getD 1 .h).int), .v (.string ((y5.getD y0.toNat []).getD 2 .h).str), .s ((y5.getD y0.toNat []).getD 3 .h).es, .s ((y5.getD y0.toNat []).getD 4 .h).es]] []).bind fun val => bif zaa [.bool, .int .i64, .str, .own .deep, .own .deep] val.1 && true then bif zaF 5 y15 && true && true && true && decide ((y15.length + 1) * 81 ≤ 70368744177664) then za9.L3 (IntKind.i64.wrap (y0 + 1)) y1 y2 y3 y4 y5 y6 y7 y8 y9 y10 y11 y12 y13 y14 (y15 ++ [[.v (.bool (val.1.getD 0 .d).bool), .v (.int .i64 (val.1.getD 1 .d).int), .v (.string (val.1.getD 2 .d).str), .s (val.1.getD 3 .d).es, .s (val.1.getD 4 .d).es]]) else none else none else none else none else some (za9.x3 y6 y7 y8 y9 y10 y11 y12 y13 y14 y15) := by
 refine (zbd (Y := Y) (c := lim' Y) (fn := 72) (rid := 3) (b := zaq 3 za9.c) (by kernel_rfl) _).trans ?_
 delta za9.L3 za9 za9.x3 XX
 generalize lpL (Y.ctx (lim' Y)) 72 = lp
 generalize lim' Y = call
 kernel_rfl
theorem za9.a3x3 (y0:Bool) (y1:Int) (y2:BAy) (y3 y4:LLD) (y5:Bool) (y6:Int) (y7:BAy) (y8 y9:LLD) : za9.A3 (za9.x3 y0 y1 y2 y3 y4 y5 y6 y7 y8 y9) = some ⟨[.v (.bool y5), .v (.int .i64 y6), .v (.string y7), .o .deep y8, .o .deep y9], []⟩ := by
 delta za9.A3 za9.x3 XX
 generalize lpL (Y.ctx (lim' Y)) 72 = lp
 generalize lim' Y = call
 kernel_rfl
theorem zcE.e (a0 a1 a2:Int) : zcE [.one (.v (.int .i64 a0)), .one (.v (.int .i64 a1)), .one (.v (.int .i64 a2))] [] = bif decide (a0 ≥ a1) then some ⟨[.v (.bool (decide (a0 ≤ a2)))], []⟩ else some ⟨[.v (.bool false)], []⟩ := by
 refine (zcE.run _ _ (by kernel_rfl)).trans ?_
 delta zcE XX
 generalize lpL (Y.ctx (lim' Y)) 73 = lp
 generalize lim' Y = call
 kernel_rfl
theorem zcF.e (a0:Bool) (a1:Int) (a2:BAy) (a3 a4:LLD) : zcF [.g [.v (.bool a0), .v (.int .i64 a1), .v (.string a2), .s a3, .s a4]] [] = bif a0 then (zac [.g [.v (.bool a0), .v (.int .i64 a1), .v (.string a2), .s a3, .s a4], .one (.v (.int .i64 0))] []).bind fun val => bif zaa [.bool] val.1 && true then bif (val.1.getD 0 .d).bool then (zaz [.g [.v (.bool a0), .v (.int .i64 a1), .v (.string a2), .s a3, .s a4]] []).bind fun val => bif zaa [.int .i64] val.1 && true then some ⟨[.v (.bool (decide ((val.1.getD 0 .d).int ≤ 31)))], []⟩ else none else some ⟨[.v (.bool false)], []⟩ else none else some ⟨[.v (.bool false)], []⟩ := by
 refine (zcF.run _ _ (by kernel_rfl)).trans ?_
 delta zcF zac zaz XX
 generalize lpL (Y.ctx (lim' Y)) 76 = lp
 generalize lim' Y = call
 kernel_rfl
theorem zbu.e (a0:Bool) (a1:Int) (a2:BAy) (a3 a4:LLD) : zbu [.g [.v (.bool a0), .v (.int .i64 a1), .v (.string a2), .s a3, .s a4]] [] = (zaK [.g [.v (.bool a0), .v (.int .i64 a1), .v (.string a2), .s a3, .s a4], .one (.s []), .f zaW.id [.p true 0 [] 0]] [⟨.box, [.s []], [.deep]⟩]).bind fun val => bif zaa [] val.1 && zaV [⟨⟨.box, [.s []], [.deep]⟩, .box 3⟩] val.2 then some ⟨[.o .deep ((val.2.getD 0 ⟨.ro, [], []⟩).2.getD 0 .h).es], []⟩ else none := by
 refine (zbu.run _ _ (by kernel_rfl)).trans ?_
 delta zbu zaK zaW.id XX
 generalize lpL (Y.ctx (lim' Y)) 78 = lp
 generalize lim' Y = call
 kernel_rfl
noncomputable def zaB.L3 (y0:LLD) (y1 y2:Int) (y3:Bool) (y4:Int) (y5:BAy) (y6 y7:LLD) (y8:Bool) (y9:Int) (y10:BAy) (y11 y12 y13:LLD) : Option (Ex × St) := lpL XX 80 (zaq 3 zaB.c) (mkG 0 28 [(1, .one (.p true 1 [] 0)), (2, .one (.p true 2 [] 0)), (3, .one (.r 3 [] 0)), (8, .one (.s y0)), (9, .one (.v (.int .i64 y1))), (10, .one (.v (.int .i64 y2)))] [(1, some ⟨.box, [.v (.bool y3), .v (.int .i64 y4), .v (.string y5), .s y6, .s y7], [.deep, .deep, .deep, .sh, .sh]⟩), (2, some ⟨.box, [.v (.bool y8), .v (.int .i64 y9), .v (.string y10), .s y11, .s y12], [.deep, .deep, .deep, .deep, .deep]⟩), (3, some ⟨.virt, [.s y13], [.deep]⟩)] GL)
noncomputable def zaB.A3 : Ex × St → Option Res := fun r => evA XX 80 (lpL XX 80) 3 zaB.c r.fst r.snd (outE XX 80 Tryz.f80)
noncomputable def zaB.x3 (y0:Bool) (y1:Int) (y2:BAy) (y3 y4:LLD) (y5:Bool) (y6:Int) (y7:BAy) (y8 y9 y10:LLD) : Ex × St := (Ex.exit 0, mkG 0 28 [(1, .one (.p true 1 [] 0)), (2, .one (.p true 2 [] 0)), (3, .one (.r 3 [] 0))] [(1, some ⟨.box, [.v (.bool y0), .v (.int .i64 y1), .v (.string y2), .s y3, .s y4], [.deep, .deep, .deep, .sh, .sh]⟩), (2, some ⟨.box, [.v (.bool y5), .v (.int .i64 y6), .v (.string y7), .s y8, .s y9], [.deep, .deep, .deep, .deep, .deep]⟩), (3, some ⟨.virt, [.s y10], [.deep]⟩)] GL)
theorem zaB.e (a0:Bool) (a1:Int) (a2:BAy) (a3 a4:LLD) : zaB [.g [.v (.bool a0), .v (.int .i64 a1), .v (.string a2), .s a3, .s a4]] [] = (zaB.L3 a4 (↑a4.length : Int) 0 a0 a1 a2 a3 a4 false 0 (ByteArray.mk #[]) [] [] []).bind zaB.A3 := by
 refine (zaB.run _ _ (by kernel_rfl)).trans ?_
 delta zaB zaB.L3 zaB.A3 XX
 generalize lpL (Y.ctx (lim' Y)) 80 = lp
 generalize lim' Y = call
 kernel_rfl
theorem zaB.s3 (y0:LLD) (y1 y2:Int) (y3:Bool) (y4:Int) (y5:BAy) (y6 y7:LLD) (y8:Bool) (y9:Int) (y10:BAy) (y11 y12 y13:LLD) : zaB.L3 y0 y1 y2 y3 y4 y5 y6 y7 y8 y9 y10 y11 y12 y13 = bif decide (y2 < y1) then bif decide (0 ≤ y2) && decide (y2 < (↑y0.length : Int)) && decide ((y0.getD y2.toNat []).length = 5) then bif zas [.bool, .int .i64, .str, .sl, .sl] (y0.getD y2.toNat []) 0 && decide (5 ≤ (y0.getD y2.toNat []).length) then (zaB [.g [.v (.bool ((y0.getD y2.toNat []).getD 0 .h).bool), .v (.int .i64 ((y0.getD y2.toNat []).getD 1 .h).int), .v (.string ((y0.getD y2.toNat []).getD 2 .h).str), .s ((y0.getD y2.toNat []).getD 3 .h).es, .s ((y0.getD y2.toNat []).getD 4 .h).es]] []).bind fun val => bif zaa [.bool, .int .i64, .str, .own .deep, .own .deep] val.1 && true then bif zaF 5 y13 && true && true && true && decide ((y13.length + 1) * 81 ≤ 70368744177664) then zaB.L3 y0 y1 (IntKind.i64.wrap (y2 + 1)) y3 y4 y5 y6 y7 y8 y9 y10 y11 y12 (y13 ++ [[.v (.bool (val.1.getD 0 .d).bool), .v (.int .i64 (val.1.getD 1 .d).int), .v (.string (val.1.getD 2 .d).str), .s (val.1.getD 3 .d).es, .s (val.1.getD 4 .d).es]]) else none else none else none else none else some (zaB.x3 y3 y4 y5 y6 y7 y8 y9 y10 y11 y12 y13) := by
 refine (zbd (Y := Y) (c := lim' Y) (fn := 80) (rid := 3) (b := zaq 3 zaB.c) (by kernel_rfl) _).trans ?_
 delta zaB.L3 zaB zaB.x3 XX
 generalize lpL (Y.ctx (lim' Y)) 80 = lp
 generalize lim' Y = call
 kernel_rfl
theorem zaB.a3x3 (y0:Bool) (y1:Int) (y2:BAy) (y3 y4:LLD) (y5:Bool) (y6:Int) (y7:BAy) (y8 y9 y10:LLD) : zaB.A3 (zaB.x3 y0 y1 y2 y3 y4 y5 y6 y7 y8 y9 y10) = bif zaF 1 y3 && zaT false y3 && true && decide ((0 + y3.length) * 17 ≤ 70368744177664) then some ⟨[.v (.bool y0), .v (.int .i64 y1), .v (.string y2), .o .deep y3, .o .deep y10], []⟩ else none := by
 delta zaB.A3 zaB.x3 XX
 generalize lpL (Y.ctx (lim' Y)) 80 = lp
 generalize lim' Y = call
 kernel_rfl
noncomputable def zaZ.L4 (y0 y1:LLD) (y2:Int) : Option (Ex × St) := lpL XX 81 (zaq 4 zaZ.c) (mkG 0 27 [(0, .one (.s y0)), (1, .one (.s y1)), (5, .one (.v (.int .i64 y2)))] [] GL)
noncomputable def zaZ.A4 : Ex × St → Option Res := fun r => evA XX 81 (lpL XX 81) 4 zaZ.c r.fst r.snd (outE XX 81 Tryz.f81)
noncomputable def zaZ.q4 (y0:Bool) : Ex × St := (Ex.ret, mkG 0 27 [(4, .one (.v (.bool y0)))] [] GL)
noncomputable def zaZ.x4 : Ex × St := (Ex.exit 0, mkG 0 27 [] [] GL)
theorem zaZ.e (a0 a1:LLD) : zaZ [.one (.s a0), .one (.s a1)] [] = bif (↑a0.length : Int) != (↑a1.length : Int) then some ⟨[.v (.bool false)], []⟩ else (zaZ.L4 a0 a1 0).bind zaZ.A4 := by
 refine (zaZ.run _ _ (by kernel_rfl)).trans ?_
 delta zaZ zaZ.L4 zaZ.A4 XX
 generalize lpL (Y.ctx (lim' Y)) 81 = lp
 generalize lim' Y = call
 kernel_rfl
theorem zaZ.s4 (y0 y1:LLD) (y2:Int) : zaZ.L4 y0 y1 y2 = bif decide (y2 < (↑y0.length : Int)) then bif decide (0 ≤ y2) && decide (y2 < (↑y0.length : Int)) && decide ((y0.getD y2.toNat []).length = 5) then bif zas [.bool, .int .i64, .str, .sl, .sl] (y0.getD y2.toNat []) 0 && decide (5 ≤ (y0.getD y2.toNat []).length) then bif decide (0 ≤ y2) && decide (y2 < (↑y1.length : Int)) && decide ((y1.getD y2.toNat []).length = 5) then bif zas [.bool, .int .i64, .str, .sl, .sl] (y1.getD y2.toNat []) 0 && decide (5 ≤ (y1.getD y2.toNat []).length) then (zbz [.g [.v (.bool ((y0.getD y2.toNat []).getD 0 .h).bool), .v (.int .i64 ((y0.getD y2.toNat []).getD 1 .h).int), .v (.string ((y0.getD y2.toNat []).getD 2 .h).str), .s ((y0.getD y2.toNat []).getD 3 .h).es, .s ((y0.getD y2.toNat []).getD 4 .h).es], .g [.v (.bool ((y1.getD y2.toNat []).getD 0 .h).bool), .v (.int .i64 ((y1.getD y2.toNat []).getD 1 .h).int), .v (.string ((y1.getD y2.toNat []).getD 2 .h).str), .s ((y1.getD y2.toNat []).getD 3 .h).es, .s ((y1.getD y2.toNat []).getD 4 .h).es]] []).bind fun val => bif zaa [.bool] val.1 && true then bif !(val.1.getD 0 .d).bool then some (zaZ.q4 false) else zaZ.L4 y0 y1 (IntKind.i64.wrap (y2 + 1)) else none else none else none else none else none else some zaZ.x4 := by
 refine (zbd (Y := Y) (c := lim' Y) (fn := 81) (rid := 4) (b := zaq 4 zaZ.c) (by kernel_rfl) _).trans ?_
 delta zaZ.L4 zbz zaZ.q4 zaZ.x4 XX
 generalize lpL (Y.ctx (lim' Y)) 81 = lp
 generalize lim' Y = call
 kernel_rfl
theorem zaZ.a4x4 : zaZ.A4 zaZ.x4 = some ⟨[.v (.bool true)], []⟩ := by
 delta zaZ.A4 zaZ.x4 XX
 generalize lpL (Y.ctx (lim' Y)) 81 = lp
 generalize lim' Y = call
 kernel_rfl
noncomputable def zaD.L4 (y0:Int) (y1:BAy) : Option (Ex × St) := lpL XX 82 (zaq 4 zaD.c) (mkG 0 20 [(0, .one (.v (.int .i64 y0))), (3, .one (.v (.string y1)))] [] GL)
noncomputable def zaD.A4 : Ex × St → Option Res := fun r => evA XX 82 (lpL XX 82) 4 zaD.c r.fst r.snd (outE XX 82 Tryz.f82)
noncomputable def zaD.x4 (y0:BAy) : Ex × St := (Ex.exit 0, mkG 0 20 [(3, .one (.v (.string y0)))] [] GL)
theorem zaD.e (a0:Int) : zaD [.one (.v (.int .i64 a0))] [] = bif decide (a0 ≤ 0) then some ⟨[.v (.string (ByteArray.mk #[109, 48]))], []⟩ else (zaD.L4 a0 (ByteArray.mk #[])).bind zaD.A4 := by
 refine (zaD.run _ _ (by kernel_rfl)).trans ?_
 delta zaD zaD.L4 zaD.A4 XX
 generalize lpL (Y.ctx (lim' Y)) 82 = lp
 generalize lim' Y = call
 kernel_rfl
theorem zaD.s4 (y0:Int) (y1:BAy) : zaD.L4 y0 y1 = bif decide (y0 > 0) then bif decide (1 + y1.size ≤ 70368744177664) then zaD.L4 (IntKind.i64.wrap (y0.tdiv 10)) (strOf [[.v (.int .u8 (IntKind.u8.wrap (IntKind.i64.wrap (48 + y0.tmod 10))))]] ++ y1) else none else some (zaD.x4 y1) := by
 refine (zbd (Y := Y) (c := lim' Y) (fn := 82) (rid := 4) (b := zaq 4 zaD.c) (by kernel_rfl) _).trans ?_
 delta zaD.L4 zaD.x4 XX
 generalize lpL (Y.ctx (lim' Y)) 82 = lp
 generalize lim' Y = call
 kernel_rfl
theorem zaD.a4x4 (y0:BAy) : zaD.A4 (zaD.x4 y0) = bif decide (1 + y0.size ≤ 70368744177664) then some ⟨[.v (.string ((ByteArray.mk #[109]) ++ y0))], []⟩ else none := by
 delta zaD.A4 zaD.x4 XX
 generalize lpL (Y.ctx (lim' Y)) 82 = lp
 generalize lim' Y = call
 kernel_rfl
noncomputable def zap.L2 (y0 y1:Int) (y2:LLD) : Option (Ex × St) := lpL XX 83 (zaq 2 zap.c) (mkG 1 51 [(0, .one (.r 0 [] 0)), (1, .one (.v (.int .i64 y0))), (5, .one (.v (.int .i64 y1)))] [(0, some ⟨.virt, [.s y2], [.deep]⟩)] GL)
noncomputable def zap.A2 : Ex × St → Option Res := fun r => evA XX 83 (lpL XX 83) 2 zap.c r.fst r.snd (outE XX 83 Tryz.f83)
noncomputable def zap.P9 (y0 y1:Int) (y2:LLD) : Option (Ex × St) := evB XX 83 (lpL XX 83) 9 (zaq 2 zap.c) (mkG 1 51 [(0, .one (.r 0 [] 0)), (1, .one (.v (.int .i64 y0))), (5, .one (.v (.int .i64 y1)))] [(0, some ⟨.virt, [.s y2], [.deep]⟩)] GL) (backL (lpL XX 83) (zaq 2 zap.c) (XX.live 83 2))
noncomputable def zap.x2 (y0:Int) (y1:LLD) : Ex × St := (Ex.exit 0, mkG 1 51 [(1, .one (.v (.int .i64 y0)))] [(0, some ⟨.virt, [.s y1], [.deep]⟩)] GL)
theorem zap.e (a0:LLD) (a1:Int) : zap [.one (.r 0 [] 0), .one (.v (.int .i64 a1))] [⟨.virt, [.s a0], [.deep]⟩] = (zap.L2 a1 0 a0).bind zap.A2 := by
 refine (zap.run _ _ (by kernel_rfl)).trans ?_
 delta zap zap.L2 zap.A2 XX
 generalize lpL (Y.ctx (lim' Y)) 83 = lp
 generalize lim' Y = call
 kernel_rfl
theorem zap.s2 (y0 y1:Int) (y2:LLD) : zap.L2 y0 y1 y2 = bif decide (y1 < (↑y2.length : Int)) then bif decide (0 ≤ y1) && decide (y1 < (↑y2.length : Int)) && decide ((y2.getD y1.toNat []).length = 5) then bif decide (1 ≤ (y2.getD y1.toNat []).length) && true then bif decide (0 ≤ y1) && decide (y1 < (↑(y2.set y1.toNat (.v (.bool (y0.tmod 3 == 0)) :: List.drop 1 (y2.getD y1.toNat []))).length : Int)) && decide (((y2.set y1.toNat (.v (.bool (y0.tmod 3 == 0)) :: List.drop 1 (y2.getD y1.toNat []))).getD y1.toNat []).length = 5) then bif decide (2 ≤ ((y2.set y1.toNat (.v (.bool (y0.tmod 3 == 0)) :: List.drop 1 (y2.getD y1.toNat []))).getD y1.toNat []).length) && true then (zaD [.one (.v (.int .i64 (IntKind.i64.wrap (IntKind.i64.wrap (y0 + 1) + 1))))] []).bind fun val => bif zaa [.str] val.1 && true then bif decide (0 ≤ y1) && decide (y1 < (↑((y2.set y1.toNat (.v (.bool (y0.tmod 3 == 0)) :: List.drop 1 (y2.getD y1.toNat []))).set y1.toNat (List.take 1 ((y2.set y1.toNat (.v (.bool (y0.tmod 3 == 0)) :: List.drop 1 (y2.getD y1.toNat []))).getD y1.toNat []) ++ [.v (.int .i64 (IntKind.i64.wrap (y0 + 1)))] ++ List.drop 2 ((y2.set y1.toNat (.v (.bool (y0.tmod 3 == 0)) :: List.drop 1 (y2.getD y1.toNat []))).getD y1.toNat []))).length : Int)) && decide ((((y2.set y1.toNat (.v (.bool (y0.tmod 3 == 0)) :: List.drop 1 (y2.getD y1.toNat []))).set y1.toNat (List.take 1 ((y2.set y1.toNat (.v (.bool (y0.tmod 3 == 0)) :: List.drop 1 (y2.getD y1.toNat []))).getD y1.toNat []) ++ [.v (.int .i64 (IntKind.i64.wrap (y0 + 1)))] ++ List.drop 2 ((y2.set y1.toNat (.v (.bool (y0.tmod 3 == 0)) :: List.drop 1 (y2.getD y1.toNat []))).getD y1.toNat []))).getD y1.toNat []).length = 5) then bif decide (3 ≤ (((y2.set y1.toNat (.v (.bool (y0.tmod 3 == 0)) :: List.drop 1 (y2.getD y1.toNat []))).set y1.toNat (List.take 1 ((y2.set y1.toNat (.v (.bool (y0.tmod 3 == 0)) :: List.drop 1 (y2.getD y1.toNat []))).getD y1.toNat []) ++ [.v (.int .i64 (IntKind.i64.wrap (y0 + 1)))] ++ List.drop 2 ((y2.set y1.toNat (.v (.bool (y0.tmod 3 == 0)) :: List.drop 1 (y2.getD y1.toNat []))).getD y1.toNat []))).getD y1.toNat []).length) && true then zap.P9 (IntKind.i64.wrap (IntKind.i64.wrap (y0 + 1) + 1)) y1 (((y2.set y1.toNat (.v (.bool (y0.tmod 3 == 0)) :: List.drop 1 (y2.getD y1.toNat []))).set y1.toNat (List.take 1 ((y2.set y1.toNat (.v (.bool (y0.tmod 3 == 0)) :: List.drop 1 (y2.getD y1.toNat []))).getD y1.toNat []) ++ [.v (.int .i64 (IntKind.i64.wrap (y0 + 1)))] ++ List.drop 2 ((y2.set y1.toNat (.v (.bool (y0.tmod 3 == 0)) :: List.drop 1 (y2.getD y1.toNat []))).getD y1.toNat []))).set y1.toNat (List.take 2 (((y2.set y1.toNat (.v (.bool (y0.tmod 3 == 0)) :: List.drop 1 (y2.getD y1.toNat []))).set y1.toNat (List.take 1 ((y2.set y1.toNat (.v (.bool (y0.tmod 3 == 0)) :: List.drop 1 (y2.getD y1.toNat []))).getD y1.toNat []) ++ [.v (.int .i64 (IntKind.i64.wrap (y0 + 1)))] ++ List.drop 2 ((y2.set y1.toNat (.v (.bool (y0.tmod 3 == 0)) :: List.drop 1 (y2.getD y1.toNat []))).getD y1.toNat []))).getD y1.toNat []) ++ [.v (.string (val.1.getD 0 .d).str)] ++ List.drop 3 (((y2.set y1.toNat (.v (.bool (y0.tmod 3 == 0)) :: List.drop 1 (y2.getD y1.toNat []))).set y1.toNat (List.take 1 ((y2.set y1.toNat (.v (.bool (y0.tmod 3 == 0)) :: List.drop 1 (y2.getD y1.toNat []))).getD y1.toNat []) ++ [.v (.int .i64 (IntKind.i64.wrap (y0 + 1)))] ++ List.drop 2 ((y2.set y1.toNat (.v (.bool (y0.tmod 3 == 0)) :: List.drop 1 (y2.getD y1.toNat []))).getD y1.toNat []))).getD y1.toNat []))) else none else none else none else none else none else none else none else some (zap.x2 y0 y2) := by
 refine (zbd (Y := Y) (c := lim' Y) (fn := 83) (rid := 2) (b := zaq 2 zap.c) (by kernel_rfl) _).trans ?_
 delta zap.L2 zaD zap.P9 zap.x2 XX
 refine zbw [9] (by kernel_rfl) fun J e1 => ?_
 try simp only [← e1]
 clear e1
 generalize lpL (Y.ctx (lim' Y)) 83 = lp
 generalize lim' Y = call
 kernel_rfl
theorem zap.p9 (y0 y1:Int) (y2:LLD) : zap.P9 y0 y1 y2 = bif decide (0 ≤ y1) && decide (y1 < (↑y2.length : Int)) && decide ((y2.getD y1.toNat []).length = 5) then bif zas [.sl] (y2.getD y1.toNat []) 3 && decide (4 ≤ (y2.getD y1.toNat []).length) then (zaf [.one (.r 0 [] 0), .one (.v (.int .i64 (IntKind.i64.wrap (y0 + 1))))] [⟨.virt, [.s ((y2.getD y1.toNat []).getD 3 .h).es], [.deep]⟩]).bind fun val => bif zaa [.int .i64] val.1 && zaV [⟨⟨.virt, [.s ((y2.getD y1.toNat []).getD 3 .h).es], [.deep]⟩, .sl 0 [(0, y1.toNat)] 3⟩] val.2 then bif decide (0 ≤ y1) && decide (y1 < (↑(y2.set y1.toNat ((y2.getD y1.toNat []).set 3 (.s ((val.2.getD 0 ⟨.ro, [], []⟩).2.getD 0 .h).es))).length : Int)) && decide (((y2.set y1.toNat ((y2.getD y1.toNat []).set 3 (.s ((val.2.getD 0 ⟨.ro, [], []⟩).2.getD 0 .h).es))).getD y1.toNat []).length = 5) then bif zas [.sl] ((y2.set y1.toNat ((y2.getD y1.toNat []).set 3 (.s ((val.2.getD 0 ⟨.ro, [], []⟩).2.getD 0 .h).es))).getD y1.toNat []) 4 && decide (5 ≤ ((y2.set y1.toNat ((y2.getD y1.toNat []).set 3 (.s ((val.2.getD 0 ⟨.ro, [], []⟩).2.getD 0 .h).es))).getD y1.toNat []).length) then (zap [.one (.r 0 [] 0), .one (.v (.int .i64 (val.1.getD 0 .d).int))] [⟨.virt, [.s (((y2.set y1.toNat ((y2.getD y1.toNat []).set 3 (.s ((val.2.getD 0 ⟨.ro, [], []⟩).2.getD 0 .h).es))).getD y1.toNat []).getD 4 .h).es], [.deep]⟩]).bind fun val_1 => bif zaa [.int .i64] val_1.1 && zaV [⟨⟨.virt, [.s (((y2.set y1.toNat ((y2.getD y1.toNat []).set 3 (.s ((val.2.getD 0 ⟨.ro, [], []⟩).2.getD 0 .h).es))).getD y1.toNat []).getD 4 .h).es], [.deep]⟩, .sl 0 [(0, y1.toNat)] 4⟩] val_1.2 then zap.L2 (val_1.1.getD 0 .d).int (IntKind.i64.wrap (y1 + 1)) ((y2.set y1.toNat ((y2.getD y1.toNat []).set 3 (.s ((val.2.getD 0 ⟨.ro, [], []⟩).2.getD 0 .h).es))).set y1.toNat (((y2.set y1.toNat ((y2.getD y1.toNat []).set 3 (.s ((val.2.getD 0 ⟨.ro, [], []⟩).2.getD 0 .h).es))).getD y1.toNat []).set 4 (.s ((val_1.2.getD 0 ⟨.ro, [], []⟩).2.getD 0 .h).es))) else none else none else none else none else none else none := by
 delta zap.P9 zaf zap zap.L2 XX
 refine zbj [9] 9 (by kernel_rfl) fun J e1 => ?_
 try simp only [← e1]
 clear e1
 generalize lpL (Y.ctx (lim' Y)) 83 = lp
 generalize lim' Y = call
 kernel_rfl
theorem zap.a2x2 (y0:Int) (y1:LLD) : zap.A2 (zap.x2 y0 y1) = some ⟨[.v (.int .i64 y0)], [⟨.virt, [.s y1], [.deep]⟩]⟩ := by
 delta zap.A2 zap.x2 XX
 generalize lpL (Y.ctx (lim' Y)) 83 = lp
 generalize lim' Y = call
 kernel_rfl
noncomputable def zah.L2 (y0:LLD) (y1 y2:Int) : Option (Ex × St) := lpL XX 84 (zaq 2 zah.c) (mkG 0 61 [(0, .one (.s y0)), (1, .one (.v (.int .i64 y1))), (5, .one (.v (.int .i64 y2)))] [] GL)
noncomputable def zah.A2 : Ex × St → Option Res := fun r => evA XX 84 (lpL XX 84) 2 zah.c r.fst r.snd (outE XX 84 Tryz.f84)
noncomputable def zah.q2 (y0 y1:Int) : Ex × St := (Ex.ret, mkG 0 61 [(1, .one (.v (.int .i64 y0))), (4, .one (.v (.int .i64 y1)))] [] GL)
noncomputable def zah.P10 (y0:LLD) (y1 y2:Int) : Option (Ex × St) := evB XX 84 (lpL XX 84) 10 (zaq 2 zah.c) (mkG 0 61 [(0, .one (.s y0)), (1, .one (.v (.int .i64 y1))), (5, .one (.v (.int .i64 y2)))] [] GL) (backL (lpL XX 84) (zaq 2 zah.c) (XX.live 84 2))
noncomputable def zah.x2 (y0:Int) : Ex × St := (Ex.exit 0, mkG 0 61 [(1, .one (.v (.int .i64 y0)))] [] GL)
noncomputable def zah.P17 (y0:LLD) (y1 y2:Int) : Option (Ex × St) := evB XX 84 (lpL XX 84) 17 (zaq 2 zah.c) (mkG 0 61 [(0, .one (.s y0)), (1, .one (.v (.int .i64 y1))), (5, .one (.v (.int .i64 y2)))] [] GL) (backL (lpL XX 84) (zaq 2 zah.c) (XX.live 84 2))
theorem zah.e (a0:LLD) (a1:Int) : zah [.one (.s a0), .one (.v (.int .i64 a1))] [] = (zah.L2 a0 a1 0).bind zah.A2 := by
 refine (zah.run _ _ (by kernel_rfl)).trans ?_
 delta zah zah.L2 zah.A2 XX
 generalize lpL (Y.ctx (lim' Y)) 84 = lp
 generalize lim' Y = call
 kernel_rfl
theorem zah.s2 (y0:LLD) (y1 y2:Int) : zah.L2 y0 y1 y2 = bif decide (y2 < (↑y0.length : Int)) then bif decide (0 ≤ y2) && decide (y2 < (↑y0.length : Int)) && decide ((y0.getD y2.toNat []).length = 5) then bif zas [.bool] (y0.getD y2.toNat []) 0 && decide (1 ≤ (y0.getD y2.toNat []).length) then bif !((y0.getD y2.toNat []).getD 0 .h).bool == (y1.tmod 3 == 0) then some (zah.q2 y1 (-1)) else bif decide (0 ≤ y2) && decide (y2 < (↑y0.length : Int)) && decide ((y0.getD y2.toNat []).length = 5) then bif zas [.int .i64] (y0.getD y2.toNat []) 1 && decide (2 ≤ (y0.getD y2.toNat []).length) then bif ((y0.getD y2.toNat []).getD 1 .h).int != IntKind.i64.wrap (y1 + 1) then some (zah.q2 (IntKind.i64.wrap (y1 + 1)) (-1)) else zah.P10 y0 (IntKind.i64.wrap (IntKind.i64.wrap (y1 + 1) + 1)) y2 else none else none else none else none else some (zah.x2 y1) := by
 refine (zbd (Y := Y) (c := lim' Y) (fn := 84) (rid := 2) (b := zaq 2 zah.c) (by kernel_rfl) _).trans ?_
 delta zah.L2 zah.q2 zah.P10 zah.x2 XX
 refine zbw [10, 17] (by kernel_rfl) fun J e1 => ?_
 try simp only [← e1]
 clear e1
 generalize lpL (Y.ctx (lim' Y)) 84 = lp
 generalize lim' Y = call
 kernel_rfl
theorem zah.p10 (y0:LLD) (y1 y2:Int) : zah.P10 y0 y1 y2 = bif decide (0 ≤ y2) && decide (y2 < (↑y0.length : Int)) && decide ((y0.getD y2.toNat []).length = 5) then bif zas [.str] (y0.getD y2.toNat []) 2 && decide (3 ≤ (y0.getD y2.toNat []).length) then (zaD [.one (.v (.int .i64 y1))] []).bind fun val => bif zaa [.str] val.1 && true then bif !((y0.getD y2.toNat []).getD 2 .h).str.toList == (val.1.getD 0 .d).str.toList then some (zah.q2 y1 (-1)) else bif decide (0 ≤ y2) && decide (y2 < (↑y0.length : Int)) && decide ((y0.getD y2.toNat []).length = 5) then bif zas [.sl] (y0.getD y2.toNat []) 3 && decide (4 ≤ (y0.getD y2.toNat []).length) then (zad [.one (.s ((y0.getD y2.toNat []).getD 3 .h).es), .one (.v (.int .i64 (IntKind.i64.wrap (y1 + 1))))] []).bind fun val => bif zaa [.int .i64] val.1 && true then bif decide ((val.1.getD 0 .d).int < 0) then some (zah.q2 (val.1.getD 0 .d).int (-1)) else bif decide (0 ≤ y2) && decide (y2 < (↑y0.length : Int)) && decide ((y0.getD y2.toNat []).length = 5) then bif zas [.sl] (y0.getD y2.toNat []) 4 && decide (5 ≤ (y0.getD y2.toNat []).length) then (zah [.one (.s ((y0.getD y2.toNat []).getD 4 .h).es), .one (.v (.int .i64 (val.1.getD 0 .d).int))] []).bind fun val => bif zaa [.int .i64] val.1 && true then zah.P17 y0 (val.1.getD 0 .d).int y2 else none else none else none else none else none else none else none else none else none := by
 delta zah.P10 zaD zah.q2 zad zah zah.P17 XX
 refine zbj [10, 17] 10 (by kernel_rfl) fun J e1 => ?_
 try simp only [← e1]
 clear e1
 generalize lpL (Y.ctx (lim' Y)) 84 = lp
 generalize lim' Y = call
 kernel_rfl
theorem zah.a2x2 (y0:Int) : zah.A2 (zah.x2 y0) = some ⟨[.v (.int .i64 y0)], []⟩ := by
 delta zah.A2 zah.x2 XX
 generalize lpL (Y.ctx (lim' Y)) 84 = lp
 generalize lim' Y = call
 kernel_rfl
theorem zah.p17 (y0:LLD) (y1 y2:Int) : zah.P17 y0 y1 y2 = bif decide (y1 < 0) then some (zah.q2 y1 (-1)) else zah.L2 y0 y1 (IntKind.i64.wrap (y2 + 1)) := by
 delta zah.P17 zah.q2 zah.L2 XX
 refine zbj [10, 17] 17 (by kernel_rfl) fun J e1 => ?_
 try simp only [← e1]
 clear e1
 generalize lpL (Y.ctx (lim' Y)) 84 = lp
 generalize lim' Y = call
 kernel_rfl
noncomputable def zaU.L5 (y0:LLD) (y1 y2:Int) : Option (Ex × St) := lpL XX 85 (zaq 5 zaU.c) (mkG 0 27 [(0, .one (.s y0)), (1, .one (.v (.int .i64 y1))), (5, .one (.v (.int .i64 y2)))] [] GL)
noncomputable def zaU.A5 : Ex × St → Option Res := fun r => evA XX 85 (lpL XX 85) 5 zaU.c r.fst r.snd (outE XX 85 Tryz.f85)
noncomputable def zaU.q5 (y0 y1:Int) : Ex × St := (Ex.ret, mkG 0 27 [(1, .one (.v (.int .i64 y0))), (4, .one (.v (.int .i64 y1)))] [] GL)
noncomputable def zaU.x5 (y0:Int) : Ex × St := (Ex.exit 0, mkG 0 27 [(1, .one (.v (.int .i64 y0)))] [] GL)
theorem zaU.e (a0:LLD) (a1:Int) : zaU [.one (.s a0), .one (.v (.int .i64 a1))] [] = bif decide (IntKind.i64.wrap (a1 - (↑a0.length : Int)) < 0) then some ⟨[.v (.int .i64 (-1))], []⟩ else (zaU.L5 a0 (IntKind.i64.wrap (a1 - (↑a0.length : Int))) 0).bind zaU.A5 := by
 refine (zaU.run _ _ (by kernel_rfl)).trans ?_
 delta zaU zaU.L5 zaU.A5 XX
 generalize lpL (Y.ctx (lim' Y)) 85 = lp
 generalize lim' Y = call
 kernel_rfl
theorem zaU.s5 (y0:LLD) (y1 y2:Int) : zaU.L5 y0 y1 y2 = bif decide (y2 < (↑y0.length : Int)) then bif decide (0 ≤ y2) && decide (y2 < (↑y0.length : Int)) && decide ((y0.getD y2.toNat []).length = 5) then bif zas [.bool, .int .i64, .str, .sl, .sl] (y0.getD y2.toNat []) 0 && decide (5 ≤ (y0.getD y2.toNat []).length) then (zbA [.g [.v (.bool ((y0.getD y2.toNat []).getD 0 .h).bool), .v (.int .i64 ((y0.getD y2.toNat []).getD 1 .h).int), .v (.string ((y0.getD y2.toNat []).getD 2 .h).str), .s ((y0.getD y2.toNat []).getD 3 .h).es, .s ((y0.getD y2.toNat []).getD 4 .h).es], .one (.v (.int .i64 y1))] []).bind fun val => bif zaa [.int .i64] val.1 && true then bif decide ((val.1.getD 0 .d).int < 0) then some (zaU.q5 (val.1.getD 0 .d).int (-1)) else zaU.L5 y0 (val.1.getD 0 .d).int (IntKind.i64.wrap (y2 + 1)) else none else none else none else some (zaU.x5 y1) := by
 refine (zbd (Y := Y) (c := lim' Y) (fn := 85) (rid := 5) (b := zaq 5 zaU.c) (by kernel_rfl) _).trans ?_
 delta zaU.L5 zbA zaU.q5 zaU.x5 XX
 generalize lpL (Y.ctx (lim' Y)) 85 = lp
 generalize lim' Y = call
 kernel_rfl
theorem zaU.a5q5 (y0 y1:Int) : zaU.A5 (zaU.q5 y0 y1) = some ⟨[.v (.int .i64 y1)], []⟩ := by
 delta zaU.A5 zaU.q5 XX
 generalize lpL (Y.ctx (lim' Y)) 85 = lp
 generalize lim' Y = call
 kernel_rfl
theorem zaU.a5x5 (y0:Int) : zaU.A5 (zaU.x5 y0) = some ⟨[.v (.int .i64 y0)], []⟩ := by
 delta zaU.A5 zaU.x5 XX
 generalize lpL (Y.ctx (lim' Y)) 85 = lp
 generalize lim' Y = call
 kernel_rfl
theorem zcl.e (a0:Bool) (a1:Int) (a2:BAy) (a3 a4:LLD) : zcl [.g [.v (.bool a0), .v (.int .i64 a1), .v (.string a2), .s a3, .s a4]] [] = bif a0 then (zau [.g [.v (.bool a0), .v (.int .i64 a1), .v (.string a2), .s a3, .s a4], .one (.v (.int .i64 0))] []).bind fun val => bif zaa [.bool] val.1 && true then bif (val.1.getD 0 .d).bool then (za2 [.g [.v (.bool a0), .v (.int .i64 a1), .v (.string a2), .s a3, .s a4]] []).bind fun val => bif zaa [.int .i64] val.1 && true then some ⟨[.v (.bool (decide ((val.1.getD 0 .d).int ≤ 30)))], []⟩ else none else some ⟨[.v (.bool false)], []⟩ else none else some ⟨[.v (.bool false)], []⟩ := by
 refine (zcl.run _ _ (by kernel_rfl)).trans ?_
 delta zcl zau za2 XX
 generalize lpL (Y.ctx (lim' Y)) 86 = lp
 generalize lim' Y = call
 kernel_rfl
noncomputable def zae.L6 (y0:LLD) (y1 y2:Int) (y3:LLD) (y4:Int) (y5:LLD) : Option (Ex × St) := lpL XX 87 (zaq 6 zae.c) (mkG 0 37 [(2, .one (.p true 2 [] 0)), (3, .one (.p true 3 [] 0)), (4, .one (.s y0)), (5, .one (.v (.int .i64 y1)))] [(2, some ⟨.box, [.v (.int .i64 y2), .s y3], [.deep, .deep]⟩), (3, some ⟨.box, [.v (.int .i64 y4), .s y5], [.deep, .deep]⟩)] GL)
noncomputable def zae.A6 : Ex × St → Option Res := fun r => evA XX 87 (lpL XX 87) 6 zae.c r.fst r.snd (outE XX 87 Tryz.f87)
noncomputable def zae.L6b (y0:LLD) (y1 y2:Int) (y3:LLD) (y4:Int) (y5:LLD) : Option (Ex × St) := lpL XX 87 (zaq 6 zae.c) (mkG 0 37 [(2, .one (.p true 2 [] 0)), (3, .one (.p true 3 [] 0)), (4, .one (.s y0)), (5, .one (.v (.int .i64 y1)))] [(2, some ⟨.box, [.v (.int .i64 y2), .s y3], [.deep, .deep]⟩), (3, some ⟨.box, [.v (.int .i64 y4), .s y5], [.deep, .top]⟩)] GL)
noncomputable def zae.x6 (y0:Int) (y1:LLD) (y2:Int) (y3:LLD) : Ex × St := (Ex.exit 0, mkG 0 37 [(2, .one (.p true 2 [] 0)), (3, .one (.p true 3 [] 0))] [(2, some ⟨.box, [.v (.int .i64 y0), .s y1], [.deep, .deep]⟩), (3, some ⟨.box, [.v (.int .i64 y2), .s y3], [.deep, .deep]⟩)] GL)
noncomputable def zae.x6b (y0:Int) (y1:LLD) (y2:Int) (y3:LLD) : Ex × St := (Ex.exit 0, mkG 0 37 [(2, .one (.p true 2 [] 0)), (3, .one (.p true 3 [] 0))] [(2, some ⟨.box, [.v (.int .i64 y0), .s y1], [.deep, .deep]⟩), (3, some ⟨.box, [.v (.int .i64 y2), .s y3], [.deep, .top]⟩)] GL)
theorem zae.e (a0:Bool) (a1:Int) (a2:BAy) (a3 a4:LLD) : zae [.g [.v (.bool a0), .v (.int .i64 a1), .v (.string a2), .s a3, .s a4]] [] = (zcl [.g [.v (.bool a0), .v (.int .i64 a1), .v (.string a2), .s a3, .s a4]] []).bind fun val => bif zaa [.bool] val.1 && true then bif !(val.1.getD 0 .d).bool then some ⟨[.v (.int .i64 0), .s []], []⟩ else (zaj [.one (.s []), .g [.v (.bool a0), .v (.int .i64 a1), .v (.string a2), .s a3, .s a4]] []).bind fun val => bif zaa [.sh] val.1 && true then (zae.L6 (val.1.getD 0 .d).es 0 0 [] 1 []).bind zae.A6 else none else none := by
 refine (zae.run _ _ (by kernel_rfl)).trans ?_
 delta zae zcl zaj zae.L6 zae.A6 XX
 generalize lpL (Y.ctx (lim' Y)) 87 = lp
 generalize lim' Y = call
 kernel_rfl
theorem zae.s6 (y0:LLD) (y1 y2:Int) (y3:LLD) (y4:Int) (y5:LLD) : zae.L6 y0 y1 y2 y3 y4 y5 = bif decide (y1 < (↑y0.length : Int)) then bif decide (0 ≤ y1) && decide (y1 < (↑y0.length : Int)) && decide ((y0.getD y1.toNat []).length = 1) then bif zas [.sl] (y0.getD y1.toNat []) 0 && decide (1 ≤ (y0.getD y1.toNat []).length) then bif zaF 2 y5 && true && true && true && decide ((y5.length + 1) * 33 ≤ 70368744177664) then zae.L6b y0 (IntKind.i64.wrap (y1 + 1)) y2 y3 (IntKind.i64.wrap (y4 + 1)) (y5 ++ [[D.v (.int .i64 y4), D.s ((y0.getD y1.toNat []).getD 0 D.h).es]]) else none else none else none else some (zae.x6 y2 y3 y4 y5) := by
 refine (zbd (Y := Y) (c := lim' Y) (fn := 87) (rid := 6) (b := zaq 6 zae.c) (by kernel_rfl) _).trans ?_
 delta zae.L6 zae.L6b zae.x6 XX
 generalize lpL (Y.ctx (lim' Y)) 87 = lp
 generalize lim' Y = call
 kernel_rfl
theorem zae.s6b (y0:LLD) (y1 y2:Int) (y3:LLD) (y4:Int) (y5:LLD) : zae.L6b y0 y1 y2 y3 y4 y5 = bif decide (y1 < (↑y0.length : Int)) then bif decide (0 ≤ y1) && decide (y1 < (↑y0.length : Int)) && decide ((y0.getD y1.toNat []).length = 1) then bif zas [.sl] (y0.getD y1.toNat []) 0 && decide (1 ≤ (y0.getD y1.toNat []).length) then bif zaF 2 y5 && true && true && true && decide ((y5.length + 1) * 33 ≤ 70368744177664) then zae.L6b y0 (IntKind.i64.wrap (y1 + 1)) y2 y3 (IntKind.i64.wrap (y4 + 1)) (y5 ++ [[D.v (.int .i64 y4), D.s ((y0.getD y1.toNat []).getD 0 D.h).es]]) else none else none else none else some (zae.x6b y2 y3 y4 y5) := by
 refine (zbd (Y := Y) (c := lim' Y) (fn := 87) (rid := 6) (b := zaq 6 zae.c) (by kernel_rfl) _).trans ?_
 delta zae.L6b zae.x6b XX
 generalize lpL (Y.ctx (lim' Y)) 87 = lp
 generalize lim' Y = call
 kernel_rfl
theorem zae.a6x6 (y0:Int) (y1:LLD) (y2:Int) (y3:LLD) : zae.A6 (zae.x6 y0 y1 y2 y3) = some ⟨[.v (.int .i64 y2), .s y3], []⟩ := by
 delta zae.A6 zae.x6 XX
 generalize lpL (Y.ctx (lim' Y)) 87 = lp
 generalize lim' Y = call
 kernel_rfl
theorem zae.a6x6b (y0:Int) (y1:LLD) (y2:Int) (y3:LLD) : zae.A6 (zae.x6b y0 y1 y2 y3) = some ⟨[.v (.int .i64 y2), .s y3], []⟩ := by
 delta zae.A6 zae.x6b XX
 generalize lpL (Y.ctx (lim' Y)) 87 = lp
 generalize lim' Y = call
 kernel_rfl
noncomputable def za4.L3 (y0:LLD) (y1:Int) (y2:LLD) : Option (Ex × St) := lpL XX 88 (zaq 3 za4.c) (mkG 0 23 [(0, .one (.s y0)), (3, .one (.r 3 [] 0)), (4, .one (.v (.int .i64 y1)))] [(3, some ⟨.virt, [.s y2], [.deep]⟩)] GL)
noncomputable def za4.A3 : Ex × St → Option Res := fun r => evA XX 88 (lpL XX 88) 3 za4.c r.fst r.snd (outE XX 88 Tryz.f88)
noncomputable def za4.x3 (y0:LLD) : Ex × St := (Ex.exit 0, mkG 0 23 [(3, .one (.r 3 [] 0))] [(3, some ⟨.virt, [.s y0], [.deep]⟩)] GL)
theorem za4.e (a0:LLD) : za4 [.one (.s a0)] [] = bif decide ((↑a0.length : Int) * ((↑80 : Int) + 1) ≤ 2 ^ 46) && true && true then (za4.L3 a0 0 (List.replicate (↑a0.length : Int).toNat [.v (.bool false), .v (.int .i64 0), .v (.string (ByteArray.mk #[])), .s [], .s []])).bind za4.A3 else none := by
 refine (za4.run _ _ (by kernel_rfl)).trans ?_
 delta za4 za4.L3 za4.A3 XX
 generalize lpL (Y.ctx (lim' Y)) 88 = lp
 generalize lim' Y = call
 kernel_rfl
theorem za4.s3 (y0:LLD) (y1:Int) (y2:LLD) : za4.L3 y0 y1 y2 = bif decide (y1 < (↑y0.length : Int)) then bif decide (0 ≤ y1) && decide (y1 < (↑y0.length : Int)) && decide ((y0.getD y1.toNat []).length = 5) then bif zas [.bool, .int .i64, .str, .sl, .sl] (y0.getD y1.toNat []) 0 && decide (5 ≤ (y0.getD y1.toNat []).length) then (zbZ [.g [.v (.bool ((y0.getD y1.toNat []).getD 0 .h).bool), .v (.int .i64 ((y0.getD y1.toNat []).getD 1 .h).int), .v (.string ((y0.getD y1.toNat []).getD 2 .h).str), .s ((y0.getD y1.toNat []).getD 3 .h).es, .s ((y0.getD y1.toNat []).getD 4 .h).es]] []).bind fun val => bif zaa [.bool, .int .i64, .str, .own .deep, .own .deep] val.1 && true then bif decide (0 ≤ y1) && decide (y1 < (↑y2.length : Int)) && decide ((y2.getD y1.toNat []).length = 5) then bif decide (5 ≤ (y2.getD y1.toNat []).length) && true then za4.L3 y0 (IntKind.i64.wrap (y1 + 1)) (y2.set y1.toNat (.v (.bool (val.1.getD 0 .d).bool) :: .v (.int .i64 (val.1.getD 1 .d).int) :: .v (.string (val.1.getD 2 .d).str) :: .s (val.1.getD 3 .d).es :: .s (val.1.getD 4 .d).es :: List.drop 5 (y2.getD y1.toNat []))) else none else none else none else none else none else some (za4.x3 y2) := by
 refine (zbd (Y := Y) (c := lim' Y) (fn := 88) (rid := 3) (b := zaq 3 za4.c) (by kernel_rfl) _).trans ?_
 delta za4.L3 zbZ za4.x3 XX
 generalize lpL (Y.ctx (lim' Y)) 88 = lp
 generalize lim' Y = call
 kernel_rfl
theorem za4.a3x3 (y0:LLD) : za4.A3 (za4.x3 y0) = some ⟨[.o .deep y0], []⟩ := by
 delta za4.A3 za4.x3 XX
 generalize lpL (Y.ctx (lim' Y)) 88 = lp
 generalize lim' Y = call
 kernel_rfl
noncomputable def zaC.L5 (y0 y1 y2:Int) (y3:LLD) (y4:Int) (y5 y6:LLD) : Option (Ex × St) := lpL XX 89 (zaq 5 zaC.c) (mkG 0 34 [(2, .one (.p true 2 [] 0)), (3, .one (.p true 3 [] 0)), (13, .one (.r 13 [] 0)), (14, .one (.v (.int .i64 y0))), (15, .one (.v (.int .i64 y1)))] [(2, some ⟨.box, [.v (.int .i64 y2), .s y3], [.deep, .deep]⟩), (3, some ⟨.box, [.v (.int .i64 y4), .s y5], [.deep, .deep]⟩), (13, some ⟨.virt, [.s y6], [.deep]⟩)] GL)
noncomputable def zaC.A5 : Ex × St → Option Res := fun r => evA XX 89 (lpL XX 89) 5 zaC.c r.fst r.snd (outE XX 89 Tryz.f89)
noncomputable def zaC.x5 (y0:Int) (y1:LLD) (y2:Int) (y3:LLD) : Ex × St := (Ex.exit 0, mkG 0 34 [(2, .one (.p true 2 [] 0)), (3, .one (.p true 3 [] 0))] [(2, some ⟨.box, [.v (.int .i64 y0), .s y1], [.deep, .deep]⟩), (3, some ⟨.box, [.v (.int .i64 y2), .s y3], [.deep, .deep]⟩)] GL)
theorem zaC.e (a0:Bool) (a1:Int) (a2:BAy) (a3 a4:LLD) : zaC [.g [.v (.bool a0), .v (.int .i64 a1), .v (.string a2), .s a3, .s a4]] [] = (zcF [.g [.v (.bool a0), .v (.int .i64 a1), .v (.string a2), .s a3, .s a4]] []).bind fun val => bif zaa [.bool] val.1 && true then bif !(val.1.getD 0 .d).bool then some ⟨[.v (.int .i64 0), .o .deep []], []⟩ else (zcr [.g [.v (.bool a0), .v (.int .i64 a1), .v (.string a2), .s a3, .s a4]] []).bind fun val => bif zaa [.own .deep] val.1 && true then (zaC.L5 (↑(val.1.getD 0 .d).es.length : Int) 0 0 [] 1 [] (val.1.getD 0 .d).es).bind zaC.A5 else none else none := by
 refine (zaC.run _ _ (by kernel_rfl)).trans ?_
 delta zaC zcF zcr zaC.L5 zaC.A5 XX
 generalize lpL (Y.ctx (lim' Y)) 89 = lp
 generalize lim' Y = call
 kernel_rfl
theorem zaC.s5 (y0 y1 y2:Int) (y3:LLD) (y4:Int) (y5 y6:LLD) : zaC.L5 y0 y1 y2 y3 y4 y5 y6 = bif decide (y1 < y0) then bif decide (0 ≤ y1) && decide (y1 < (↑y6.length : Int)) && decide ((y6.getD y1.toNat []).length = 1) then bif zas [.sl] (y6.getD y1.toNat []) 0 && decide (1 ≤ (y6.getD y1.toNat []).length) then bif zaF 2 y5 && true && true && true && decide ((y5.length + 1) * 33 ≤ 70368744177664) then zaC.L5 y0 (IntKind.i64.wrap (y1 + 1)) y2 y3 (IntKind.i64.wrap (y4 + 1)) (y5 ++ [[D.v (.int .i64 y4), D.s ((y6.getD y1.toNat []).getD 0 D.h).es]]) (y6.set y1.toNat ((y6.getD y1.toNat []).set 0 D.h)) else none else none else none else some (zaC.x5 y2 y3 y4 y5) := by
 refine (zbd (Y := Y) (c := lim' Y) (fn := 89) (rid := 5) (b := zaq 5 zaC.c) (by kernel_rfl) _).trans ?_
 delta zaC.L5 zaC.x5 XX
 generalize lpL (Y.ctx (lim' Y)) 89 = lp
 generalize lim' Y = call
 kernel_rfl
theorem zaC.a5x5 (y0:Int) (y1:LLD) (y2:Int) (y3:LLD) : zaC.A5 (zaC.x5 y0 y1 y2 y3) = some ⟨[.v (.int .i64 y2), .o .deep y3], []⟩ := by
 delta zaC.A5 zaC.x5 XX
 generalize lpL (Y.ctx (lim' Y)) 89 = lp
 generalize lim' Y = call
 kernel_rfl
noncomputable def za5.L4 (y0 y1:LLD) (y2:Int) : Option (Ex × St) := lpL XX 90 (zaq 4 za5.c) (mkG 0 27 [(0, .one (.s y0)), (1, .one (.s y1)), (5, .one (.v (.int .i64 y2)))] [] GL)
noncomputable def za5.A4 : Ex × St → Option Res := fun r => evA XX 90 (lpL XX 90) 4 za5.c r.fst r.snd (outE XX 90 Tryz.f90)
noncomputable def za5.q4 (y0:Bool) : Ex × St := (Ex.ret, mkG 0 27 [(4, .one (.v (.bool y0)))] [] GL)
noncomputable def za5.x4 : Ex × St := (Ex.exit 0, mkG 0 27 [] [] GL)
theorem za5.e (a0 a1:LLD) : za5 [.one (.s a0), .one (.s a1)] [] = bif (↑a0.length : Int) != (↑a1.length : Int) then some ⟨[.v (.bool false)], []⟩ else (za5.L4 a0 a1 0).bind za5.A4 := by
 refine (za5.run _ _ (by kernel_rfl)).trans ?_
 delta za5 za5.L4 za5.A4 XX
 generalize lpL (Y.ctx (lim' Y)) 90 = lp
 generalize lim' Y = call
 kernel_rfl
theorem za5.s4 (y0 y1:LLD) (y2:Int) : za5.L4 y0 y1 y2 = bif decide (y2 < (↑y0.length : Int)) then bif decide (0 ≤ y2) && decide (y2 < (↑y0.length : Int)) && decide ((y0.getD y2.toNat []).length = 2) then bif zas [.sl, .bool] (y0.getD y2.toNat []) 0 && decide (2 ≤ (y0.getD y2.toNat []).length) then bif decide (0 ≤ y2) && decide (y2 < (↑y1.length : Int)) && decide ((y1.getD y2.toNat []).length = 2) then bif zas [.sl, .bool] (y1.getD y2.toNat []) 0 && decide (2 ≤ (y1.getD y2.toNat []).length) then (zmP [.g [.s ((y0.getD y2.toNat []).getD 0 .h).es, .v (.bool ((y0.getD y2.toNat []).getD 1 .h).bool)], .g [.s ((y1.getD y2.toNat []).getD 0 .h).es, .v (.bool ((y1.getD y2.toNat []).getD 1 .h).bool)]] []).bind fun val => bif zaa [.bool] val.1 && true then bif !(val.1.getD 0 .d).bool then some (za5.q4 false) else za5.L4 y0 y1 (IntKind.i64.wrap (y2 + 1)) else none else none else none else none else none else some za5.x4 := by
 refine (zbd (Y := Y) (c := lim' Y) (fn := 90) (rid := 4) (b := zaq 4 za5.c) (by kernel_rfl) _).trans ?_
 delta za5.L4 zmP za5.q4 za5.x4 XX
 generalize lpL (Y.ctx (lim' Y)) 90 = lp
 generalize lim' Y = call
 kernel_rfl
theorem za5.a4x4 : za5.A4 za5.x4 = some ⟨[.v (.bool true)], []⟩ := by
 delta za5.A4 za5.x4 XX
 generalize lpL (Y.ctx (lim' Y)) 90 = lp
 generalize lim' Y = call
 kernel_rfl
theorem zcq.e (a0:Int) (a1:LLD) (a2:Int) (a3:LLD) : zcq [.g [.v (.int .i64 a0), .s a1], .g [.v (.int .i64 a2), .s a3]] [] = bif a0 != a2 then some ⟨[.v (.bool false)], []⟩ else (zaG [.one (.s a1), .one (.s a3)] []).bind fun val => bif zaa [.bool] val.1 && true then bif !(val.1.getD 0 .d).bool then some ⟨[.v (.bool false)], []⟩ else some ⟨[.v (.bool true)], []⟩ else none := by
 refine (zcq.run _ _ (by kernel_rfl)).trans ?_
 delta zcq zaG XX
 generalize lpL (Y.ctx (lim' Y)) 91 = lp
 generalize lim' Y = call
 kernel_rfl
noncomputable def zaQ.L2 (y0 y1:Int) (y2:LLD) : Option (Ex × St) := lpL XX 92 (zaq 2 zaQ.c) (mkG 1 29 [(0, .one (.r 0 [] 0)), (1, .one (.v (.int .i64 y0))), (5, .one (.v (.int .i64 y1)))] [(0, some ⟨.virt, [.s y2], [.deep]⟩)] GL)
noncomputable def zaQ.A2 : Ex × St → Option Res := fun r => evA XX 92 (lpL XX 92) 2 zaQ.c r.fst r.snd (outE XX 92 Tryz.f92)
noncomputable def zaQ.x2 (y0:Int) (y1:LLD) : Ex × St := (Ex.exit 0, mkG 1 29 [(1, .one (.v (.int .i64 y0)))] [(0, some ⟨.virt, [.s y1], [.deep]⟩)] GL)
theorem zaQ.e (a0:LLD) (a1:Int) : zaQ [.one (.r 0 [] 0), .one (.v (.int .i64 a1))] [⟨.virt, [.s a0], [.deep]⟩] = (zaQ.L2 a1 0 a0).bind zaQ.A2 := by
 refine (zaQ.run _ _ (by kernel_rfl)).trans ?_
 delta zaQ zaQ.L2 zaQ.A2 XX
 generalize lpL (Y.ctx (lim' Y)) 92 = lp
 generalize lim' Y = call
 kernel_rfl
theorem zaQ.s2 (y0 y1:Int) (y2:LLD) : zaQ.L2 y0 y1 y2 = bif decide (y1 < (↑y2.length : Int)) then bif decide (0 ≤ y1) && decide (y1 < (↑y2.length : Int)) && decide ((y2.getD y1.toNat []).length = 2) then bif zas [.sl] (y2.getD y1.toNat []) 0 && decide (1 ≤ (y2.getD y1.toNat []).length) then (zaf [.one (.r 0 [] 0), .one (.v (.int .i64 y0))] [⟨.virt, [.s ((y2.getD y1.toNat []).getD 0 .h).es], [.deep]⟩]).bind fun val => bif zaa [.int .i64] val.1 && zaV [⟨⟨.virt, [.s ((y2.getD y1.toNat []).getD 0 .h).es], [.deep]⟩, .sl 0 [(0, y1.toNat)] 0⟩] val.2 then bif decide (0 ≤ y1) && decide (y1 < (↑(y2.set y1.toNat ((y2.getD y1.toNat []).set 0 (.s ((val.2.getD 0 ⟨.ro, [], []⟩).2.getD 0 .h).es))).length : Int)) && decide (((y2.set y1.toNat ((y2.getD y1.toNat []).set 0 (.s ((val.2.getD 0 ⟨.ro, [], []⟩).2.getD 0 .h).es))).getD y1.toNat []).length = 2) then bif decide (2 ≤ ((y2.set y1.toNat ((y2.getD y1.toNat []).set 0 (.s ((val.2.getD 0 ⟨.ro, [], []⟩).2.getD 0 .h).es))).getD y1.toNat []).length) && true then zaQ.L2 (IntKind.i64.wrap ((val.1.getD 0 .d).int + 1)) (IntKind.i64.wrap (y1 + 1)) ((y2.set y1.toNat ((y2.getD y1.toNat []).set 0 (.s ((val.2.getD 0 ⟨.ro, [], []⟩).2.getD 0 .h).es))).set y1.toNat (List.take 1 ((y2.set y1.toNat ((y2.getD y1.toNat []).set 0 (.s ((val.2.getD 0 ⟨.ro, [], []⟩).2.getD 0 .h).es))).getD y1.toNat []) ++ [.v (.bool ((val.1.getD 0 .d).int.tmod 3 == 0))] ++ List.drop 2 ((y2.set y1.toNat ((y2.getD y1.toNat []).set 0 (.s ((val.2.getD 0 ⟨.ro, [], []⟩).2.getD 0 .h).es))).getD y1.toNat []))) else none else none else none else none else none else some (zaQ.x2 y0 y2) := by
 refine (zbd (Y := Y) (c := lim' Y) (fn := 92) (rid := 2) (b := zaq 2 zaQ.c) (by kernel_rfl) _).trans ?_
 delta zaQ.L2 zaf zaQ.x2 XX
 generalize lpL (Y.ctx (lim' Y)) 92 = lp
 generalize lim' Y = call
 kernel_rfl
theorem zaQ.a2x2 (y0:Int) (y1:LLD) : zaQ.A2 (zaQ.x2 y0 y1) = some ⟨[.v (.int .i64 y0)], [⟨.virt, [.s y1], [.deep]⟩]⟩ := by
 delta zaQ.A2 zaQ.x2 XX
 generalize lpL (Y.ctx (lim' Y)) 92 = lp
 generalize lim' Y = call
 kernel_rfl
theorem zbJ.e (a0:Int) (a1:LLD) (a2:Int) : zbJ [.g [.v (.int .i64 a0), .r 0 [] 0], .one (.v (.int .i64 a2))] [⟨.virt, [.s a1], [.deep]⟩] = (zav [.one (.r 0 [] 0), .one (.v (.int .i64 a2))] [⟨.virt, [.s a1], [.deep]⟩]).bind fun val => bif zaa [.int .i64] val.1 && zaV [⟨⟨.virt, [.s a1], [.deep]⟩, .sl 0 [] 0⟩] val.2 then some ⟨[.v (.int .i64 (val.1.getD 0 .d).int)], [⟨.virt, [.s ((val.2.getD 0 ⟨.ro, [], []⟩).2.getD 0 .h).es], [.deep]⟩]⟩ else none := by
 refine (zbJ.run _ _ (by kernel_rfl)).trans ?_
 delta zbJ zav XX
 generalize lpL (Y.ctx (lim' Y)) 93 = lp
 generalize lim' Y = call
 kernel_rfl
noncomputable def zak.L2 (y0:LLD) (y1 y2:Int) : Option (Ex × St) := lpL XX 94 (zaq 2 zak.c) (mkG 0 61 [(0, .one (.s y0)), (1, .one (.v (.int .i64 y1))), (5, .one (.v (.int .i64 y2)))] [] GL)
noncomputable def zak.A2 : Ex × St → Option Res := fun r => evA XX 94 (lpL XX 94) 2 zak.c r.fst r.snd (outE XX 94 Tryz.f94)
noncomputable def zak.q2 (y0 y1:Int) : Ex × St := (Ex.ret, mkG 0 61 [(1, .one (.v (.int .i64 y0))), (4, .one (.v (.int .i64 y1)))] [] GL)
noncomputable def zak.P10 (y0:LLD) (y1 y2:Int) : Option (Ex × St) := evB XX 94 (lpL XX 94) 10 (zaq 2 zak.c) (mkG 0 61 [(0, .one (.s y0)), (1, .one (.v (.int .i64 y1))), (5, .one (.v (.int .i64 y2)))] [] GL) (backL (lpL XX 94) (zaq 2 zak.c) (XX.live 94 2))
noncomputable def zak.x2 (y0:Int) : Ex × St := (Ex.exit 0, mkG 0 61 [(1, .one (.v (.int .i64 y0)))] [] GL)
noncomputable def zak.P17 (y0:LLD) (y1 y2:Int) (y3:Bool) : Option (Ex × St) := evB XX 94 (lpL XX 94) 17 (zaq 2 zak.c) (mkG 0 61 [(0, .one (.s y0)), (1, .one (.v (.int .i64 y1))), (5, .one (.v (.int .i64 y2))), (57, .one (.v (.bool y3)))] [] GL) (backL (lpL XX 94) (zaq 2 zak.c) (XX.live 94 2))
theorem zak.e (a0:LLD) (a1:Int) : zak [.one (.s a0), .one (.v (.int .i64 a1))] [] = (zak.L2 a0 a1 0).bind zak.A2 := by
 refine (zak.run _ _ (by kernel_rfl)).trans ?_
 delta zak zak.L2 zak.A2 XX
 generalize lpL (Y.ctx (lim' Y)) 94 = lp
 generalize lim' Y = call
 kernel_rfl
theorem zak.s2 (y0:LLD) (y1 y2:Int) : zak.L2 y0 y1 y2 = bif decide (y2 < (↑y0.length : Int)) then bif decide (0 ≤ y2) && decide (y2 < (↑y0.length : Int)) && decide ((y0.getD y2.toNat []).length = 5) then bif zas [.sl] (y0.getD y2.toNat []) 0 && decide (1 ≤ (y0.getD y2.toNat []).length) then (zad [.one (.s ((y0.getD y2.toNat []).getD 0 .h).es), .one (.v (.int .i64 y1))] []).bind fun val => bif zaa [.int .i64] val.1 && true then bif decide ((val.1.getD 0 .d).int < 0) then some (zak.q2 (val.1.getD 0 .d).int (-1)) else bif decide (0 ≤ y2) && decide (y2 < (↑y0.length : Int)) && decide ((y0.getD y2.toNat []).length = 5) then bif zas [.bool] (y0.getD y2.toNat []) 1 && decide (2 ≤ (y0.getD y2.toNat []).length) then bif !((y0.getD y2.toNat []).getD 1 .h).bool == ((val.1.getD 0 .d).int.tmod 3 == 0) then some (zak.q2 (val.1.getD 0 .d).int (-1)) else zak.P10 y0 (IntKind.i64.wrap ((val.1.getD 0 .d).int + 1)) y2 else none else none else none else none else none else some (zak.x2 y1) := by
 refine (zbd (Y := Y) (c := lim' Y) (fn := 94) (rid := 2) (b := zaq 2 zak.c) (by kernel_rfl) _).trans ?_
 delta zak.L2 zad zak.q2 zak.P10 zak.x2 XX
 refine zbw [10, 17] (by kernel_rfl) fun J e1 => ?_
 try simp only [← e1]
 clear e1
 generalize lpL (Y.ctx (lim' Y)) 94 = lp
 generalize lim' Y = call
 kernel_rfl
theorem zak.p10 (y0:LLD) (y1 y2:Int) : zak.P10 y0 y1 y2 = bif decide (0 ≤ y2) && decide (y2 < (↑y0.length : Int)) && decide ((y0.getD y2.toNat []).length = 5) then bif zas [.int .i64] (y0.getD y2.toNat []) 2 && decide (3 ≤ (y0.getD y2.toNat []).length) then bif ((y0.getD y2.toNat []).getD 2 .h).int != y1 then some (zak.q2 y1 (-1)) else bif decide (0 ≤ y2) && decide (y2 < (↑y0.length : Int)) && decide ((y0.getD y2.toNat []).length = 5) then bif zas [.str] (y0.getD y2.toNat []) 3 && decide (4 ≤ (y0.getD y2.toNat []).length) then (zaD [.one (.v (.int .i64 (IntKind.i64.wrap (y1 + 1))))] []).bind fun val => bif zaa [.str] val.1 && true then bif !((y0.getD y2.toNat []).getD 3 .h).str.toList == (val.1.getD 0 .d).str.toList then some (zak.q2 (IntKind.i64.wrap (y1 + 1)) (-1)) else bif decide (0 ≤ y2) && decide (y2 < (↑y0.length : Int)) && decide ((y0.getD y2.toNat []).length = 5) then bif zas [.int .i64] (y0.getD y2.toNat []) 4 && decide (5 ≤ (y0.getD y2.toNat []).length) then zak.P17 y0 (IntKind.i64.wrap (IntKind.i64.wrap (y1 + 1) + 1)) y2 (((y0.getD y2.toNat []).getD 4 .h).int != IntKind.i64.wrap (IntKind.i64.wrap (y1 + 1) + 1)) else none else none else none else none else none else none else none := by
 delta zak.P10 zak.q2 zaD zak.P17 XX
 refine zbj [10, 17] 10 (by kernel_rfl) fun J e1 => ?_
 try simp only [← e1]
 clear e1
 generalize lpL (Y.ctx (lim' Y)) 94 = lp
 generalize lim' Y = call
 kernel_rfl
theorem zak.a2x2 (y0:Int) : zak.A2 (zak.x2 y0) = some ⟨[.v (.int .i64 y0)], []⟩ := by
 delta zak.A2 zak.x2 XX
 generalize lpL (Y.ctx (lim' Y)) 94 = lp
 generalize lim' Y = call
 kernel_rfl
theorem zak.p17 (y0:LLD) (y1 y2:Int) (y3:Bool) : zak.P17 y0 y1 y2 y3 = bif y3 then some (zak.q2 y1 (-1)) else zak.L2 y0 (IntKind.i64.wrap (y1 + 1)) (IntKind.i64.wrap (y2 + 1)) := by
 delta zak.P17 zak.q2 zak.L2 XX
 refine zbj [10, 17] 17 (by kernel_rfl) fun J e1 => ?_
 try simp only [← e1]
 clear e1
 generalize lpL (Y.ctx (lim' Y)) 94 = lp
 generalize lim' Y = call
 kernel_rfl
noncomputable def zaL.L2 (y0:LLD) (y1 y2:Int) : Option (Ex × St) := lpL XX 95 (zaq 2 zaL.c) (mkG 0 33 [(0, .one (.s y0)), (1, .one (.v (.int .i64 y1))), (5, .one (.v (.int .i64 y2)))] [] GL)
noncomputable def zaL.A2 : Ex × St → Option Res := fun r => evA XX 95 (lpL XX 95) 2 zaL.c r.fst r.snd (outE XX 95 Tryz.f95)
noncomputable def zaL.q2 (y0 y1:Int) : Ex × St := (Ex.ret, mkG 0 33 [(1, .one (.v (.int .i64 y0))), (4, .one (.v (.int .i64 y1)))] [] GL)
noncomputable def zaL.x2 (y0:Int) : Ex × St := (Ex.exit 0, mkG 0 33 [(1, .one (.v (.int .i64 y0)))] [] GL)
theorem zaL.e (a0:LLD) (a1:Int) : zaL [.one (.s a0), .one (.v (.int .i64 a1))] [] = (zaL.L2 a0 a1 0).bind zaL.A2 := by
 refine (zaL.run _ _ (by kernel_rfl)).trans ?_
 delta zaL zaL.L2 zaL.A2 XX
 generalize lpL (Y.ctx (lim' Y)) 95 = lp
 generalize lim' Y = call
 kernel_rfl
theorem zaL.s2 (y0:LLD) (y1 y2:Int) : zaL.L2 y0 y1 y2 = bif decide (y2 < (↑y0.length : Int)) then bif decide (0 ≤ y2) && decide (y2 < (↑y0.length : Int)) && decide ((y0.getD y2.toNat []).length = 2) then bif zas [.sl] (y0.getD y2.toNat []) 0 && decide (1 ≤ (y0.getD y2.toNat []).length) then (zad [.one (.s ((y0.getD y2.toNat []).getD 0 .h).es), .one (.v (.int .i64 y1))] []).bind fun val => bif zaa [.int .i64] val.1 && true then bif decide ((val.1.getD 0 .d).int < 0) then some (zaL.q2 (val.1.getD 0 .d).int (-1)) else bif decide (0 ≤ y2) && decide (y2 < (↑y0.length : Int)) && decide ((y0.getD y2.toNat []).length = 2) then bif zas [.bool] (y0.getD y2.toNat []) 1 && decide (2 ≤ (y0.getD y2.toNat []).length) then bif !((y0.getD y2.toNat []).getD 1 .h).bool == ((val.1.getD 0 .d).int.tmod 3 == 0) then some (zaL.q2 (val.1.getD 0 .d).int (-1)) else zaL.L2 y0 (IntKind.i64.wrap ((val.1.getD 0 .d).int + 1)) (IntKind.i64.wrap (y2 + 1)) else none else none else none else none else none else some (zaL.x2 y1) := by
 refine (zbd (Y := Y) (c := lim' Y) (fn := 95) (rid := 2) (b := zaq 2 zaL.c) (by kernel_rfl) _).trans ?_
 delta zaL.L2 zad zaL.q2 zaL.x2 XX
 generalize lpL (Y.ctx (lim' Y)) 95 = lp
 generalize lim' Y = call
 kernel_rfl
theorem zaL.a2x2 (y0:Int) : zaL.A2 (zaL.x2 y0) = some ⟨[.v (.int .i64 y0)], []⟩ := by
 delta zaL.A2 zaL.x2 XX
 generalize lpL (Y.ctx (lim' Y)) 95 = lp
 generalize lim' Y = call
 kernel_rfl
theorem zbv.e (a0:Int) (a1:LLD) (a2:Int) : zbv [.g [.v (.int .i64 a0), .s a1], .one (.v (.int .i64 a2))] [] = (zan [.one (.s a1), .one (.v (.int .i64 a2))] []).bind fun val => bif zaa [.int .i64] val.1 && true then bif decide ((val.1.getD 0 .d).int < 0) then some ⟨[.v (.int .i64 (-1))], []⟩ else some ⟨[.v (.int .i64 (val.1.getD 0 .d).int)], []⟩ else none := by
 refine (zbv.run _ _ (by kernel_rfl)).trans ?_
 delta zbv zan XX
 generalize lpL (Y.ctx (lim' Y)) 96 = lp
 generalize lim' Y = call
 kernel_rfl
noncomputable def zax.L4 (y0 y1:LLD) (y2:Int) : Option (Ex × St) := lpL XX 107 (zaq 4 zax.c) (mkG 0 27 [(0, .one (.s y0)), (1, .one (.s y1)), (5, .one (.v (.int .i64 y2)))] [] GL)
noncomputable def zax.A4 : Ex × St → Option Res := fun r => evA XX 107 (lpL XX 107) 4 zax.c r.fst r.snd (outE XX 107 Tryz.f107)
noncomputable def zax.q4 (y0:Bool) : Ex × St := (Ex.ret, mkG 0 27 [(4, .one (.v (.bool y0)))] [] GL)
noncomputable def zax.x4 : Ex × St := (Ex.exit 0, mkG 0 27 [] [] GL)
theorem zax.e (a0 a1:LLD) : zax [.one (.s a0), .one (.s a1)] [] = bif (↑a0.length : Int) != (↑a1.length : Int) then some ⟨[.v (.bool false)], []⟩ else (zax.L4 a0 a1 0).bind zax.A4 := by
 refine (zax.run _ _ (by kernel_rfl)).trans ?_
 delta zax zax.L4 zax.A4 XX
 generalize lpL (Y.ctx (lim' Y)) 107 = lp
 generalize lim' Y = call
 kernel_rfl
theorem zax.s4 (y0 y1:LLD) (y2:Int) : zax.L4 y0 y1 y2 = bif decide (y2 < (↑y0.length : Int)) then bif decide (0 ≤ y2) && decide (y2 < (↑y0.length : Int)) && decide ((y0.getD y2.toNat []).length = 1) then bif zas [.sl] (y0.getD y2.toNat []) 0 && decide (1 ≤ (y0.getD y2.toNat []).length) then bif decide (0 ≤ y2) && decide (y2 < (↑y1.length : Int)) && decide ((y1.getD y2.toNat []).length = 1) then bif zas [.sl] (y1.getD y2.toNat []) 0 && decide (1 ≤ (y1.getD y2.toNat []).length) then (zao [.one (.s ((y0.getD y2.toNat []).getD 0 .h).es), .one (.s ((y1.getD y2.toNat []).getD 0 .h).es)] []).bind fun val => bif zaa [.bool] val.1 && true then bif !(val.1.getD 0 .d).bool then some (zax.q4 false) else zax.L4 y0 y1 (IntKind.i64.wrap (y2 + 1)) else none else none else none else none else none else some zax.x4 := by
 refine (zbd (Y := Y) (c := lim' Y) (fn := 107) (rid := 4) (b := zaq 4 zax.c) (by kernel_rfl) _).trans ?_
 delta zax.L4 zao zax.q4 zax.x4 XX
 generalize lpL (Y.ctx (lim' Y)) 107 = lp
 generalize lim' Y = call
 kernel_rfl
theorem zax.a4x4 : zax.A4 zax.x4 = some ⟨[.v (.bool true)], []⟩ := by
 delta zax.A4 zax.x4 XX
 generalize lpL (Y.ctx (lim' Y)) 107 = lp
 generalize lim' Y = call
 kernel_rfl
noncomputable def zaO.L4 (y0 y1:LLD) (y2:Int) : Option (Ex × St) := lpL XX 108 (zaq 4 zaO.c) (mkG 0 27 [(0, .one (.s y0)), (1, .one (.s y1)), (5, .one (.v (.int .i64 y2)))] [] GL)
noncomputable def zaO.A4 : Ex × St → Option Res := fun r => evA XX 108 (lpL XX 108) 4 zaO.c r.fst r.snd (outE XX 108 Tryz.f108)
noncomputable def zaO.q4 (y0:Bool) : Ex × St := (Ex.ret, mkG 0 27 [(4, .one (.v (.bool y0)))] [] GL)
noncomputable def zaO.x4 : Ex × St := (Ex.exit 0, mkG 0 27 [] [] GL)
theorem zaO.e (a0 a1:LLD) : zaO [.one (.s a0), .one (.s a1)] [] = bif (↑a0.length : Int) != (↑a1.length : Int) then some ⟨[.v (.bool false)], []⟩ else (zaO.L4 a0 a1 0).bind zaO.A4 := by
 refine (zaO.run _ _ (by kernel_rfl)).trans ?_
 delta zaO zaO.L4 zaO.A4 XX
 generalize lpL (Y.ctx (lim' Y)) 108 = lp
 generalize lim' Y = call
 kernel_rfl
theorem zaO.s4 (y0 y1:LLD) (y2:Int) : zaO.L4 y0 y1 y2 = bif decide (y2 < (↑y0.length : Int)) then bif decide (0 ≤ y2) && decide (y2 < (↑y0.length : Int)) && decide ((y0.getD y2.toNat []).length = 5) then bif zas [.sl, .int .i64, .bool, .int .i64, .str] (y0.getD y2.toNat []) 0 && decide (5 ≤ (y0.getD y2.toNat []).length) then bif decide (0 ≤ y2) && decide (y2 < (↑y1.length : Int)) && decide ((y1.getD y2.toNat []).length = 5) then bif zas [.sl, .int .i64, .bool, .int .i64, .str] (y1.getD y2.toNat []) 0 && decide (5 ≤ (y1.getD y2.toNat []).length) then (zbt [.g [.s ((y0.getD y2.toNat []).getD 0 .h).es, .v (.int .i64 ((y0.getD y2.toNat []).getD 1 .h).int), .v (.bool ((y0.getD y2.toNat []).getD 2 .h).bool), .v (.int .i64 ((y0.getD y2.toNat []).getD 3 .h).int), .v (.string ((y0.getD y2.toNat []).getD 4 .h).str)], .g [.s ((y1.getD y2.toNat []).getD 0 .h).es, .v (.int .i64 ((y1.getD y2.toNat []).getD 1 .h).int), .v (.bool ((y1.getD y2.toNat []).getD 2 .h).bool), .v (.int .i64 ((y1.getD y2.toNat []).getD 3 .h).int), .v (.string ((y1.getD y2.toNat []).getD 4 .h).str)]] []).bind fun val => bif zaa [.bool] val.1 && true then bif !(val.1.getD 0 .d).bool then some (zaO.q4 false) else zaO.L4 y0 y1 (IntKind.i64.wrap (y2 + 1)) else none else none else none else none else none else some zaO.x4 := by
 refine (zbd (Y := Y) (c := lim' Y) (fn := 108) (rid := 4) (b := zaq 4 zaO.c) (by kernel_rfl) _).trans ?_
 delta zaO.L4 zbt zaO.q4 zaO.x4 XX
 generalize lpL (Y.ctx (lim' Y)) 108 = lp
 generalize lim' Y = call
 kernel_rfl
theorem zaO.a4x4 : zaO.A4 zaO.x4 = some ⟨[.v (.bool true)], []⟩ := by
 delta zaO.A4 zaO.x4 XX
 generalize lpL (Y.ctx (lim' Y)) 108 = lp
 generalize lim' Y = call
 kernel_rfl
noncomputable def zar.L2 (y0 y1:Int) (y2:LLD) : Option (Ex × St) := lpL XX 109 (zaq 2 zar.c) (mkG 1 19 [(0, .one (.r 0 [] 0)), (1, .one (.v (.int .i64 y0))), (5, .one (.v (.int .i64 y1)))] [(0, some ⟨.virt, [.s y2], [.deep]⟩)] GL)
noncomputable def zar.A2 : Ex × St → Option Res := fun r => evA XX 109 (lpL XX 109) 2 zar.c r.fst r.snd (outE XX 109 Tryz.f109)
noncomputable def zar.x2 (y0:Int) (y1:LLD) : Ex × St := (Ex.exit 0, mkG 1 19 [(1, .one (.v (.int .i64 y0)))] [(0, some ⟨.virt, [.s y1], [.deep]⟩)] GL)
theorem zar.e (a0:LLD) (a1:Int) : zar [.one (.r 0 [] 0), .one (.v (.int .i64 a1))] [⟨.virt, [.s a0], [.deep]⟩] = (zar.L2 a1 0 a0).bind zar.A2 := by
 refine (zar.run _ _ (by kernel_rfl)).trans ?_
 delta zar zar.L2 zar.A2 XX
 generalize lpL (Y.ctx (lim' Y)) 109 = lp
 generalize lim' Y = call
 kernel_rfl
theorem zar.s2 (y0 y1:Int) (y2:LLD) : zar.L2 y0 y1 y2 = bif decide (y1 < (↑y2.length : Int)) then bif decide (0 ≤ y1) && decide (y1 < (↑y2.length : Int)) && decide ((y2.getD y1.toNat []).length = 1) then bif zas [.sl] (y2.getD y1.toNat []) 0 && decide (1 ≤ (y2.getD y1.toNat []).length) then (zaf [.one (.r 0 [] 0), .one (.v (.int .i64 y0))] [⟨.virt, [.s ((y2.getD y1.toNat []).getD 0 .h).es], [.deep]⟩]).bind fun val => bif zaa [.int .i64] val.1 && zaV [⟨⟨.virt, [.s ((y2.getD y1.toNat []).getD 0 .h).es], [.deep]⟩, .sl 0 [(0, y1.toNat)] 0⟩] val.2 then zar.L2 (val.1.getD 0 .d).int (IntKind.i64.wrap (y1 + 1)) (y2.set y1.toNat ((y2.getD y1.toNat []).set 0 (.s ((val.2.getD 0 ⟨.ro, [], []⟩).2.getD 0 .h).es))) else none else none else none else some (zar.x2 y0 y2) := by
 refine (zbd (Y := Y) (c := lim' Y) (fn := 109) (rid := 2) (b := zaq 2 zar.c) (by kernel_rfl) _).trans ?_
 delta zar.L2 zaf zar.x2 XX
 generalize lpL (Y.ctx (lim' Y)) 109 = lp
 generalize lim' Y = call
 kernel_rfl
theorem zar.a2x2 (y0:Int) (y1:LLD) : zar.A2 (zar.x2 y0 y1) = some ⟨[.v (.int .i64 y0)], [⟨.virt, [.s y1], [.deep]⟩]⟩ := by
 delta zar.A2 zar.x2 XX
 generalize lpL (Y.ctx (lim' Y)) 109 = lp
 generalize lim' Y = call
 kernel_rfl
noncomputable def zaE.L2 (y0 y1:Int) (y2:LLD) : Option (Ex × St) := lpL XX 110 (zaq 2 zaE.c) (mkG 1 51 [(0, .one (.r 0 [] 0)), (1, .one (.v (.int .i64 y0))), (5, .one (.v (.int .i64 y1)))] [(0, some ⟨.virt, [.s y2], [.deep]⟩)] GL)
noncomputable def zaE.A2 : Ex × St → Option Res := fun r => evA XX 110 (lpL XX 110) 2 zaE.c r.fst r.snd (outE XX 110 Tryz.f110)
noncomputable def zaE.P8 (y0 y1:Int) (y2:LLD) : Option (Ex × St) := evB XX 110 (lpL XX 110) 8 (zaq 2 zaE.c) (mkG 1 51 [(0, .one (.r 0 [] 0)), (1, .one (.v (.int .i64 y0))), (5, .one (.v (.int .i64 y1)))] [(0, some ⟨.virt, [.s y2], [.deep]⟩)] GL) (backL (lpL XX 110) (zaq 2 zaE.c) (XX.live 110 2))
noncomputable def zaE.x2 (y0:Int) (y1:LLD) : Ex × St := (Ex.exit 0, mkG 1 51 [(1, .one (.v (.int .i64 y0)))] [(0, some ⟨.virt, [.s y1], [.deep]⟩)] GL)
theorem zaE.e (a0:LLD) (a1:Int) : zaE [.one (.r 0 [] 0), .one (.v (.int .i64 a1))] [⟨.virt, [.s a0], [.deep]⟩] = (zaE.L2 a1 0 a0).bind zaE.A2 := by
 refine (zaE.run _ _ (by kernel_rfl)).trans ?_
 delta zaE zaE.L2 zaE.A2 XX
 generalize lpL (Y.ctx (lim' Y)) 110 = lp
 generalize lim' Y = call
 kernel_rfl
theorem zaE.s2 (y0 y1:Int) (y2:LLD) : zaE.L2 y0 y1 y2 = bif decide (y1 < (↑y2.length : Int)) then bif decide (0 ≤ y1) && decide (y1 < (↑y2.length : Int)) && decide ((y2.getD y1.toNat []).length = 5) then bif zas [.sl] (y2.getD y1.toNat []) 0 && decide (1 ≤ (y2.getD y1.toNat []).length) then (zaf [.one (.r 0 [] 0), .one (.v (.int .i64 y0))] [⟨.virt, [.s ((y2.getD y1.toNat []).getD 0 .h).es], [.deep]⟩]).bind fun val => bif zaa [.int .i64] val.1 && zaV [⟨⟨.virt, [.s ((y2.getD y1.toNat []).getD 0 .h).es], [.deep]⟩, .sl 0 [(0, y1.toNat)] 0⟩] val.2 then bif decide (0 ≤ y1) && decide (y1 < (↑(y2.set y1.toNat ((y2.getD y1.toNat []).set 0 (.s ((val.2.getD 0 ⟨.ro, [], []⟩).2.getD 0 .h).es))).length : Int)) && decide (((y2.set y1.toNat ((y2.getD y1.toNat []).set 0 (.s ((val.2.getD 0 ⟨.ro, [], []⟩).2.getD 0 .h).es))).getD y1.toNat []).length = 5) then bif decide (2 ≤ ((y2.set y1.toNat ((y2.getD y1.toNat []).set 0 (.s ((val.2.getD 0 ⟨.ro, [], []⟩).2.getD 0 .h).es))).getD y1.toNat []).length) && true then bif decide (0 ≤ y1) && decide (y1 < (↑((y2.set y1.toNat ((y2.getD y1.toNat []).set 0 (.s ((val.2.getD 0 ⟨.ro, [], []⟩).2.getD 0 .h).es))).set y1.toNat (List.take 1 ((y2.set y1.toNat ((y2.getD y1.toNat []).set 0 (.s ((val.2.getD 0 ⟨.ro, [], []⟩).2.getD 0 .h).es))).getD y1.toNat []) ++ [.v (.int .i64 (val.1.getD 0 .d).int)] ++ List.drop 2 ((y2.set y1.toNat ((y2.getD y1.toNat []).set 0 (.s ((val.2.getD 0 ⟨.ro, [], []⟩).2.getD 0 .h).es))).getD y1.toNat []))).length : Int)) && decide ((((y2.set y1.toNat ((y2.getD y1.toNat []).set 0 (.s ((val.2.getD 0 ⟨.ro, [], []⟩).2.getD 0 .h).es))).set y1.toNat (List.take 1 ((y2.set y1.toNat ((y2.getD y1.toNat []).set 0 (.s ((val.2.getD 0 ⟨.ro, [], []⟩).2.getD 0 .h).es))).getD y1.toNat []) ++ [.v (.int .i64 (val.1.getD 0 .d).int)] ++ List.drop 2 ((y2.set y1.toNat ((y2.getD y1.toNat []).set 0 (.s ((val.2.getD 0 ⟨.ro, [], []⟩).2.getD 0 .h).es))).getD y1.toNat []))).getD y1.toNat []).length = 5) then bif decide (3 ≤ (((y2.set y1.toNat ((y2.getD y1.toNat []).set 0 (.s ((val.2.getD 0 ⟨.ro, [], []⟩).2.getD 0 .h).es))).set y1.toNat (List.take 1 ((y2.set y1.toNat ((y2.getD y1.toNat []).set 0 (.s ((val.2.getD 0 ⟨.ro, [], []⟩).2.getD 0 .h).es))).getD y1.toNat []) ++ [.v (.int .i64 (val.1.getD 0 .d).int)] ++ List.drop 2 ((y2.set y1.toNat ((y2.getD y1.toNat []).set 0 (.s ((val.2.getD 0 ⟨.ro, [], []⟩).2.getD 0 .h).es))).getD y1.toNat []))).getD y1.toNat []).length) && true then zaE.P8 (IntKind.i64.wrap ((val.1.getD 0 .d).int + 1)) y1 (((y2.set y1.toNat ((y2.getD y1.toNat []).set 0 (.s ((val.2.getD 0 ⟨.ro, [], []⟩).2.getD 0 .h).es))).set y1.toNat (List.take 1 ((y2.set y1.toNat ((y2.getD y1.toNat []).set 0 (.s ((val.2.getD 0 ⟨.ro, [], []⟩).2.getD 0 .h).es))).getD y1.toNat []) ++ [.v (.int .i64 (val.1.getD 0 .d).int)] ++ List.drop 2 ((y2.set y1.toNat ((y2.getD y1.toNat []).set 0 (.s ((val.2.getD 0 ⟨.ro, [], []⟩).2.getD 0 .h).es))).getD y1.toNat []))).set y1.toNat (List.take 2 (((y2.set y1.toNat ((y2.getD y1.toNat []).set 0 (.s ((val.2.getD 0 ⟨.ro, [], []⟩).2.getD 0 .h).es))).set y1.toNat (List.take 1 ((y2.set y1.toNat ((y2.getD y1.toNat []).set 0 (.s ((val.2.getD 0 ⟨.ro, [], []⟩).2.getD 0 .h).es))).getD y1.toNat []) ++ [.v (.int .i64 (val.1.getD 0 .d).int)] ++ List.drop 2 ((y2.set y1.toNat ((y2.getD y1.toNat []).set 0 (.s ((val.2.getD 0 ⟨.ro, [], []⟩).2.getD 0 .h).es))).getD y1.toNat []))).getD y1.toNat []) ++ [.v (.bool ((IntKind.i64.wrap ((val.1.getD 0 .d).int + 1)).tmod 3 == 0))] ++ List.drop 3 (((y2.set y1.toNat ((y2.getD y1.toNat []).set 0 (.s ((val.2.getD 0 ⟨.ro, [], []⟩).2.getD 0 .h).es))).set y1.toNat (List.take 1 ((y2.set y1.toNat ((y2.getD y1.toNat []).set 0 (.s ((val.2.getD 0 ⟨.ro, [], []⟩).2.getD 0 .h).es))).getD y1.toNat []) ++ [.v (.int .i64 (val.1.getD 0 .d).int)] ++ List.drop 2 ((y2.set y1.toNat ((y2.getD y1.toNat []).set 0 (.s ((val.2.getD 0 ⟨.ro, [], []⟩).2.getD 0 .h).es))).getD y1.toNat []))).getD y1.toNat []))) else none else none else none else none else none else none else none else some (zaE.x2 y0 y2) := by
 refine (zbd (Y := Y) (c := lim' Y) (fn := 110) (rid := 2) (b := zaq 2 zaE.c) (by kernel_rfl) _).trans ?_
 delta zaE.L2 zaf zaE.P8 zaE.x2 XX
 refine zbw [8] (by kernel_rfl) fun J e1 => ?_
 try simp only [← e1]
 clear e1
 generalize lpL (Y.ctx (lim' Y)) 110 = lp
 generalize lim' Y = call
 kernel_rfl
theorem zaE.a2x2 (y0:Int) (y1:LLD) : zaE.A2 (zaE.x2 y0 y1) = some ⟨[.v (.int .i64 y0)], [⟨.virt, [.s y1], [.deep]⟩]⟩ := by
 delta zaE.A2 zaE.x2 XX
 generalize lpL (Y.ctx (lim' Y)) 110 = lp
 generalize lim' Y = call
 kernel_rfl
noncomputable def zal.L2 (y0:LLD) (y1 y2:Int) : Option (Ex × St) := lpL XX 111 (zaq 2 zal.c) (mkG 0 21 [(0, .one (.s y0)), (1, .one (.v (.int .i64 y1))), (5, .one (.v (.int .i64 y2)))] [] GL)
noncomputable def zal.A2 : Ex × St → Option Res := fun r => evA XX 111 (lpL XX 111) 2 zal.c r.fst r.snd (outE XX 111 Tryz.f111)
noncomputable def zal.q2 (y0 y1:Int) : Ex × St := (Ex.ret, mkG 0 21 [(1, .one (.v (.int .i64 y0))), (4, .one (.v (.int .i64 y1)))] [] GL)
noncomputable def zal.x2 (y0:Int) : Ex × St := (Ex.exit 0, mkG 0 21 [(1, .one (.v (.int .i64 y0)))] [] GL)
theorem zal.e (a0:LLD) (a1:Int) : zal [.one (.s a0), .one (.v (.int .i64 a1))] [] = (zal.L2 a0 a1 0).bind zal.A2 := by
 refine (zal.run _ _ (by kernel_rfl)).trans ?_
 delta zal zal.L2 zal.A2 XX
 generalize lpL (Y.ctx (lim' Y)) 111 = lp
 generalize lim' Y = call
 kernel_rfl
theorem zal.s2 (y0:LLD) (y1 y2:Int) : zal.L2 y0 y1 y2 = bif decide (y2 < (↑y0.length : Int)) then bif decide (0 ≤ y2) && decide (y2 < (↑y0.length : Int)) && decide ((y0.getD y2.toNat []).length = 1) then bif zas [.sl] (y0.getD y2.toNat []) 0 && decide (1 ≤ (y0.getD y2.toNat []).length) then (zad [.one (.s ((y0.getD y2.toNat []).getD 0 .h).es), .one (.v (.int .i64 y1))] []).bind fun val => bif zaa [.int .i64] val.1 && true then bif decide ((val.1.getD 0 .d).int < 0) then some (zal.q2 (val.1.getD 0 .d).int (-1)) else zal.L2 y0 (val.1.getD 0 .d).int (IntKind.i64.wrap (y2 + 1)) else none else none else none else some (zal.x2 y1) := by
 refine (zbd (Y := Y) (c := lim' Y) (fn := 111) (rid := 2) (b := zaq 2 zal.c) (by kernel_rfl) _).trans ?_
 delta zal.L2 zad zal.q2 zal.x2 XX
 generalize lpL (Y.ctx (lim' Y)) 111 = lp
 generalize lim' Y = call
 kernel_rfl
theorem zal.a2x2 (y0:Int) : zal.A2 (zal.x2 y0) = some ⟨[.v (.int .i64 y0)], []⟩ := by
 delta zal.A2 zal.x2 XX
 generalize lpL (Y.ctx (lim' Y)) 111 = lp
 generalize lim' Y = call
 kernel_rfl
noncomputable def zat.L2 (y0:LLD) (y1 y2:Int) : Option (Ex × St) := lpL XX 112 (zaq 2 zat.c) (mkG 0 61 [(0, .one (.s y0)), (1, .one (.v (.int .i64 y1))), (5, .one (.v (.int .i64 y2)))] [] GL)
noncomputable def zat.A2 : Ex × St → Option Res := fun r => evA XX 112 (lpL XX 112) 2 zat.c r.fst r.snd (outE XX 112 Tryz.f112)
noncomputable def zat.q2 (y0 y1:Int) : Ex × St := (Ex.ret, mkG 0 61 [(1, .one (.v (.int .i64 y0))), (4, .one (.v (.int .i64 y1)))] [] GL)
noncomputable def zat.P10 (y0:LLD) (y1 y2:Int) : Option (Ex × St) := evB XX 112 (lpL XX 112) 10 (zaq 2 zat.c) (mkG 0 61 [(0, .one (.s y0)), (1, .one (.v (.int .i64 y1))), (5, .one (.v (.int .i64 y2)))] [] GL) (backL (lpL XX 112) (zaq 2 zat.c) (XX.live 112 2))
noncomputable def zat.x2 (y0:Int) : Ex × St := (Ex.exit 0, mkG 0 61 [(1, .one (.v (.int .i64 y0)))] [] GL)
theorem zat.e (a0:LLD) (a1:Int) : zat [.one (.s a0), .one (.v (.int .i64 a1))] [] = (zat.L2 a0 a1 0).bind zat.A2 := by
 refine (zat.run _ _ (by kernel_rfl)).trans ?_
 delta zat zat.L2 zat.A2 XX
 generalize lpL (Y.ctx (lim' Y)) 112 = lp
 generalize lim' Y = call
 kernel_rfl
theorem zat.s2 (y0:LLD) (y1 y2:Int) : zat.L2 y0 y1 y2 = bif decide (y2 < (↑y0.length : Int)) then bif decide (0 ≤ y2) && decide (y2 < (↑y0.length : Int)) && decide ((y0.getD y2.toNat []).length = 5) then bif zas [.sl] (y0.getD y2.toNat []) 0 && decide (1 ≤ (y0.getD y2.toNat []).length) then (zad [.one (.s ((y0.getD y2.toNat []).getD 0 .h).es), .one (.v (.int .i64 y1))] []).bind fun val => bif zaa [.int .i64] val.1 && true then bif decide ((val.1.getD 0 .d).int < 0) then some (zat.q2 (val.1.getD 0 .d).int (-1)) else bif decide (0 ≤ y2) && decide (y2 < (↑y0.length : Int)) && decide ((y0.getD y2.toNat []).length = 5) then bif zas [.int .i64] (y0.getD y2.toNat []) 1 && decide (2 ≤ (y0.getD y2.toNat []).length) then bif ((y0.getD y2.toNat []).getD 1 .h).int != (val.1.getD 0 .d).int then some (zat.q2 (val.1.getD 0 .d).int (-1)) else zat.P10 y0 (IntKind.i64.wrap ((val.1.getD 0 .d).int + 1)) y2 else none else none else none else none else none else some (zat.x2 y1) := by
 refine (zbd (Y := Y) (c := lim' Y) (fn := 112) (rid := 2) (b := zaq 2 zat.c) (by kernel_rfl) _).trans ?_
 delta zat.L2 zad zat.q2 zat.P10 zat.x2 XX
 refine zbw [10, 17] (by kernel_rfl) fun J e1 => ?_
 try simp only [← e1]
 clear e1
 generalize lpL (Y.ctx (lim' Y)) 112 = lp
 generalize lim' Y = call
 kernel_rfl
theorem zat.a2x2 (y0:Int) : zat.A2 (zat.x2 y0) = some ⟨[.v (.int .i64 y0)], []⟩ := by
 delta zat.A2 zat.x2 XX
 generalize lpL (Y.ctx (lim' Y)) 112 = lp
 generalize lim' Y = call
 kernel_rfl
noncomputable def zam.L2 (y0:BAy) (y1:Int) : Option (Ex × St) := lpL XX 125 (zaq 2 zam.c) (mkG 0 36 [(0, .one (.v (.string y0))), (3, .one (.v (.int .i64 y1)))] [] GL)
noncomputable def zam.A2 : Ex × St → Option Res := fun r => evA XX 125 (lpL XX 125) 2 zam.c r.fst r.snd (outE XX 125 Tryz.f125)
noncomputable def zam.P5 (y0:BAy) (y1:Int) (y2:Bool) : Option (Ex × St) := evB XX 125 (lpL XX 125) 5 (zaq 2 zam.c) (mkG 0 36 [(0, .one (.v (.string y0))), (3, .one (.v (.int .i64 y1))), (32, .one (.v (.bool y2)))] [] GL) (backL (lpL XX 125) (zaq 2 zam.c) (XX.live 125 2))
noncomputable def zam.x2 (y0:BAy) : Ex × St := (Ex.exit 0, mkG 0 36 [(0, .one (.v (.string y0)))] [] GL)
noncomputable def zam.q2 (y0:BAy) (y1:Bool) : Ex × St := (Ex.ret, mkG 0 36 [(0, .one (.v (.string y0))), (2, .one (.v (.bool y1)))] [] GL)
theorem zam.e (a0:BAy) : zam [.one (.v (.string a0))] [] = (zam.L2 a0 0).bind zam.A2 := by
 refine (zam.run _ _ (by kernel_rfl)).trans ?_
 delta zam zam.L2 zam.A2 XX
 generalize lpL (Y.ctx (lim' Y)) 125 = lp
 generalize lim' Y = call
 kernel_rfl
theorem zam.s2 (y0:BAy) (y1:Int) : zam.L2 y0 y1 = bif decide (y1 < (↑y0.size : Int)) then bif decide (0 ≤ y1) && decide (y1 < (↑y0.size : Int)) then bif decide (zbf y0 y1.toNat ≥ 97) then bif decide (0 ≤ y1) && decide (y1 < (↑y0.size : Int)) then bif decide (zbf y0 y1.toNat ≤ 122) then zam.P5 y0 y1 false else bif decide (0 ≤ y1) && decide (y1 < (↑y0.size : Int)) then bif decide (zbf y0 y1.toNat ≥ 48) then bif decide (0 ≤ y1) && decide (y1 < (↑y0.size : Int)) then zam.P5 y0 y1 !decide (zbf y0 y1.toNat ≤ 57) else none else zam.P5 y0 y1 true else none else none else bif decide (0 ≤ y1) && decide (y1 < (↑y0.size : Int)) then bif decide (zbf y0 y1.toNat ≥ 48) then bif decide (0 ≤ y1) && decide (y1 < (↑y0.size : Int)) then zam.P5 y0 y1 !decide (zbf y0 y1.toNat ≤ 57) else none else zam.P5 y0 y1 true else none else none else some (zam.x2 y0) := by
 refine (zbd (Y := Y) (c := lim' Y) (fn := 125) (rid := 2) (b := zaq 2 zam.c) (by kernel_rfl) _).trans ?_
 delta zam.L2 zam.P5 zam.x2 XX
 refine zbw [5] (by kernel_rfl) fun J e1 => ?_
 try simp only [← e1]
 clear e1
 generalize lpL (Y.ctx (lim' Y)) 125 = lp
 generalize lim' Y = call
 kernel_rfl
theorem zam.p5 (y0:BAy) (y1:Int) (y2:Bool) : zam.P5 y0 y1 y2 = bif y2 then some (zam.q2 y0 false) else zam.L2 y0 (IntKind.i64.wrap (y1 + 1)) := by
 delta zam.P5 zam.q2 zam.L2 XX
 refine zbj [5] 5 (by kernel_rfl) fun J e1 => ?_
 try simp only [← e1]
 clear e1
 generalize lpL (Y.ctx (lim' Y)) 125 = lp
 generalize lim' Y = call
 kernel_rfl
theorem zam.a2x2 (y0:BAy) : zam.A2 (zam.x2 y0) = (sl1In [.one (.v (.int .i64 (↑y0.size : Int))), .one (.v (.int .i64 1)), .one (.v (.int .i64 5))] []).bind fun val => bif zaa [.bool] val.1 && true then some ⟨[.v (.bool (val.1.getD 0 .d).bool)], []⟩ else none := by
 delta zam.A2 zam.x2 sl1In XX
 generalize lpL (Y.ctx (lim' Y)) 125 = lp
 generalize lim' Y = call
 kernel_rfl
theorem zam.a2q2 (y0:BAy) (y1:Bool) : zam.A2 (zam.q2 y0 y1) = some ⟨[.v (.bool y1)], []⟩ := by
 delta zam.A2 zam.q2 XX
 generalize lpL (Y.ctx (lim' Y)) 125 = lp
 generalize lim' Y = call
 kernel_rfl
theorem sl1In.e (a0 a1 a2:Int) : sl1In [.one (.v (.int .i64 a0)), .one (.v (.int .i64 a1)), .one (.v (.int .i64 a2))] [] = bif decide (a0 ≥ a1) then some ⟨[.v (.bool (decide (a0 ≤ a2)))], []⟩ else some ⟨[.v (.bool false)], []⟩ := by
 refine (sl1In.run _ _ (by kernel_rfl)).trans ?_
 delta sl1In XX
 generalize lpL (Y.ctx (lim' Y)) 126 = lp
 generalize lim' Y = call
 kernel_rfl
noncomputable def za1.L3 (y0:LLD) (y1:Int) (y2:Bool) (y3:Int) (y4:BAy) (y5 y6 y7:LLD) : Option (Ex × St) := lpL XX 128 (zaq 3 za1.c) (mkG 0 43 [(0, .one (.s y0)), (3, .one (.p true 3 [] 0)), (5, .one (.r 5 [] 0)), (6, .one (.v (.int .i64 y1)))] [(3, some ⟨.box, [.v (.bool y2), .v (.int .i64 y3), .v (.string y4), .s y5, .s y6], [.deep, .deep, .deep, .sh, .sh]⟩), (5, some ⟨.virt, [.s y7], [.deep]⟩)] GL)
noncomputable def za1.A3 : Ex × St → Option Res := fun r => evA XX 128 (lpL XX 128) 3 za1.c r.fst r.snd (outE XX 128 Tryz.f128)
noncomputable def za1.x3 (y0:LLD) : Ex × St := (Ex.exit 0, mkG 0 43 [(5, .one (.r 5 [] 0))] [(5, some ⟨.virt, [.s y0], [.deep]⟩)] GL)
theorem za1.e (a0:LLD) (a1:Bool) (a2:Int) (a3:BAy) (a4 a5:LLD) : za1 [.one (.s a0), .g [.v (.bool a1), .v (.int .i64 a2), .v (.string a3), .s a4, .s a5]] [] = bif zaF 1 a0 && zaT false a0 && true && decide ((0 + a0.length) * 17 ≤ 70368744177664) then (zdO [.g [.v (.bool a1), .v (.int .i64 a2), .v (.string a3), .s a4, .s a5]] []).bind fun val => bif zaa [.int .i64] val.1 && true then (za1.L3 a0 0 a1 a2 a3 a4 a5 [[.s a0, .v (.bool a1), .v (.int .i64 a2), .v (.string a3), .v (.int .i64 (val.1.getD 0 .d).int)]]).bind za1.A3 else none else none := by
 refine (za1.run _ _ (by kernel_rfl)).trans ?_
 delta za1 zdO za1.L3 za1.A3 XX
 generalize lpL (Y.ctx (lim' Y)) 128 = lp
 generalize lim' Y = call
 kernel_rfl
theorem za1.s3 (y0:LLD) (y1:Int) (y2:Bool) (y3:Int) (y4:BAy) (y5 y6 y7:LLD) : za1.L3 y0 y1 y2 y3 y4 y5 y6 y7 = bif decide (y1 < (↑y5.length : Int)) then bif decide (0 ≤ y1) && decide (y1 < (↑y5.length : Int)) && decide ((y5.getD y1.toNat []).length = 1) then bif zas [.str] (y5.getD y1.toNat []) 0 && decide (1 ≤ (y5.getD y1.toNat []).length) then (zcm [.one (.s y0), .one (.v (.string ((y5.getD y1.toNat []).getD 0 .h).str))] []).bind fun val => bif zaa [.sh] val.1 && true then bif decide (0 ≤ y1) && decide (y1 < (↑y6.length : Int)) && decide ((y6.getD y1.toNat []).length = 5) then bif zas [.bool, .int .i64, .str, .sl, .sl] (y6.getD y1.toNat []) 0 && decide (5 ≤ (y6.getD y1.toNat []).length) then (za1 [.one (.s (val.1.getD 0 .d).es), .g [.v (.bool ((y6.getD y1.toNat []).getD 0 .h).bool), .v (.int .i64 ((y6.getD y1.toNat []).getD 1 .h).int), .v (.string ((y6.getD y1.toNat []).getD 2 .h).str), .s ((y6.getD y1.toNat []).getD 3 .h).es, .s ((y6.getD y1.toNat []).getD 4 .h).es]] []).bind fun val => bif zaa [.own .deep] val.1 && true then bif zaF 5 y7 && zaF 5 (val.1.getD 0 .d).es && zaT true (val.1.getD 0 .d).es && true && decide ((y7.length + (val.1.getD 0 .d).es.length) * 65 ≤ 70368744177664) then za1.L3 y0 (IntKind.i64.wrap (y1 + 1)) y2 y3 y4 y5 y6 (y7 ++ (val.1.getD 0 .d).es) else none else none else none else none else none else none else none else some (za1.x3 y7) := by
 refine (zbd (Y := Y) (c := lim' Y) (fn := 128) (rid := 3) (b := zaq 3 za1.c) (by kernel_rfl) _).trans ?_
 delta za1.L3 zcm za1 za1.x3 XX
 generalize lpL (Y.ctx (lim' Y)) 128 = lp
 generalize lim' Y = call
 kernel_rfl
theorem za1.a3x3 (y0:LLD) : za1.A3 (za1.x3 y0) = some ⟨[.o .deep y0], []⟩ := by
 delta za1.A3 za1.x3 XX
 generalize lpL (Y.ctx (lim' Y)) 128 = lp
 generalize lim' Y = call
 kernel_rfl
noncomputable def zac.P2 (y0:Int) (y1 y2:Bool) (y3:Int) (y4:BAy) (y5 y6:LLD) : Option Res := evB XX 133 (lpL XX 133) 2 zac.c (mkG 0 77 [(1, .one (.v (.int .i64 y0))), (2, .one (.p true 2 [] 0)), (23, .one (.v (.bool y1)))] [(2, some ⟨.box, [.v (.bool y2), .v (.int .i64 y3), .v (.string y4), .s y5, .s y6], [.deep, .deep, .deep, .sh, .sh]⟩)] GL) (outE XX 133 Tryz.f133)
noncomputable def zac.P3 (y0:Int) (y1:Bool) (y2:Int) (y3:BAy) (y4 y5:LLD) : Option Res := evB XX 133 (lpL XX 133) 3 zac.c (mkG 0 77 [(1, .one (.v (.int .i64 y0))), (2, .one (.p true 2 [] 0))] [(2, some ⟨.box, [.v (.bool y1), .v (.int .i64 y2), .v (.string y3), .s y4, .s y5], [.deep, .deep, .deep, .sh, .sh]⟩)] GL) (outE XX 133 Tryz.f133)
noncomputable def zac.L8 (y0:Int) (y1:LLD) (y2 y3:Int) (y4:Bool) (y5:Int) (y6:BAy) (y7 y8:LLD) : Option (Ex × St) := lpL XX 133 (zaq 8 zac.c) (mkG 0 77 [(1, .one (.v (.int .i64 y0))), (2, .one (.p true 2 [] 0)), (41, .one (.s y1)), (42, .one (.v (.int .i64 y2))), (43, .one (.v (.int .i64 y3)))] [(2, some ⟨.box, [.v (.bool y4), .v (.int .i64 y5), .v (.string y6), .s y7, .s y8], [.deep, .deep, .deep, .sh, .sh]⟩)] GL)
noncomputable def zac.A8 : Ex × St → Option Res := fun r => evA XX 133 (lpL XX 133) 8 zac.c r.fst r.snd (outE XX 133 Tryz.f133)
noncomputable def zac.P11 (y0:Int) (y1:LLD) (y2 y3:Int) (y4 y5:Bool) (y6:Int) (y7:BAy) (y8 y9:LLD) : Option (Ex × St) := evB XX 133 (lpL XX 133) 11 (zaq 8 zac.c) (mkG 0 77 [(1, .one (.v (.int .i64 y0))), (2, .one (.p true 2 [] 0)), (41, .one (.s y1)), (42, .one (.v (.int .i64 y2))), (43, .one (.v (.int .i64 y3))), (75, .one (.v (.bool y4)))] [(2, some ⟨.box, [.v (.bool y5), .v (.int .i64 y6), .v (.string y7), .s y8, .s y9], [.deep, .deep, .deep, .sh, .sh]⟩)] GL) (backL (lpL XX 133) (zaq 8 zac.c) (XX.live 133 8))
noncomputable def zac.x8 : Ex × St := (Ex.exit 0, mkG 0 77 [] [] GL)
noncomputable def zac.q8 (y0:Bool) : Ex × St := (Ex.ret, mkG 0 77 [(4, .one (.v (.bool y0)))] [] GL)
theorem zac.e (a0:Bool) (a1:Int) (a2:BAy) (a3 a4:LLD) (a5:Int) : zac [.g [.v (.bool a0), .v (.int .i64 a1), .v (.string a2), .s a3, .s a4], .one (.v (.int .i64 a5))] [] = (zc2 [.one (.v (.int .i64 a1))] []).bind fun val => bif zaa [.bool] val.1 && true then bif !(val.1.getD 0 .d).bool then zac.P2 a5 true a0 a1 a2 a3 a4 else bif decide (a5 > 4) then zac.P2 a5 true a0 a1 a2 a3 a4 else zac.P2 a5 ((↑a3.length : Int) != (↑a4.length : Int)) a0 a1 a2 a3 a4 else none := by
 refine (zac.run _ _ (by kernel_rfl)).trans ?_
 delta zac zc2 zac.P2 XX
 refine zbw [2, 3] (by kernel_rfl) fun J e1 => ?_
 try simp only [← e1]
 clear e1
 generalize lpL (Y.ctx (lim' Y)) 133 = lp
 generalize lim' Y = call
 kernel_rfl
theorem zac.p2 (y0:Int) (y1 y2:Bool) (y3:Int) (y4:BAy) (y5 y6:LLD) : zac.P2 y0 y1 y2 y3 y4 y5 y6 = bif y1 then some ⟨[.v (.bool false)], []⟩ else zac.P3 y0 y2 y3 y4 y5 y6 := by
 delta zac.P2 zac.P3 XX
 refine zbj [2, 3] 2 (by kernel_rfl) fun J e1 => ?_
 try simp only [← e1]
 clear e1
 generalize lpL (Y.ctx (lim' Y)) 133 = lp
 generalize lim' Y = call
 kernel_rfl
theorem zac.p3 (y0:Int) (y1:Bool) (y2:Int) (y3:BAy) (y4 y5:LLD) : zac.P3 y0 y1 y2 y3 y4 y5 = bif !y1 then bif decide ((↑y3.size : Int) ≤ 24) then some ⟨[.v (.bool ((↑y4.length : Int) == 0))], []⟩ else some ⟨[.v (.bool false)], []⟩ else bif !y3.toList == [] then some ⟨[.v (.bool false)], []⟩ else (zac.L8 y0 y4 (↑y4.length : Int) 0 y1 y2 y3 y4 y5).bind zac.A8 := by
 delta zac.P3 zac.L8 zac.A8 XX
 refine zbj [2, 3] 3 (by kernel_rfl) fun J e1 => ?_
 have eA := evA_J [2, 3] 8 (by kernel_rfl) e1
 try simp only [eA]
 clear eA
 try simp only [← e1]
 clear e1
 show _ = _
 generalize lpL (Y.ctx (lim' Y)) 133 = lp
 generalize lim' Y = call
 kernel_rfl
theorem zac.s8 (y0:Int) (y1:LLD) (y2 y3:Int) (y4:Bool) (y5:Int) (y6:BAy) (y7 y8:LLD) : zac.L8 y0 y1 y2 y3 y4 y5 y6 y7 y8 = bif decide (y3 < y2) then bif decide (0 ≤ y3) && decide (y3 < (↑y1.length : Int)) && decide ((y1.getD y3.toNat []).length = 1) then bif zas [.str] (y1.getD y3.toNat []) 0 && decide (1 ≤ (y1.getD y3.toNat []).length) then (zaP [.one (.v (.string ((y1.getD y3.toNat []).getD 0 .h).str))] []).bind fun val => bif zaa [.bool] val.1 && true then bif !(val.1.getD 0 .d).bool then zac.P11 y0 y1 y2 y3 true y4 y5 y6 y7 y8 else bif decide (y3 > 0) then bif decide (0 ≤ IntKind.i64.wrap (y3 - 1)) && decide (IntKind.i64.wrap (y3 - 1) < (↑y7.length : Int)) && decide ((y7.getD (IntKind.i64.wrap (y3 - 1)).toNat []).length = 1) then bif zas [.str] (y7.getD (IntKind.i64.wrap (y3 - 1)).toNat []) 0 && decide (1 ≤ (y7.getD (IntKind.i64.wrap (y3 - 1)).toNat []).length) then bif !Op.bytesLess ((y7.getD (IntKind.i64.wrap (y3 - 1)).toNat []).getD 0 .h).str.toList ((y1.getD y3.toNat []).getD 0 .h).str.toList then zac.P11 y0 y1 y2 y3 true y4 y5 y6 y7 y8 else bif decide (0 ≤ y3) && decide (y3 < (↑y8.length : Int)) && decide ((y8.getD y3.toNat []).length = 5) then bif zas [.bool, .int .i64, .str, .sl, .sl] (y8.getD y3.toNat []) 0 && decide (5 ≤ (y8.getD y3.toNat []).length) then (zac [.g [.v (.bool ((y8.getD y3.toNat []).getD 0 .h).bool), .v (.int .i64 ((y8.getD y3.toNat []).getD 1 .h).int), .v (.string ((y8.getD y3.toNat []).getD 2 .h).str), .s ((y8.getD y3.toNat []).getD 3 .h).es, .s ((y8.getD y3.toNat []).getD 4 .h).es], .one (.v (.int .i64 (IntKind.i64.wrap (y0 + 1))))] []).bind fun val => bif zaa [.bool] val.1 && true then zac.P11 y0 y1 y2 y3 (!(val.1.getD 0 .d).bool) y4 y5 y6 y7 y8 else none else none else none else none else none else bif decide (0 ≤ y3) && decide (y3 < (↑y8.length : Int)) && decide ((y8.getD y3.toNat []).length = 5) then bif zas [.bool, .int .i64, .str, .sl, .sl] (y8.getD y3.toNat []) 0 && decide (5 ≤ (y8.getD y3.toNat []).length) then (zac [.g [.v (.bool ((y8.getD y3.toNat []).getD 0 .h).bool), .v (.int .i64 ((y8.getD y3.toNat []).getD 1 .h).int), .v (.string ((y8.getD y3.toNat []).getD 2 .h).str), .s ((y8.getD y3.toNat []).getD 3 .h).es, .s ((y8.getD y3.toNat []).getD 4 .h).es], .one (.v (.int .i64 (IntKind.i64.wrap (y0 + 1))))] []).bind fun val => bif zaa [.bool] val.1 && true then zac.P11 y0 y1 y2 y3 (!(val.1.getD 0 .d).bool) y4 y5 y6 y7 y8 else none else none else none else none else none else none else some zac.x8 := by
 refine (zbd (Y := Y) (c := lim' Y) (fn := 133) (rid := 8) (b := zaq 8 zac.c) (by kernel_rfl) _).trans ?_
 delta zac.L8 zaP zac.P11 zac zac.x8 XX
 refine zbw [11] (by kernel_rfl) fun J e1 => ?_
 try simp only [← e1]
 clear e1
 generalize lpL (Y.ctx (lim' Y)) 133 = lp
 generalize lim' Y = call
 kernel_rfl
theorem zac.p11 (y0:Int) (y1:LLD) (y2 y3:Int) (y4 y5:Bool) (y6:Int) (y7:BAy) (y8 y9:LLD) : zac.P11 y0 y1 y2 y3 y4 y5 y6 y7 y8 y9 = bif y4 then some (zac.q8 false) else zac.L8 y0 y1 y2 (IntKind.i64.wrap (y3 + 1)) y5 y6 y7 y8 y9 := by
 delta zac.P11 zac.q8 zac.L8 XX
 refine zbj [11] 11 (by kernel_rfl) fun J e1 => ?_
 try simp only [← e1]
 clear e1
 generalize lpL (Y.ctx (lim' Y)) 133 = lp
 generalize lim' Y = call
 kernel_rfl
theorem zac.a8x8 : zac.A8 zac.x8 = some ⟨[.v (.bool true)], []⟩ := by
 delta zac.A8 zac.x8 XX
 refine zc1 [2, 3] 8 (by kernel_rfl) fun J e1 => ?_
 have eA := evA_J [2, 3] 8 (by kernel_rfl) e1
 try simp only [eA]
 clear eA
 try simp only [← e1]
 clear e1
 show _ = _
 generalize lpL (Y.ctx (lim' Y)) 133 = lp
 generalize lim' Y = call
 kernel_rfl
theorem zac.a8q8 (y0:Bool) : zac.A8 (zac.q8 y0) = some ⟨[.v (.bool y0)], []⟩ := by
 delta zac.A8 zac.q8 XX
 refine zc1 [2, 3] 8 (by kernel_rfl) fun J e1 => ?_
 have eA := evA_J [2, 3] 8 (by kernel_rfl) e1
 try simp only [eA]
 clear eA
 try simp only [← e1]
 clear e1
 show _ = _
 generalize lpL (Y.ctx (lim' Y)) 133 = lp
 generalize lim' Y = call
 kernel_rfl
noncomputable def zaz.L3 (y0:Int) (y1:LLD) (y2 y3:Int) : Option (Ex × St) := lpL XX 134 (zaq 3 zaz.c) (mkG 0 19 [(3, .one (.v (.int .i64 y0))), (7, .one (.s y1)), (8, .one (.v (.int .i64 y2))), (9, .one (.v (.int .i64 y3)))] [] GL)
noncomputable def zaz.A3 : Ex × St → Option Res := fun r => evA XX 134 (lpL XX 134) 3 zaz.c r.fst r.snd (outE XX 134 Tryz.f134)
noncomputable def zaz.x3 (y0:Int) : Ex × St := (Ex.exit 0, mkG 0 19 [(3, .one (.v (.int .i64 y0)))] [] GL)
theorem zaz.e (a0:Bool) (a1:Int) (a2:BAy) (a3 a4:LLD) : zaz [.g [.v (.bool a0), .v (.int .i64 a1), .v (.string a2), .s a3, .s a4]] [] = (zaz.L3 1 a4 (↑a4.length : Int) 0).bind zaz.A3 := by
 refine (zaz.run _ _ (by kernel_rfl)).trans ?_
 delta zaz zaz.L3 zaz.A3 XX
 generalize lpL (Y.ctx (lim' Y)) 134 = lp
 generalize lim' Y = call
 kernel_rfl
theorem zaz.s3 (y0:Int) (y1:LLD) (y2 y3:Int) : zaz.L3 y0 y1 y2 y3 = bif decide (y3 < y2) then bif decide (0 ≤ y3) && decide (y3 < (↑y1.length : Int)) && decide ((y1.getD y3.toNat []).length = 5) then bif zas [.bool, .int .i64, .str, .sl, .sl] (y1.getD y3.toNat []) 0 && decide (5 ≤ (y1.getD y3.toNat []).length) then (zaz [.g [.v (.bool ((y1.getD y3.toNat []).getD 0 .h).bool), .v (.int .i64 ((y1.getD y3.toNat []).getD 1 .h).int), .v (.string ((y1.getD y3.toNat []).getD 2 .h).str), .s ((y1.getD y3.toNat []).getD 3 .h).es, .s ((y1.getD y3.toNat []).getD 4 .h).es]] []).bind fun val => bif zaa [.int .i64] val.1 && true then zaz.L3 (IntKind.i64.wrap (y0 + (val.1.getD 0 .d).int)) y1 y2 (IntKind.i64.wrap (y3 + 1)) else none else none else none else some (zaz.x3 y0) := by
 refine (zbd (Y := Y) (c := lim' Y) (fn := 134) (rid := 3) (b := zaq 3 zaz.c) (by kernel_rfl) _).trans ?_
 delta zaz.L3 zaz zaz.x3 XX
 generalize lpL (Y.ctx (lim' Y)) 134 = lp
 generalize lim' Y = call
 kernel_rfl
theorem zaz.a3x3 (y0:Int) : zaz.A3 (zaz.x3 y0) = some ⟨[.v (.int .i64 y0)], []⟩ := by
 delta zaz.A3 zaz.x3 XX
 generalize lpL (Y.ctx (lim' Y)) 134 = lp
 generalize lim' Y = call
 kernel_rfl
noncomputable def iTree_each_paths.L3 (y0 y1:LLD) (y2 y3:Int) (y4:LLD) (y5:Bool) (y6:Int) (y7:BAy) (y8 y9:LLD) : Option (Ex × St) := lpL XX 135 (zaq 3 zaK.c) (mkG 1 31 [(1, .one (.s y0)), (2, .f za8.id [.p true 0 [] 0]), (3, .one (.p true 4 [] 0)), (13, .one (.s y1)), (14, .one (.v (.int .i64 y2))), (15, .one (.v (.int .i64 y3)))] [(0, some ⟨.box, [.s y4], [.deep]⟩), (4, some ⟨.box, [.v (.bool y5), .v (.int .i64 y6), .v (.string y7), .s y8, .s y9], [.deep, .deep, .deep, .sh, .sh]⟩)] GL)
noncomputable def iTree_each_paths.A3 : Ex × St → Option Res := fun r => evA XX 135 (lpL XX 135) 3 zaK.c r.fst r.snd (outE XX 135 Tryz.f135)
noncomputable def iTree_each_paths.x3 (y0:LLD) : Ex × St := (Ex.exit 0, mkG 1 31 [] [(0, some ⟨.box, [.s y0], [.deep]⟩)] GL)
theorem iTree_each_paths.e (a0:Bool) (a1:Int) (a2:BAy) (a3 a4 a5 a6:LLD) : zaK [.g [.v (.bool a0), .v (.int .i64 a1), .v (.string a2), .s a3, .s a4], .one (.s a5), .f za8.id [.p true 0 [] 0]] [⟨.box, [.s a6], [.deep]⟩] = (za8 [.one (.s a5), .g [.v (.bool a0), .v (.int .i64 a1), .v (.string a2), .s a3, .s a4], .one (.p true 0 [] 0)] [⟨.box, [.s a6], [.deep]⟩]).bind fun val => bif zaa [] val.1 && zaV [⟨⟨.box, [.s a6], [.deep]⟩, .box 0⟩] val.2 then (iTree_each_paths.L3 a5 a3 (↑a3.length : Int) 0 ((val.2.getD 0 ⟨.ro, [], []⟩).2.getD 0 .h).es a0 a1 a2 a3 a4).bind iTree_each_paths.A3 else none := by
 refine (zaK.run _ _ (by kernel_rfl)).trans ?_
 delta zaK za8 iTree_each_paths.L3 iTree_each_paths.A3 za8.id XX
 generalize lpL (Y.ctx (lim' Y)) 135 = lp
 generalize lim' Y = call
 kernel_rfl
theorem iTree_each_paths.s3 (y0 y1:LLD) (y2 y3:Int) (y4:LLD) (y5:Bool) (y6:Int) (y7:BAy) (y8 y9:LLD) : iTree_each_paths.L3 y0 y1 y2 y3 y4 y5 y6 y7 y8 y9 = bif decide (y3 < y2) then bif decide (0 ≤ y3) && decide (y3 < (↑y1.length : Int)) && decide ((y1.getD y3.toNat []).length = 1) then bif zas [.str] (y1.getD y3.toNat []) 0 && decide (1 ≤ (y1.getD y3.toNat []).length) then bif decide (0 ≤ y3) && decide (y3 < (↑y9.length : Int)) && decide ((y9.getD y3.toNat []).length = 5) then bif zas [.bool, .int .i64, .str, .sl, .sl] (y9.getD y3.toNat []) 0 && decide (5 ≤ (y9.getD y3.toNat []).length) then (zcW [.one (.s y0), .one (.v (.string ((y1.getD y3.toNat []).getD 0 .h).str))] []).bind fun val => bif zaa [.own .deep] val.1 && true then (zaK [.g [.v (.bool ((y9.getD y3.toNat []).getD 0 .h).bool), .v (.int .i64 ((y9.getD y3.toNat []).getD 1 .h).int), .v (.string ((y9.getD y3.toNat []).getD 2 .h).str), .s ((y9.getD y3.toNat []).getD 3 .h).es, .s ((y9.getD y3.toNat []).getD 4 .h).es], .one (.s (val.1.getD 0 .d).es), .f za8.id [.p true 0 [] 0]] [⟨.box, [.s y4], [.deep]⟩]).bind fun val => bif zaa [] val.1 && zaV [⟨⟨.box, [.s y4], [.deep]⟩, .box 0⟩] val.2 then iTree_each_paths.L3 y0 y1 y2 (IntKind.i64.wrap (y3 + 1)) ((val.2.getD 0 ⟨.ro, [], []⟩).2.getD 0 .h).es y5 y6 y7 y8 y9 else none else none else none else none else none else none else some (iTree_each_paths.x3 y4) := by
 refine (zbd (Y := Y) (c := lim' Y) (fn := 135) (rid := 3) (b := zaq 3 zaK.c) (by kernel_rfl) _).trans ?_
 delta iTree_each_paths.L3 zcW zaK iTree_each_paths.x3 za8.id XX
 generalize lpL (Y.ctx (lim' Y)) 135 = lp
 generalize lim' Y = call
 kernel_rfl
theorem iTree_each_paths.a3x3 (y0:LLD) : iTree_each_paths.A3 (iTree_each_paths.x3 y0) = some ⟨[], [⟨.box, [.s y0], [.deep]⟩]⟩ := by
 delta iTree_each_paths.A3 iTree_each_paths.x3 XX
 generalize lpL (Y.ctx (lim' Y)) 135 = lp
 generalize lim' Y = call
 kernel_rfl
noncomputable def iTree_each_show.L3 (y0 y1:LLD) (y2 y3:Int) (y4:BAy) (y5:Bool) (y6:Int) (y7:BAy) (y8 y9:LLD) : Option (Ex × St) := lpL XX 135 (zaq 3 zaK.c) (mkG 1 31 [(1, .one (.s y0)), (2, .f za0.id [.bx [A0.p true 0 [] 0] 0]), (3, .one (.p true 4 [] 0)), (13, .one (.s y1)), (14, .one (.v (.int .i64 y2))), (15, .one (.v (.int .i64 y3)))] [(0, some ⟨.bld 170 5, [.v (.string y4), .h], [.deep, .deep]⟩), (4, some ⟨.box, [.v (.bool y5), .v (.int .i64 y6), .v (.string y7), .s y8, .s y9], [.deep, .deep, .deep, .sh, .sh]⟩)] GL)
noncomputable def iTree_each_show.A3 : Ex × St → Option Res := fun r => evA XX 135 (lpL XX 135) 3 zaK.c r.fst r.snd (outE XX 135 Tryz.f135)
noncomputable def iTree_each_show.x3 (y0:BAy) : Ex × St := (Ex.exit 0, mkG 1 31 [] [(0, some ⟨.bld 170 5, [.v (.string y0), .h], [.deep, .deep]⟩)] GL)
theorem iTree_each_show.e (a0:Bool) (a1:Int) (a2:BAy) (a3 a4 a5:LLD) (b:BAy) : zaK [.g [.v (.bool a0), .v (.int .i64 a1), .v (.string a2), .s a3, .s a4], .one (.s a5), .f za0.id [.bx [A0.p true 0 [] 0] 0]] [⟨.bld 170 5, [.v (.string b), .h], [.deep, .deep]⟩] = (za0 [.one (.s a5), .g [.v (.bool a0), .v (.int .i64 a1), .v (.string a2), .s a3, .s a4], .one (.bx [A0.p true 0 [] 0] 0)] [⟨.bld 170 5, [.v (.string b), .h], [.deep, .deep]⟩]).bind fun val => bif zaa [] val.1 && zaV [⟨⟨.bld 170 5, [.v (.string b), .h], [.deep, .deep]⟩, .box 0⟩] val.2 then (iTree_each_show.L3 a5 a3 (↑a3.length : Int) 0 ((val.2.getD 0 ⟨.ro, [], []⟩).2.getD 0 .h).str a0 a1 a2 a3 a4).bind iTree_each_show.A3 else none := by
 refine (zaK.run _ _ (by kernel_rfl)).trans ?_
 delta zaK za0 iTree_each_show.L3 iTree_each_show.A3 za0.id XX
 generalize lpL (Y.ctx (lim' Y)) 135 = lp
 generalize lim' Y = call
 kernel_rfl
theorem iTree_each_show.s3 (y0 y1:LLD) (y2 y3:Int) (y4:BAy) (y5:Bool) (y6:Int) (y7:BAy) (y8 y9:LLD) : iTree_each_show.L3 y0 y1 y2 y3 y4 y5 y6 y7 y8 y9 = bif decide (y3 < y2) then bif decide (0 ≤ y3) && decide (y3 < (↑y1.length : Int)) && decide ((y1.getD y3.toNat []).length = 1) then bif zas [.str] (y1.getD y3.toNat []) 0 && decide (1 ≤ (y1.getD y3.toNat []).length) then bif decide (0 ≤ y3) && decide (y3 < (↑y9.length : Int)) && decide ((y9.getD y3.toNat []).length = 5) then bif zas [.bool, .int .i64, .str, .sl, .sl] (y9.getD y3.toNat []) 0 && decide (5 ≤ (y9.getD y3.toNat []).length) then (zcW [.one (.s y0), .one (.v (.string ((y1.getD y3.toNat []).getD 0 .h).str))] []).bind fun val => bif zaa [.own .deep] val.1 && true then (zaK [.g [.v (.bool ((y9.getD y3.toNat []).getD 0 .h).bool), .v (.int .i64 ((y9.getD y3.toNat []).getD 1 .h).int), .v (.string ((y9.getD y3.toNat []).getD 2 .h).str), .s ((y9.getD y3.toNat []).getD 3 .h).es, .s ((y9.getD y3.toNat []).getD 4 .h).es], .one (.s (val.1.getD 0 .d).es), .f za0.id [.bx [A0.p true 0 [] 0] 0]] [⟨.bld 170 5, [.v (.string y4), .h], [.deep, .deep]⟩]).bind fun val => bif zaa [] val.1 && zaV [⟨⟨.bld 170 5, [.v (.string y4), .h], [.deep, .deep]⟩, .box 0⟩] val.2 then iTree_each_show.L3 y0 y1 y2 (IntKind.i64.wrap (y3 + 1)) ((val.2.getD 0 ⟨.ro, [], []⟩).2.getD 0 .h).str y5 y6 y7 y8 y9 else none else none else none else none else none else none else some (iTree_each_show.x3 y4) := by
 refine (zbd (Y := Y) (c := lim' Y) (fn := 135) (rid := 3) (b := zaq 3 zaK.c) (by kernel_rfl) _).trans ?_
 delta iTree_each_show.L3 zcW zaK iTree_each_show.x3 za0.id XX
 generalize lpL (Y.ctx (lim' Y)) 135 = lp
 generalize lim' Y = call
 kernel_rfl
theorem iTree_each_show.a3x3 (y0:BAy) : iTree_each_show.A3 (iTree_each_show.x3 y0) = some ⟨[], [⟨.bld 170 5, [.v (.string y0), .h], [.deep, .deep]⟩]⟩ := by
 delta iTree_each_show.A3 iTree_each_show.x3 XX
 generalize lpL (Y.ctx (lim' Y)) 135 = lp
 generalize lim' Y = call
 kernel_rfl
noncomputable def iTree_each_table.L3 (y0 y1:LLD) (y2 y3:Int) (y4:LLD) (y5:Bool) (y6:Int) (y7:BAy) (y8 y9:LLD) : Option (Ex × St) := lpL XX 135 (zaq 3 zaK.c) (mkG 1 31 [(1, .one (.s y0)), (2, .f zaW.id [.p true 0 [] 0]), (3, .one (.p true 4 [] 0)), (13, .one (.s y1)), (14, .one (.v (.int .i64 y2))), (15, .one (.v (.int .i64 y3)))] [(0, some ⟨.box, [.s y4], [.deep]⟩), (4, some ⟨.box, [.v (.bool y5), .v (.int .i64 y6), .v (.string y7), .s y8, .s y9], [.deep, .deep, .deep, .sh, .sh]⟩)] GL)
noncomputable def iTree_each_table.A3 : Ex × St → Option Res := fun r => evA XX 135 (lpL XX 135) 3 zaK.c r.fst r.snd (outE XX 135 Tryz.f135)
noncomputable def iTree_each_table.x3 (y0:LLD) : Ex × St := (Ex.exit 0, mkG 1 31 [] [(0, some ⟨.box, [.s y0], [.deep]⟩)] GL)
theorem iTree_each_table.e (a0:Bool) (a1:Int) (a2:BAy) (a3 a4 a5 a6:LLD) : zaK [.g [.v (.bool a0), .v (.int .i64 a1), .v (.string a2), .s a3, .s a4], .one (.s a5), .f zaW.id [.p true 0 [] 0]] [⟨.box, [.s a6], [.deep]⟩] = (zaW [.one (.s a5), .g [.v (.bool a0), .v (.int .i64 a1), .v (.string a2), .s a3, .s a4], .one (.p true 0 [] 0)] [⟨.box, [.s a6], [.deep]⟩]).bind fun val => bif zaa [] val.1 && zaV [⟨⟨.box, [.s a6], [.deep]⟩, .box 0⟩] val.2 then (iTree_each_table.L3 a5 a3 (↑a3.length : Int) 0 ((val.2.getD 0 ⟨.ro, [], []⟩).2.getD 0 .h).es a0 a1 a2 a3 a4).bind iTree_each_table.A3 else none := by
 refine (zaK.run _ _ (by kernel_rfl)).trans ?_
 delta zaK zaW iTree_each_table.L3 iTree_each_table.A3 zaW.id XX
 generalize lpL (Y.ctx (lim' Y)) 135 = lp
 generalize lim' Y = call
 kernel_rfl
theorem iTree_each_table.s3 (y0 y1:LLD) (y2 y3:Int) (y4:LLD) (y5:Bool) (y6:Int) (y7:BAy) (y8 y9:LLD) : iTree_each_table.L3 y0 y1 y2 y3 y4 y5 y6 y7 y8 y9 = bif decide (y3 < y2) then bif decide (0 ≤ y3) && decide (y3 < (↑y1.length : Int)) && decide ((y1.getD y3.toNat []).length = 1) then bif zas [.str] (y1.getD y3.toNat []) 0 && decide (1 ≤ (y1.getD y3.toNat []).length) then bif decide (0 ≤ y3) && decide (y3 < (↑y9.length : Int)) && decide ((y9.getD y3.toNat []).length = 5) then bif zas [.bool, .int .i64, .str, .sl, .sl] (y9.getD y3.toNat []) 0 && decide (5 ≤ (y9.getD y3.toNat []).length) then (zcW [.one (.s y0), .one (.v (.string ((y1.getD y3.toNat []).getD 0 .h).str))] []).bind fun val => bif zaa [.own .deep] val.1 && true then (zaK [.g [.v (.bool ((y9.getD y3.toNat []).getD 0 .h).bool), .v (.int .i64 ((y9.getD y3.toNat []).getD 1 .h).int), .v (.string ((y9.getD y3.toNat []).getD 2 .h).str), .s ((y9.getD y3.toNat []).getD 3 .h).es, .s ((y9.getD y3.toNat []).getD 4 .h).es], .one (.s (val.1.getD 0 .d).es), .f zaW.id [.p true 0 [] 0]] [⟨.box, [.s y4], [.deep]⟩]).bind fun val => bif zaa [] val.1 && zaV [⟨⟨.box, [.s y4], [.deep]⟩, .box 0⟩] val.2 then iTree_each_table.L3 y0 y1 y2 (IntKind.i64.wrap (y3 + 1)) ((val.2.getD 0 ⟨.ro, [], []⟩).2.getD 0 .h).es y5 y6 y7 y8 y9 else none else none else none else none else none else none else some (iTree_each_table.x3 y4) := by
 refine (zbd (Y := Y) (c := lim' Y) (fn := 135) (rid := 3) (b := zaq 3 zaK.c) (by kernel_rfl) _).trans ?_
 delta iTree_each_table.L3 zcW zaK iTree_each_table.x3 zaW.id XX
 generalize lpL (Y.ctx (lim' Y)) 135 = lp
 generalize lim' Y = call
 kernel_rfl
theorem iTree_each_table.a3x3 (y0:LLD) : iTree_each_table.A3 (iTree_each_table.x3 y0) = some ⟨[], [⟨.box, [.s y0], [.deep]⟩]⟩ := by
 delta iTree_each_table.A3 iTree_each_table.x3 XX
 generalize lpL (Y.ctx (lim' Y)) 135 = lp
 generalize lim' Y = call
 kernel_rfl
theorem zaW.e (a0:LLD) (b0:Bool) (b1:Int) (b2:BAy) (b3 b4 a6:LLD) : zaW [.one (.s a0), .g [.v (.bool b0), .v (.int .i64 b1), .v (.string b2), .s b3, .s b4], .one (.p true 0 [] 0)] [⟨.box, [D.s a6], [.deep]⟩] = bif zaF 1 a0 && zaT false a0 && true && decide ((0 + a0.length) * 17 ≤ 70368744177664) then (za6 [.g [.v (.bool b0), .v (.int .i64 b1), .v (.string b2), .s b3, .s b4]] []).bind fun val => bif zaa [.int .i64] val.1 && true then bif zaF 5 a6 && true && true && true && decide ((a6.length + 1) * 65 ≤ 70368744177664) then some ⟨[], [⟨.box, [D.s (a6 ++ [[D.s a0, D.v (.bool b0), D.v (.int .i64 b1), D.v (.string b2), D.v (.int .i64 (val.1.getD 0 .d).int)]])], [.deep]⟩]⟩ else none else none else none := by
 refine (zaW.run _ _ (by kernel_rfl)).trans ?_
 delta zaW za6 XX
 generalize lpL (Y.ctx (lim' Y)) 136 = lp
 generalize lim' Y = call
 kernel_rfl
noncomputable def za6.L4 (y0:Int) (y1:BAy) (y2 y3:Int) : Option (Ex × St) := lpL XX 137 (zaq 4 za6.c) (mkG 0 23 [(3, .one (.v (.int .i64 y0))), (4, .one (.v (.string y1))), (9, .one (.v (.int .i64 y2))), (10, .one (.v (.int .i64 y3)))] [] GL)
noncomputable def za6.A4 : Ex × St → Option Res := fun r => evA XX 137 (lpL XX 137) 4 za6.c r.fst r.snd (outE XX 137 Tryz.f137)
noncomputable def za6.x4 (y0:Int) : Ex × St := (Ex.exit 0, mkG 0 23 [(3, .one (.v (.int .i64 y0)))] [] GL)
theorem za6.e (a0:Bool) (a1:Int) (a2:BAy) (a3 a4:LLD) : za6 [.g [.v (.bool a0), .v (.int .i64 a1), .v (.string a2), .s a3, .s a4]] [] = (zbL [.g [.v (.bool a0), .v (.int .i64 a1), .v (.string a2), .s a3, .s a4]] []).bind fun val => bif zaa [.str] val.1 && true then (za6.L4 7 (val.1.getD 0 .d).str (↑(val.1.getD 0 .d).str.size : Int) 0).bind za6.A4 else none := by
 refine (za6.run _ _ (by kernel_rfl)).trans ?_
 delta za6 zbL za6.L4 za6.A4 XX
 generalize lpL (Y.ctx (lim' Y)) 137 = lp
 generalize lim' Y = call
 kernel_rfl
theorem za6.s4 (y0:Int) (y1:BAy) (y2 y3:Int) : za6.L4 y0 y1 y2 y3 = bif decide (y3 < y2) then bif decide (0 ≤ y3) && decide (y3 < (↑y1.size : Int)) then za6.L4 ((IntKind.i64.wrap (IntKind.i64.wrap (131 * y0) + IntKind.i64.wrap (zbf y1 y3.toNat))).tmod 1000000007) y1 y2 (IntKind.i64.wrap (y3 + 1)) else none else some (za6.x4 y0) := by
 refine (zbd (Y := Y) (c := lim' Y) (fn := 137) (rid := 4) (b := zaq 4 za6.c) (by kernel_rfl) _).trans ?_
 delta za6.L4 za6.x4 XX
 generalize lpL (Y.ctx (lim' Y)) 137 = lp
 generalize lim' Y = call
 kernel_rfl
theorem za6.a4x4 (y0:Int) : za6.A4 (za6.x4 y0) = some ⟨[.v (.int .i64 y0)], []⟩ := by
 delta za6.A4 za6.x4 XX
 generalize lpL (Y.ctx (lim' Y)) 137 = lp
 generalize lim' Y = call
 kernel_rfl
noncomputable def zau.P2 (y0:Int) (y1 y2:Bool) (y3:Int) (y4:BAy) (y5 y6:LLD) : Option Res := evB XX 138 (lpL XX 138) 2 zau.c (mkG 0 29 [(1, .one (.v (.int .i64 y0))), (2, .one (.p true 2 [] 0)), (12, .one (.v (.bool y1)))] [(2, some ⟨.box, [.v (.bool y2), .v (.int .i64 y3), .v (.string y4), .s y5, .s y6], [.deep, .deep, .deep, .sh, .sh]⟩)] GL) (outE XX 138 Tryz.f138)
noncomputable def zau.P3 (y0:Int) (y1:Bool) (y2:Int) (y3:BAy) (y4 y5:LLD) : Option Res := evB XX 138 (lpL XX 138) 3 zau.c (mkG 0 29 [(1, .one (.v (.int .i64 y0))), (2, .one (.p true 2 [] 0))] [(2, some ⟨.box, [.v (.bool y1), .v (.int .i64 y2), .v (.string y3), .s y4, .s y5], [.deep, .deep, .deep, .sh, .sh]⟩)] GL) (outE XX 138 Tryz.f138)
noncomputable def zau.L4 (y0 y1:Int) (y2:Bool) (y3:Int) (y4:BAy) (y5 y6:LLD) : Option (Ex × St) := lpL XX 138 (zaq 4 zau.c) (mkG 0 29 [(1, .one (.v (.int .i64 y0))), (2, .one (.p true 2 [] 0)), (5, .one (.v (.int .i64 y1)))] [(2, some ⟨.box, [.v (.bool y2), .v (.int .i64 y3), .v (.string y4), .s y5, .s y6], [.deep, .deep, .deep, .sh, .sh]⟩)] GL)
noncomputable def zau.A4 : Ex × St → Option Res := fun r => evA XX 138 (lpL XX 138) 4 zau.c r.fst r.snd (outE XX 138 Tryz.f138)
noncomputable def zau.q4 (y0:Bool) : Ex × St := (Ex.ret, mkG 0 29 [(4, .one (.v (.bool y0)))] [] GL)
noncomputable def zau.x4 : Ex × St := (Ex.exit 0, mkG 0 29 [] [] GL)
theorem zau.e (a0:Bool) (a1:Int) (a2:BAy) (a3 a4:LLD) (a5:Int) : zau [.g [.v (.bool a0), .v (.int .i64 a1), .v (.string a2), .s a3, .s a4], .one (.v (.int .i64 a5))] [] = (zai [.g [.v (.bool a0), .v (.int .i64 a1), .v (.string a2), .s a3, .s a4]] []).bind fun val => bif zaa [.bool] val.1 && true then bif !(val.1.getD 0 .d).bool then zau.P2 a5 true a0 a1 a2 a3 a4 else zau.P2 a5 (decide (a5 > 4)) a0 a1 a2 a3 a4 else none := by
 refine (zau.run _ _ (by kernel_rfl)).trans ?_
 delta zau zai zau.P2 XX
 refine zbw [2, 3] (by kernel_rfl) fun J e1 => ?_
 try simp only [← e1]
 clear e1
 generalize lpL (Y.ctx (lim' Y)) 138 = lp
 generalize lim' Y = call
 kernel_rfl
theorem zau.p2 (y0:Int) (y1 y2:Bool) (y3:Int) (y4:BAy) (y5 y6:LLD) : zau.P2 y0 y1 y2 y3 y4 y5 y6 = bif y1 then some ⟨[.v (.bool false)], []⟩ else zau.P3 y0 y2 y3 y4 y5 y6 := by
 delta zau.P2 zau.P3 XX
 refine zbj [2, 3] 2 (by kernel_rfl) fun J e1 => ?_
 try simp only [← e1]
 clear e1
 generalize lpL (Y.ctx (lim' Y)) 138 = lp
 generalize lim' Y = call
 kernel_rfl
theorem zau.p3 (y0:Int) (y1:Bool) (y2:Int) (y3:BAy) (y4 y5:LLD) : zau.P3 y0 y1 y2 y3 y4 y5 = (zau.L4 y0 0 y1 y2 y3 y4 y5).bind zau.A4 := by
 delta zau.P3 zau.L4 zau.A4 XX
 refine zbj [2, 3] 3 (by kernel_rfl) fun J e1 => ?_
 have eA := evA_J [2, 3] 4 (by kernel_rfl) e1
 try simp only [eA]
 clear eA
 try simp only [← e1]
 clear e1
 show _ = _
 generalize lpL (Y.ctx (lim' Y)) 138 = lp
 generalize lim' Y = call
 kernel_rfl
theorem zau.s4 (y0 y1:Int) (y2:Bool) (y3:Int) (y4:BAy) (y5 y6:LLD) : zau.L4 y0 y1 y2 y3 y4 y5 y6 = bif decide (y1 < (↑y6.length : Int)) then bif decide (0 ≤ y1) && decide (y1 < (↑y6.length : Int)) && decide ((y6.getD y1.toNat []).length = 5) then bif zas [.bool, .int .i64, .str, .sl, .sl] (y6.getD y1.toNat []) 0 && decide (5 ≤ (y6.getD y1.toNat []).length) then (zau [.g [.v (.bool ((y6.getD y1.toNat []).getD 0 .h).bool), .v (.int .i64 ((y6.getD y1.toNat []).getD 1 .h).int), .v (.string ((y6.getD y1.toNat []).getD 2 .h).str), .s ((y6.getD y1.toNat []).getD 3 .h).es, .s ((y6.getD y1.toNat []).getD 4 .h).es], .one (.v (.int .i64 (IntKind.i64.wrap (y0 + 1))))] []).bind fun val => bif zaa [.bool] val.1 && true then bif !(val.1.getD 0 .d).bool then some (zau.q4 false) else zau.L4 y0 (IntKind.i64.wrap (y1 + 1)) y2 y3 y4 y5 y6 else none else none else none else some zau.x4 := by
 refine (zbd (Y := Y) (c := lim' Y) (fn := 138) (rid := 4) (b := zaq 4 zau.c) (by kernel_rfl) _).trans ?_
 delta zau.L4 zau zau.q4 zau.x4 XX
 generalize lpL (Y.ctx (lim' Y)) 138 = lp
 generalize lim' Y = call
 kernel_rfl
theorem zau.a4q4 (y0:Bool) : zau.A4 (zau.q4 y0) = some ⟨[.v (.bool y0)], []⟩ := by
 delta zau.A4 zau.q4 XX
 refine zc1 [2, 3] 4 (by kernel_rfl) fun J e1 => ?_
 have eA := evA_J [2, 3] 4 (by kernel_rfl) e1
 try simp only [eA]
 clear eA
 try simp only [← e1]
 clear e1
 show _ = _
 generalize lpL (Y.ctx (lim' Y)) 138 = lp
 generalize lim' Y = call
 kernel_rfl
theorem zau.a4x4 : zau.A4 zau.x4 = some ⟨[.v (.bool true)], []⟩ := by
 delta zau.A4 zau.x4 XX
 refine zc1 [2, 3] 4 (by kernel_rfl) fun J e1 => ?_
 have eA := evA_J [2, 3] 4 (by kernel_rfl) e1
 try simp only [eA]
 clear eA
 try simp only [← e1]
 clear e1
 show _ = _
 generalize lpL (Y.ctx (lim' Y)) 138 = lp
 generalize lim' Y = call
 kernel_rfl
noncomputable def za2.L3 (y0 y1:Int) (y2:Bool) (y3:Int) (y4:BAy) (y5 y6:LLD) : Option (Ex × St) := lpL XX 139 (zaq 3 za2.c) (mkG 0 24 [(1, .one (.p true 1 [] 0)), (3, .one (.v (.int .i64 y0))), (4, .one (.v (.int .i64 y1)))] [(1, some ⟨.box, [.v (.bool y2), .v (.int .i64 y3), .v (.string y4), .s y5, .s y6], [.deep, .deep, .deep, .sh, .sh]⟩)] GL)
noncomputable def za2.A3 : Ex × St → Option Res := fun r => evA XX 139 (lpL XX 139) 3 za2.c r.fst r.snd (outE XX 139 Tryz.f139)
noncomputable def za2.x3 (y0:Int) : Ex × St := (Ex.exit 0, mkG 0 24 [(3, .one (.v (.int .i64 y0)))] [] GL)
theorem za2.e (a0:Bool) (a1:Int) (a2:BAy) (a3 a4:LLD) : za2 [.g [.v (.bool a0), .v (.int .i64 a1), .v (.string a2), .s a3, .s a4]] [] = (za2.L3 (↑a4.length : Int) 0 a0 a1 a2 a3 a4).bind za2.A3 := by
 refine (za2.run _ _ (by kernel_rfl)).trans ?_
 delta za2 za2.L3 za2.A3 XX
 generalize lpL (Y.ctx (lim' Y)) 139 = lp
 generalize lim' Y = call
 kernel_rfl
theorem za2.s3 (y0 y1:Int) (y2:Bool) (y3:Int) (y4:BAy) (y5 y6:LLD) : za2.L3 y0 y1 y2 y3 y4 y5 y6 = bif decide (y1 < (↑y6.length : Int)) then bif decide (0 ≤ y1) && decide (y1 < (↑y6.length : Int)) && decide ((y6.getD y1.toNat []).length = 5) then bif zas [.bool, .int .i64, .str, .sl, .sl] (y6.getD y1.toNat []) 0 && decide (5 ≤ (y6.getD y1.toNat []).length) then (za2 [.g [.v (.bool ((y6.getD y1.toNat []).getD 0 .h).bool), .v (.int .i64 ((y6.getD y1.toNat []).getD 1 .h).int), .v (.string ((y6.getD y1.toNat []).getD 2 .h).str), .s ((y6.getD y1.toNat []).getD 3 .h).es, .s ((y6.getD y1.toNat []).getD 4 .h).es]] []).bind fun val => bif zaa [.int .i64] val.1 && true then za2.L3 (IntKind.i64.wrap (y0 + (val.1.getD 0 .d).int)) (IntKind.i64.wrap (y1 + 1)) y2 y3 y4 y5 y6 else none else none else none else some (za2.x3 y0) := by
 refine (zbd (Y := Y) (c := lim' Y) (fn := 139) (rid := 3) (b := zaq 3 za2.c) (by kernel_rfl) _).trans ?_
 delta za2.L3 za2 za2.x3 XX
 generalize lpL (Y.ctx (lim' Y)) 139 = lp
 generalize lim' Y = call
 kernel_rfl
theorem za2.a3x3 (y0:Int) : za2.A3 (za2.x3 y0) = some ⟨[.v (.int .i64 y0)], []⟩ := by
 delta za2.A3 za2.x3 XX
 generalize lpL (Y.ctx (lim' Y)) 139 = lp
 generalize lim' Y = call
 kernel_rfl
noncomputable def zaj.L3 (y0:LLD) (y1:Int) (y2:Bool) (y3:Int) (y4:BAy) (y5 y6 y7:LLD) : Option (Ex × St) := lpL XX 140 (zaq 3 zaj.c) (mkG 0 36 [(0, .one (.s y0)), (3, .one (.p true 3 [] 0)), (5, .one (.r 5 [] 0)), (6, .one (.v (.int .i64 y1)))] [(3, some ⟨.box, [.v (.bool y2), .v (.int .i64 y3), .v (.string y4), .s y5, .s y6], [.deep, .deep, .deep, .sh, .sh]⟩), (5, some ⟨.virt, [.s y7], [.deep]⟩)] GL)
noncomputable def zaj.A3 : Ex × St → Option Res := fun r => evA XX 140 (lpL XX 140) 3 zaj.c r.fst r.snd (outE XX 140 Tryz.f140)
noncomputable def zaj.L3b (y0:LLD) (y1:Int) (y2:Bool) (y3:Int) (y4:BAy) (y5 y6 y7:LLD) : Option (Ex × St) := lpL XX 140 (zaq 3 zaj.c) (mkG 0 36 [(0, .one (.s y0)), (3, .one (.p true 3 [] 0)), (5, .one (.r 5 [] 0)), (6, .one (.v (.int .i64 y1)))] [(3, some ⟨.box, [.v (.bool y2), .v (.int .i64 y3), .v (.string y4), .s y5, .s y6], [.deep, .deep, .deep, .sh, .sh]⟩), (5, some ⟨.virt, [.s y7], [.top]⟩)] GL)
noncomputable def zaj.x3 (y0:LLD) : Ex × St := (Ex.exit 0, mkG 0 36 [(5, .one (.r 5 [] 0))] [(5, some ⟨.virt, [.s y0], [.deep]⟩)] GL)
noncomputable def zaj.x3b (y0:LLD) : Ex × St := (Ex.exit 0, mkG 0 36 [(5, .one (.r 5 [] 0))] [(5, some ⟨.virt, [.s y0], [.top]⟩)] GL)
theorem zaj.e (a0:LLD) (a1:Bool) (a2:Int) (a3:BAy) (a4 a5:LLD) : zaj [.one (.s a0), .g [.v (.bool a1), .v (.int .i64 a2), .v (.string a3), .s a4, .s a5]] [] = (zaj.L3 a0 0 a1 a2 a3 a4 a5 []).bind zaj.A3 := by
 refine (zaj.run _ _ (by kernel_rfl)).trans ?_
 delta zaj zaj.L3 zaj.A3 XX
 generalize lpL (Y.ctx (lim' Y)) 140 = lp
 generalize lim' Y = call
 kernel_rfl
theorem zaj.s3 (y0:LLD) (y1:Int) (y2:Bool) (y3:Int) (y4:BAy) (y5 y6 y7:LLD) : zaj.L3 y0 y1 y2 y3 y4 y5 y6 y7 = bif decide (y1 < (↑y5.length : Int)) then bif decide (0 ≤ y1) && decide (y1 < (↑y5.length : Int)) && decide ((y5.getD y1.toNat []).length = 1) then bif zas [.str] (y5.getD y1.toNat []) 0 && decide (1 ≤ (y5.getD y1.toNat []).length) then (zcm [.one (.s y0), .one (.v (.string ((y5.getD y1.toNat []).getD 0 D.h).str))] []).bind fun val => bif zaa [.sh] val.1 && true then bif zaF 1 y7 && true && true && true && decide ((y7.length + 1) * 25 ≤ 70368744177664) then bif decide (0 ≤ y1) && decide (y1 < (↑y6.length : Int)) && decide ((y6.getD y1.toNat []).length = 5) then bif zas [.bool, .int .i64, .str, .sl, .sl] (y6.getD y1.toNat []) 0 && decide (5 ≤ (y6.getD y1.toNat []).length) then (zaj [.one (.s (val.1.getD 0 .d).es), .g [.v (.bool ((y6.getD y1.toNat []).getD 0 D.h).bool), .v (.int .i64 ((y6.getD y1.toNat []).getD 1 D.h).int), .v (.string ((y6.getD y1.toNat []).getD 2 D.h).str), .s ((y6.getD y1.toNat []).getD 3 D.h).es, .s ((y6.getD y1.toNat []).getD 4 D.h).es]] []).bind fun val_1 => bif zaa [.sh] val_1.1 && true then bif zaF 1 (y7 ++ [[D.s (val.1.getD 0 .d).es]]) && zaF 1 (val_1.1.getD 0 .d).es && zaT true (val_1.1.getD 0 .d).es && true && decide (((y7 ++ [[D.s (val.1.getD 0 .d).es]]).length + (val_1.1.getD 0 .d).es.length) * 25 ≤ 70368744177664) then zaj.L3b y0 (IntKind.i64.wrap (y1 + 1)) y2 y3 y4 y5 y6 (y7 ++ [[D.s (val.1.getD 0 .d).es]] ++ (val_1.1.getD 0 .d).es) else none else none else none else none else none else none else none else none else some (zaj.x3 y7) := by
 refine (zbd (Y := Y) (c := lim' Y) (fn := 140) (rid := 3) (b := zaq 3 zaj.c) (by kernel_rfl) _).trans ?_
 delta zaj.L3 zcm zaj zaj.L3b zaj.x3 XX
 generalize lpL (Y.ctx (lim' Y)) 140 = lp
 generalize lim' Y = call
 kernel_rfl
theorem zaj.s3b (y0:LLD) (y1:Int) (y2:Bool) (y3:Int) (y4:BAy) (y5 y6 y7:LLD) : zaj.L3b y0 y1 y2 y3 y4 y5 y6 y7 = bif decide (y1 < (↑y5.length : Int)) then bif decide (0 ≤ y1) && decide (y1 < (↑y5.length : Int)) && decide ((y5.getD y1.toNat []).length = 1) then bif zas [.str] (y5.getD y1.toNat []) 0 && decide (1 ≤ (y5.getD y1.toNat []).length) then (zcm [.one (.s y0), .one (.v (.string ((y5.getD y1.toNat []).getD 0 D.h).str))] []).bind fun val => bif zaa [.sh] val.1 && true then bif zaF 1 y7 && true && true && true && decide ((y7.length + 1) * 25 ≤ 70368744177664) then bif decide (0 ≤ y1) && decide (y1 < (↑y6.length : Int)) && decide ((y6.getD y1.toNat []).length = 5) then bif zas [.bool, .int .i64, .str, .sl, .sl] (y6.getD y1.toNat []) 0 && decide (5 ≤ (y6.getD y1.toNat []).length) then (zaj [.one (.s (val.1.getD 0 .d).es), .g [.v (.bool ((y6.getD y1.toNat []).getD 0 D.h).bool), .v (.int .i64 ((y6.getD y1.toNat []).getD 1 D.h).int), .v (.string ((y6.getD y1.toNat []).getD 2 D.h).str), .s ((y6.getD y1.toNat []).getD 3 D.h).es, .s ((y6.getD y1.toNat []).getD 4 D.h).es]] []).bind fun val_1 => bif zaa [.sh] val_1.1 && true then bif zaF 1 (y7 ++ [[D.s (val.1.getD 0 .d).es]]) && zaF 1 (val_1.1.getD 0 .d).es && zaT true (val_1.1.getD 0 .d).es && true && decide (((y7 ++ [[D.s (val.1.getD 0 .d).es]]).length + (val_1.1.getD 0 .d).es.length) * 25 ≤ 70368744177664) then zaj.L3b y0 (IntKind.i64.wrap (y1 + 1)) y2 y3 y4 y5 y6 (y7 ++ [[D.s (val.1.getD 0 .d).es]] ++ (val_1.1.getD 0 .d).es) else none else none else none else none else none else none else none else none else some (zaj.x3b y7) := by
 refine (zbd (Y := Y) (c := lim' Y) (fn := 140) (rid := 3) (b := zaq 3 zaj.c) (by kernel_rfl) _).trans ?_
 delta zaj.L3b zcm zaj zaj.x3b XX
 generalize lpL (Y.ctx (lim' Y)) 140 = lp
 generalize lim' Y = call
 kernel_rfl
theorem zaj.a3x3 (y0:LLD) : zaj.A3 (zaj.x3 y0) = some ⟨[.s y0], []⟩ := by
 delta zaj.A3 zaj.x3 XX
 generalize lpL (Y.ctx (lim' Y)) 140 = lp
 generalize lim' Y = call
 kernel_rfl
theorem zaj.a3x3b (y0:LLD) : zaj.A3 (zaj.x3b y0) = some ⟨[.s y0], []⟩ := by
 delta zaj.A3 zaj.x3b XX
 generalize lpL (Y.ctx (lim' Y)) 140 = lp
 generalize lim' Y = call
 kernel_rfl
theorem zcr.e (a0:Bool) (a1:Int) (a2:BAy) (a3 a4:LLD) : zcr [.g [.v (.bool a0), .v (.int .i64 a1), .v (.string a2), .s a3, .s a4]] [] = (zaK [.g [.v (.bool a0), .v (.int .i64 a1), .v (.string a2), .s a3, .s a4], .one (.s []), .f za8.id [.p true 0 [] 0]] [⟨.box, [.s []], [.deep]⟩]).bind fun val => bif zaa [] val.1 && zaV [⟨⟨.box, [.s []], [.deep]⟩, .box 3⟩] val.2 then some ⟨[.o .deep ((val.2.getD 0 ⟨.ro, [], []⟩).2.getD 0 .h).es], []⟩ else none := by
 refine (zcr.run _ _ (by kernel_rfl)).trans ?_
 delta zcr zaK za8.id XX
 generalize lpL (Y.ctx (lim' Y)) 141 = lp
 generalize lim' Y = call
 kernel_rfl
noncomputable def zaG.L4 (y0 y1:LLD) (y2:Int) : Option (Ex × St) := lpL XX 143 (zaq 4 zaG.c) (mkG 0 27 [(0, .one (.s y0)), (1, .one (.s y1)), (5, .one (.v (.int .i64 y2)))] [] GL)
noncomputable def zaG.A4 : Ex × St → Option Res := fun r => evA XX 143 (lpL XX 143) 4 zaG.c r.fst r.snd (outE XX 143 Tryz.f143)
noncomputable def zaG.q4 (y0:Bool) : Ex × St := (Ex.ret, mkG 0 27 [(4, .one (.v (.bool y0)))] [] GL)
noncomputable def zaG.x4 : Ex × St := (Ex.exit 0, mkG 0 27 [] [] GL)
theorem zaG.e (a0 a1:LLD) : zaG [.one (.s a0), .one (.s a1)] [] = bif (↑a0.length : Int) != (↑a1.length : Int) then some ⟨[.v (.bool false)], []⟩ else (zaG.L4 a0 a1 0).bind zaG.A4 := by
 refine (zaG.run _ _ (by kernel_rfl)).trans ?_
 delta zaG zaG.L4 zaG.A4 XX
 generalize lpL (Y.ctx (lim' Y)) 143 = lp
 generalize lim' Y = call
 kernel_rfl
theorem zaG.s4 (y0 y1:LLD) (y2:Int) : zaG.L4 y0 y1 y2 = bif decide (y2 < (↑y0.length : Int)) then bif decide (0 ≤ y2) && decide (y2 < (↑y0.length : Int)) && decide ((y0.getD y2.toNat []).length = 2) then bif zas [.int .i64, .sl] (y0.getD y2.toNat []) 0 && decide (2 ≤ (y0.getD y2.toNat []).length) then bif decide (0 ≤ y2) && decide (y2 < (↑y1.length : Int)) && decide ((y1.getD y2.toNat []).length = 2) then bif zas [.int .i64, .sl] (y1.getD y2.toNat []) 0 && decide (2 ≤ (y1.getD y2.toNat []).length) then (zb5 [.g [.v (.int .i64 ((y0.getD y2.toNat []).getD 0 .h).int), .s ((y0.getD y2.toNat []).getD 1 .h).es], .g [.v (.int .i64 ((y1.getD y2.toNat []).getD 0 .h).int), .s ((y1.getD y2.toNat []).getD 1 .h).es]] []).bind fun val => bif zaa [.bool] val.1 && true then bif !(val.1.getD 0 .d).bool then some (zaG.q4 false) else zaG.L4 y0 y1 (IntKind.i64.wrap (y2 + 1)) else none else none else none else none else none else some zaG.x4 := by
 refine (zbd (Y := Y) (c := lim' Y) (fn := 143) (rid := 4) (b := zaq 4 zaG.c) (by kernel_rfl) _).trans ?_
 delta zaG.L4 zb5 zaG.q4 zaG.x4 XX
 generalize lpL (Y.ctx (lim' Y)) 143 = lp
 generalize lim' Y = call
 kernel_rfl
theorem zaG.a4x4 : zaG.A4 zaG.x4 = some ⟨[.v (.bool true)], []⟩ := by
 delta zaG.A4 zaG.x4 XX
 generalize lpL (Y.ctx (lim' Y)) 143 = lp
 generalize lim' Y = call
 kernel_rfl
noncomputable def zav.L2 (y0 y1:Int) (y2:LLD) : Option (Ex × St) := lpL XX 144 (zaq 2 zav.c) (mkG 1 27 [(0, .one (.r 0 [] 0)), (1, .one (.v (.int .i64 y0))), (5, .one (.v (.int .i64 y1)))] [(0, some ⟨.virt, [.s y2], [.deep]⟩)] GL)
noncomputable def zav.A2 : Ex × St → Option Res := fun r => evA XX 144 (lpL XX 144) 2 zav.c r.fst r.snd (outE XX 144 Tryz.f144)
noncomputable def zav.x2 (y0:Int) (y1:LLD) : Ex × St := (Ex.exit 0, mkG 1 27 [(1, .one (.v (.int .i64 y0)))] [(0, some ⟨.virt, [.s y1], [.deep]⟩)] GL)
theorem zav.e (a0:LLD) (a1:Int) : zav [.one (.r 0 [] 0), .one (.v (.int .i64 a1))] [⟨.virt, [.s a0], [.deep]⟩] = (zav.L2 a1 0 a0).bind zav.A2 := by
 refine (zav.run _ _ (by kernel_rfl)).trans ?_
 delta zav zav.L2 zav.A2 XX
 generalize lpL (Y.ctx (lim' Y)) 144 = lp
 generalize lim' Y = call
 kernel_rfl
theorem zav.s2 (y0 y1:Int) (y2:LLD) : zav.L2 y0 y1 y2 = bif decide (y1 < (↑y2.length : Int)) then bif decide (0 ≤ y1) && decide (y1 < (↑y2.length : Int)) && decide ((y2.getD y1.toNat []).length = 2) then bif decide (1 ≤ (y2.getD y1.toNat []).length) && true then bif decide (0 ≤ y1) && decide (y1 < (↑(y2.set y1.toNat (.v (.int .i64 y0) :: List.drop 1 (y2.getD y1.toNat []))).length : Int)) && decide (((y2.set y1.toNat (.v (.int .i64 y0) :: List.drop 1 (y2.getD y1.toNat []))).getD y1.toNat []).length = 2) then bif zas [.sl] ((y2.set y1.toNat (.v (.int .i64 y0) :: List.drop 1 (y2.getD y1.toNat []))).getD y1.toNat []) 1 && decide (2 ≤ ((y2.set y1.toNat (.v (.int .i64 y0) :: List.drop 1 (y2.getD y1.toNat []))).getD y1.toNat []).length) then (zaf [.one (.r 0 [] 0), .one (.v (.int .i64 (IntKind.i64.wrap (y0 + 1))))] [⟨.virt, [.s (((y2.set y1.toNat (.v (.int .i64 y0) :: List.drop 1 (y2.getD y1.toNat []))).getD y1.toNat []).getD 1 .h).es], [.deep]⟩]).bind fun val => bif zaa [.int .i64] val.1 && zaV [⟨⟨.virt, [.s (((y2.set y1.toNat (.v (.int .i64 y0) :: List.drop 1 (y2.getD y1.toNat []))).getD y1.toNat []).getD 1 .h).es], [.deep]⟩, .sl 0 [(0, y1.toNat)] 1⟩] val.2 then zav.L2 (val.1.getD 0 .d).int (IntKind.i64.wrap (y1 + 1)) ((y2.set y1.toNat (.v (.int .i64 y0) :: List.drop 1 (y2.getD y1.toNat []))).set y1.toNat (((y2.set y1.toNat (.v (.int .i64 y0) :: List.drop 1 (y2.getD y1.toNat []))).getD y1.toNat []).set 1 (.s ((val.2.getD 0 ⟨.ro, [], []⟩).2.getD 0 .h).es))) else none else none else none else none else none else some (zav.x2 y0 y2) := by
 refine (zbd (Y := Y) (c := lim' Y) (fn := 144) (rid := 2) (b := zaq 2 zav.c) (by kernel_rfl) _).trans ?_
 delta zav.L2 zaf zav.x2 XX
 generalize lpL (Y.ctx (lim' Y)) 144 = lp
 generalize lim' Y = call
 kernel_rfl
theorem zav.a2x2 (y0:Int) (y1:LLD) : zav.A2 (zav.x2 y0 y1) = some ⟨[.v (.int .i64 y0)], [⟨.virt, [.s y1], [.deep]⟩]⟩ := by
 delta zav.A2 zav.x2 XX
 generalize lpL (Y.ctx (lim' Y)) 144 = lp
 generalize lim' Y = call
 kernel_rfl
noncomputable def zan.L2 (y0:LLD) (y1 y2:Int) : Option (Ex × St) := lpL XX 145 (zaq 2 zan.c) (mkG 0 31 [(0, .one (.s y0)), (1, .one (.v (.int .i64 y1))), (5, .one (.v (.int .i64 y2)))] [] GL)
noncomputable def zan.A2 : Ex × St → Option Res := fun r => evA XX 145 (lpL XX 145) 2 zan.c r.fst r.snd (outE XX 145 Tryz.f145)
noncomputable def zan.q2 (y0 y1:Int) : Ex × St := (Ex.ret, mkG 0 31 [(1, .one (.v (.int .i64 y0))), (4, .one (.v (.int .i64 y1)))] [] GL)
noncomputable def zan.x2 (y0:Int) : Ex × St := (Ex.exit 0, mkG 0 31 [(1, .one (.v (.int .i64 y0)))] [] GL)
theorem zan.e (a0:LLD) (a1:Int) : zan [.one (.s a0), .one (.v (.int .i64 a1))] [] = (zan.L2 a0 a1 0).bind zan.A2 := by
 refine (zan.run _ _ (by kernel_rfl)).trans ?_
 delta zan zan.L2 zan.A2 XX
 generalize lpL (Y.ctx (lim' Y)) 145 = lp
 generalize lim' Y = call
 kernel_rfl
theorem zan.s2 (y0:LLD) (y1 y2:Int) : zan.L2 y0 y1 y2 = bif decide (y2 < (↑y0.length : Int)) then bif decide (0 ≤ y2) && decide (y2 < (↑y0.length : Int)) && decide ((y0.getD y2.toNat []).length = 2) then bif zas [.int .i64] (y0.getD y2.toNat []) 0 && decide (1 ≤ (y0.getD y2.toNat []).length) then bif ((y0.getD y2.toNat []).getD 0 .h).int != y1 then some (zan.q2 y1 (-1)) else bif decide (0 ≤ y2) && decide (y2 < (↑y0.length : Int)) && decide ((y0.getD y2.toNat []).length = 2) then bif zas [.sl] (y0.getD y2.toNat []) 1 && decide (2 ≤ (y0.getD y2.toNat []).length) then (zad [.one (.s ((y0.getD y2.toNat []).getD 1 .h).es), .one (.v (.int .i64 (IntKind.i64.wrap (y1 + 1))))] []).bind fun val => bif zaa [.int .i64] val.1 && true then bif decide ((val.1.getD 0 .d).int < 0) then some (zan.q2 (val.1.getD 0 .d).int (-1)) else zan.L2 y0 (val.1.getD 0 .d).int (IntKind.i64.wrap (y2 + 1)) else none else none else none else none else none else some (zan.x2 y1) := by
 refine (zbd (Y := Y) (c := lim' Y) (fn := 145) (rid := 2) (b := zaq 2 zan.c) (by kernel_rfl) _).trans ?_
 delta zan.L2 zan.q2 zad zan.x2 XX
 generalize lpL (Y.ctx (lim' Y)) 145 = lp
 generalize lim' Y = call
 kernel_rfl
theorem zan.a2x2 (y0:Int) : zan.A2 (zan.x2 y0) = some ⟨[.v (.int .i64 y0)], []⟩ := by
 delta zan.A2 zan.x2 XX
 generalize lpL (Y.ctx (lim' Y)) 145 = lp
 generalize lim' Y = call
 kernel_rfl
theorem zcG.e (a0:BAy) (a1:Bool) (a2:Int) (a3:BAy) (a4 a5:LLD) : zcG [.one (.v (.string a0)), .g [.v (.bool a1), .v (.int .i64 a2), .v (.string a3), .s a4, .s a5]] [] = bif a1 then bif decide (4 + a0.size ≤ 70368744177664) then bif decide (((ByteArray.mk #[100, 105, 114, 32]) ++ a0).size + 1 ≤ 70368744177664) then (zdb [.one (.v (.int .i64 a2))] []).bind fun val => bif zaa [.str] val.1 && true then bif decide (((ByteArray.mk #[100, 105, 114, 32]) ++ a0 ++ (ByteArray.mk #[32])).size + (val.1.getD 0 .d).str.size ≤ 70368744177664) then bif decide (((ByteArray.mk #[100, 105, 114, 32]) ++ a0 ++ (ByteArray.mk #[32]) ++ (val.1.getD 0 .d).str).size + 1 ≤ 70368744177664) then some ⟨[.v (.string ((ByteArray.mk #[100, 105, 114, 32]) ++ a0 ++ (ByteArray.mk #[32]) ++ (val.1.getD 0 .d).str ++ (ByteArray.mk #[10])))], []⟩ else none else none else none else none else none else bif decide (5 + a0.size ≤ 70368744177664) then bif decide (((ByteArray.mk #[102, 105, 108, 101, 32]) ++ a0).size + 1 ≤ 70368744177664) then (zdb [.one (.v (.int .i64 a2))] []).bind fun val => bif zaa [.str] val.1 && true then bif decide (((ByteArray.mk #[102, 105, 108, 101, 32]) ++ a0 ++ (ByteArray.mk #[32])).size + (val.1.getD 0 .d).str.size ≤ 70368744177664) then bif decide (((ByteArray.mk #[102, 105, 108, 101, 32]) ++ a0 ++ (ByteArray.mk #[32]) ++ (val.1.getD 0 .d).str).size + 1 ≤ 70368744177664) then (zbo [.one (.v (.string a3))] []).bind fun val_1 => bif zaa [.str] val_1.1 && true then bif decide (((ByteArray.mk #[102, 105, 108, 101, 32]) ++ a0 ++ (ByteArray.mk #[32]) ++ (val.1.getD 0 .d).str ++ (ByteArray.mk #[32])).size + (val_1.1.getD 0 .d).str.size ≤ 70368744177664) then bif decide (((ByteArray.mk #[102, 105, 108, 101, 32]) ++ a0 ++ (ByteArray.mk #[32]) ++ (val.1.getD 0 .d).str ++ (ByteArray.mk #[32]) ++ (val_1.1.getD 0 .d).str).size + 1 ≤ 70368744177664) then some ⟨[.v (.string ((ByteArray.mk #[102, 105, 108, 101, 32]) ++ a0 ++ (ByteArray.mk #[32]) ++ (val.1.getD 0 .d).str ++ (ByteArray.mk #[32]) ++ (val_1.1.getD 0 .d).str ++ (ByteArray.mk #[10])))], []⟩ else none else none else none else none else none else none else none else none := by
 refine (zcG.run _ _ (by kernel_rfl)).trans ?_
 delta zcG zdb zbo XX
 generalize lpL (Y.ctx (lim' Y)) 149 = lp
 generalize lim' Y = call
 kernel_rfl
theorem zbW.e (a0:LLD) : zbW [.one (.s a0)] [] = bif (↑a0.length : Int) == 0 then some ⟨[.v (.string (ByteArray.mk #[47]))], []⟩ else (strings_Join [.one (.s a0), .one (.v (.string (ByteArray.mk #[47])))] []).bind fun val => bif zaa [.str] val.1 && true then bif decide (1 + (val.1.getD 0 .d).str.size ≤ 70368744177664) then some ⟨[.v (.string ((ByteArray.mk #[47]) ++ (val.1.getD 0 .d).str))], []⟩ else none else none := by
 refine (zbW.run _ _ (by kernel_rfl)).trans ?_
 delta zbW strings_Join XX
 generalize lpL (Y.ctx (lim' Y)) 157 = lp
 generalize lim' Y = call
 kernel_rfl
theorem zc2.e (a0:Int) : zc2 [.one (.v (.int .i64 a0))] [] = (zcE [.one (.v (.int .i64 a0)), .one (.v (.int .i64 0)), .one (.v (.int .i64 7))] []).bind fun val => bif zaa [.bool] val.1 && true then some ⟨[.v (.bool (val.1.getD 0 .d).bool)], []⟩ else none := by
 refine (zc2.run _ _ (by kernel_rfl)).trans ?_
 delta zc2 zcE XX
 generalize lpL (Y.ctx (lim' Y)) 158 = lp
 generalize lim' Y = call
 kernel_rfl
theorem zbK.e (a0:Bool) (a1:Int) (a2:BAy) (a3 a4 a5:LLD) : zbK [.g [.v (.bool a0), .v (.int .i64 a1), .v (.string a2), .s a3, .s a4], .one (.s a5)] [] = bif a0 then (zbW [.one (.s a5)] []).bind fun val => bif zaa [.str] val.1 && true then bif decide (4 + (val.1.getD 0 .d).str.size ≤ 70368744177664) then bif decide (((ByteArray.mk #[100, 105, 114, 32]) ++ (val.1.getD 0 .d).str).size + 1 ≤ 70368744177664) then (strconv_Itoa [.one (.v (.int .i64 a1))] []).bind fun val_1 => bif zaa [.str] val_1.1 && true then bif decide (((ByteArray.mk #[100, 105, 114, 32]) ++ (val.1.getD 0 .d).str ++ (ByteArray.mk #[32])).size + (val_1.1.getD 0 .d).str.size ≤ 70368744177664) then bif decide (((ByteArray.mk #[100, 105, 114, 32]) ++ (val.1.getD 0 .d).str ++ (ByteArray.mk #[32]) ++ (val_1.1.getD 0 .d).str).size + 1 ≤ 70368744177664) then some ⟨[.v (.string ((ByteArray.mk #[100, 105, 114, 32]) ++ (val.1.getD 0 .d).str ++ (ByteArray.mk #[32]) ++ (val_1.1.getD 0 .d).str ++ (ByteArray.mk #[10])))], []⟩ else none else none else none else none else none else none else (zbW [.one (.s a5)] []).bind fun val => bif zaa [.str] val.1 && true then bif decide (5 + (val.1.getD 0 .d).str.size ≤ 70368744177664) then bif decide (((ByteArray.mk #[102, 105, 108, 101, 32]) ++ (val.1.getD 0 .d).str).size + 1 ≤ 70368744177664) then (strconv_Itoa [.one (.v (.int .i64 a1))] []).bind fun val_1 => bif zaa [.str] val_1.1 && true then bif decide (((ByteArray.mk #[102, 105, 108, 101, 32]) ++ (val.1.getD 0 .d).str ++ (ByteArray.mk #[32])).size + (val_1.1.getD 0 .d).str.size ≤ 70368744177664) then bif decide (((ByteArray.mk #[102, 105, 108, 101, 32]) ++ (val.1.getD 0 .d).str ++ (ByteArray.mk #[32]) ++ (val_1.1.getD 0 .d).str).size + 1 ≤ 70368744177664) then (zb6 [.one (.v (.string a2))] []).bind fun val_2 => bif zaa [.str] val_2.1 && true then bif decide (((ByteArray.mk #[102, 105, 108, 101, 32]) ++ (val.1.getD 0 .d).str ++ (ByteArray.mk #[32]) ++ (val_1.1.getD 0 .d).str ++ (ByteArray.mk #[32])).size + (val_2.1.getD 0 .d).str.size ≤ 70368744177664) then bif decide (((ByteArray.mk #[102, 105, 108, 101, 32]) ++ (val.1.getD 0 .d).str ++ (ByteArray.mk #[32]) ++ (val_1.1.getD 0 .d).str ++ (ByteArray.mk #[32]) ++ (val_2.1.getD 0 .d).str).size + 1 ≤ 70368744177664) then some ⟨[.v (.string ((ByteArray.mk #[102, 105, 108, 101, 32]) ++ (val.1.getD 0 .d).str ++ (ByteArray.mk #[32]) ++ (val_1.1.getD 0 .d).str ++ (ByteArray.mk #[32]) ++ (val_2.1.getD 0 .d).str ++ (ByteArray.mk #[10])))], []⟩ else none else none else none else none else none else none else none else none else none := by
 refine (zbK.run _ _ (by kernel_rfl)).trans ?_
 delta zbK zbW strconv_Itoa zb6 XX
 generalize lpL (Y.ctx (lim' Y)) 160 = lp
 generalize lim' Y = call
 kernel_rfl
noncomputable def zbt.P9 (y0:LLD) (y1:Int) (y2:Bool) (y3:Int) (y4:BAy) (y5:LLD) (y6:Int) (y7:Bool) (y8:Int) (y9:BAy) : Option Res := evB XX 163 (lpL XX 163) 9 zbt.c (mkG 0 31 [(2, .one (.p true 2 [] 0)), (3, .one (.p true 3 [] 0))] [(2, some ⟨.box, [.s y0, .v (.int .i64 y1), .v (.bool y2), .v (.int .i64 y3), .v (.string y4)], [.sh, .deep, .deep, .deep, .deep]⟩), (3, some ⟨.box, [.s y5, .v (.int .i64 y6), .v (.bool y7), .v (.int .i64 y8), .v (.string y9)], [.sh, .deep, .deep, .deep, .deep]⟩)] GL) (outE XX 163 Tryz.f163)
theorem zbt.e (a0:LLD) (a1:Int) (a2:Bool) (a3:Int) (a4:BAy) (a5:LLD) (a6:Int) (a7:Bool) (a8:Int) (a9:BAy) : zbt [.g [.s a0, .v (.int .i64 a1), .v (.bool a2), .v (.int .i64 a3), .v (.string a4)], .g [.s a5, .v (.int .i64 a6), .v (.bool a7), .v (.int .i64 a8), .v (.string a9)]] [] = (zao [.one (.s a0), .one (.s a5)] []).bind fun val => bif zaa [.bool] val.1 && true then bif !(val.1.getD 0 .d).bool then some ⟨[.v (.bool false)], []⟩ else bif a1 != a6 then some ⟨[.v (.bool false)], []⟩ else bif !a2 == a7 then some ⟨[.v (.bool false)], []⟩ else bif a3 != a8 then some ⟨[.v (.bool false)], []⟩ else zbt.P9 a0 a1 a2 a3 a4 a5 a6 a7 a8 a9 else none := by
 refine (zbt.run _ _ (by kernel_rfl)).trans ?_
 delta zbt zao zbt.P9 XX
 refine zbw [9] (by kernel_rfl) fun J e1 => ?_
 try simp only [← e1]
 clear e1
 generalize lpL (Y.ctx (lim' Y)) 163 = lp
 generalize lim' Y = call
 kernel_rfl
theorem zbt.p9 (y0:LLD) (y1:Int) (y2:Bool) (y3:Int) (y4:BAy) (y5:LLD) (y6:Int) (y7:Bool) (y8:Int) (y9:BAy) : zbt.P9 y0 y1 y2 y3 y4 y5 y6 y7 y8 y9 = bif !y4.toList == y9.toList then some ⟨[.v (.bool false)], []⟩ else some ⟨[.v (.bool true)], []⟩ := by
 delta zbt.P9 XX
 refine zbj [9] 9 (by kernel_rfl) fun J e1 => ?_
 try simp only [← e1]
 clear e1
 generalize lpL (Y.ctx (lim' Y)) 163 = lp
 generalize lim' Y = call
 kernel_rfl
noncomputable def zbb.L3 (y0 y1:BAy) (y2:Int) (y3:Bool) (y4:Int) (y5:BAy) (y6 y7:LLD) : Option (Ex × St) := lpL XX 164 (zaq 3 zbb.c) (mkG 0 41 [(0, .one (.v (.string y0))), (3, .one (.p true 3 [] 0)), (5, .one (.v (.string y1))), (6, .one (.v (.int .i64 y2)))] [(3, some ⟨.box, [.v (.bool y3), .v (.int .i64 y4), .v (.string y5), .s y6, .s y7], [.deep, .deep, .deep, .sh, .sh]⟩)] GL)
noncomputable def zbb.A3 : Ex × St → Option Res := fun r => evA XX 164 (lpL XX 164) 3 zbb.c r.fst r.snd (outE XX 164 Tryz.f164)
noncomputable def zbb.x3 (y0:BAy) : Ex × St := (Ex.exit 0, mkG 0 41 [(5, .one (.v (.string y0)))] [] GL)
theorem zbb.e (a0:BAy) (a1:Bool) (a2:Int) (a3:BAy) (a4 a5:LLD) : zbb [.one (.v (.string a0)), .g [.v (.bool a1), .v (.int .i64 a2), .v (.string a3), .s a4, .s a5]] [] = (zbb.L3 a0 (ByteArray.mk #[]) 0 a1 a2 a3 a4 a5).bind zbb.A3 := by
 refine (zbb.run _ _ (by kernel_rfl)).trans ?_
 delta zbb zbb.L3 zbb.A3 XX
 generalize lpL (Y.ctx (lim' Y)) 164 = lp
 generalize lim' Y = call
 kernel_rfl
theorem zbb.s3 (y0 y1:BAy) (y2:Int) (y3:Bool) (y4:Int) (y5:BAy) (y6 y7:LLD) : zbb.L3 y0 y1 y2 y3 y4 y5 y6 y7 = bif decide (y2 < (↑y6.length : Int)) then bif decide (y0.size + 1 ≤ 70368744177664) then bif decide (0 ≤ y2) && decide (y2 < (↑y6.length : Int)) && decide ((y6.getD y2.toNat []).length = 1) then bif zas [.str] (y6.getD y2.toNat []) 0 && decide (1 ≤ (y6.getD y2.toNat []).length) then bif decide ((y0 ++ (ByteArray.mk #[47])).size + ((y6.getD y2.toNat []).getD 0 .h).str.size ≤ 70368744177664) then bif decide (0 ≤ y2) && decide (y2 < (↑y7.length : Int)) && decide ((y7.getD y2.toNat []).length = 5) then bif zas [.bool, .int .i64, .str, .sl, .sl] (y7.getD y2.toNat []) 0 && decide (5 ≤ (y7.getD y2.toNat []).length) then (zcG [.one (.v (.string (y0 ++ (ByteArray.mk #[47]) ++ ((y6.getD y2.toNat []).getD 0 .h).str))), .g [.v (.bool ((y7.getD y2.toNat []).getD 0 .h).bool), .v (.int .i64 ((y7.getD y2.toNat []).getD 1 .h).int), .v (.string ((y7.getD y2.toNat []).getD 2 .h).str), .s ((y7.getD y2.toNat []).getD 3 .h).es, .s ((y7.getD y2.toNat []).getD 4 .h).es]] []).bind fun val => bif zaa [.str] val.1 && true then bif decide (y1.size + (val.1.getD 0 .d).str.size ≤ 70368744177664) then bif decide (0 ≤ y2) && decide (y2 < (↑y7.length : Int)) && decide ((y7.getD y2.toNat []).length = 5) then bif zas [.bool, .int .i64, .str, .sl, .sl] (y7.getD y2.toNat []) 0 && decide (5 ≤ (y7.getD y2.toNat []).length) then (zbb [.one (.v (.string (y0 ++ (ByteArray.mk #[47]) ++ ((y6.getD y2.toNat []).getD 0 .h).str))), .g [.v (.bool ((y7.getD y2.toNat []).getD 0 .h).bool), .v (.int .i64 ((y7.getD y2.toNat []).getD 1 .h).int), .v (.string ((y7.getD y2.toNat []).getD 2 .h).str), .s ((y7.getD y2.toNat []).getD 3 .h).es, .s ((y7.getD y2.toNat []).getD 4 .h).es]] []).bind fun val_1 => bif zaa [.str] val_1.1 && true then bif decide ((y1 ++ (val.1.getD 0 .d).str).size + (val_1.1.getD 0 .d).str.size ≤ 70368744177664) then zbb.L3 y0 (y1 ++ (val.1.getD 0 .d).str ++ (val_1.1.getD 0 .d).str) (IntKind.i64.wrap (y2 + 1)) y3 y4 y5 y6 y7 else none else none else none else none else none else none else none else none else none else none else none else none else some (zbb.x3 y1) := by
 refine (zbd (Y := Y) (c := lim' Y) (fn := 164) (rid := 3) (b := zaq 3 zbb.c) (by kernel_rfl) _).trans ?_
 delta zbb.L3 zcG zbb zbb.x3 XX
 generalize lpL (Y.ctx (lim' Y)) 164 = lp
 generalize lim' Y = call
 kernel_rfl
theorem zbb.a3x3 (y0:BAy) : zbb.A3 (zbb.x3 y0) = some ⟨[.v (.string y0)], []⟩ := by
 delta zbb.A3 zbb.x3 XX
 generalize lpL (Y.ctx (lim' Y)) 164 = lp
 generalize lim' Y = call
 kernel_rfl
theorem zbL.e (a0:Bool) (a1:Int) (a2:BAy) (a3 a4:LLD) : zbL [.g [.v (.bool a0), .v (.int .i64 a1), .v (.string a2), .s a3, .s a4]] [] = (zaK [.g [.v (.bool a0), .v (.int .i64 a1), .v (.string a2), .s a3, .s a4], .one (.s []), .f za0.id [.bx [A0.p true 0 [] 0] 0]] [⟨.bld 170 5, [.v (.string (ByteArray.mk #[])), .h], [.deep, .deep]⟩]).bind fun val => bif zaa [] val.1 && zaV [⟨⟨.bld 170 5, [.v (.string (ByteArray.mk #[])), .h], [.deep, .deep]⟩, .box 5⟩] val.2 then (zbi [.one (.p true 0 [] 0)] [⟨.bld 170 5, [.v (.string ((val.2.getD 0 ⟨.ro, [], []⟩).2.getD 0 .h).str), .h], [.deep, .deep]⟩]).bind fun val_1 => bif zaa [.str] val_1.1 && zaV [⟨⟨.bld 170 5, [.v (.string ((val.2.getD 0 ⟨.ro, [], []⟩).2.getD 0 .h).str), .h], [.deep, .deep]⟩, .box 5⟩] val_1.2 then some ⟨[.v (.string (val_1.1.getD 0 .d).str)], []⟩ else none else none := by
 refine (zbL.run _ _ (by kernel_rfl)).trans ?_
 delta zbL zaK zbi za0.id XX
 generalize lpL (Y.ctx (lim' Y)) 165 = lp
 generalize lim' Y = call
 kernel_rfl
theorem zcm.e (a0:LLD) (a1:BAy) : zcm [.one (.s a0), .one (.v (.string a1))] [] = bif zaF 1 a0 && zaT false a0 && true && decide ((0 + a0.length) * 17 ≤ 70368744177664) then bif zaF 1 a0 && true && true && true && decide ((a0.length + 1) * 17 ≤ 70368744177664) then some ⟨[.s (a0 ++ [[D.v (.string a1)]])], []⟩ else none else none := by
 refine (zcm.run _ _ (by kernel_rfl)).trans ?_
 delta zcm XX
 generalize lpL (Y.ctx (lim' Y)) 173 = lp
 generalize lim' Y = call
 kernel_rfl
theorem zdO.e (a0:Bool) (a1:Int) (a2:BAy) (a3 a4:LLD) : zdO [.g [.v (.bool a0), .v (.int .i64 a1), .v (.string a2), .s a3, .s a4]] [] = (zcG [.one (.v (.string (ByteArray.mk #[47]))), .g [.v (.bool a0), .v (.int .i64 a1), .v (.string a2), .s a3, .s a4]] []).bind fun val => bif zaa [.str] val.1 && true then (zbb [.one (.v (.string (ByteArray.mk #[]))), .g [.v (.bool a0), .v (.int .i64 a1), .v (.string a2), .s a3, .s a4]] []).bind fun val_1 => bif zaa [.str] val_1.1 && true then bif decide ((val.1.getD 0 .d).str.size + (val_1.1.getD 0 .d).str.size ≤ 70368744177664) then (zbs [.one (.v (.string ((val.1.getD 0 .d).str ++ (val_1.1.getD 0 .d).str)))] []).bind fun val => bif zaa [.int .i64] val.1 && true then some ⟨[.v (.int .i64 (val.1.getD 0 .d).int)], []⟩ else none else none else none else none := by
 refine (zdO.run _ _ (by kernel_rfl)).trans ?_
 delta zdO zcG zbb zbs XX
 generalize lpL (Y.ctx (lim' Y)) 179 = lp
 generalize lim' Y = call
 kernel_rfl
noncomputable def zaP.L2 (y0:BAy) (y1 y2:Int) : Option (Ex × St) := lpL XX 187 (zaq 2 zaP.c) (mkG 0 35 [(0, .one (.v (.string y0))), (5, .one (.v (.int .i64 y1))), (6, .one (.v (.int .i64 y2)))] [] GL)
noncomputable def zaP.A2 : Ex × St → Option Res := fun r => evA XX 187 (lpL XX 187) 2 zaP.c r.fst r.snd (outE XX 187 Tryz.f187)
noncomputable def zaP.P5 (y0:BAy) (y1 y2:Int) (y3:Bool) : Option (Ex × St) := evB XX 187 (lpL XX 187) 5 (zaq 2 zaP.c) (mkG 0 35 [(0, .one (.v (.string y0))), (5, .one (.v (.int .i64 y1))), (6, .one (.v (.int .i64 y2))), (30, .one (.v (.bool y3)))] [] GL) (backL (lpL XX 187) (zaq 2 zaP.c) (XX.live 187 2))
noncomputable def zaP.x2 (y0:BAy) : Ex × St := (Ex.exit 0, mkG 0 35 [(0, .one (.v (.string y0)))] [] GL)
noncomputable def zaP.q2 (y0:BAy) (y1:Bool) : Ex × St := (Ex.ret, mkG 0 35 [(0, .one (.v (.string y0))), (2, .one (.v (.bool y1)))] [] GL)
theorem zaP.e (a0:BAy) : zaP [.one (.v (.string a0))] [] = (zaP.L2 a0 (↑a0.size : Int) 0).bind zaP.A2 := by
 refine (zaP.run _ _ (by kernel_rfl)).trans ?_
 delta zaP zaP.L2 zaP.A2 XX
 generalize lpL (Y.ctx (lim' Y)) 187 = lp
 generalize lim' Y = call
 kernel_rfl
theorem zaP.s2 (y0:BAy) (y1 y2:Int) : zaP.L2 y0 y1 y2 = bif decide (y2 < y1) then bif decide (0 ≤ y2) && decide (y2 < (↑y0.size : Int)) then bif decide (zbf y0 y2.toNat < 97) then bif decide (0 ≤ y2) && decide (y2 < (↑y0.size : Int)) then bif decide (zbf y0 y2.toNat < 48) then zaP.P5 y0 y1 y2 true else bif decide (0 ≤ y2) && decide (y2 < (↑y0.size : Int)) then zaP.P5 y0 y1 y2 (decide (zbf y0 y2.toNat > 57)) else none else none else bif decide (0 ≤ y2) && decide (y2 < (↑y0.size : Int)) then bif decide (zbf y0 y2.toNat > 122) then bif decide (0 ≤ y2) && decide (y2 < (↑y0.size : Int)) then bif decide (zbf y0 y2.toNat < 48) then zaP.P5 y0 y1 y2 true else bif decide (0 ≤ y2) && decide (y2 < (↑y0.size : Int)) then zaP.P5 y0 y1 y2 (decide (zbf y0 y2.toNat > 57)) else none else none else zaP.P5 y0 y1 y2 false else none else none else some (zaP.x2 y0) := by
 refine (zbd (Y := Y) (c := lim' Y) (fn := 187) (rid := 2) (b := zaq 2 zaP.c) (by kernel_rfl) _).trans ?_
 delta zaP.L2 zaP.P5 zaP.x2 XX
 refine zbw [5] (by kernel_rfl) fun J e1 => ?_
 try simp only [← e1]
 clear e1
 generalize lpL (Y.ctx (lim' Y)) 187 = lp
 generalize lim' Y = call
 kernel_rfl
theorem zaP.p5 (y0:BAy) (y1 y2:Int) (y3:Bool) : zaP.P5 y0 y1 y2 y3 = bif y3 then some (zaP.q2 y0 false) else zaP.L2 y0 y1 (IntKind.i64.wrap (y2 + 1)) := by
 delta zaP.P5 zaP.q2 zaP.L2 XX
 refine zbj [5] 5 (by kernel_rfl) fun J e1 => ?_
 try simp only [← e1]
 clear e1
 generalize lpL (Y.ctx (lim' Y)) 187 = lp
 generalize lim' Y = call
 kernel_rfl
theorem zaP.a2x2 (y0:BAy) : zaP.A2 (zaP.x2 y0) = (zcE [.one (.v (.int .i64 (↑y0.size : Int))), .one (.v (.int .i64 1)), .one (.v (.int .i64 5))] []).bind fun val => bif zaa [.bool] val.1 && true then some ⟨[.v (.bool (val.1.getD 0 .d).bool)], []⟩ else none := by
 delta zaP.A2 zaP.x2 zcE XX
 generalize lpL (Y.ctx (lim' Y)) 187 = lp
 generalize lim' Y = call
 kernel_rfl
theorem zaP.a2q2 (y0:BAy) (y1:Bool) : zaP.A2 (zaP.q2 y0 y1) = some ⟨[.v (.bool y1)], []⟩ := by
 delta zaP.A2 zaP.q2 XX
 generalize lpL (Y.ctx (lim' Y)) 187 = lp
 generalize lim' Y = call
 kernel_rfl
theorem zcW.e (a0:LLD) (a1:BAy) : zcW [.one (.s a0), .one (.v (.string a1))] [] = bif zaF 1 a0 && zaT false a0 && true && decide ((0 + a0.length) * 17 ≤ 70368744177664) then bif zaF 1 a0 && true && true && true && decide ((a0.length + 1) * 17 ≤ 70368744177664) then some ⟨[.o .deep (a0 ++ [[D.v (.string a1)]])], []⟩ else none else none := by
 refine (zcW.run _ _ (by kernel_rfl)).trans ?_
 delta zcW XX
 generalize lpL (Y.ctx (lim' Y)) 188 = lp
 generalize lim' Y = call
 kernel_rfl
noncomputable def zai.P2 (y0 y1:Bool) (y2:Int) (y3:BAy) (y4 y5:LLD) : Option Res := evB XX 189 (lpL XX 189) 2 zai.c (mkG 0 65 [(1, .one (.p true 1 [] 0)), (16, .one (.v (.bool y0)))] [(1, some ⟨.box, [.v (.bool y1), .v (.int .i64 y2), .v (.string y3), .s y4, .s y5], [.deep, .deep, .deep, .sh, .sh]⟩)] GL) (outE XX 189 Tryz.f189)
noncomputable def zai.P3 (y0:Bool) (y1:Int) (y2:BAy) (y3 y4:LLD) : Option Res := evB XX 189 (lpL XX 189) 3 zai.c (mkG 0 65 [(1, .one (.p true 1 [] 0))] [(1, some ⟨.box, [.v (.bool y0), .v (.int .i64 y1), .v (.string y2), .s y3, .s y4], [.deep, .deep, .deep, .sh, .sh]⟩)] GL) (outE XX 189 Tryz.f189)
noncomputable def zai.L6 (y0:Int) (y1:Bool) (y2:Int) (y3:BAy) (y4 y5:LLD) : Option (Ex × St) := lpL XX 189 (zaq 6 zai.c) (mkG 0 65 [(1, .one (.p true 1 [] 0)), (3, .one (.v (.int .i64 y0)))] [(1, some ⟨.box, [.v (.bool y1), .v (.int .i64 y2), .v (.string y3), .s y4, .s y5], [.deep, .deep, .deep, .sh, .sh]⟩)] GL)
noncomputable def zai.A6 : Ex × St → Option Res := fun r => evA XX 189 (lpL XX 189) 6 zai.c r.fst r.snd (outE XX 189 Tryz.f189)
noncomputable def zai.P9 (y0:Int) (y1 y2:Bool) (y3:Int) (y4:BAy) (y5 y6:LLD) : Option (Ex × St) := evB XX 189 (lpL XX 189) 9 (zaq 6 zai.c) (mkG 0 65 [(1, .one (.p true 1 [] 0)), (3, .one (.v (.int .i64 y0))), (61, .one (.v (.bool y1)))] [(1, some ⟨.box, [.v (.bool y2), .v (.int .i64 y3), .v (.string y4), .s y5, .s y6], [.deep, .deep, .deep, .sh, .sh]⟩)] GL) (backL (lpL XX 189) (zaq 6 zai.c) (XX.live 189 6))
noncomputable def zai.x6 (y0:Bool) (y1:Int) (y2:BAy) (y3 y4:LLD) : Ex × St := (Ex.exit 0, mkG 0 65 [(1, .one (.p true 1 [] 0))] [(1, some ⟨.box, [.v (.bool y0), .v (.int .i64 y1), .v (.string y2), .s y3, .s y4], [.deep, .deep, .deep, .sh, .sh]⟩)] GL)
noncomputable def zai.q6 (y0 y1:Bool) (y2:Int) (y3:BAy) (y4 y5:LLD) : Ex × St := (Ex.ret, mkG 0 65 [(1, .one (.p true 1 [] 0)), (2, .one (.v (.bool y0)))] [(1, some ⟨.box, [.v (.bool y1), .v (.int .i64 y2), .v (.string y3), .s y4, .s y5], [.deep, .deep, .deep, .sh, .sh]⟩)] GL)
theorem zai.e (a0:Bool) (a1:Int) (a2:BAy) (a3 a4:LLD) : zai [.g [.v (.bool a0), .v (.int .i64 a1), .v (.string a2), .s a3, .s a4]] [] = (sl1In [.one (.v (.int .i64 a1)), .one (.v (.int .i64 0)), .one (.v (.int .i64 7))] []).bind fun val => bif zaa [.bool] val.1 && true then bif !(val.1.getD 0 .d).bool then zai.P2 true a0 a1 a2 a3 a4 else zai.P2 ((↑a3.length : Int) != (↑a4.length : Int)) a0 a1 a2 a3 a4 else none := by
 refine (zai.run _ _ (by kernel_rfl)).trans ?_
 delta zai sl1In zai.P2 XX
 refine zbw [2, 3] (by kernel_rfl) fun J e1 => ?_
 try simp only [← e1]
 clear e1
 generalize lpL (Y.ctx (lim' Y)) 189 = lp
 generalize lim' Y = call
 kernel_rfl
theorem zai.p2 (y0 y1:Bool) (y2:Int) (y3:BAy) (y4 y5:LLD) : zai.P2 y0 y1 y2 y3 y4 y5 = bif y0 then some ⟨[.v (.bool false)], []⟩ else zai.P3 y1 y2 y3 y4 y5 := by
 delta zai.P2 zai.P3 XX
 refine zbj [2, 3] 2 (by kernel_rfl) fun J e1 => ?_
 try simp only [← e1]
 clear e1
 generalize lpL (Y.ctx (lim' Y)) 189 = lp
 generalize lim' Y = call
 kernel_rfl
theorem zai.p3 (y0:Bool) (y1:Int) (y2:BAy) (y3 y4:LLD) : zai.P3 y0 y1 y2 y3 y4 = bif !y0 then bif decide ((↑y2.size : Int) ≤ 24) then some ⟨[.v (.bool ((↑y3.length : Int) == 0))], []⟩ else some ⟨[.v (.bool false)], []⟩ else (zai.L6 0 y0 y1 y2 y3 y4).bind zai.A6 := by
 delta zai.P3 zai.L6 zai.A6 XX
 refine zbj [2, 3] 3 (by kernel_rfl) fun J e1 => ?_
 have eA := evA_J [2, 3] 6 (by kernel_rfl) e1
 try simp only [eA]
 clear eA
 try simp only [← e1]
 clear e1
 show _ = _
 generalize lpL (Y.ctx (lim' Y)) 189 = lp
 generalize lim' Y = call
 kernel_rfl
theorem zai.s6 (y0:Int) (y1:Bool) (y2:Int) (y3:BAy) (y4 y5:LLD) : zai.L6 y0 y1 y2 y3 y4 y5 = bif decide (y0 < (↑y4.length : Int)) then bif decide (0 ≤ y0) && decide (y0 < (↑y4.length : Int)) && decide ((y4.getD y0.toNat []).length = 1) then bif zas [.str] (y4.getD y0.toNat []) 0 && decide (1 ≤ (y4.getD y0.toNat []).length) then (zam [.one (.v (.string ((y4.getD y0.toNat []).getD 0 .h).str))] []).bind fun val => bif zaa [.bool] val.1 && true then bif !(val.1.getD 0 .d).bool then zai.P9 y0 true y1 y2 y3 y4 y5 else bif decide (y0 > 0) then bif decide (0 ≤ IntKind.i64.wrap (y0 - 1)) && decide (IntKind.i64.wrap (y0 - 1) < (↑y4.length : Int)) && decide ((y4.getD (IntKind.i64.wrap (y0 - 1)).toNat []).length = 1) then bif zas [.str] (y4.getD (IntKind.i64.wrap (y0 - 1)).toNat []) 0 && decide (1 ≤ (y4.getD (IntKind.i64.wrap (y0 - 1)).toNat []).length) then bif decide (0 ≤ y0) && decide (y0 < (↑y4.length : Int)) && decide ((y4.getD y0.toNat []).length = 1) then bif zas [.str] (y4.getD y0.toNat []) 0 && decide (1 ≤ (y4.getD y0.toNat []).length) then zai.P9 y0 (!Op.bytesLess ((y4.getD (IntKind.i64.wrap (y0 - 1)).toNat []).getD 0 .h).str.toList ((y4.getD y0.toNat []).getD 0 .h).str.toList) y1 y2 y3 y4 y5 else none else none else none else none else zai.P9 y0 false y1 y2 y3 y4 y5 else none else none else none else some (zai.x6 y1 y2 y3 y4 y5) := by
 refine (zbd (Y := Y) (c := lim' Y) (fn := 189) (rid := 6) (b := zaq 6 zai.c) (by kernel_rfl) _).trans ?_
 delta zai.L6 zam zai.P9 zai.x6 XX
 refine zbw [9] (by kernel_rfl) fun J e1 => ?_
 try simp only [← e1]
 clear e1
 generalize lpL (Y.ctx (lim' Y)) 189 = lp
 generalize lim' Y = call
 kernel_rfl
theorem zai.p9 (y0:Int) (y1 y2:Bool) (y3:Int) (y4:BAy) (y5 y6:LLD) : zai.P9 y0 y1 y2 y3 y4 y5 y6 = bif y1 then some (zai.q6 false y2 y3 y4 y5 y6) else zai.L6 (IntKind.i64.wrap (y0 + 1)) y2 y3 y4 y5 y6 := by
 delta zai.P9 zai.q6 zai.L6 XX
 refine zbj [9] 9 (by kernel_rfl) fun J e1 => ?_
 try simp only [← e1]
 clear e1
 generalize lpL (Y.ctx (lim' Y)) 189 = lp
 generalize lim' Y = call
 kernel_rfl
theorem zai.a6x6 (y0:Bool) (y1:Int) (y2:BAy) (y3 y4:LLD) : zai.A6 (zai.x6 y0 y1 y2 y3 y4) = some ⟨[.v (.bool (y2.toList == []))], []⟩ := by
 delta zai.A6 zai.x6 XX
 refine zc1 [2, 3] 6 (by kernel_rfl) fun J e1 => ?_
 have eA := evA_J [2, 3] 6 (by kernel_rfl) e1
 try simp only [eA]
 clear eA
 try simp only [← e1]
 clear e1
 show _ = _
 generalize lpL (Y.ctx (lim' Y)) 189 = lp
 generalize lim' Y = call
 kernel_rfl
theorem zai.a6q6 (y0 y1:Bool) (y2:Int) (y3:BAy) (y4 y5:LLD) : zai.A6 (zai.q6 y0 y1 y2 y3 y4 y5) = some ⟨[.v (.bool y0)], []⟩ := by
 delta zai.A6 zai.q6 XX
 refine zc1 [2, 3] 6 (by kernel_rfl) fun J e1 => ?_
 have eA := evA_J [2, 3] 6 (by kernel_rfl) e1
 try simp only [eA]
 clear eA
 try simp only [← e1]
 clear e1
 show _ = _
 generalize lpL (Y.ctx (lim' Y)) 189 = lp
 generalize lim' Y = call
 kernel_rfl
theorem za8.e (a0:LLD) (b0:Bool) (b1:Int) (b2:BAy) (b3 b4 a6:LLD) : za8 [.one (.s a0), .g [.v (.bool b0), .v (.int .i64 b1), .v (.string b2), .s b3, .s b4], .one (.p true 0 [] 0)] [⟨.box, [D.s a6], [.deep]⟩] = bif decide ((↑a0.length : Int) > 0) then bif zaF 1 a0 && zaT false a0 && true && decide ((0 + a0.length) * 17 ≤ 70368744177664) then bif zaF 1 a6 && true && true && true && decide ((a6.length + 1) * 25 ≤ 70368744177664) then some ⟨[], [⟨.box, [D.s (a6 ++ [[D.s a0]])], [.deep]⟩]⟩ else none else none else some ⟨[], [⟨.box, [D.s a6], [.deep]⟩]⟩ := by
 refine (za8.run _ _ (by kernel_rfl)).trans ?_
 delta za8 XX
 generalize lpL (Y.ctx (lim' Y)) 190 = lp
 generalize lim' Y = call
 kernel_rfl
theorem zb5.e (a0:Int) (a1:LLD) (a2:Int) (a3:LLD) : zb5 [.g [.v (.int .i64 a0), .s a1], .g [.v (.int .i64 a2), .s a3]] [] = bif a0 != a2 then some ⟨[.v (.bool false)], []⟩ else (zao [.one (.s a1), .one (.s a3)] []).bind fun val => bif zaa [.bool] val.1 && true then bif !(val.1.getD 0 .d).bool then some ⟨[.v (.bool false)], []⟩ else some ⟨[.v (.bool true)], []⟩ else none := by
 refine (zb5.run _ _ (by kernel_rfl)).trans ?_
 delta zb5 zao XX
 generalize lpL (Y.ctx (lim' Y)) 191 = lp
 generalize lim' Y = call
 kernel_rfl
theorem zdb.e (a0:Int) : zdb [.one (.v (.int .i64 a0))] [] = bif decide (a0 < -9223372036854775807) then some ⟨[.v (.string (ByteArray.mk #[45, 57, 50, 50, 51, 51, 55, 50, 48, 51, 54, 56, 53, 52, 55, 55, 53, 56, 48, 56]))], []⟩ else bif decide (a0 < 0) then (zdb [.one (.v (.int .i64 (IntKind.i64.wrap (0 - a0))))] []).bind fun val => bif zaa [.str] val.1 && true then bif decide (1 + (val.1.getD 0 .d).str.size ≤ 70368744177664) then some ⟨[.v (.string ((ByteArray.mk #[45]) ++ (val.1.getD 0 .d).str))], []⟩ else none else none else bif decide (a0 < 10) then some ⟨[.v (.string (strOf [[.v (.int .u8 (IntKind.u8.wrap (IntKind.i64.wrap (48 + a0))))]]))], []⟩ else (zdb [.one (.v (.int .i64 (IntKind.i64.wrap (a0.tdiv 10))))] []).bind fun val => bif zaa [.str] val.1 && true then bif decide ((val.1.getD 0 .d).str.size + 1 ≤ 70368744177664) then some ⟨[.v (.string ((val.1.getD 0 .d).str ++ strOf [[.v (.int .u8 (IntKind.u8.wrap (IntKind.i64.wrap (48 + a0.tmod 10))))]]))], []⟩ else none else none := by
 refine (zdb.run _ _ (by kernel_rfl)).trans ?_
 delta zdb XX
 generalize lpL (Y.ctx (lim' Y)) 193 = lp
 generalize lim' Y = call
 kernel_rfl
noncomputable def zbo.L3 (y0 y1:BAy) (y2:Int) : Option (Ex × St) := lpL XX 194 (zaq 3 zbo.c) (mkG 0 37 [(0, .one (.v (.string y0))), (3, .one (.v (.string y1))), (4, .one (.v (.int .i64 y2)))] [] GL)
noncomputable def zbo.A3 : Ex × St → Option Res := fun r => evA XX 194 (lpL XX 194) 3 zbo.c r.fst r.snd (outE XX 194 Tryz.f194)
noncomputable def zbo.x3 (y0:BAy) : Ex × St := (Ex.exit 0, mkG 0 37 [(3, .one (.v (.string y0)))] [] GL)
theorem zbo.e (a0:BAy) : zbo [.one (.v (.string a0))] [] = (zbo.L3 a0 (ByteArray.mk #[]) 0).bind zbo.A3 := by
 refine (zbo.run _ _ (by kernel_rfl)).trans ?_
 delta zbo zbo.L3 zbo.A3 XX
 generalize lpL (Y.ctx (lim' Y)) 194 = lp
 generalize lim' Y = call
 kernel_rfl
theorem zbo.s3 (y0 y1:BAy) (y2:Int) : zbo.L3 y0 y1 y2 = bif decide (y2 < (↑y0.size : Int)) then bif decide (0 ≤ y2) && decide (y2 < (↑y0.size : Int)) then bif decide (0 ≤ y2) && decide (y2 < (↑y0.size : Int)) then bif decide (IntKind.u8.wrap ((zbf y0 y2.toNat).tdiv 16) ≤ IntKind.u8.wrap (IntKind.u8.wrap ((zbf y0 y2.toNat).tdiv 16) + 1)) && decide (IntKind.u8.wrap (IntKind.u8.wrap ((zbf y0 y2.toNat).tdiv 16) + 1) ≤ (↑(ByteArray.mk #[48, 49, 50, 51, 52, 53, 54, 55, 56, 57, 97, 98, 99, 100, 101, 102]).size : Int)) then bif decide (y1.size + ((ByteArray.mk #[48, 49, 50, 51, 52, 53, 54, 55, 56, 57, 97, 98, 99, 100, 101, 102]).extract (IntKind.u8.wrap ((zbf y0 y2.toNat).tdiv 16)).toNat (IntKind.u8.wrap (IntKind.u8.wrap ((zbf y0 y2.toNat).tdiv 16) + 1)).toNat).size ≤ 70368744177664) then bif decide (0 ≤ y2) && decide (y2 < (↑y0.size : Int)) then bif decide (0 ≤ y2) && decide (y2 < (↑y0.size : Int)) then bif decide ((zbf y0 y2.toNat).tmod 16 ≤ IntKind.u8.wrap ((zbf y0 y2.toNat).tmod 16 + 1)) && decide (IntKind.u8.wrap ((zbf y0 y2.toNat).tmod 16 + 1) ≤ (↑(ByteArray.mk #[48, 49, 50, 51, 52, 53, 54, 55, 56, 57, 97, 98, 99, 100, 101, 102]).size : Int)) then bif decide ((y1 ++ (ByteArray.mk #[48, 49, 50, 51, 52, 53, 54, 55, 56, 57, 97, 98, 99, 100, 101, 102]).extract (IntKind.u8.wrap ((zbf y0 y2.toNat).tdiv 16)).toNat (IntKind.u8.wrap (IntKind.u8.wrap ((zbf y0 y2.toNat).tdiv 16) + 1)).toNat).size + ((ByteArray.mk #[48, 49, 50, 51, 52, 53, 54, 55, 56, 57, 97, 98, 99, 100, 101, 102]).extract ((zbf y0 y2.toNat).tmod 16).toNat (IntKind.u8.wrap ((zbf y0 y2.toNat).tmod 16 + 1)).toNat).size ≤ 70368744177664) then zbo.L3 y0 (y1 ++ (ByteArray.mk #[48, 49, 50, 51, 52, 53, 54, 55, 56, 57, 97, 98, 99, 100, 101, 102]).extract (IntKind.u8.wrap ((zbf y0 y2.toNat).tdiv 16)).toNat (IntKind.u8.wrap (IntKind.u8.wrap ((zbf y0 y2.toNat).tdiv 16) + 1)).toNat ++ (ByteArray.mk #[48, 49, 50, 51, 52, 53, 54, 55, 56, 57, 97, 98, 99, 100, 101, 102]).extract ((zbf y0 y2.toNat).tmod 16).toNat (IntKind.u8.wrap ((zbf y0 y2.toNat).tmod 16 + 1)).toNat) (IntKind.i64.wrap (y2 + 1)) else none else none else none else none else none else none else none else none else some (zbo.x3 y1) := by
 refine (zbd (Y := Y) (c := lim' Y) (fn := 194) (rid := 3) (b := zaq 3 zbo.c) (by kernel_rfl) _).trans ?_
 delta zbo.L3 zbo.x3 XX
 generalize lpL (Y.ctx (lim' Y)) 194 = lp
 generalize lim' Y = call
 kernel_rfl
theorem zbo.a3x3 (y0:BAy) : zbo.A3 (zbo.x3 y0) = bif y0.toList == [] then some ⟨[.v (.string (ByteArray.mk #[45]))], []⟩ else some ⟨[.v (.string y0)], []⟩ := by
 delta zbo.A3 zbo.x3 XX
 generalize lpL (Y.ctx (lim' Y)) 194 = lp
 generalize lim' Y = call
 kernel_rfl
theorem zb6.e (a0:BAy) : zb6 [.one (.v (.string a0))] [] = bif a0.toList == [] then some ⟨[.v (.string (ByteArray.mk #[45]))], []⟩ else (zbp [.one (.v (.string a0))] []).bind fun val => bif zaa [.str] val.1 && true then some ⟨[.v (.string (val.1.getD 0 .d).str)], []⟩ else none := by
 refine (zb6.run _ _ (by kernel_rfl)).trans ?_
 delta zb6 zbp XX
 generalize lpL (Y.ctx (lim' Y)) 203 = lp
 generalize lim' Y = call
 kernel_rfl
theorem za0.e (a0:LLD) (b0:Bool) (b1:Int) (b2:BAy) (b3 b4:LLD) (b:BAy) : za0 [.one (.s a0), .g [.v (.bool b0), .v (.int .i64 b1), .v (.string b2), .s b3, .s b4], .one (.bx [A0.p true 0 [] 0] 0)] [⟨.bld 170 5, [.v (.string b), .h], [.deep, .deep]⟩] = (zbK [.g [.v (.bool b0), .v (.int .i64 b1), .v (.string b2), .s b3, .s b4], .one (.s a0)] []).bind fun val => bif zaa [.str] val.1 && true then (zba [.one (.p true 0 [] 0), .one (.v (.string (val.1.getD 0 .d).str))] [⟨.bld 170 5, [.v (.string b), .h], [.deep, .deep]⟩]).bind fun val => bif zaa [.int .i64, .any] val.1 && zaV [⟨⟨.bld 170 5, [.v (.string b), .h], [.deep, .deep]⟩, .box 0⟩] val.2 then some ⟨[], [⟨.bld 170 5, [.v (.string ((val.2.getD 0 ⟨.ro, [], []⟩).2.getD 0 .h).str), .h], [.deep, .deep]⟩]⟩ else none else none := by
 refine (za0.run _ _ (by kernel_rfl)).trans ?_
 delta za0 zbK zba XX
 generalize lpL (Y.ctx (lim' Y)) 204 = lp
 generalize lim' Y = call
 kernel_rfl
noncomputable def zbs.L3 (y0:BAy) (y1 y2:Int) : Option (Ex × St) := lpL XX 223 (zaq 3 zbs.c) (mkG 0 20 [(0, .one (.v (.string y0))), (3, .one (.v (.int .i64 y1))), (4, .one (.v (.int .i64 y2)))] [] GL)
noncomputable def zbs.A3 : Ex × St → Option Res := fun r => evA XX 223 (lpL XX 223) 3 zbs.c r.fst r.snd (outE XX 223 Tryz.f223)
noncomputable def zbs.x3 (y0:Int) : Ex × St := (Ex.exit 0, mkG 0 20 [(3, .one (.v (.int .i64 y0)))] [] GL)
theorem zbs.e (a0:BAy) : zbs [.one (.v (.string a0))] [] = (zbs.L3 a0 7 0).bind zbs.A3 := by
 refine (zbs.run _ _ (by kernel_rfl)).trans ?_
 delta zbs zbs.L3 zbs.A3 XX
 generalize lpL (Y.ctx (lim' Y)) 223 = lp
 generalize lim' Y = call
 kernel_rfl
theorem zbs.s3 (y0:BAy) (y1 y2:Int) : zbs.L3 y0 y1 y2 = bif decide (y2 < (↑y0.size : Int)) then bif decide (0 ≤ y2) && decide (y2 < (↑y0.size : Int)) then zbs.L3 y0 ((IntKind.i64.wrap (IntKind.i64.wrap (y1 * 131) + IntKind.i64.wrap (zbf y0 y2.toNat))).tmod 1000000007) (IntKind.i64.wrap (y2 + 1)) else none else some (zbs.x3 y1) := by
 refine (zbd (Y := Y) (c := lim' Y) (fn := 223) (rid := 3) (b := zaq 3 zbs.c) (by kernel_rfl) _).trans ?_
 delta zbs.L3 zbs.x3 XX
 generalize lpL (Y.ctx (lim' Y)) 223 = lp
 generalize lim' Y = call
 kernel_rfl
theorem zbs.a3x3 (y0:Int) : zbs.A3 (zbs.x3 y0) = some ⟨[.v (.int .i64 y0)], []⟩ := by
 delta zbs.A3 zbs.x3 XX
 generalize lpL (Y.ctx (lim' Y)) 223 = lp
 generalize lim' Y = call
 kernel_rfl
noncomputable def zbp.L3 (y0:BAy) (y1:Int) (y2:LLD) : Option (Ex × St) := lpL XX 236 (zaq 3 zbp.c) (mkG 0 27 [(0, .one (.v (.string y0))), (3, .one (.r 3 [] 0)), (4, .one (.v (.int .i64 y1)))] [(3, some ⟨.virt, [.s y2], [.deep]⟩)] GL)
noncomputable def zbp.A3 : Ex × St → Option Res := fun r => evA XX 236 (lpL XX 236) 3 zbp.c r.fst r.snd (outE XX 236 Tryz.f236)
noncomputable def zbp.x3 (y0:LLD) : Ex × St := (Ex.exit 0, mkG 0 27 [(3, .one (.r 3 [] 0))] [(3, some ⟨.virt, [.s y0], [.deep]⟩)] GL)
theorem zbp.e (a0:BAy) : zbp [.one (.v (.string a0))] [] = (zbp.L3 a0 0 []).bind zbp.A3 := by
 refine (zbp.run _ _ (by kernel_rfl)).trans ?_
 delta zbp zbp.L3 zbp.A3 XX
 generalize lpL (Y.ctx (lim' Y)) 236 = lp
 generalize lim' Y = call
 kernel_rfl
theorem zbp.s3 (y0:BAy) (y1:Int) (y2:LLD) : zbp.L3 y0 y1 y2 = bif decide (y1 < (↑y0.size : Int)) then bif decide (0 ≤ y1) && decide (y1 < (↑y0.size : Int)) then bif decide (IntKind.u8.wrap ((zbf y0 y1.toNat).tdiv 16) < (↑(ByteArray.mk #[48, 49, 50, 51, 52, 53, 54, 55, 56, 57, 97, 98, 99, 100, 101, 102]).size : Int)) then bif decide (0 ≤ y1) && decide (y1 < (↑y0.size : Int)) then bif decide ((zbf y0 y1.toNat).tmod 16 < (↑(ByteArray.mk #[48, 49, 50, 51, 52, 53, 54, 55, 56, 57, 97, 98, 99, 100, 101, 102]).size : Int)) then bif zaF 1 y2 && true && true && true && decide ((y2.length + 2) * 2 ≤ 70368744177664) then zbp.L3 y0 (IntKind.i64.wrap (y1 + 1)) (y2 ++ [[.v (.int .u8 (zbf (ByteArray.mk #[48, 49, 50, 51, 52, 53, 54, 55, 56, 57, 97, 98, 99, 100, 101, 102]) (IntKind.u8.wrap ((zbf y0 y1.toNat).tdiv 16)).toNat))], [.v (.int .u8 (zbf (ByteArray.mk #[48, 49, 50, 51, 52, 53, 54, 55, 56, 57, 97, 98, 99, 100, 101, 102]) ((zbf y0 y1.toNat).tmod 16).toNat))]]) else none else none else none else none else none else some (zbp.x3 y2) := by
 refine (zbd (Y := Y) (c := lim' Y) (fn := 236) (rid := 3) (b := zaq 3 zbp.c) (by kernel_rfl) _).trans ?_
 delta zbp.L3 zbp.x3 XX
 generalize lpL (Y.ctx (lim' Y)) 236 = lp
 generalize lim' Y = call
 kernel_rfl
theorem zbp.a3x3 (y0:LLD) : zbp.A3 (zbp.x3 y0) = bif zfQ y0 then some ⟨[.v (.string (strOf y0))], []⟩ else none := by
 delta zbp.A3 zbp.x3 XX
 generalize lpL (Y.ctx (lim' Y)) 236 = lp
 generalize lim' Y = call
 kernel_rfl
end Go.PVx
