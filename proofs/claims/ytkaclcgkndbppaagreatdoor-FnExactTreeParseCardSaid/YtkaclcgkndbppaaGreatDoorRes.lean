/- A part of the proof: PvTRes. -/
import Derived.Test.YtkaclcgkndbppaaGreatDoorTab
import Derived.KernelRfl
set_option linter.unusedSimpArgs false
set_option linter.unusedVariables false
namespace Go.PVx
open Go.PV Go.Proofs
set_option maxRecDepth 100000
set_option linter.unusedVariables false
abbrev LLD := List (List D)
abbrev BAy := ByteArray
noncomputable def zag.P6 (y0:BAy) (y1 y2 y3:Bool) (y4:Int) (y5:BAy) (y6 y7:LLD) (y8:Bool) (y9:Int) (y10:BAy) (y11 y12:LLD) : Option Res := evB XX 9 (lpL XX 9) 6 zag.c (mkG 0 66 [(0, .one (.v (.string y0))), (3, .one (.p true 3 [] 0)), (4, .one (.v (.bool y1))), (5, .one (.p true 5 [] 0)), (32, .one (.v (.bool y2)))] [(3, some ⟨.box, [.v (.bool y3), .v (.int .i64 y4), .v (.string y5), .s y6, .s y7], [.deep, .deep, .deep, .sh, .sh]⟩), (5, some ⟨.box, [.v (.bool y8), .v (.int .i64 y9), .v (.string y10), .s y11, .s y12], [.deep, .deep, .deep, .deep, .deep]⟩)] GL) (outE XX 9 Tryz.f9)
noncomputable def zag.P7 (y0:BAy) (y1 y2:Bool) (y3:Int) (y4:BAy) (y5 y6:LLD) (y7:Bool) (y8:Int) (y9:BAy) (y10 y11:LLD) : Option Res := evB XX 9 (lpL XX 9) 7 zag.c (mkG 0 66 [(0, .one (.v (.string y0))), (3, .one (.p true 3 [] 0)), (4, .one (.v (.bool y1))), (5, .one (.p true 5 [] 0))] [(3, some ⟨.box, [.v (.bool y2), .v (.int .i64 y3), .v (.string y4), .s y5, .s y6], [.deep, .deep, .deep, .sh, .sh]⟩), (5, some ⟨.box, [.v (.bool y7), .v (.int .i64 y8), .v (.string y9), .s y10, .s y11], [.deep, .deep, .deep, .deep, .deep]⟩)] GL) (outE XX 9 Tryz.f9)
noncomputable def zag.P16 (y0:Bool) (y1:Int) (y2 y3:Bool) (y4:Int) (y5:BAy) (y6 y7:LLD) (y8:Bool) (y9:Int) (y10:BAy) (y11 y12:LLD) (y13:Bool) (y14:Int) (y15:BAy) (y16 y17:LLD) : Option Res := evB XX 9 (lpL XX 9) 16 zag.c (mkG 0 66 [(3, .one (.p true 3 [] 0)), (4, .one (.v (.bool y0))), (5, .one (.p true 5 [] 0)), (7, .one (.v (.int .i64 y1))), (9, .one (.p true 9 [] 0)), (10, .one (.v (.bool y2)))] [(3, some ⟨.box, [.v (.bool y3), .v (.int .i64 y4), .v (.string y5), .s y6, .s y7], [.deep, .deep, .deep, .sh, .sh]⟩), (5, some ⟨.box, [.v (.bool y8), .v (.int .i64 y9), .v (.string y10), .s y11, .s y12], [.deep, .deep, .deep, .deep, .deep]⟩), (9, some ⟨.box, [.v (.bool y13), .v (.int .i64 y14), .v (.string y15), .s y16, .s y17], [.deep, .deep, .deep, .deep, .deep]⟩)] GL) (outE XX 9 Tryz.f9)
noncomputable def zag.P17 (y0:Int) (y1 y2:Bool) (y3:Int) (y4:BAy) (y5 y6:LLD) : Option Res := evB XX 9 (lpL XX 9) 17 zag.c (mkG 0 66 [(5, .one (.p true 5 [] 0)), (7, .one (.v (.int .i64 y0))), (57, .one (.v (.bool y1)))] [(5, some ⟨.box, [.v (.bool y2), .v (.int .i64 y3), .v (.string y4), .s y5, .s y6], [.deep, .deep, .deep, .deep, .deep]⟩)] GL) (outE XX 9 Tryz.f9)
noncomputable def zag.P18 (y0:Int) (y1:Bool) (y2:Int) (y3:BAy) (y4 y5:LLD) : Option Res := evB XX 9 (lpL XX 9) 18 zag.c (mkG 0 66 [(5, .one (.p true 5 [] 0)), (7, .one (.v (.int .i64 y0)))] [(5, some ⟨.box, [.v (.bool y1), .v (.int .i64 y2), .v (.string y3), .s y4, .s y5], [.deep, .deep, .deep, .deep, .deep]⟩)] GL) (outE XX 9 Tryz.f9)
theorem zag.e (a0:BAy) : zag [.one (.v (.string a0))] [] = bif decide ((↑a0.size : Int) > 1048576) then some ⟨[.v (.bool true)], []⟩ else (zac [.one (.v (.string a0))] []).bind fun val => bif zae [.bool, .int .i64, .str, .sh, .sh, .bool] val.1 && true then (zad [.one (.v (.string a0))] []).bind fun val_1 => bif zae [.bool, .int .i64, .str, .own .deep, .own .deep, .bool] val_1.1 && true then (zbk [.g [.v (.bool (val_1.1.getD 0 .d).bool), .v (.int .i64 (val_1.1.getD 1 .d).int), .v (.string (val_1.1.getD 2 .d).str), .s (val_1.1.getD 3 .d).es, .s (val_1.1.getD 4 .d).es], .g [.v (.bool (val.1.getD 0 .d).bool), .v (.int .i64 (val.1.getD 1 .d).int), .v (.string (val.1.getD 2 .d).str), .s (val.1.getD 3 .d).es, .s (val.1.getD 4 .d).es]] []).bind fun val_2 => bif zae [.bool] val_2.1 && true then bif !(val_2.1.getD 0 .d).bool then zag.P6 a0 (val.1.getD 5 .d).bool true (val.1.getD 0 .d).bool (val.1.getD 1 .d).int (val.1.getD 2 .d).str (val.1.getD 3 .d).es (val.1.getD 4 .d).es (val_1.1.getD 0 .d).bool (val_1.1.getD 1 .d).int (val_1.1.getD 2 .d).str (val_1.1.getD 3 .d).es (val_1.1.getD 4 .d).es else zag.P6 a0 (val.1.getD 5 .d).bool (!(val_1.1.getD 5 .d).bool == (val.1.getD 5 .d).bool) (val.1.getD 0 .d).bool (val.1.getD 1 .d).int (val.1.getD 2 .d).str (val.1.getD 3 .d).es (val.1.getD 4 .d).es (val_1.1.getD 0 .d).bool (val_1.1.getD 1 .d).int (val_1.1.getD 2 .d).str (val_1.1.getD 3 .d).es (val_1.1.getD 4 .d).es else none else none else none := by
 refine (zag.run _ _ (by kernel_rfl)).trans ?_
 delta zag zac zad zbk zag.P6 XX
 refine za3 [6, 7, 16, 17, 18] (by kernel_rfl) fun J e1 => ?_
 try simp only [← e1]
 clear e1
 generalize lpL (Y.ctx (lim' Y)) 9 = lp
 generalize lim' Y = call
 kernel_rfl
theorem zag.p6 (y0:BAy) (y1 y2 y3:Bool) (y4:Int) (y5:BAy) (y6 y7:LLD) (y8:Bool) (y9:Int) (y10:BAy) (y11 y12:LLD) : zag.P6 y0 y1 y2 y3 y4 y5 y6 y7 y8 y9 y10 y11 y12 = bif y2 then some ⟨[.v (.bool false)], []⟩ else zag.P7 y0 y1 y3 y4 y5 y6 y7 y8 y9 y10 y11 y12 := by
 delta zag.P6 zag.P7 XX
 refine zaL [6, 7, 16, 17, 18] 6 (by kernel_rfl) fun J e1 => ?_
 try simp only [← e1]
 clear e1
 generalize lpL (Y.ctx (lim' Y)) 9 = lp
 generalize lim' Y = call
 kernel_rfl
theorem zag.p7 (y0:BAy) (y1 y2:Bool) (y3:Int) (y4:BAy) (y5 y6:LLD) (y7:Bool) (y8:Int) (y9:BAy) (y10 y11:LLD) : zag.P7 y0 y1 y2 y3 y4 y5 y6 y7 y8 y9 y10 y11 = (zbL [.g [.v (.bool y7), .v (.int .i64 y8), .v (.string y9), .r 0 [] 0, .r 0 [] 1], .one (.v (.int .i64 1))] [⟨.virt, [.s y10, .s y11], [.deep, .deep]⟩]).bind fun val => bif zae [.int .i64] val.1 && za2 [⟨⟨.virt, [.s y10, .s y11], [.deep, .deep]⟩, .grp 5 [3, 4] false⟩] val.2 then (zbv [.g [.v (.bool y7), .v (.int .i64 y8), .v (.string y9), .s ((val.2.getD 0 ⟨.ro, [], []⟩).2.getD 0 .h).es, .s ((val.2.getD 0 ⟨.ro, [], []⟩).2.getD 1 .h).es], .one (.v (.int .i64 1))] []).bind fun val_1 => bif zae [.int .i64] val_1.1 && true then bif decide ((val_1.1.getD 0 .d).int < 0) then some ⟨[.v (.bool false)], []⟩ else bif (val_1.1.getD 0 .d).int != (val.1.getD 0 .d).int then some ⟨[.v (.bool false)], []⟩ else (zad [.one (.v (.string y0))] []).bind fun val_2 => bif zae [.bool, .int .i64, .str, .own .deep, .own .deep, .bool] val_2.1 && true then zag.P16 y1 (val.1.getD 0 .d).int (val_2.1.getD 5 .d).bool y2 y3 y4 y5 y6 y7 y8 y9 ((val.2.getD 0 ⟨.ro, [], []⟩).2.getD 0 .h).es ((val.2.getD 0 ⟨.ro, [], []⟩).2.getD 1 .h).es (val_2.1.getD 0 .d).bool (val_2.1.getD 1 .d).int (val_2.1.getD 2 .d).str (val_2.1.getD 3 .d).es (val_2.1.getD 4 .d).es else none else none else none := by
 delta zag.P7 zbL zbv zad zag.P16 XX
 refine zaL [6, 7, 16, 17, 18] 7 (by kernel_rfl) fun J e1 => ?_
 try simp only [← e1]
 clear e1
 generalize lpL (Y.ctx (lim' Y)) 9 = lp
 generalize lim' Y = call
 kernel_rfl
theorem zag.p16 (y0:Bool) (y1:Int) (y2 y3:Bool) (y4:Int) (y5:BAy) (y6 y7:LLD) (y8:Bool) (y9:Int) (y10:BAy) (y11 y12:LLD) (y13:Bool) (y14:Int) (y15:BAy) (y16 y17:LLD) : zag.P16 y0 y1 y2 y3 y4 y5 y6 y7 y8 y9 y10 y11 y12 y13 y14 y15 y16 y17 = (zbk [.g [.v (.bool y13), .v (.int .i64 y14), .v (.string y15), .s y16, .s y17], .g [.v (.bool y3), .v (.int .i64 y4), .v (.string y5), .s y6, .s y7]] []).bind fun val => bif zae [.bool] val.1 && true then bif !(val.1.getD 0 .d).bool then zag.P17 y1 true y8 y9 y10 y11 y12 else zag.P17 y1 (!y2 == y0) y8 y9 y10 y11 y12 else none := by
 delta zag.P16 zbk zag.P17 XX
 refine zaL [6, 7, 16, 17, 18] 16 (by kernel_rfl) fun J e1 => ?_
 try simp only [← e1]
 clear e1
 generalize lpL (Y.ctx (lim' Y)) 9 = lp
 generalize lim' Y = call
 kernel_rfl
theorem zag.p17 (y0:Int) (y1 y2:Bool) (y3:Int) (y4:BAy) (y5 y6:LLD) : zag.P17 y0 y1 y2 y3 y4 y5 y6 = bif y1 then some ⟨[.v (.bool false)], []⟩ else zag.P18 y0 y2 y3 y4 y5 y6 := by
 delta zag.P17 zag.P18 XX
 refine zaL [6, 7, 16, 17, 18] 17 (by kernel_rfl) fun J e1 => ?_
 try simp only [← e1]
 clear e1
 generalize lpL (Y.ctx (lim' Y)) 9 = lp
 generalize lim' Y = call
 kernel_rfl
theorem zag.p18 (y0:Int) (y1:Bool) (y2:Int) (y3:BAy) (y4 y5:LLD) : zag.P18 y0 y1 y2 y3 y4 y5 = (zbv [.g [.v (.bool y1), .v (.int .i64 y2), .v (.string y3), .s y4, .s y5], .one (.v (.int .i64 1))] []).bind fun val => bif zae [.int .i64] val.1 && true then bif decide ((val.1.getD 0 .d).int < 0) then some ⟨[.v (.bool false)], []⟩ else bif (val.1.getD 0 .d).int != y0 then some ⟨[.v (.bool false)], []⟩ else some ⟨[.v (.bool true)], []⟩ else none := by
 delta zag.P18 zbv XX
 refine zaL [6, 7, 16, 17, 18] 18 (by kernel_rfl) fun J e1 => ?_
 try simp only [← e1]
 clear e1
 generalize lpL (Y.ctx (lim' Y)) 9 = lp
 generalize lim' Y = call
 kernel_rfl
noncomputable def zax.L4 (y0 y1:LLD) (y2:Int) : Option (Ex × St) := lpL XX 21 (zav 4 zax.c) (mkG 0 26 [(0, .one (.s y0)), (1, .one (.s y1)), (5, .one (.v (.int .i64 y2)))] [] GL)
noncomputable def zax.A4 : Ex × St → Option Res := fun r => evA XX 21 (lpL XX 21) 4 zax.c r.fst r.snd (outE XX 21 Tryz.f21)
noncomputable def zax.q4 (y0:Bool) : Ex × St := (Ex.ret, mkG 0 26 [(4, .one (.v (.bool y0)))] [] GL)
noncomputable def zax.x4 : Ex × St := (Ex.exit 0, mkG 0 26 [] [] GL)
theorem zax.e (a0 a1:LLD) : zax [.one (.s a0), .one (.s a1)] [] = bif (↑a0.length : Int) != (↑a1.length : Int) then some ⟨[.v (.bool false)], []⟩ else (zax.L4 a0 a1 0).bind zax.A4 := by
 refine (zax.run _ _ (by kernel_rfl)).trans ?_
 delta zax zax.L4 zax.A4 XX
 generalize lpL (Y.ctx (lim' Y)) 21 = lp
 generalize lim' Y = call
 kernel_rfl
theorem zax.s4 (y0 y1:LLD) (y2:Int) : zax.L4 y0 y1 y2 = bif decide (y2 < (↑y0.length : Int)) then bif decide (0 ≤ y2) && decide (y2 < (↑y0.length : Int)) && decide ((y0.getD y2.toNat []).length = 1) then bif zaz [.str] (y0.getD y2.toNat []) 0 && decide (1 ≤ (y0.getD y2.toNat []).length) then bif decide (0 ≤ y2) && decide (y2 < (↑y1.length : Int)) && decide ((y1.getD y2.toNat []).length = 1) then bif zaz [.str] (y1.getD y2.toNat []) 0 && decide (1 ≤ (y1.getD y2.toNat []).length) then bif !((y0.getD y2.toNat []).getD 0 .h).str.toList == ((y1.getD y2.toNat []).getD 0 .h).str.toList then some (zax.q4 false) else zax.L4 y0 y1 (IntKind.i64.wrap (y2 + 1)) else none else none else none else none else some zax.x4 := by
 refine (zbz (Y := Y) (c := lim' Y) (fn := 21) (rid := 4) (b := zav 4 zax.c) (by kernel_rfl) _).trans ?_
 delta zax.L4 zax.q4 zax.x4 XX
 generalize lpL (Y.ctx (lim' Y)) 21 = lp
 generalize lim' Y = call
 kernel_rfl
theorem zax.a4x4 : zax.A4 zax.x4 = some ⟨[.v (.bool true)], []⟩ := by
 delta zax.A4 zax.x4 XX
 generalize lpL (Y.ctx (lim' Y)) 21 = lp
 generalize lim' Y = call
 kernel_rfl
noncomputable def zbk.P9 (y0:Bool) (y1:Int) (y2:BAy) (y3 y4:LLD) (y5:Bool) (y6:Int) (y7:BAy) (y8 y9:LLD) : Option Res := evB XX 26 (lpL XX 26) 9 zbk.c (mkG 0 32 [(2, .one (.p true 2 [] 0)), (3, .one (.p true 3 [] 0))] [(2, some ⟨.box, [.v (.bool y0), .v (.int .i64 y1), .v (.string y2), .s y3, .s y4], [.deep, .deep, .deep, .sh, .sh]⟩), (3, some ⟨.box, [.v (.bool y5), .v (.int .i64 y6), .v (.string y7), .s y8, .s y9], [.deep, .deep, .deep, .sh, .sh]⟩)] GL) (outE XX 26 Tryz.f26)
theorem zbk.e (a0:Bool) (a1:Int) (a2:BAy) (a3 a4:LLD) (a5:Bool) (a6:Int) (a7:BAy) (a8 a9:LLD) : zbk [.g [.v (.bool a0), .v (.int .i64 a1), .v (.string a2), .s a3, .s a4], .g [.v (.bool a5), .v (.int .i64 a6), .v (.string a7), .s a8, .s a9]] [] = bif !a0 == a5 then some ⟨[.v (.bool false)], []⟩ else bif a1 != a6 then some ⟨[.v (.bool false)], []⟩ else bif !a2.toList == a7.toList then some ⟨[.v (.bool false)], []⟩ else (zax [.one (.s a3), .one (.s a8)] []).bind fun val => bif zae [.bool] val.1 && true then bif !(val.1.getD 0 .d).bool then some ⟨[.v (.bool false)], []⟩ else zbk.P9 a0 a1 a2 a3 a4 a5 a6 a7 a8 a9 else none := by
 refine (zbk.run _ _ (by kernel_rfl)).trans ?_
 delta zbk zax zbk.P9 XX
 refine za3 [9] (by kernel_rfl) fun J e1 => ?_
 try simp only [← e1]
 clear e1
 generalize lpL (Y.ctx (lim' Y)) 26 = lp
 generalize lim' Y = call
 kernel_rfl
theorem zbk.p9 (y0:Bool) (y1:Int) (y2:BAy) (y3 y4:LLD) (y5:Bool) (y6:Int) (y7:BAy) (y8 y9:LLD) : zbk.P9 y0 y1 y2 y3 y4 y5 y6 y7 y8 y9 = (zaI [.one (.s y4), .one (.s y9)] []).bind fun val => bif zae [.bool] val.1 && true then bif !(val.1.getD 0 .d).bool then some ⟨[.v (.bool false)], []⟩ else some ⟨[.v (.bool true)], []⟩ else none := by
 delta zbk.P9 zaI XX
 refine zaL [9] 9 (by kernel_rfl) fun J e1 => ?_
 try simp only [← e1]
 clear e1
 generalize lpL (Y.ctx (lim' Y)) 26 = lp
 generalize lim' Y = call
 kernel_rfl
theorem zbL.e (a0:Bool) (a1:Int) (a2:BAy) (a3 a4:LLD) (a5:Int) : zbL [.g [.v (.bool a0), .v (.int .i64 a1), .v (.string a2), .r 0 [] 0, .r 0 [] 1], .one (.v (.int .i64 a5))] [⟨.virt, [.s a3, .s a4], [.deep, .deep]⟩] = (zap [.one (.r 0 [] 0), .one (.v (.int .i64 a5))] [⟨.virt, [.s a3], [.deep]⟩]).bind fun val => bif zae [.int .i64] val.1 && za2 [⟨⟨.virt, [.s a3], [.deep]⟩, .sl 0 [] 0⟩] val.2 then (zao [.one (.r 0 [] 0), .one (.v (.int .i64 (val.1.getD 0 .d).int))] [⟨.virt, [.s a4], [.deep]⟩]).bind fun val_1 => bif zae [.int .i64] val_1.1 && za2 [⟨⟨.virt, [.s a4], [.deep]⟩, .sl 0 [] 1⟩] val_1.2 then some ⟨[.v (.int .i64 (val_1.1.getD 0 .d).int)], [⟨.virt, [.s ((val.2.getD 0 ⟨.ro, [], []⟩).2.getD 0 .h).es, .s ((val_1.2.getD 0 ⟨.ro, [], []⟩).2.getD 0 .h).es], [.deep, .deep]⟩]⟩ else none else none := by
 refine (zbL.run _ _ (by kernel_rfl)).trans ?_
 delta zbL zap zao XX
 generalize lpL (Y.ctx (lim' Y)) 28 = lp
 generalize lim' Y = call
 kernel_rfl
theorem zbv.e (a0:Bool) (a1:Int) (a2:BAy) (a3 a4:LLD) (a5:Int) : zbv [.g [.v (.bool a0), .v (.int .i64 a1), .v (.string a2), .s a3, .s a4], .one (.v (.int .i64 a5))] [] = (zam [.one (.s a3), .one (.v (.int .i64 a5))] []).bind fun val => bif zae [.int .i64] val.1 && true then bif decide ((val.1.getD 0 .d).int < 0) then some ⟨[.v (.int .i64 (-1))], []⟩ else (zaj [.one (.s a4), .one (.v (.int .i64 (val.1.getD 0 .d).int))] []).bind fun val => bif zae [.int .i64] val.1 && true then bif decide ((val.1.getD 0 .d).int < 0) then some ⟨[.v (.int .i64 (-1))], []⟩ else some ⟨[.v (.int .i64 (val.1.getD 0 .d).int)], []⟩ else none else none := by
 refine (zbv.run _ _ (by kernel_rfl)).trans ?_
 delta zbv zam zaj XX
 generalize lpL (Y.ctx (lim' Y)) 29 = lp
 generalize lim' Y = call
 kernel_rfl
noncomputable def zap.L2 (y0 y1:Int) (y2:LLD) : Option (Ex × St) := lpL XX 32 (zav 2 zap.c) (mkG 1 20 [(0, .one (.r 0 [] 0)), (1, .one (.v (.int .i64 y0))), (5, .one (.v (.int .i64 y1)))] [(0, some ⟨.virt, [.s y2], [.deep]⟩)] GL)
noncomputable def zap.A2 : Ex × St → Option Res := fun r => evA XX 32 (lpL XX 32) 2 zap.c r.fst r.snd (outE XX 32 Tryz.f32)
noncomputable def zap.x2 (y0:Int) (y1:LLD) : Ex × St := (Ex.exit 0, mkG 1 20 [(1, .one (.v (.int .i64 y0)))] [(0, some ⟨.virt, [.s y1], [.deep]⟩)] GL)
theorem zap.e (a0:LLD) (a1:Int) : zap [.one (.r 0 [] 0), .one (.v (.int .i64 a1))] [⟨.virt, [.s a0], [.deep]⟩] = (zap.L2 a1 0 a0).bind zap.A2 := by
 refine (zap.run _ _ (by kernel_rfl)).trans ?_
 delta zap zap.L2 zap.A2 XX
 generalize lpL (Y.ctx (lim' Y)) 32 = lp
 generalize lim' Y = call
 kernel_rfl
theorem zap.s2 (y0 y1:Int) (y2:LLD) : zap.L2 y0 y1 y2 = bif decide (y1 < (↑y2.length : Int)) then (zay [.one (.v (.int .i64 y0))] []).bind fun val => bif zae [.str] val.1 && true then bif decide (0 ≤ y1) && decide (y1 < (↑y2.length : Int)) && decide ((y2.getD y1.toNat []).length = 1) then bif decide (1 ≤ (y2.getD y1.toNat []).length) && true then zap.L2 (IntKind.i64.wrap (y0 + 1)) (IntKind.i64.wrap (y1 + 1)) (y2.set y1.toNat (.v (.string (val.1.getD 0 .d).str) :: List.drop 1 (y2.getD y1.toNat []))) else none else none else none else some (zap.x2 y0 y2) := by
 refine (zbz (Y := Y) (c := lim' Y) (fn := 32) (rid := 2) (b := zav 2 zap.c) (by kernel_rfl) _).trans ?_
 delta zap.L2 zay zap.x2 XX
 generalize lpL (Y.ctx (lim' Y)) 32 = lp
 generalize lim' Y = call
 kernel_rfl
theorem zap.a2x2 (y0:Int) (y1:LLD) : zap.A2 (zap.x2 y0 y1) = some ⟨[.v (.int .i64 y0)], [⟨.virt, [.s y1], [.deep]⟩]⟩ := by
 delta zap.A2 zap.x2 XX
 generalize lpL (Y.ctx (lim' Y)) 32 = lp
 generalize lim' Y = call
 kernel_rfl
noncomputable def zam.L2 (y0:LLD) (y1 y2:Int) : Option (Ex × St) := lpL XX 33 (zav 2 zam.c) (mkG 0 22 [(0, .one (.s y0)), (1, .one (.v (.int .i64 y1))), (5, .one (.v (.int .i64 y2)))] [] GL)
noncomputable def zam.A2 : Ex × St → Option Res := fun r => evA XX 33 (lpL XX 33) 2 zam.c r.fst r.snd (outE XX 33 Tryz.f33)
noncomputable def zam.q2 (y0 y1:Int) : Ex × St := (Ex.ret, mkG 0 22 [(1, .one (.v (.int .i64 y0))), (4, .one (.v (.int .i64 y1)))] [] GL)
noncomputable def zam.x2 (y0:Int) : Ex × St := (Ex.exit 0, mkG 0 22 [(1, .one (.v (.int .i64 y0)))] [] GL)
theorem zam.e (a0:LLD) (a1:Int) : zam [.one (.s a0), .one (.v (.int .i64 a1))] [] = (zam.L2 a0 a1 0).bind zam.A2 := by
 refine (zam.run _ _ (by kernel_rfl)).trans ?_
 delta zam zam.L2 zam.A2 XX
 generalize lpL (Y.ctx (lim' Y)) 33 = lp
 generalize lim' Y = call
 kernel_rfl
theorem zam.s2 (y0:LLD) (y1 y2:Int) : zam.L2 y0 y1 y2 = bif decide (y2 < (↑y0.length : Int)) then bif decide (0 ≤ y2) && decide (y2 < (↑y0.length : Int)) && decide ((y0.getD y2.toNat []).length = 1) then bif zaz [.str] (y0.getD y2.toNat []) 0 && decide (1 ≤ (y0.getD y2.toNat []).length) then (zay [.one (.v (.int .i64 y1))] []).bind fun val => bif zae [.str] val.1 && true then bif !((y0.getD y2.toNat []).getD 0 .h).str.toList == (val.1.getD 0 .d).str.toList then some (zam.q2 y1 (-1)) else zam.L2 y0 (IntKind.i64.wrap (y1 + 1)) (IntKind.i64.wrap (y2 + 1)) else none else none else none else some (zam.x2 y1) := by
 refine (zbz (Y := Y) (c := lim' Y) (fn := 33) (rid := 2) (b := zav 2 zam.c) (by kernel_rfl) _).trans ?_
 delta zam.L2 zay zam.q2 zam.x2 XX
 generalize lpL (Y.ctx (lim' Y)) 33 = lp
 generalize lim' Y = call
 kernel_rfl
theorem zam.a2x2 (y0:Int) : zam.A2 (zam.x2 y0) = some ⟨[.v (.int .i64 y0)], []⟩ := by
 delta zam.A2 zam.x2 XX
 generalize lpL (Y.ctx (lim' Y)) 33 = lp
 generalize lim' Y = call
 kernel_rfl
noncomputable def zac.L4 (y0:BAy) (y1:Int) (y2:Bool) (y3:Int) (y4:BAy) (y5 y6 y7:LLD) (y8:Bool) (y9:Int) (y10:BAy) (y11 y12:LLD) : Option (Ex × St) := lpL XX 46 (zav 4 zac.c) (mkG 0 71 [(0, .one (.v (.string y0))), (2, .one (.p true 2 [] 0)), (4, .one (.r 4 [] 0)), (5, .one (.p true 5 [] 0)), (6, .one (.v (.int .i64 y1)))] [(2, some ⟨.box, [.v (.bool y2), .v (.int .i64 y3), .v (.string y4), .s y5, .s y6], [.deep, .deep, .deep, .deep, .deep]⟩), (4, some ⟨.virt, [.s y7], [.deep]⟩), (5, some ⟨.box, [.v (.bool y8), .v (.int .i64 y9), .v (.string y10), .s y11, .s y12], [.deep, .deep, .deep, .deep, .deep]⟩)] GL)
noncomputable def zac.A4 : Ex × St → Option Res := fun r => evA XX 46 (lpL XX 46) 4 zac.c r.fst r.snd (outE XX 46 Tryz.f46)
noncomputable def zac.P6 (y0:BAy) (y1:Int) (y2:Bool) (y3:Int) (y4:BAy) (y5 y6 y7:LLD) (y8:Bool) (y9:Int) (y10:BAy) (y11 y12:LLD) : Option (Ex × St) := evB XX 46 (lpL XX 46) 6 (zav 4 zac.c) (mkG 0 71 [(0, .one (.v (.string y0))), (2, .one (.p true 2 [] 0)), (4, .one (.r 4 [] 0)), (5, .one (.p true 5 [] 0)), (6, .one (.v (.int .i64 y1)))] [(2, some ⟨.box, [.v (.bool y2), .v (.int .i64 y3), .v (.string y4), .s y5, .s y6], [.deep, .deep, .deep, .deep, .deep]⟩), (4, some ⟨.virt, [.s y7], [.deep]⟩), (5, some ⟨.box, [.v (.bool y8), .v (.int .i64 y9), .v (.string y10), .s y11, .s y12], [.deep, .deep, .deep, .deep, .deep]⟩)] GL) (backL (lpL XX 46) (zav 4 zac.c) (XX.live 46 4))
noncomputable def zac.x4 (y0:BAy) (y1:Bool) (y2:Int) (y3:BAy) (y4 y5:LLD) (y6:Bool) (y7:Int) (y8:BAy) (y9 y10:LLD) : Ex × St := (Ex.exit 0, mkG 0 71 [(0, .one (.v (.string y0))), (2, .one (.p true 2 [] 0)), (5, .one (.p true 5 [] 0))] [(2, some ⟨.box, [.v (.bool y1), .v (.int .i64 y2), .v (.string y3), .s y4, .s y5], [.deep, .deep, .deep, .deep, .deep]⟩), (5, some ⟨.box, [.v (.bool y6), .v (.int .i64 y7), .v (.string y8), .s y9, .s y10], [.deep, .deep, .deep, .deep, .deep]⟩)] GL)
noncomputable def zac.q4 (y0:BAy) (y1 y2:Bool) (y3:Int) (y4:BAy) (y5 y6:LLD) (y7:Bool) (y8:Int) (y9:BAy) (y10 y11:LLD) : Ex × St := (Ex.ret, mkG 0 71 [(0, .one (.v (.string y0))), (2, .one (.p true 2 [] 0)), (3, .one (.v (.bool y1))), (5, .one (.p true 5 [] 0))] [(2, some ⟨.box, [.v (.bool y2), .v (.int .i64 y3), .v (.string y4), .s y5, .s y6], [.deep, .deep, .deep, .deep, .deep]⟩), (5, some ⟨.box, [.v (.bool y7), .v (.int .i64 y8), .v (.string y9), .s y10, .s y11], [.deep, .deep, .deep, .deep, .deep]⟩)] GL)
noncomputable def zac.L4b (y0:BAy) (y1:Int) (y2:Bool) (y3:Int) (y4:BAy) (y5 y6 y7:LLD) (y8:Bool) (y9:Int) (y10:BAy) (y11 y12:LLD) : Option (Ex × St) := lpL XX 46 (zav 4 zac.c) (mkG 0 71 [(0, .one (.v (.string y0))), (2, .one (.p true 2 [] 0)), (4, .one (.r 4 [] 0)), (5, .one (.p true 5 [] 0)), (6, .one (.v (.int .i64 y1)))] [(2, some ⟨.box, [.v (.bool y2), .v (.int .i64 y3), .v (.string y4), .s y5, .s y6], [.deep, .deep, .deep, .deep, .deep]⟩), (4, some ⟨.virt, [.s y7], [.deep]⟩), (5, some ⟨.box, [.v (.bool y8), .v (.int .i64 y9), .v (.string y10), .s y11, .s y12], [.deep, .deep, .deep, .sh, .sh]⟩)] GL)
noncomputable def zac.P13 (y0:BAy) (y1:Int) (y2:Bool) (y3:Int) (y4:BAy) (y5 y6 y7:LLD) (y8:Bool) (y9:Int) (y10:BAy) (y11 y12:LLD) (y13:Bool) (y14:Int) (y15:BAy) (y16 y17 y18:LLD) : Option (Ex × St) := evB XX 46 (lpL XX 46) 13 (zav 4 zac.c) (mkG 0 71 [(0, .one (.v (.string y0))), (2, .one (.p true 2 [] 0)), (4, .one (.r 4 [] 0)), (5, .one (.p true 5 [] 0)), (6, .one (.v (.int .i64 y1))), (8, .one (.p true 8 [] 0)), (10, .one (.r 10 [] 0))] [(2, some ⟨.box, [.v (.bool y2), .v (.int .i64 y3), .v (.string y4), .s y5, .s y6], [.deep, .deep, .deep, .deep, .deep]⟩), (4, some ⟨.virt, [.s y7], [.deep]⟩), (5, some ⟨.box, [.v (.bool y8), .v (.int .i64 y9), .v (.string y10), .s y11, .s y12], [.deep, .deep, .deep, .deep, .deep]⟩), (8, some ⟨.box, [.v (.bool y13), .v (.int .i64 y14), .v (.string y15), .s y16, .s y17], [.deep, .deep, .deep, .deep, .deep]⟩), (10, some ⟨.virt, [.s y18], [.deep]⟩)] GL) (backL (lpL XX 46) (zav 4 zac.c) (XX.live 46 4))
noncomputable def zac.P19 (y0 y1:Bool) (y2:Int) (y3:BAy) (y4 y5:LLD) (y6:Bool) (y7:Int) (y8:BAy) (y9 y10:LLD) : Option Res := evB XX 46 (lpL XX 46) 19 zac.c (mkG 0 71 [(2, .one (.p true 2 [] 0)), (5, .one (.p true 5 [] 0)), (68, .one (.v (.bool y0)))] [(2, some ⟨.box, [.v (.bool y1), .v (.int .i64 y2), .v (.string y3), .s y4, .s y5], [.deep, .deep, .deep, .deep, .deep]⟩), (5, some ⟨.box, [.v (.bool y6), .v (.int .i64 y7), .v (.string y8), .s y9, .s y10], [.deep, .deep, .deep, .deep, .deep]⟩)] GL) (outE XX 46 Tryz.f46)
noncomputable def zac.P6b (y0:BAy) (y1:Int) (y2:Bool) (y3:Int) (y4:BAy) (y5 y6 y7:LLD) (y8:Bool) (y9:Int) (y10:BAy) (y11 y12:LLD) : Option (Ex × St) := evB XX 46 (lpL XX 46) 6 (zav 4 zac.c) (mkG 0 71 [(0, .one (.v (.string y0))), (2, .one (.p true 2 [] 0)), (4, .one (.r 4 [] 0)), (5, .one (.p true 5 [] 0)), (6, .one (.v (.int .i64 y1)))] [(2, some ⟨.box, [.v (.bool y2), .v (.int .i64 y3), .v (.string y4), .s y5, .s y6], [.deep, .deep, .deep, .deep, .deep]⟩), (4, some ⟨.virt, [.s y7], [.deep]⟩), (5, some ⟨.box, [.v (.bool y8), .v (.int .i64 y9), .v (.string y10), .s y11, .s y12], [.deep, .deep, .deep, .sh, .sh]⟩)] GL) (backL (lpL XX 46) (zav 4 zac.c) (XX.live 46 4))
noncomputable def zac.x4b (y0:BAy) (y1:Bool) (y2:Int) (y3:BAy) (y4 y5:LLD) (y6:Bool) (y7:Int) (y8:BAy) (y9 y10:LLD) : Ex × St := (Ex.exit 0, mkG 0 71 [(0, .one (.v (.string y0))), (2, .one (.p true 2 [] 0)), (5, .one (.p true 5 [] 0))] [(2, some ⟨.box, [.v (.bool y1), .v (.int .i64 y2), .v (.string y3), .s y4, .s y5], [.deep, .deep, .deep, .deep, .deep]⟩), (5, some ⟨.box, [.v (.bool y6), .v (.int .i64 y7), .v (.string y8), .s y9, .s y10], [.deep, .deep, .deep, .sh, .sh]⟩)] GL)
noncomputable def zac.q4b (y0:BAy) (y1 y2:Bool) (y3:Int) (y4:BAy) (y5 y6:LLD) (y7:Bool) (y8:Int) (y9:BAy) (y10 y11:LLD) : Ex × St := (Ex.ret, mkG 0 71 [(0, .one (.v (.string y0))), (2, .one (.p true 2 [] 0)), (3, .one (.v (.bool y1))), (5, .one (.p true 5 [] 0))] [(2, some ⟨.box, [.v (.bool y2), .v (.int .i64 y3), .v (.string y4), .s y5, .s y6], [.deep, .deep, .deep, .deep, .deep]⟩), (5, some ⟨.box, [.v (.bool y7), .v (.int .i64 y8), .v (.string y9), .s y10, .s y11], [.deep, .deep, .deep, .sh, .sh]⟩)] GL)
noncomputable def zac.P13b (y0:BAy) (y1:Int) (y2:Bool) (y3:Int) (y4:BAy) (y5 y6 y7:LLD) (y8:Bool) (y9:Int) (y10:BAy) (y11 y12:LLD) (y13:Bool) (y14:Int) (y15:BAy) (y16 y17 y18:LLD) : Option (Ex × St) := evB XX 46 (lpL XX 46) 13 (zav 4 zac.c) (mkG 0 71 [(0, .one (.v (.string y0))), (2, .one (.p true 2 [] 0)), (4, .one (.r 4 [] 0)), (5, .one (.p true 5 [] 0)), (6, .one (.v (.int .i64 y1))), (8, .one (.p true 8 [] 0)), (10, .one (.r 10 [] 0))] [(2, some ⟨.box, [.v (.bool y2), .v (.int .i64 y3), .v (.string y4), .s y5, .s y6], [.deep, .deep, .deep, .deep, .deep]⟩), (4, some ⟨.virt, [.s y7], [.deep]⟩), (5, some ⟨.box, [.v (.bool y8), .v (.int .i64 y9), .v (.string y10), .s y11, .s y12], [.deep, .deep, .deep, .sh, .sh]⟩), (8, some ⟨.box, [.v (.bool y13), .v (.int .i64 y14), .v (.string y15), .s y16, .s y17], [.deep, .deep, .deep, .deep, .deep]⟩), (10, some ⟨.virt, [.s y18], [.deep]⟩)] GL) (backL (lpL XX 46) (zav 4 zac.c) (XX.live 46 4))
noncomputable def zac.P19b (y0 y1:Bool) (y2:Int) (y3:BAy) (y4 y5:LLD) (y6:Bool) (y7:Int) (y8:BAy) (y9 y10:LLD) : Option Res := evB XX 46 (lpL XX 46) 19 zac.c (mkG 0 71 [(2, .one (.p true 2 [] 0)), (5, .one (.p true 5 [] 0)), (68, .one (.v (.bool y0)))] [(2, some ⟨.box, [.v (.bool y1), .v (.int .i64 y2), .v (.string y3), .s y4, .s y5], [.deep, .deep, .deep, .deep, .deep]⟩), (5, some ⟨.box, [.v (.bool y6), .v (.int .i64 y7), .v (.string y8), .s y9, .s y10], [.deep, .deep, .deep, .sh, .sh]⟩)] GL) (outE XX 46 Tryz.f46)
theorem zac.e (a0:BAy) : zac [.one (.v (.string a0))] [] = (za0 [.one (.v (.string a0)), .one (.v (.int .u8 10))] []).bind fun val => bif zae [.own .deep] val.1 && true then (zac.L4 a0 0 false 0 (ByteArray.mk #[]) [] [] (val.1.getD 0 .d).es false 0 (ByteArray.mk #[]) [] []).bind zac.A4 else none := by
 refine (zac.run _ _ (by kernel_rfl)).trans ?_
 delta zac za0 zac.L4 zac.A4 XX
 refine za3 [19] (by kernel_rfl) fun J e1 => ?_
 have eA := evA_J [19] 4 (by kernel_rfl) e1
 try simp only [eA]
 clear eA
 try simp only [← e1]
 clear e1
 show _ = _
 generalize lpL (Y.ctx (lim' Y)) 46 = lp
 generalize lim' Y = call
 kernel_rfl
theorem zac.s4 (y0:BAy) (y1:Int) (y2:Bool) (y3:Int) (y4:BAy) (y5 y6 y7:LLD) (y8:Bool) (y9:Int) (y10:BAy) (y11 y12:LLD) : zac.L4 y0 y1 y2 y3 y4 y5 y6 y7 y8 y9 y10 y11 y12 = bif decide (IntKind.i64.wrap (y1 + 1) < (↑y7.length : Int)) then bif decide (y1 ≤ 30) then zac.P6 y0 y1 y2 y3 y4 y5 y6 y7 y8 y9 y10 y11 y12 else some (zac.x4 y0 y2 y3 y4 y5 y6 y8 y9 y10 y11 y12) else some (zac.x4 y0 y2 y3 y4 y5 y6 y8 y9 y10 y11 y12) := by
 refine (zbz (Y := Y) (c := lim' Y) (fn := 46) (rid := 4) (b := zav 4 zac.c) (by kernel_rfl) _).trans ?_
 delta zac.L4 zac.P6 zac.x4 XX
 refine za3 [6, 13] (by kernel_rfl) fun J e1 => ?_
 try simp only [← e1]
 clear e1
 generalize lpL (Y.ctx (lim' Y)) 46 = lp
 generalize lim' Y = call
 kernel_rfl
theorem zac.p6 (y0:BAy) (y1:Int) (y2:Bool) (y3:Int) (y4:BAy) (y5 y6 y7:LLD) (y8:Bool) (y9:Int) (y10:BAy) (y11 y12:LLD) : zac.P6 y0 y1 y2 y3 y4 y5 y6 y7 y8 y9 y10 y11 y12 = bif decide (0 ≤ y1) && decide (y1 < (↑y7.length : Int)) && decide ((y7.getD y1.toNat []).length = 1) then bif zaz [.str] (y7.getD y1.toNat []) 0 && decide (1 ≤ (y7.getD y1.toNat []).length) then (za0 [.one (.v (.string ((y7.getD y1.toNat []).getD 0 .h).str)), .one (.v (.int .u8 32))] []).bind fun val => bif zae [.own .deep] val.1 && true then (zaC [.one (.s (val.1.getD 0 .d).es)] []).bind fun val_1 => bif zae [.bool, .int .i64, .str, .own .deep, .own .deep, .bool] val_1.1 && true then bif !(val_1.1.getD 5 .d).bool then some (zac.q4 y0 false false 0 (ByteArray.mk #[]) [] [] y8 y9 y10 y11 y12) else bif y1 == 0 then zac.L4b y0 (IntKind.i64.wrap (y1 + 1)) y2 y3 y4 y5 y6 y7 (val_1.1.getD 0 .d).bool (val_1.1.getD 1 .d).int (val_1.1.getD 2 .d).str (val_1.1.getD 3 .d).es (val_1.1.getD 4 .d).es else bif decide (1 < (↑(val.1.getD 0 .d).es.length : Int)) && decide (((val.1.getD 0 .d).es.getD 1 []).length = 1) then bif zaz [.str] ((val.1.getD 0 .d).es.getD 1 []) 0 && decide (1 ≤ ((val.1.getD 0 .d).es.getD 1 []).length) then (za0 [.one (.v (.string (((val.1.getD 0 .d).es.getD 1 []).getD 0 .h).str)), .one (.v (.int .u8 47))] []).bind fun val => bif zae [.own .deep] val.1 && true then zac.P13 y0 y1 y2 y3 y4 y5 y6 y7 y8 y9 y10 y11 y12 (val_1.1.getD 0 .d).bool (val_1.1.getD 1 .d).int (val_1.1.getD 2 .d).str (val_1.1.getD 3 .d).es (val_1.1.getD 4 .d).es (val.1.getD 0 .d).es else none else none else none else none else none else none else none := by
 delta zac.P6 za0 zaC zac.q4 zac.L4b zac.P13 XX
 refine zaL [6, 13] 6 (by kernel_rfl) fun J e1 => ?_
 try simp only [← e1]
 clear e1
 generalize lpL (Y.ctx (lim' Y)) 46 = lp
 generalize lim' Y = call
 kernel_rfl
theorem zac.a4x4 (y0:BAy) (y1:Bool) (y2:Int) (y3:BAy) (y4 y5:LLD) (y6:Bool) (y7:Int) (y8:BAy) (y9 y10:LLD) : zac.A4 (zac.x4 y0 y1 y2 y3 y4 y5 y6 y7 y8 y9 y10) = (zbV [.g [.v (.bool y6), .v (.int .i64 y7), .v (.string y8), .s y9, .s y10]] []).bind fun val => bif zae [.bool] val.1 && true then bif !(val.1.getD 0 .d).bool then zac.P19 true y1 y2 y3 y4 y5 y6 y7 y8 y9 y10 else (zbx [.g [.v (.bool y6), .v (.int .i64 y7), .v (.string y8), .s y9, .s y10]] []).bind fun val => bif zae [.str] val.1 && true then zac.P19 (!(val.1.getD 0 .d).str.toList == y0.toList) y1 y2 y3 y4 y5 y6 y7 y8 y9 y10 else none else none := by
 delta zac.A4 zac.x4 zbV zac.P19 zbx XX
 refine zbe [19] 4 (by kernel_rfl) fun J e1 => ?_
 have eA := evA_J [19] 4 (by kernel_rfl) e1
 try simp only [eA]
 clear eA
 try simp only [← e1]
 clear e1
 show _ = _
 generalize lpL (Y.ctx (lim' Y)) 46 = lp
 generalize lim' Y = call
 kernel_rfl
theorem zac.a4q4 (y0:BAy) (y1 y2:Bool) (y3:Int) (y4:BAy) (y5 y6:LLD) (y7:Bool) (y8:Int) (y9:BAy) (y10 y11:LLD) : zac.A4 (zac.q4 y0 y1 y2 y3 y4 y5 y6 y7 y8 y9 y10 y11) = some ⟨[.v (.bool y2), .v (.int .i64 y3), .v (.string y4), .s y5, .s y6, .v (.bool y1)], []⟩ := by
 delta zac.A4 zac.q4 XX
 refine zbe [19] 4 (by kernel_rfl) fun J e1 => ?_
 have eA := evA_J [19] 4 (by kernel_rfl) e1
 try simp only [eA]
 clear eA
 try simp only [← e1]
 clear e1
 show _ = _
 generalize lpL (Y.ctx (lim' Y)) 46 = lp
 generalize lim' Y = call
 kernel_rfl
theorem zac.s4b (y0:BAy) (y1:Int) (y2:Bool) (y3:Int) (y4:BAy) (y5 y6 y7:LLD) (y8:Bool) (y9:Int) (y10:BAy) (y11 y12:LLD) : zac.L4b y0 y1 y2 y3 y4 y5 y6 y7 y8 y9 y10 y11 y12 = bif decide (IntKind.i64.wrap (y1 + 1) < (↑y7.length : Int)) then bif decide (y1 ≤ 30) then zac.P6b y0 y1 y2 y3 y4 y5 y6 y7 y8 y9 y10 y11 y12 else some (zac.x4b y0 y2 y3 y4 y5 y6 y8 y9 y10 y11 y12) else some (zac.x4b y0 y2 y3 y4 y5 y6 y8 y9 y10 y11 y12) := by
 refine (zbz (Y := Y) (c := lim' Y) (fn := 46) (rid := 4) (b := zav 4 zac.c) (by kernel_rfl) _).trans ?_
 delta zac.L4b zac.P6b zac.x4b XX
 refine za3 [6, 13] (by kernel_rfl) fun J e1 => ?_
 try simp only [← e1]
 clear e1
 generalize lpL (Y.ctx (lim' Y)) 46 = lp
 generalize lim' Y = call
 kernel_rfl
theorem zac.p19 (y0 y1:Bool) (y2:Int) (y3:BAy) (y4 y5:LLD) (y6:Bool) (y7:Int) (y8:BAy) (y9 y10:LLD) : zac.P19 y0 y1 y2 y3 y4 y5 y6 y7 y8 y9 y10 = bif y0 then some ⟨[.v (.bool false), .v (.int .i64 0), .v (.string (ByteArray.mk #[])), .s [], .s [], .v (.bool false)], []⟩ else some ⟨[.v (.bool y6), .v (.int .i64 y7), .v (.string y8), .s y9, .s y10, .v (.bool true)], []⟩ := by
 delta zac.P19 XX
 refine zaL [19] 19 (by kernel_rfl) fun J e1 => ?_
 try simp only [← e1]
 clear e1
 generalize lpL (Y.ctx (lim' Y)) 46 = lp
 generalize lim' Y = call
 kernel_rfl
theorem zac.p6b (y0:BAy) (y1:Int) (y2:Bool) (y3:Int) (y4:BAy) (y5 y6 y7:LLD) (y8:Bool) (y9:Int) (y10:BAy) (y11 y12:LLD) : zac.P6b y0 y1 y2 y3 y4 y5 y6 y7 y8 y9 y10 y11 y12 = bif decide (0 ≤ y1) && decide (y1 < (↑y7.length : Int)) && decide ((y7.getD y1.toNat []).length = 1) then bif zaz [.str] (y7.getD y1.toNat []) 0 && decide (1 ≤ (y7.getD y1.toNat []).length) then (za0 [.one (.v (.string ((y7.getD y1.toNat []).getD 0 .h).str)), .one (.v (.int .u8 32))] []).bind fun val => bif zae [.own .deep] val.1 && true then (zaC [.one (.s (val.1.getD 0 .d).es)] []).bind fun val_1 => bif zae [.bool, .int .i64, .str, .own .deep, .own .deep, .bool] val_1.1 && true then bif !(val_1.1.getD 5 .d).bool then some (zac.q4b y0 false false 0 (ByteArray.mk #[]) [] [] y8 y9 y10 y11 y12) else bif y1 == 0 then zac.L4b y0 (IntKind.i64.wrap (y1 + 1)) y2 y3 y4 y5 y6 y7 (val_1.1.getD 0 .d).bool (val_1.1.getD 1 .d).int (val_1.1.getD 2 .d).str (val_1.1.getD 3 .d).es (val_1.1.getD 4 .d).es else bif decide (1 < (↑(val.1.getD 0 .d).es.length : Int)) && decide (((val.1.getD 0 .d).es.getD 1 []).length = 1) then bif zaz [.str] ((val.1.getD 0 .d).es.getD 1 []) 0 && decide (1 ≤ ((val.1.getD 0 .d).es.getD 1 []).length) then (za0 [.one (.v (.string (((val.1.getD 0 .d).es.getD 1 []).getD 0 .h).str)), .one (.v (.int .u8 47))] []).bind fun val => bif zae [.own .deep] val.1 && true then zac.P13b y0 y1 y2 y3 y4 y5 y6 y7 y8 y9 y10 y11 y12 (val_1.1.getD 0 .d).bool (val_1.1.getD 1 .d).int (val_1.1.getD 2 .d).str (val_1.1.getD 3 .d).es (val_1.1.getD 4 .d).es (val.1.getD 0 .d).es else none else none else none else none else none else none else none := by
 delta zac.P6b za0 zaC zac.q4b zac.L4b zac.P13b XX
 refine zaL [6, 13] 6 (by kernel_rfl) fun J e1 => ?_
 try simp only [← e1]
 clear e1
 generalize lpL (Y.ctx (lim' Y)) 46 = lp
 generalize lim' Y = call
 kernel_rfl
theorem zac.a4x4b (y0:BAy) (y1:Bool) (y2:Int) (y3:BAy) (y4 y5:LLD) (y6:Bool) (y7:Int) (y8:BAy) (y9 y10:LLD) : zac.A4 (zac.x4b y0 y1 y2 y3 y4 y5 y6 y7 y8 y9 y10) = (zbV [.g [.v (.bool y6), .v (.int .i64 y7), .v (.string y8), .s y9, .s y10]] []).bind fun val => bif zae [.bool] val.1 && true then bif !(val.1.getD 0 .d).bool then zac.P19b true y1 y2 y3 y4 y5 y6 y7 y8 y9 y10 else (zbx [.g [.v (.bool y6), .v (.int .i64 y7), .v (.string y8), .s y9, .s y10]] []).bind fun val => bif zae [.str] val.1 && true then zac.P19b (!(val.1.getD 0 .d).str.toList == y0.toList) y1 y2 y3 y4 y5 y6 y7 y8 y9 y10 else none else none := by
 delta zac.A4 zac.x4b zbV zac.P19b zbx XX
 refine zbe [19] 4 (by kernel_rfl) fun J e1 => ?_
 have eA := evA_J [19] 4 (by kernel_rfl) e1
 try simp only [eA]
 clear eA
 try simp only [← e1]
 clear e1
 show _ = _
 generalize lpL (Y.ctx (lim' Y)) 46 = lp
 generalize lim' Y = call
 kernel_rfl
theorem zac.a4q4b (y0:BAy) (y1 y2:Bool) (y3:Int) (y4:BAy) (y5 y6:LLD) (y7:Bool) (y8:Int) (y9:BAy) (y10 y11:LLD) : zac.A4 (zac.q4b y0 y1 y2 y3 y4 y5 y6 y7 y8 y9 y10 y11) = some ⟨[.v (.bool y2), .v (.int .i64 y3), .v (.string y4), .s y5, .s y6, .v (.bool y1)], []⟩ := by
 delta zac.A4 zac.q4b XX
 refine zbe [19] 4 (by kernel_rfl) fun J e1 => ?_
 have eA := evA_J [19] 4 (by kernel_rfl) e1
 try simp only [eA]
 clear eA
 try simp only [← e1]
 clear e1
 show _ = _
 generalize lpL (Y.ctx (lim' Y)) 46 = lp
 generalize lim' Y = call
 kernel_rfl
theorem zac.p13b (y0:BAy) (y1:Int) (y2:Bool) (y3:Int) (y4:BAy) (y5 y6 y7:LLD) (y8:Bool) (y9:Int) (y10:BAy) (y11 y12:LLD) (y13:Bool) (y14:Int) (y15:BAy) (y16 y17 y18:LLD) : zac.P13b y0 y1 y2 y3 y4 y5 y6 y7 y8 y9 y10 y11 y12 y13 y14 y15 y16 y17 y18 = bif decide ((↑y18.length : Int) < 2) then some (zac.q4b y0 false false 0 (ByteArray.mk #[]) [] [] y8 y9 y10 y11 y12) else bif decide ((some 1).getD 0 ≤ (↑y18.length : Int)) && decide ((↑y18.length : Int) ≤ (↑y18.length : Int)) && (false || decide ((y18.getD 0 []).length = 1)) then (zbg [.g [.v (.bool y8), .v (.int .i64 y9), .v (.string y10), .s y11, .s y12], .one (.s (List.drop 1 (List.take (↑y18.length : Int).toNat y18))), .g [.v (.bool y13), .v (.int .i64 y14), .v (.string y15), .s y16, .s y17]] []).bind fun val => bif zae [.bool, .int .i64, .str, .sh, .sh, .bool] val.1 && true then bif !(val.1.getD 5 .d).bool then some (zac.q4b y0 false false 0 (ByteArray.mk #[]) [] [] (val.1.getD 0 .d).bool (val.1.getD 1 .d).int (val.1.getD 2 .d).str (val.1.getD 3 .d).es (val.1.getD 4 .d).es) else zac.L4b y0 (IntKind.i64.wrap (y1 + 1)) y2 y3 y4 y5 y6 y7 (val.1.getD 0 .d).bool (val.1.getD 1 .d).int (val.1.getD 2 .d).str (val.1.getD 3 .d).es (val.1.getD 4 .d).es else none else none := by
 delta zac.P13b zac.q4b zbg zac.L4b XX
 refine zaL [6, 13] 13 (by kernel_rfl) fun J e1 => ?_
 try simp only [← e1]
 clear e1
 generalize lpL (Y.ctx (lim' Y)) 46 = lp
 generalize lim' Y = call
 kernel_rfl
theorem zac.p19b (y0 y1:Bool) (y2:Int) (y3:BAy) (y4 y5:LLD) (y6:Bool) (y7:Int) (y8:BAy) (y9 y10:LLD) : zac.P19b y0 y1 y2 y3 y4 y5 y6 y7 y8 y9 y10 = bif y0 then some ⟨[.v (.bool false), .v (.int .i64 0), .v (.string (ByteArray.mk #[])), .s [], .s [], .v (.bool false)], []⟩ else some ⟨[.v (.bool y6), .v (.int .i64 y7), .v (.string y8), .s y9, .s y10, .v (.bool true)], []⟩ := by
 delta zac.P19b XX
 refine zaL [19] 19 (by kernel_rfl) fun J e1 => ?_
 try simp only [← e1]
 clear e1
 generalize lpL (Y.ctx (lim' Y)) 46 = lp
 generalize lim' Y = call
 kernel_rfl
noncomputable def zad.L3 (y0:BAy) (y1:LLD) (y2 y3:Int) (y4:Bool) (y5:Int) (y6:BAy) (y7 y8:LLD) (y9:Bool) (y10:Int) (y11:BAy) (y12 y13:LLD) : Option (Ex × St) := lpL XX 47 (zav 3 zad.c) (mkG 0 65 [(0, .one (.v (.string y0))), (2, .one (.p true 2 [] 0)), (4, .one (.p true 4 [] 0)), (13, .one (.s y1)), (14, .one (.v (.int .i64 y2))), (15, .one (.v (.int .i64 y3)))] [(2, some ⟨.box, [.v (.bool y4), .v (.int .i64 y5), .v (.string y6), .s y7, .s y8], [.deep, .deep, .deep, .deep, .deep]⟩), (4, some ⟨.box, [.v (.bool y9), .v (.int .i64 y10), .v (.string y11), .s y12, .s y13], [.deep, .deep, .deep, .deep, .deep]⟩)] GL)
noncomputable def zad.A3 : Ex × St → Option Res := fun r => evA XX 47 (lpL XX 47) 3 zad.c r.fst r.snd (outE XX 47 Tryz.f47)
noncomputable def zad.P9 (y0:BAy) (y1 y2:LLD) (y3 y4:Int) (y5 y6:Bool) (y7:Int) (y8:BAy) (y9 y10:LLD) (y11:Bool) (y12:Int) (y13:BAy) (y14 y15:LLD) (y16:Bool) (y17:Int) (y18:BAy) (y19 y20:LLD) : Option (Ex × St) := evB XX 47 (lpL XX 47) 9 (zav 3 zad.c) (mkG 0 65 [(0, .one (.v (.string y0))), (2, .one (.p true 2 [] 0)), (4, .one (.p true 4 [] 0)), (7, .one (.s y1)), (8, .one (.p true 8 [] 0)), (13, .one (.s y2)), (14, .one (.v (.int .i64 y3))), (15, .one (.v (.int .i64 y4))), (34, .one (.v (.bool y5)))] [(2, some ⟨.box, [.v (.bool y6), .v (.int .i64 y7), .v (.string y8), .s y9, .s y10], [.deep, .deep, .deep, .deep, .deep]⟩), (4, some ⟨.box, [.v (.bool y11), .v (.int .i64 y12), .v (.string y13), .s y14, .s y15], [.deep, .deep, .deep, .deep, .deep]⟩), (8, some ⟨.box, [.v (.bool y16), .v (.int .i64 y17), .v (.string y18), .s y19, .s y20], [.deep, .deep, .deep, .deep, .deep]⟩)] GL) (backL (lpL XX 47) (zav 3 zad.c) (XX.live 47 3))
noncomputable def zad.x3 (y0:BAy) (y1:Bool) (y2:Int) (y3:BAy) (y4 y5:LLD) (y6:Bool) (y7:Int) (y8:BAy) (y9 y10:LLD) : Ex × St := (Ex.exit 0, mkG 0 65 [(0, .one (.v (.string y0))), (2, .one (.p true 2 [] 0)), (4, .one (.p true 4 [] 0))] [(2, some ⟨.box, [.v (.bool y1), .v (.int .i64 y2), .v (.string y3), .s y4, .s y5], [.deep, .deep, .deep, .deep, .deep]⟩), (4, some ⟨.box, [.v (.bool y6), .v (.int .i64 y7), .v (.string y8), .s y9, .s y10], [.deep, .deep, .deep, .deep, .deep]⟩)] GL)
noncomputable def zad.q3 (y0:BAy) (y1 y2:Bool) (y3:Int) (y4:BAy) (y5 y6:LLD) (y7:Bool) (y8:Int) (y9:BAy) (y10 y11:LLD) : Ex × St := (Ex.ret, mkG 0 65 [(0, .one (.v (.string y0))), (2, .one (.p true 2 [] 0)), (3, .one (.v (.bool y1))), (4, .one (.p true 4 [] 0))] [(2, some ⟨.box, [.v (.bool y2), .v (.int .i64 y3), .v (.string y4), .s y5, .s y6], [.deep, .deep, .deep, .deep, .deep]⟩), (4, some ⟨.box, [.v (.bool y7), .v (.int .i64 y8), .v (.string y9), .s y10, .s y11], [.deep, .deep, .deep, .deep, .deep]⟩)] GL)
noncomputable def zad.P10 (y0:BAy) (y1 y2:LLD) (y3 y4:Int) (y5:Bool) (y6:Int) (y7:BAy) (y8 y9:LLD) (y10:Bool) (y11:Int) (y12:BAy) (y13 y14:LLD) (y15:Bool) (y16:Int) (y17:BAy) (y18 y19:LLD) : Option (Ex × St) := evB XX 47 (lpL XX 47) 10 (zav 3 zad.c) (mkG 0 65 [(0, .one (.v (.string y0))), (2, .one (.p true 2 [] 0)), (4, .one (.p true 4 [] 0)), (7, .one (.s y1)), (8, .one (.p true 8 [] 0)), (13, .one (.s y2)), (14, .one (.v (.int .i64 y3))), (15, .one (.v (.int .i64 y4)))] [(2, some ⟨.box, [.v (.bool y5), .v (.int .i64 y6), .v (.string y7), .s y8, .s y9], [.deep, .deep, .deep, .deep, .deep]⟩), (4, some ⟨.box, [.v (.bool y10), .v (.int .i64 y11), .v (.string y12), .s y13, .s y14], [.deep, .deep, .deep, .deep, .deep]⟩), (8, some ⟨.box, [.v (.bool y15), .v (.int .i64 y16), .v (.string y17), .s y18, .s y19], [.deep, .deep, .deep, .deep, .deep]⟩)] GL) (backL (lpL XX 47) (zav 3 zad.c) (XX.live 47 3))
noncomputable def zad.P17 (y0 y1:Bool) (y2:Int) (y3:BAy) (y4 y5:LLD) (y6:Bool) (y7:Int) (y8:BAy) (y9 y10:LLD) : Option Res := evB XX 47 (lpL XX 47) 17 zad.c (mkG 0 65 [(2, .one (.p true 2 [] 0)), (4, .one (.p true 4 [] 0)), (61, .one (.v (.bool y0)))] [(2, some ⟨.box, [.v (.bool y1), .v (.int .i64 y2), .v (.string y3), .s y4, .s y5], [.deep, .deep, .deep, .deep, .deep]⟩), (4, some ⟨.box, [.v (.bool y6), .v (.int .i64 y7), .v (.string y8), .s y9, .s y10], [.deep, .deep, .deep, .deep, .deep]⟩)] GL) (outE XX 47 Tryz.f47)
noncomputable def zad.P12 (y0:BAy) (y1:LLD) (y2:Int) (y3:Bool) (y4:LLD) (y5 y6:Int) (y7:Bool) (y8:Int) (y9:BAy) (y10 y11:LLD) (y12:Bool) (y13:Int) (y14:BAy) (y15 y16:LLD) (y17:Bool) (y18:Int) (y19:BAy) (y20 y21:LLD) : Option (Ex × St) := evB XX 47 (lpL XX 47) 12 (zav 3 zad.c) (mkG 0 65 [(0, .one (.v (.string y0))), (2, .one (.p true 2 [] 0)), (4, .one (.p true 4 [] 0)), (7, .one (.s y1)), (8, .one (.p true 8 [] 0)), (9, .one (.v (.int .i64 y2))), (10, .one (.p y3 4 [] 0)), (13, .one (.s y4)), (14, .one (.v (.int .i64 y5))), (15, .one (.v (.int .i64 y6)))] [(2, some ⟨.box, [.v (.bool y7), .v (.int .i64 y8), .v (.string y9), .s y10, .s y11], [.deep, .deep, .deep, .deep, .deep]⟩), (4, some ⟨.box, [.v (.bool y12), .v (.int .i64 y13), .v (.string y14), .s y15, .s y16], [.deep, .deep, .deep, .deep, .deep]⟩), (8, some ⟨.box, [.v (.bool y17), .v (.int .i64 y18), .v (.string y19), .s y20, .s y21], [.deep, .deep, .deep, .deep, .deep]⟩)] GL) (backL (lpL XX 47) (zav 3 zad.c) (XX.live 47 3))
noncomputable def zad.P12b (y0:BAy) (y1:LLD) (y2:Int) (y3:Bool) (y4:Nat) (y5:List (Nat × Nat)) (y6:LLD) (y7 y8:Int) (y9:Bool) (y10:Int) (y11:BAy) (y12 y13:LLD) (y14:Bool) (y15:Int) (y16:BAy) (y17 y18:LLD) (y19:Bool) (y20:Int) (y21:BAy) (y22 y23:LLD) : Option (Ex × St) := evB XX 47 (lpL XX 47) 12 (zav 3 zad.c) (mkG 0 65 [(0, .one (.v (.string y0))), (2, .one (.p true 2 [] 0)), (4, .one (.p true 4 [] 0)), (7, .one (.s y1)), (8, .one (.p true 8 [] 0)), (9, .one (.v (.int .i64 y2))), (10, .one (.p y3 4 ((4, y4) :: y5) 0)), (13, .one (.s y6)), (14, .one (.v (.int .i64 y7))), (15, .one (.v (.int .i64 y8)))] [(2, some ⟨.box, [.v (.bool y9), .v (.int .i64 y10), .v (.string y11), .s y12, .s y13], [.deep, .deep, .deep, .deep, .deep]⟩), (4, some ⟨.box, [.v (.bool y14), .v (.int .i64 y15), .v (.string y16), .s y17, .s y18], [.deep, .deep, .deep, .deep, .deep]⟩), (8, some ⟨.box, [.v (.bool y19), .v (.int .i64 y20), .v (.string y21), .s y22, .s y23], [.deep, .deep, .deep, .deep, .deep]⟩)] GL) (backL (lpL XX 47) (zav 3 zad.c) (XX.live 47 3))
noncomputable def zad.P18 (y0:Bool) (y1:Int) (y2:BAy) (y3 y4:LLD) (y5:Bool) (y6:Int) (y7:BAy) (y8 y9:LLD) : Option Res := evB XX 47 (lpL XX 47) 18 zad.c (mkG 0 65 [(2, .one (.p true 2 [] 0)), (4, .one (.p true 4 [] 0))] [(2, some ⟨.box, [.v (.bool y0), .v (.int .i64 y1), .v (.string y2), .s y3, .s y4], [.deep, .deep, .deep, .deep, .deep]⟩), (4, some ⟨.box, [.v (.bool y5), .v (.int .i64 y6), .v (.string y7), .s y8, .s y9], [.deep, .deep, .deep, .deep, .deep]⟩)] GL) (outE XX 47 Tryz.f47)
theorem zad.e (a0:BAy) : zad [.one (.v (.string a0))] [] = (zb6 [.one (.v (.string a0))] []).bind fun val => bif zae [.sh] val.1 && true then (zad.L3 a0 (val.1.getD 0 .d).es (↑(val.1.getD 0 .d).es.length : Int) 0 false 0 (ByteArray.mk #[]) [] [] false 0 (ByteArray.mk #[]) [] []).bind zad.A3 else none := by
 refine (zad.run _ _ (by kernel_rfl)).trans ?_
 delta zad zb6 zad.L3 zad.A3 XX
 refine za3 [17, 18] (by kernel_rfl) fun J e1 => ?_
 have eA := evA_J [17, 18] 3 (by kernel_rfl) e1
 try simp only [eA]
 clear eA
 try simp only [← e1]
 clear e1
 show _ = _
 generalize lpL (Y.ctx (lim' Y)) 47 = lp
 generalize lim' Y = call
 kernel_rfl
theorem zad.s3 (y0:BAy) (y1:LLD) (y2 y3:Int) (y4:Bool) (y5:Int) (y6:BAy) (y7 y8:LLD) (y9:Bool) (y10:Int) (y11:BAy) (y12 y13:LLD) : zad.L3 y0 y1 y2 y3 y4 y5 y6 y7 y8 y9 y10 y11 y12 y13 = bif decide (y3 < y2) then bif decide (0 ≤ y3) && decide (y3 < (↑y1.length : Int)) && decide ((y1.getD y3.toNat []).length = 1) then bif zaz [.str] (y1.getD y3.toNat []) 0 && decide (1 ≤ (y1.getD y3.toNat []).length) then (za4 [.one (.v (.string ((y1.getD y3.toNat []).getD 0 .h).str))] []).bind fun val => bif zae [.sh, .bool, .int .i64, .str, .own .deep, .own .deep] val.1 && true then bif y3 == 0 then zad.L3 y0 y1 y2 (IntKind.i64.wrap (y3 + 1)) y4 y5 y6 y7 y8 (val.1.getD 1 .d).bool (val.1.getD 2 .d).int (val.1.getD 3 .d).str (val.1.getD 4 .d).es (val.1.getD 5 .d).es else bif (↑(val.1.getD 0 .d).es.length : Int) == 0 then zad.P9 y0 (val.1.getD 0 .d).es y1 y2 y3 true y4 y5 y6 y7 y8 y9 y10 y11 y12 y13 (val.1.getD 1 .d).bool (val.1.getD 2 .d).int (val.1.getD 3 .d).str (val.1.getD 4 .d).es (val.1.getD 5 .d).es else zad.P9 y0 (val.1.getD 0 .d).es y1 y2 y3 (decide (y3 > 30)) y4 y5 y6 y7 y8 y9 y10 y11 y12 y13 (val.1.getD 1 .d).bool (val.1.getD 2 .d).int (val.1.getD 3 .d).str (val.1.getD 4 .d).es (val.1.getD 5 .d).es else none else none else none else some (zad.x3 y0 y4 y5 y6 y7 y8 y9 y10 y11 y12 y13) := by
 refine (zbz (Y := Y) (c := lim' Y) (fn := 47) (rid := 3) (b := zav 3 zad.c) (by kernel_rfl) _).trans ?_
 delta zad.L3 za4 zad.P9 zad.x3 XX
 refine za3 [9, 10, 12] (by kernel_rfl) fun J e1 => ?_
 try simp only [← e1]
 clear e1
 generalize lpL (Y.ctx (lim' Y)) 47 = lp
 generalize lim' Y = call
 kernel_rfl
theorem zad.p9 (y0:BAy) (y1 y2:LLD) (y3 y4:Int) (y5 y6:Bool) (y7:Int) (y8:BAy) (y9 y10:LLD) (y11:Bool) (y12:Int) (y13:BAy) (y14 y15:LLD) (y16:Bool) (y17:Int) (y18:BAy) (y19 y20:LLD) : zad.P9 y0 y1 y2 y3 y4 y5 y6 y7 y8 y9 y10 y11 y12 y13 y14 y15 y16 y17 y18 y19 y20 = bif y5 then some (zad.q3 y0 false false 0 (ByteArray.mk #[]) [] [] y11 y12 y13 y14 y15) else zad.P10 y0 y1 y2 y3 y4 y6 y7 y8 y9 y10 y11 y12 y13 y14 y15 y16 y17 y18 y19 y20 := by
 delta zad.P9 zad.q3 zad.P10 XX
 refine zaL [9, 10, 12] 9 (by kernel_rfl) fun J e1 => ?_
 try simp only [← e1]
 clear e1
 generalize lpL (Y.ctx (lim' Y)) 47 = lp
 generalize lim' Y = call
 kernel_rfl
theorem zad.a3x3 (y0:BAy) (y1:Bool) (y2:Int) (y3:BAy) (y4 y5:LLD) (y6:Bool) (y7:Int) (y8:BAy) (y9 y10:LLD) : zad.A3 (zad.x3 y0 y1 y2 y3 y4 y5 y6 y7 y8 y9 y10) = bif y0.toList == [] then zad.P17 true y1 y2 y3 y4 y5 y6 y7 y8 y9 y10 else (zbN [.g [.v (.bool y6), .v (.int .i64 y7), .v (.string y8), .s y9, .s y10]] []).bind fun val => bif zae [.str] val.1 && true then zad.P17 (!(val.1.getD 0 .d).str.toList == y0.toList) y1 y2 y3 y4 y5 y6 y7 y8 y9 y10 else none := by
 delta zad.A3 zad.x3 zad.P17 zbN XX
 refine zbe [17, 18] 3 (by kernel_rfl) fun J e1 => ?_
 have eA := evA_J [17, 18] 3 (by kernel_rfl) e1
 try simp only [eA]
 clear eA
 try simp only [← e1]
 clear e1
 show _ = _
 generalize lpL (Y.ctx (lim' Y)) 47 = lp
 generalize lim' Y = call
 kernel_rfl
theorem zad.a3q3 (y0:BAy) (y1 y2:Bool) (y3:Int) (y4:BAy) (y5 y6:LLD) (y7:Bool) (y8:Int) (y9:BAy) (y10 y11:LLD) : zad.A3 (zad.q3 y0 y1 y2 y3 y4 y5 y6 y7 y8 y9 y10 y11) = some ⟨[.v (.bool y2), .v (.int .i64 y3), .v (.string y4), .o .deep y5, .o .deep y6, .v (.bool y1)], []⟩ := by
 delta zad.A3 zad.q3 XX
 refine zbe [17, 18] 3 (by kernel_rfl) fun J e1 => ?_
 have eA := evA_J [17, 18] 3 (by kernel_rfl) e1
 try simp only [eA]
 clear eA
 try simp only [← e1]
 clear e1
 show _ = _
 generalize lpL (Y.ctx (lim' Y)) 47 = lp
 generalize lim' Y = call
 kernel_rfl
theorem zad.p10 (y0:BAy) (y1 y2:LLD) (y3 y4:Int) (y5:Bool) (y6:Int) (y7:BAy) (y8 y9:LLD) (y10:Bool) (y11:Int) (y12:BAy) (y13 y14:LLD) (y15:Bool) (y16:Int) (y17:BAy) (y18 y19:LLD) : zad.P10 y0 y1 y2 y3 y4 y5 y6 y7 y8 y9 y10 y11 y12 y13 y14 y15 y16 y17 y18 y19 = bif decide (none.getD 0 ≤ IntKind.i64.wrap ((↑y1.length : Int) - 1)) && decide (IntKind.i64.wrap ((↑y1.length : Int) - 1) ≤ (↑y1.length : Int)) && true then (zai [.one (.p true 0 [] 0), .one (.s (List.drop 0 (List.take (IntKind.i64.wrap ((↑y1.length : Int) - 1)).toNat y1)))] [⟨.ro, [.v (.bool y10), .v (.int .i64 y11), .v (.string y12), .s y13, .s y14], [.sh, .sh, .sh, .sh, .sh]⟩]).bind fun val => bif zae [.ptr 0] val.1 && true then bif List.isEmpty (val.1.getD 0 .d).path then zad.P12 y0 y1 (IntKind.i64.wrap ((↑y1.length : Int) - 1)) (val.1.getD 0 .d).ok y2 y3 y4 y5 y6 y7 y8 y9 y10 y11 y12 y13 y14 y15 y16 y17 y18 y19 else zad.P12b y0 y1 (IntKind.i64.wrap ((↑y1.length : Int) - 1)) (val.1.getD 0 .d).ok (List.headD (val.1.getD 0 .d).path (0, 0)).2 (List.tail (val.1.getD 0 .d).path) y2 y3 y4 y5 y6 y7 y8 y9 y10 y11 y12 y13 y14 y15 y16 y17 y18 y19 else none else none := by
 delta zad.P10 zai zad.P12 zad.P12b XX
 refine zaL [9, 10, 12] 10 (by kernel_rfl) fun J e1 => ?_
 try simp only [← e1]
 clear e1
 generalize lpL (Y.ctx (lim' Y)) 47 = lp
 generalize lim' Y = call
 kernel_rfl
theorem zad.p17 (y0 y1:Bool) (y2:Int) (y3:BAy) (y4 y5:LLD) (y6:Bool) (y7:Int) (y8:BAy) (y9 y10:LLD) : zad.P17 y0 y1 y2 y3 y4 y5 y6 y7 y8 y9 y10 = bif y0 then some ⟨[.v (.bool false), .v (.int .i64 0), .v (.string (ByteArray.mk #[])), .o .deep [], .o .deep [], .v (.bool false)], []⟩ else zad.P18 y1 y2 y3 y4 y5 y6 y7 y8 y9 y10 := by
 delta zad.P17 zad.P18 XX
 refine zaL [17, 18] 17 (by kernel_rfl) fun J e1 => ?_
 try simp only [← e1]
 clear e1
 generalize lpL (Y.ctx (lim' Y)) 47 = lp
 generalize lim' Y = call
 kernel_rfl
theorem zad.p12 (y0:BAy) (y1:LLD) (y2:Int) (y3:Bool) (y4:LLD) (y5 y6:Int) (y7:Bool) (y8:Int) (y9:BAy) (y10 y11:LLD) (y12:Bool) (y13:Int) (y14:BAy) (y15 y16:LLD) (y17:Bool) (y18:Int) (y19:BAy) (y20 y21:LLD) : zad.P12 y0 y1 y2 y3 y4 y5 y6 y7 y8 y9 y10 y11 y12 y13 y14 y15 y16 y17 y18 y19 y20 y21 = bif !y3 then some (zad.q3 y0 false false 0 (ByteArray.mk #[]) [] [] y12 y13 y14 y15 y16) else bif decide (0 ≤ y2) && decide (y2 < (↑y1.length : Int)) && decide ((y1.getD y2.toNat []).length = 1) then bif zaz [.str] (y1.getD y2.toNat []) 0 && decide (1 ≤ (y1.getD y2.toNat []).length) then (zbw [.one (.p y3 0 [] 0), .one (.v (.string ((y1.getD y2.toNat []).getD 0 .h).str)), .g [.v (.bool y17), .v (.int .i64 y18), .v (.string y19), .r 1 [] 0, .r 1 [] 1]] [⟨.box, [.v (.bool y12), .v (.int .i64 y13), .v (.string y14), .s y15, .s y16], [.deep, .deep, .deep, .deep, .deep]⟩, ⟨.virt, [.s y20, .s y21], [.deep, .deep]⟩]).bind fun val => bif zae [] val.1 && za2 [⟨⟨.box, [.v (.bool y12), .v (.int .i64 y13), .v (.string y14), .s y15, .s y16], [.deep, .deep, .deep, .deep, .deep]⟩, .box 4⟩, ⟨⟨.virt, [.s y20, .s y21], [.deep, .deep]⟩, .grp 8 [3, 4] true⟩] val.2 then zad.L3 y0 y4 y5 (IntKind.i64.wrap (y6 + 1)) y7 y8 y9 y10 y11 ((val.2.getD 0 ⟨.ro, [], []⟩).2.getD 0 .h).bool ((val.2.getD 0 ⟨.ro, [], []⟩).2.getD 1 .h).int ((val.2.getD 0 ⟨.ro, [], []⟩).2.getD 2 .h).str ((val.2.getD 0 ⟨.ro, [], []⟩).2.getD 3 .h).es ((val.2.getD 0 ⟨.ro, [], []⟩).2.getD 4 .h).es else none else none else none := by
 delta zad.P12 zad.q3 zbw zad.L3 XX
 refine zaL [9, 10, 12] 12 (by kernel_rfl) fun J e1 => ?_
 try simp only [← e1]
 clear e1
 generalize lpL (Y.ctx (lim' Y)) 47 = lp
 generalize lim' Y = call
 kernel_rfl
theorem zad.p12b (y0:BAy) (y1:LLD) (y2:Int) (y3:Bool) (y4:Nat) (y5:List (Nat × Nat)) (y6:LLD) (y7 y8:Int) (y9:Bool) (y10:Int) (y11:BAy) (y12 y13:LLD) (y14:Bool) (y15:Int) (y16:BAy) (y17 y18:LLD) (y19:Bool) (y20:Int) (y21:BAy) (y22 y23:LLD) : zad.P12b y0 y1 y2 y3 y4 y5 y6 y7 y8 y9 y10 y11 y12 y13 y14 y15 y16 y17 y18 y19 y20 y21 y22 y23 = bif !y3 then some (zad.q3 y0 false false 0 (ByteArray.mk #[]) [] [] y14 y15 y16 y17 y18) else bif decide (0 ≤ y2) && decide (y2 < (↑y1.length : Int)) && decide ((y1.getD y2.toNat []).length = 1) then bif zaz [.str] (y1.getD y2.toNat []) 0 && decide (1 ≤ (y1.getD y2.toNat []).length) then bif y3 && true && !(zah (y18.getD y4 []) y5).isEmpty then (zbw [.one (.p true 0 [] 0), .one (.v (.string ((y1.getD y2.toNat []).getD 0 .h).str)), .g [.v (.bool y19), .v (.int .i64 y20), .v (.string y21), .r 1 [] 0, .r 1 [] 1]] [⟨.box, zah (y18.getD y4 []) y5, List.map (fun x => .deep) (zah (y18.getD y4 []) y5)⟩, ⟨.virt, [.s y22, .s y23], [.deep, .deep]⟩]).bind fun val => bif zae [] val.1 && za2 [⟨⟨.box, zah (y18.getD y4 []) y5, List.map (fun x => .deep) (zah (y18.getD y4 []) y5)⟩, .row 4 ((4, y4) :: y5)⟩, ⟨⟨.virt, [.s y22, .s y23], [.deep, .deep]⟩, .grp 8 [3, 4] true⟩] val.2 then zad.L3 y0 y6 y7 (IntKind.i64.wrap (y8 + 1)) y9 y10 y11 y12 y13 y14 y15 y16 y17 (y18.set y4 (zar (y18.getD y4 []) y5 (List.map (fun x => zkG x.1 ((val.2.getD 0 ⟨.ro, [], []⟩).2.getD x.2 .h)) (zah (y18.getD y4 []) y5).zipIdx))) else none else none else none else none := by
 delta zad.P12b zad.q3 zbw zad.L3 XX
 refine zaL [9, 10, 12] 12 (by kernel_rfl) fun J e1 => ?_
 try simp only [← e1]
 clear e1
 generalize lpL (Y.ctx (lim' Y)) 47 = lp
 generalize lim' Y = call
 kernel_rfl
theorem zad.p18 (y0:Bool) (y1:Int) (y2:BAy) (y3 y4:LLD) (y5:Bool) (y6:Int) (y7:BAy) (y8 y9:LLD) : zad.P18 y0 y1 y2 y3 y4 y5 y6 y7 y8 y9 = (zau [.g [.v (.bool y5), .v (.int .i64 y6), .v (.string y7), .s y8, .s y9]] []).bind fun val => bif zae [.bool, .int .i64, .str, .own .deep, .own .deep] val.1 && true then some ⟨[.v (.bool (val.1.getD 0 .d).bool), .v (.int .i64 (val.1.getD 1 .d).int), .v (.string (val.1.getD 2 .d).str), .o .deep (val.1.getD 3 .d).es, .o .deep (val.1.getD 4 .d).es, .v (.bool true)], []⟩ else none := by
 delta zad.P18 zau XX
 refine zaL [17, 18] 18 (by kernel_rfl) fun J e1 => ?_
 try simp only [← e1]
 clear e1
 generalize lpL (Y.ctx (lim' Y)) 47 = lp
 generalize lim' Y = call
 kernel_rfl
noncomputable def zbg.P3 (y0:LLD) (y1 y2:Bool) (y3:Int) (y4:BAy) (y5 y6:LLD) (y7:Bool) (y8:Int) (y9:BAy) (y10 y11:LLD) (y12:Bool) (y13:Int) (y14:BAy) (y15 y16:LLD) (y17:Bool) (y18:Int) (y19:BAy) (y20 y21:LLD) : Option Res := evB XX 69 (lpL XX 69) 3 zbg.c (mkG 0 72 [(1, .one (.s y0)), (3, .one (.p true 3 [] 0)), (5, .one (.p true 5 [] 0)), (6, .one (.p true 6 [] 0)), (8, .one (.p true 8 [] 0)), (29, .one (.v (.bool y1)))] [(3, some ⟨.box, [.v (.bool y2), .v (.int .i64 y3), .v (.string y4), .s y5, .s y6], [.deep, .deep, .deep, .sh, .sh]⟩), (5, some ⟨.box, [.v (.bool y7), .v (.int .i64 y8), .v (.string y9), .s y10, .s y11], [.deep, .deep, .deep, .sh, .sh]⟩), (6, some ⟨.box, [.v (.bool y12), .v (.int .i64 y13), .v (.string y14), .s y15, .s y16], [.deep, .deep, .deep, .deep, .deep]⟩), (8, some ⟨.box, [.v (.bool y17), .v (.int .i64 y18), .v (.string y19), .s y20, .s y21], [.deep, .deep, .deep, .deep, .top]⟩)] GL) (outE XX 69 Tryz.f69)
noncomputable def zbg.P7 (y0:LLD) (y1:Int) (y2:Bool) (y3:Int) (y4:BAy) (y5 y6:LLD) (y7:Bool) (y8:Int) (y9:BAy) (y10 y11:LLD) (y12:Bool) (y13:Int) (y14:BAy) (y15 y16:LLD) (y17:Bool) (y18:Int) (y19:BAy) (y20 y21:LLD) : Option Res := evB XX 69 (lpL XX 69) 7 zbg.c (mkG 0 72 [(1, .one (.s y0)), (3, .one (.p true 3 [] 0)), (5, .one (.p true 5 [] 0)), (6, .one (.p true 6 [] 0)), (8, .one (.p true 8 [] 0)), (9, .one (.v (.int .i64 y1)))] [(3, some ⟨.box, [.v (.bool y2), .v (.int .i64 y3), .v (.string y4), .s y5, .s y6], [.deep, .deep, .deep, .sh, .sh]⟩), (5, some ⟨.box, [.v (.bool y7), .v (.int .i64 y8), .v (.string y9), .s y10, .s y11], [.deep, .deep, .deep, .sh, .sh]⟩), (6, some ⟨.box, [.v (.bool y12), .v (.int .i64 y13), .v (.string y14), .s y15, .s y16], [.deep, .deep, .deep, .deep, .deep]⟩), (8, some ⟨.box, [.v (.bool y17), .v (.int .i64 y18), .v (.string y19), .s y20, .s y21], [.deep, .deep, .deep, .deep, .top]⟩)] GL) (outE XX 69 Tryz.f69)
theorem zbg.e (a0:Bool) (a1:Int) (a2:BAy) (a3 a4 a5:LLD) (a6:Bool) (a7:Int) (a8:BAy) (a9 a10:LLD) : zbg [.g [.v (.bool a0), .v (.int .i64 a1), .v (.string a2), .s a3, .s a4], .one (.s a5), .g [.v (.bool a6), .v (.int .i64 a7), .v (.string a8), .s a9, .s a10]] [] = bif zaA 1 a3 && zaE false a3 && true && decide ((0 + a3.length) * 17 ≤ 70368744177664) then bif zaA 5 a4 && zaE true a4 && true && decide ((0 + a4.length) * 81 ≤ 70368744177664) then zbg.P3 a5 ((↑a5.length : Int) == 1) a0 a1 a2 a3 a4 a6 a7 a8 a9 a10 false 0 (ByteArray.mk #[]) [] [] a0 a1 a2 a3 a4 else none else none := by
 refine (zbg.run _ _ (by kernel_rfl)).trans ?_
 delta zbg zbg.P3 XX
 refine za3 [3, 7] (by kernel_rfl) fun J e1 => ?_
 try simp only [← e1]
 clear e1
 generalize lpL (Y.ctx (lim' Y)) 69 = lp
 generalize lim' Y = call
 kernel_rfl
theorem zbg.p3 (y0:LLD) (y1 y2:Bool) (y3:Int) (y4:BAy) (y5 y6:LLD) (y7:Bool) (y8:Int) (y9:BAy) (y10 y11:LLD) (y12:Bool) (y13:Int) (y14:BAy) (y15 y16:LLD) (y17:Bool) (y18:Int) (y19:BAy) (y20 y21:LLD) : zbg.P3 y0 y1 y2 y3 y4 y5 y6 y7 y8 y9 y10 y11 y12 y13 y14 y15 y16 y17 y18 y19 y20 y21 = bif y1 then bif decide (0 < (↑y0.length : Int)) && decide ((y0.getD 0 []).length = 1) then bif zaz [.str] (y0.getD 0 []) 0 && decide (1 ≤ (y0.getD 0 []).length) then bif zaA 1 y20 && true && true && true && decide ((y20.length + 1) * 17 ≤ 70368744177664) then bif zaA 5 y21 && true && true && true && decide ((y21.length + 1) * 81 ≤ 70368744177664) then some ⟨[.v (.bool y17), .v (.int .i64 y18), .v (.string y19), .s (y20 ++ [[D.v (.string ((y0.getD 0 []).getD 0 D.h).str)]]), .s (y21 ++ [[D.v (.bool y7), D.v (.int .i64 y8), D.v (.string y9), D.s y10, D.s y11]]), .v (.bool true)], []⟩ else none else none else none else none else bif decide (0 < (↑y0.length : Int)) && decide ((y0.getD 0 []).length = 1) then bif zaz [.str] (y0.getD 0 []) 0 && decide (1 ≤ (y0.getD 0 []).length) then (zaO [.g [.v (.bool y2), .v (.int .i64 y3), .v (.string y4), .s y5, .s y6], .one (.v (.string ((y0.getD 0 []).getD 0 D.h).str))] []).bind fun val => bif zae [.int .i64] val.1 && true then zbg.P7 y0 (val.1.getD 0 .d).int y2 y3 y4 y5 y6 y7 y8 y9 y10 y11 y12 y13 y14 y15 y16 y17 y18 y19 y20 y21 else none else none else none := by
 delta zbg.P3 zaO zbg.P7 XX
 refine zaL [3, 7] 3 (by kernel_rfl) fun J e1 => ?_
 try simp only [← e1]
 clear e1
 generalize lpL (Y.ctx (lim' Y)) 69 = lp
 generalize lim' Y = call
 kernel_rfl
theorem zbg.p7 (y0:LLD) (y1:Int) (y2:Bool) (y3:Int) (y4:BAy) (y5 y6:LLD) (y7:Bool) (y8:Int) (y9:BAy) (y10 y11:LLD) (y12:Bool) (y13:Int) (y14:BAy) (y15 y16:LLD) (y17:Bool) (y18:Int) (y19:BAy) (y20 y21:LLD) : zbg.P7 y0 y1 y2 y3 y4 y5 y6 y7 y8 y9 y10 y11 y12 y13 y14 y15 y16 y17 y18 y19 y20 y21 = bif decide (y1 < 0) then some ⟨[.v (.bool y17), .v (.int .i64 y18), .v (.string y19), .s y20, .s y21, .v (.bool false)], []⟩ else bif decide (0 ≤ y1) && decide (y1 < (↑y6.length : Int)) && decide ((y6.getD y1.toNat []).length = 5) then bif zaz [.bool, .int .i64, .str, .sl, .sl] (y6.getD y1.toNat []) 0 && decide (5 ≤ (y6.getD y1.toNat []).length) then bif decide ((some 1).getD 0 ≤ (↑y0.length : Int)) && decide ((↑y0.length : Int) ≤ (↑y0.length : Int)) && (false || decide ((y0.getD 0 []).length = 1)) then (zbg [.g [.v (.bool ((y6.getD y1.toNat []).getD 0 .h).bool), .v (.int .i64 ((y6.getD y1.toNat []).getD 1 .h).int), .v (.string ((y6.getD y1.toNat []).getD 2 .h).str), .s ((y6.getD y1.toNat []).getD 3 .h).es, .s ((y6.getD y1.toNat []).getD 4 .h).es], .one (.s (List.drop 1 (List.take (↑y0.length : Int).toNat y0))), .g [.v (.bool y7), .v (.int .i64 y8), .v (.string y9), .s y10, .s y11]] []).bind fun val => bif zae [.bool, .int .i64, .str, .sh, .sh, .bool] val.1 && true then bif decide (0 ≤ y1) && decide (y1 < (↑y21.length : Int)) && decide ((y21.getD y1.toNat []).length = 5) then bif decide (5 ≤ (y21.getD y1.toNat []).length) && true then some ⟨[.v (.bool y17), .v (.int .i64 y18), .v (.string y19), .s y20, .s (y21.set y1.toNat (.v (.bool (val.1.getD 0 .d).bool) :: .v (.int .i64 (val.1.getD 1 .d).int) :: .v (.string (val.1.getD 2 .d).str) :: .s (val.1.getD 3 .d).es :: .s (val.1.getD 4 .d).es :: List.drop 5 (y21.getD y1.toNat []))), .v (.bool (val.1.getD 5 .d).bool)], []⟩ else none else none else none else none else none else none := by
 delta zbg.P7 zbg XX
 refine zaL [3, 7] 7 (by kernel_rfl) fun J e1 => ?_
 try simp only [← e1]
 clear e1
 generalize lpL (Y.ctx (lim' Y)) 69 = lp
 generalize lim' Y = call
 kernel_rfl
theorem zck.e (a0 a1 a2:Int) : zck [.one (.v (.int .i64 a0)), .one (.v (.int .i64 a1)), .one (.v (.int .i64 a2))] [] = bif decide (a0 ≥ a1) then some ⟨[.v (.bool (decide (a0 ≤ a2)))], []⟩ else some ⟨[.v (.bool false)], []⟩ := by
 refine (zck.run _ _ (by kernel_rfl)).trans ?_
 delta zck XX
 generalize lpL (Y.ctx (lim' Y)) 73 = lp
 generalize lim' Y = call
 kernel_rfl
noncomputable def zai.L2 (y0:LLD) (y1 y2:Int) (y3:Bool) (y4:Int) (y5:BAy) (y6 y7:LLD) : Option (Ex × St) := lpL XX 74 (zav 2 zai.c) (mkG 1 20 [(0, .one (.p true 0 [] 0)), (7, .one (.s y0)), (8, .one (.v (.int .i64 y1))), (9, .one (.v (.int .i64 y2)))] [(0, some ⟨.ro, [.v (.bool y3), .v (.int .i64 y4), .v (.string y5), .s y6, .s y7], [.sh, .sh, .sh, .sh, .sh]⟩)] GL)
noncomputable def zai.A2 : Ex × St → Option Res := fun r => evA XX 74 (lpL XX 74) 2 zai.c r.fst r.snd (outE XX 74 Tryz.f74)
noncomputable def zai.P5 (y0:Bool) (y1:LLD) (y2 y3:Int) (y4:Bool) (y5:Int) (y6:BAy) (y7 y8:LLD) : Option (Ex × St) := evB XX 74 (lpL XX 74) 5 (zav 2 zai.c) (mkG 1 20 [(0, .one (.p y0 0 [] 0)), (7, .one (.s y1)), (8, .one (.v (.int .i64 y2))), (9, .one (.v (.int .i64 y3)))] [(0, some ⟨.ro, [.v (.bool y4), .v (.int .i64 y5), .v (.string y6), .s y7, .s y8], [.sh, .sh, .sh, .sh, .sh]⟩)] GL) (backL (lpL XX 74) (zav 2 zai.c) (XX.live 74 2))
noncomputable def zai.P5b (y0:Bool) (y1:Nat) (y2:List (Nat × Nat)) (y3:LLD) (y4 y5:Int) (y6:Bool) (y7:Int) (y8:BAy) (y9 y10:LLD) : Option (Ex × St) := evB XX 74 (lpL XX 74) 5 (zav 2 zai.c) (mkG 1 20 [(0, .one (.p y0 0 ((4, y1) :: y2) 0)), (7, .one (.s y3)), (8, .one (.v (.int .i64 y4))), (9, .one (.v (.int .i64 y5)))] [(0, some ⟨.ro, [.v (.bool y6), .v (.int .i64 y7), .v (.string y8), .s y9, .s y10], [.sh, .sh, .sh, .sh, .sh]⟩)] GL) (backL (lpL XX 74) (zav 2 zai.c) (XX.live 74 2))
noncomputable def zai.x2 (y0:Bool) (y1:Int) (y2:BAy) (y3 y4:LLD) : Ex × St := (Ex.exit 0, mkG 1 20 [(0, .one (.p true 0 [] 0))] [(0, some ⟨.ro, [.v (.bool y0), .v (.int .i64 y1), .v (.string y2), .s y3, .s y4], [.sh, .sh, .sh, .sh, .sh]⟩)] GL)
noncomputable def zai.q2 (y0 y1:Bool) (y2:Int) (y3:BAy) (y4 y5:LLD) : Ex × St := (Ex.ret, mkG 1 20 [(0, .one (.p y0 0 [] 0)), (4, .one (.v (.pointer none)))] [(0, some ⟨.ro, [.v (.bool y1), .v (.int .i64 y2), .v (.string y3), .s y4, .s y5], [.sh, .sh, .sh, .sh, .sh]⟩)] GL)
noncomputable def zai.L2b (y0:Bool) (y1:LLD) (y2 y3:Int) (y4:Bool) (y5:Int) (y6:BAy) (y7 y8:LLD) : Option (Ex × St) := lpL XX 74 (zav 2 zai.c) (mkG 1 20 [(0, .one (.p y0 0 [] 0)), (7, .one (.s y1)), (8, .one (.v (.int .i64 y2))), (9, .one (.v (.int .i64 y3)))] [(0, some ⟨.ro, [.v (.bool y4), .v (.int .i64 y5), .v (.string y6), .s y7, .s y8], [.sh, .sh, .sh, .sh, .sh]⟩)] GL)
noncomputable def zai.q2b (y0:Bool) (y1:Nat) (y2:List (Nat × Nat)) (y3:Bool) (y4:Int) (y5:BAy) (y6 y7:LLD) : Ex × St := (Ex.ret, mkG 1 20 [(0, .one (.p y0 0 ((4, y1) :: y2) 0)), (4, .one (.v (.pointer none)))] [(0, some ⟨.ro, [.v (.bool y3), .v (.int .i64 y4), .v (.string y5), .s y6, .s y7], [.sh, .sh, .sh, .sh, .sh]⟩)] GL)
noncomputable def zai.L2c (y0:Bool) (y1:Nat) (y2:List (Nat × Nat)) (y3:LLD) (y4 y5:Int) (y6:Bool) (y7:Int) (y8:BAy) (y9 y10:LLD) : Option (Ex × St) := lpL XX 74 (zav 2 zai.c) (mkG 1 20 [(0, .one (.p y0 0 ((4, y1) :: y2) 0)), (7, .one (.s y3)), (8, .one (.v (.int .i64 y4))), (9, .one (.v (.int .i64 y5)))] [(0, some ⟨.ro, [.v (.bool y6), .v (.int .i64 y7), .v (.string y8), .s y9, .s y10], [.sh, .sh, .sh, .sh, .sh]⟩)] GL)
noncomputable def zai.x2c (y0:Bool) (y1:Nat) (y2:List (Nat × Nat)) (y3:Bool) (y4:Int) (y5:BAy) (y6 y7:LLD) : Ex × St := (Ex.exit 0, mkG 1 20 [(0, .one (.p y0 0 ((4, y1) :: y2) 0))] [(0, some ⟨.ro, [.v (.bool y3), .v (.int .i64 y4), .v (.string y5), .s y6, .s y7], [.sh, .sh, .sh, .sh, .sh]⟩)] GL)
theorem zai.e (a0:Bool) (a1:Int) (a2:BAy) (a3 a4 a5:LLD) : zai [.one (.p true 0 [] 0), .one (.s a5)] [⟨.ro, [.v (.bool a0), .v (.int .i64 a1), .v (.string a2), .s a3, .s a4], [.sh, .sh, .sh, .sh, .sh]⟩] = (zai.L2 a5 (↑a5.length : Int) 0 a0 a1 a2 a3 a4).bind zai.A2 := by
 refine (zai.run _ _ (by kernel_rfl)).trans ?_
 delta zai zai.L2 zai.A2 XX
 generalize lpL (Y.ctx (lim' Y)) 74 = lp
 generalize lim' Y = call
 kernel_rfl
theorem zai.s2 (y0:LLD) (y1 y2:Int) (y3:Bool) (y4:Int) (y5:BAy) (y6 y7:LLD) : zai.L2 y0 y1 y2 y3 y4 y5 y6 y7 = bif decide (y2 < y1) then bif decide (0 ≤ y2) && decide (y2 < (↑y0.length : Int)) && decide ((y0.getD y2.toNat []).length = 1) then bif zaz [.str] (y0.getD y2.toNat []) 0 && decide (1 ≤ (y0.getD y2.toNat []).length) then (zaN [.one (.p true 0 [] 0), .one (.v (.string ((y0.getD y2.toNat []).getD 0 .h).str))] [⟨.ro, [.v (.bool y3), .v (.int .i64 y4), .v (.string y5), .s y6, .s y7], [.sh, .sh, .sh, .sh, .sh]⟩]).bind fun val => bif zae [.ptr 0] val.1 && true then bif List.isEmpty (val.1.getD 0 .d).path then zai.P5 (val.1.getD 0 .d).ok y0 y1 y2 y3 y4 y5 y6 y7 else zai.P5b (val.1.getD 0 .d).ok (List.headD (val.1.getD 0 .d).path (0, 0)).2 (List.tail (val.1.getD 0 .d).path) y0 y1 y2 y3 y4 y5 y6 y7 else none else none else none else some (zai.x2 y3 y4 y5 y6 y7) := by
 refine (zbz (Y := Y) (c := lim' Y) (fn := 74) (rid := 2) (b := zav 2 zai.c) (by kernel_rfl) _).trans ?_
 delta zai.L2 zaN zai.P5 zai.P5b zai.x2 XX
 refine za3 [5] (by kernel_rfl) fun J e1 => ?_
 try simp only [← e1]
 clear e1
 generalize lpL (Y.ctx (lim' Y)) 74 = lp
 generalize lim' Y = call
 kernel_rfl
theorem zai.p5 (y0:Bool) (y1:LLD) (y2 y3:Int) (y4:Bool) (y5:Int) (y6:BAy) (y7 y8:LLD) : zai.P5 y0 y1 y2 y3 y4 y5 y6 y7 y8 = bif !y0 then some (zai.q2 y0 y4 y5 y6 y7 y8) else zai.L2b y0 y1 y2 (IntKind.i64.wrap (y3 + 1)) y4 y5 y6 y7 y8 := by
 delta zai.P5 zai.q2 zai.L2b XX
 refine zaL [5] 5 (by kernel_rfl) fun J e1 => ?_
 try simp only [← e1]
 clear e1
 generalize lpL (Y.ctx (lim' Y)) 74 = lp
 generalize lim' Y = call
 kernel_rfl
theorem zai.p5b (y0:Bool) (y1:Nat) (y2:List (Nat × Nat)) (y3:LLD) (y4 y5:Int) (y6:Bool) (y7:Int) (y8:BAy) (y9 y10:LLD) : zai.P5b y0 y1 y2 y3 y4 y5 y6 y7 y8 y9 y10 = bif !y0 then some (zai.q2b y0 y1 y2 y6 y7 y8 y9 y10) else zai.L2c y0 y1 y2 y3 y4 (IntKind.i64.wrap (y5 + 1)) y6 y7 y8 y9 y10 := by
 delta zai.P5b zai.q2b zai.L2c XX
 refine zaL [5] 5 (by kernel_rfl) fun J e1 => ?_
 try simp only [← e1]
 clear e1
 generalize lpL (Y.ctx (lim' Y)) 74 = lp
 generalize lim' Y = call
 kernel_rfl
theorem zai.a2x2 (y0:Bool) (y1:Int) (y2:BAy) (y3 y4:LLD) : zai.A2 (zai.x2 y0 y1 y2 y3 y4) = some ⟨[.p true 0 [] 0], [⟨.ro, [.v (.bool y0), .v (.int .i64 y1), .v (.string y2), .s y3, .s y4], [.sh, .sh, .sh, .sh, .sh]⟩]⟩ := by
 delta zai.A2 zai.x2 XX
 generalize lpL (Y.ctx (lim' Y)) 74 = lp
 generalize lim' Y = call
 kernel_rfl
theorem zai.a2q2 (y0 y1:Bool) (y2:Int) (y3:BAy) (y4 y5:LLD) : zai.A2 (zai.q2 y0 y1 y2 y3 y4 y5) = some ⟨[.p false 0 [] 0], [⟨.ro, [.v (.bool y1), .v (.int .i64 y2), .v (.string y3), .s y4, .s y5], [.sh, .sh, .sh, .sh, .sh]⟩]⟩ := by
 delta zai.A2 zai.q2 XX
 generalize lpL (Y.ctx (lim' Y)) 74 = lp
 generalize lim' Y = call
 kernel_rfl
theorem zai.a2q2b (y0:Bool) (y1:Nat) (y2:List (Nat × Nat)) (y3:Bool) (y4:Int) (y5:BAy) (y6 y7:LLD) : zai.A2 (zai.q2b y0 y1 y2 y3 y4 y5 y6 y7) = some ⟨[.p false 0 [] 0], [⟨.ro, [.v (.bool y3), .v (.int .i64 y4), .v (.string y5), .s y6, .s y7], [.sh, .sh, .sh, .sh, .sh]⟩]⟩ := by
 delta zai.A2 zai.q2b XX
 generalize lpL (Y.ctx (lim' Y)) 74 = lp
 generalize lim' Y = call
 kernel_rfl
theorem zai.s2c (y0:Bool) (y1:Nat) (y2:List (Nat × Nat)) (y3:LLD) (y4 y5:Int) (y6:Bool) (y7:Int) (y8:BAy) (y9 y10:LLD) : zai.L2c y0 y1 y2 y3 y4 y5 y6 y7 y8 y9 y10 = bif decide (y5 < y4) then bif decide (0 ≤ y5) && decide (y5 < (↑y3.length : Int)) && decide ((y3.getD y5.toNat []).length = 1) then bif zaz [.str] (y3.getD y5.toNat []) 0 && decide (1 ≤ (y3.getD y5.toNat []).length) then (zaN [.one (.p y0 0 [] 0), .one (.v (.string ((y3.getD y5.toNat []).getD 0 .h).str))] [⟨.ro, zah (y10.getD y1 []) y2, List.map (fun x => .sh) (zah (y10.getD y1 []) y2)⟩]).bind fun val => bif zae [.ptr 0] val.1 && true then bif List.isEmpty (val.1.getD 0 .d).path then zai.P5b (val.1.getD 0 .d).ok y1 (y2 ++ []) y3 y4 y5 y6 y7 y8 y9 y10 else zai.P5b (val.1.getD 0 .d).ok y1 (y2 ++ (4, (List.headD (val.1.getD 0 .d).path (0, 0)).2) :: List.tail (val.1.getD 0 .d).path) y3 y4 y5 y6 y7 y8 y9 y10 else none else none else none else some (zai.x2c y0 y1 y2 y6 y7 y8 y9 y10) := by
 refine (zbz (Y := Y) (c := lim' Y) (fn := 74) (rid := 2) (b := zav 2 zai.c) (by kernel_rfl) _).trans ?_
 delta zai.L2c zaN zai.P5b zai.x2c XX
 refine za3 [5] (by kernel_rfl) fun J e1 => ?_
 try simp only [← e1]
 clear e1
 generalize lpL (Y.ctx (lim' Y)) 74 = lp
 generalize lim' Y = call
 kernel_rfl
theorem zai.a2x2c (y0:Bool) (y1:Nat) (y2:List (Nat × Nat)) (y3:Bool) (y4:Int) (y5:BAy) (y6 y7:LLD) : zai.A2 (zai.x2c y0 y1 y2 y3 y4 y5 y6 y7) = some ⟨[.p y0 0 ((4, y1) :: y2) 0], [⟨.ro, [.v (.bool y3), .v (.int .i64 y4), .v (.string y5), .s y6, .s y7], [.sh, .sh, .sh, .sh, .sh]⟩]⟩ := by
 delta zai.A2 zai.x2c XX
 generalize lpL (Y.ctx (lim' Y)) 74 = lp
 generalize lim' Y = call
 kernel_rfl
noncomputable def iTree_putg.P5 (y0:Int) (y1:Bool) (y2:Int) (y3:BAy) (y4 y5:LLD) (y6:Bool) (y7:Int) (y8:BAy) (y9 y10:LLD) : Option Res := evB XX 75 (lpL XX 75) 5 zbw.c (mkG 2 47 [(0, .one (.p true 0 [] 0)), (5, .one (.p true 7 [] 0)), (6, .one (.v (.int .i64 y0)))] [(0, some ⟨.box, [.v (.bool y1), .v (.int .i64 y2), .v (.string y3), .s y4, .s y5], [.deep, .deep, .deep, .deep, .deep]⟩), (1, some ⟨.virt, [.h, .h], [.deep, .deep]⟩), (7, some ⟨.box, [.v (.bool y6), .v (.int .i64 y7), .v (.string y8), .s y9, .s y10], [.deep, .deep, .deep, .deep, .deep]⟩)] GL) (outE XX 75 Tryz.f75)
theorem iTree_putg.e (a0:Bool) (a1:Int) (a2:BAy) (a3 a4:LLD) (n:BAy) (b0:Bool) (b1:Int) (b2:BAy) (b3 b4:LLD) : zbw [.one (.p true 0 [] 0), .one (.v (.string n)), .g [.v (.bool b0), .v (.int .i64 b1), .v (.string b2), .r 1 [] 0, .r 1 [] 1]] [⟨.box, [.v (.bool a0), .v (.int .i64 a1), .v (.string a2), .s a3, .s a4], [.deep, .deep, .deep, .deep, .deep]⟩, ⟨.virt, [.s b3, .s b4], [.deep, .deep]⟩] = (zaa [.one (.s a3), .one (.v (.string n))] []).bind fun val => bif zae [.int .i64, .bool] val.1 && true then bif (val.1.getD 1 .d).bool then bif decide (0 ≤ (val.1.getD 0 .d).int) && decide ((val.1.getD 0 .d).int < (↑a4.length : Int)) && decide ((a4.getD (val.1.getD 0 .d).int.toNat []).length = 5) then bif decide (5 ≤ (a4.getD (val.1.getD 0 .d).int.toNat []).length) && true then some ⟨[], [⟨.box, [.v (.bool a0), .v (.int .i64 a1), .v (.string a2), .s a3, .s (a4.set (val.1.getD 0 .d).int.toNat (.v (.bool b0) :: .v (.int .i64 b1) :: .v (.string b2) :: .s b3 :: .s b4 :: List.drop 5 (a4.getD (val.1.getD 0 .d).int.toNat [])))], [.deep, .deep, .deep, .deep, .deep]⟩, ⟨.virt, [.h, .h], [.deep, .deep]⟩]⟩ else none else none else (zaU [.one (.r 0 [] 0), .one (.v (.int .i64 (val.1.getD 0 .d).int)), .one (.r 1 [] 0)] [⟨.virt, [.s a3], [.deep]⟩, ⟨.virt, [.s [[.v (.string n)]]], [.deep]⟩]).bind fun val_1 => bif zae [.own .deep] val_1.1 && true then iTree_putg.P5 (val.1.getD 0 .d).int a0 a1 a2 (val_1.1.getD 0 .d).es a4 b0 b1 b2 b3 b4 else none else none := by
 refine (zbw.run _ _ (by kernel_rfl)).trans ?_
 delta zbw zaa zaU iTree_putg.P5 XX
 refine za3 [5] (by kernel_rfl) fun J e1 => ?_
 try simp only [← e1]
 clear e1
 generalize lpL (Y.ctx (lim' Y)) 75 = lp
 generalize lim' Y = call
 kernel_rfl
theorem iTree_putg.p5 (y0:Int) (y1:Bool) (y2:Int) (y3:BAy) (y4 y5:LLD) (y6:Bool) (y7:Int) (y8:BAy) (y9 y10:LLD) : iTree_putg.P5 y0 y1 y2 y3 y4 y5 y6 y7 y8 y9 y10 = (za1 [.one (.r 0 [] 0), .one (.v (.int .i64 y0)), .one (.r 1 [] 0)] [⟨.virt, [.s y5], [.deep]⟩, ⟨.virt, [.s [[.v (.bool y6), .v (.int .i64 y7), .v (.string y8), .s y9, .s y10]]], [.deep]⟩]).bind fun val => bif zae [.own .deep] val.1 && true then some ⟨[], [⟨.box, [.v (.bool y1), .v (.int .i64 y2), .v (.string y3), .s y4, .s (val.1.getD 0 .d).es], [.deep, .deep, .deep, .deep, .deep]⟩, ⟨.virt, [.h, .h], [.deep, .deep]⟩]⟩ else none := by
 delta iTree_putg.P5 za1 XX
 refine zaL [5] 5 (by kernel_rfl) fun J e1 => ?_
 try simp only [← e1]
 clear e1
 generalize lpL (Y.ctx (lim' Y)) 75 = lp
 generalize lim' Y = call
 kernel_rfl
theorem zcF.e (a0:Bool) (a1:Int) (a2:BAy) (a3 a4:LLD) : zcF [.g [.v (.bool a0), .v (.int .i64 a1), .v (.string a2), .s a3, .s a4]] [] = bif a0 then (zaf [.g [.v (.bool a0), .v (.int .i64 a1), .v (.string a2), .s a3, .s a4], .one (.v (.int .i64 0))] []).bind fun val => bif zae [.bool] val.1 && true then bif (val.1.getD 0 .d).bool then (zat [.g [.v (.bool a0), .v (.int .i64 a1), .v (.string a2), .s a3, .s a4]] []).bind fun val => bif zae [.int .i64] val.1 && true then some ⟨[.v (.bool (decide ((val.1.getD 0 .d).int ≤ 31)))], []⟩ else none else some ⟨[.v (.bool false)], []⟩ else none else some ⟨[.v (.bool false)], []⟩ := by
 refine (zcF.run _ _ (by kernel_rfl)).trans ?_
 delta zcF zaf zat XX
 generalize lpL (Y.ctx (lim' Y)) 76 = lp
 generalize lim' Y = call
 kernel_rfl
noncomputable def zau.L3 (y0:LLD) (y1 y2:Int) (y3:Bool) (y4:Int) (y5:BAy) (y6 y7:LLD) (y8:Bool) (y9:Int) (y10:BAy) (y11 y12 y13:LLD) : Option (Ex × St) := lpL XX 80 (zav 3 zau.c) (mkG 0 28 [(1, .one (.p true 1 [] 0)), (2, .one (.p true 2 [] 0)), (3, .one (.r 3 [] 0)), (8, .one (.s y0)), (9, .one (.v (.int .i64 y1))), (10, .one (.v (.int .i64 y2)))] [(1, some ⟨.box, [.v (.bool y3), .v (.int .i64 y4), .v (.string y5), .s y6, .s y7], [.deep, .deep, .deep, .sh, .sh]⟩), (2, some ⟨.box, [.v (.bool y8), .v (.int .i64 y9), .v (.string y10), .s y11, .s y12], [.deep, .deep, .deep, .deep, .deep]⟩), (3, some ⟨.virt, [.s y13], [.deep]⟩)] GL)
noncomputable def zau.A3 : Ex × St → Option Res := fun r => evA XX 80 (lpL XX 80) 3 zau.c r.fst r.snd (outE XX 80 Tryz.f80)
noncomputable def zau.x3 (y0:Bool) (y1:Int) (y2:BAy) (y3 y4:LLD) (y5:Bool) (y6:Int) (y7:BAy) (y8 y9 y10:LLD) : Ex × St := (Ex.exit 0, mkG 0 28 [(1, .one (.p true 1 [] 0)), (2, .one (.p true 2 [] 0)), (3, .one (.r 3 [] 0))] [(1, some ⟨.box, [.v (.bool y0), .v (.int .i64 y1), .v (.string y2), .s y3, .s y4], [.deep, .deep, .deep, .sh, .sh]⟩), (2, some ⟨.box, [.v (.bool y5), .v (.int .i64 y6), .v (.string y7), .s y8, .s y9], [.deep, .deep, .deep, .deep, .deep]⟩), (3, some ⟨.virt, [.s y10], [.deep]⟩)] GL)
theorem zau.e (a0:Bool) (a1:Int) (a2:BAy) (a3 a4:LLD) : zau [.g [.v (.bool a0), .v (.int .i64 a1), .v (.string a2), .s a3, .s a4]] [] = (zau.L3 a4 (↑a4.length : Int) 0 a0 a1 a2 a3 a4 false 0 (ByteArray.mk #[]) [] [] []).bind zau.A3 := by
 refine (zau.run _ _ (by kernel_rfl)).trans ?_
 delta zau zau.L3 zau.A3 XX
 generalize lpL (Y.ctx (lim' Y)) 80 = lp
 generalize lim' Y = call
 kernel_rfl
theorem zau.s3 (y0:LLD) (y1 y2:Int) (y3:Bool) (y4:Int) (y5:BAy) (y6 y7:LLD) (y8:Bool) (y9:Int) (y10:BAy) (y11 y12 y13:LLD) : zau.L3 y0 y1 y2 y3 y4 y5 y6 y7 y8 y9 y10 y11 y12 y13 = bif decide (y2 < y1) then bif decide (0 ≤ y2) && decide (y2 < (↑y0.length : Int)) && decide ((y0.getD y2.toNat []).length = 5) then bif zaz [.bool, .int .i64, .str, .sl, .sl] (y0.getD y2.toNat []) 0 && decide (5 ≤ (y0.getD y2.toNat []).length) then (zau [.g [.v (.bool ((y0.getD y2.toNat []).getD 0 .h).bool), .v (.int .i64 ((y0.getD y2.toNat []).getD 1 .h).int), .v (.string ((y0.getD y2.toNat []).getD 2 .h).str), .s ((y0.getD y2.toNat []).getD 3 .h).es, .s ((y0.getD y2.toNat []).getD 4 .h).es]] []).bind fun val => bif zae [.bool, .int .i64, .str, .own .deep, .own .deep] val.1 && true then bif zaA 5 y13 && true && true && true && decide ((y13.length + 1) * 81 ≤ 70368744177664) then zau.L3 y0 y1 (IntKind.i64.wrap (y2 + 1)) y3 y4 y5 y6 y7 y8 y9 y10 y11 y12 (y13 ++ [[.v (.bool (val.1.getD 0 .d).bool), .v (.int .i64 (val.1.getD 1 .d).int), .v (.string (val.1.getD 2 .d).str), .s (val.1.getD 3 .d).es, .s (val.1.getD 4 .d).es]]) else none else none else none else none else some (zau.x3 y3 y4 y5 y6 y7 y8 y9 y10 y11 y12 y13) := by
 refine (zbz (Y := Y) (c := lim' Y) (fn := 80) (rid := 3) (b := zav 3 zau.c) (by kernel_rfl) _).trans ?_
 delta zau.L3 zau zau.x3 XX
 generalize lpL (Y.ctx (lim' Y)) 80 = lp
 generalize lim' Y = call
 kernel_rfl
theorem zau.a3x3 (y0:Bool) (y1:Int) (y2:BAy) (y3 y4:LLD) (y5:Bool) (y6:Int) (y7:BAy) (y8 y9 y10:LLD) : zau.A3 (zau.x3 y0 y1 y2 y3 y4 y5 y6 y7 y8 y9 y10) = bif zaA 1 y3 && zaE false y3 && true && decide ((0 + y3.length) * 17 ≤ 70368744177664) then some ⟨[.v (.bool y0), .v (.int .i64 y1), .v (.string y2), .o .deep y3, .o .deep y10], []⟩ else none := by
 delta zau.A3 zau.x3 XX
 generalize lpL (Y.ctx (lim' Y)) 80 = lp
 generalize lim' Y = call
 kernel_rfl
noncomputable def zaI.L4 (y0 y1:LLD) (y2:Int) : Option (Ex × St) := lpL XX 81 (zav 4 zaI.c) (mkG 0 27 [(0, .one (.s y0)), (1, .one (.s y1)), (5, .one (.v (.int .i64 y2)))] [] GL)
noncomputable def zaI.A4 : Ex × St → Option Res := fun r => evA XX 81 (lpL XX 81) 4 zaI.c r.fst r.snd (outE XX 81 Tryz.f81)
noncomputable def zaI.q4 (y0:Bool) : Ex × St := (Ex.ret, mkG 0 27 [(4, .one (.v (.bool y0)))] [] GL)
noncomputable def zaI.x4 : Ex × St := (Ex.exit 0, mkG 0 27 [] [] GL)
theorem zaI.e (a0 a1:LLD) : zaI [.one (.s a0), .one (.s a1)] [] = bif (↑a0.length : Int) != (↑a1.length : Int) then some ⟨[.v (.bool false)], []⟩ else (zaI.L4 a0 a1 0).bind zaI.A4 := by
 refine (zaI.run _ _ (by kernel_rfl)).trans ?_
 delta zaI zaI.L4 zaI.A4 XX
 generalize lpL (Y.ctx (lim' Y)) 81 = lp
 generalize lim' Y = call
 kernel_rfl
theorem zaI.s4 (y0 y1:LLD) (y2:Int) : zaI.L4 y0 y1 y2 = bif decide (y2 < (↑y0.length : Int)) then bif decide (0 ≤ y2) && decide (y2 < (↑y0.length : Int)) && decide ((y0.getD y2.toNat []).length = 5) then bif zaz [.bool, .int .i64, .str, .sl, .sl] (y0.getD y2.toNat []) 0 && decide (5 ≤ (y0.getD y2.toNat []).length) then bif decide (0 ≤ y2) && decide (y2 < (↑y1.length : Int)) && decide ((y1.getD y2.toNat []).length = 5) then bif zaz [.bool, .int .i64, .str, .sl, .sl] (y1.getD y2.toNat []) 0 && decide (5 ≤ (y1.getD y2.toNat []).length) then (zbk [.g [.v (.bool ((y0.getD y2.toNat []).getD 0 .h).bool), .v (.int .i64 ((y0.getD y2.toNat []).getD 1 .h).int), .v (.string ((y0.getD y2.toNat []).getD 2 .h).str), .s ((y0.getD y2.toNat []).getD 3 .h).es, .s ((y0.getD y2.toNat []).getD 4 .h).es], .g [.v (.bool ((y1.getD y2.toNat []).getD 0 .h).bool), .v (.int .i64 ((y1.getD y2.toNat []).getD 1 .h).int), .v (.string ((y1.getD y2.toNat []).getD 2 .h).str), .s ((y1.getD y2.toNat []).getD 3 .h).es, .s ((y1.getD y2.toNat []).getD 4 .h).es]] []).bind fun val => bif zae [.bool] val.1 && true then bif !(val.1.getD 0 .d).bool then some (zaI.q4 false) else zaI.L4 y0 y1 (IntKind.i64.wrap (y2 + 1)) else none else none else none else none else none else some zaI.x4 := by
 refine (zbz (Y := Y) (c := lim' Y) (fn := 81) (rid := 4) (b := zav 4 zaI.c) (by kernel_rfl) _).trans ?_
 delta zaI.L4 zbk zaI.q4 zaI.x4 XX
 generalize lpL (Y.ctx (lim' Y)) 81 = lp
 generalize lim' Y = call
 kernel_rfl
theorem zaI.a4x4 : zaI.A4 zaI.x4 = some ⟨[.v (.bool true)], []⟩ := by
 delta zaI.A4 zaI.x4 XX
 generalize lpL (Y.ctx (lim' Y)) 81 = lp
 generalize lim' Y = call
 kernel_rfl
noncomputable def zay.L4 (y0:Int) (y1:BAy) : Option (Ex × St) := lpL XX 82 (zav 4 zay.c) (mkG 0 20 [(0, .one (.v (.int .i64 y0))), (3, .one (.v (.string y1)))] [] GL)
noncomputable def zay.A4 : Ex × St → Option Res := fun r => evA XX 82 (lpL XX 82) 4 zay.c r.fst r.snd (outE XX 82 Tryz.f82)
noncomputable def zay.x4 (y0:BAy) : Ex × St := (Ex.exit 0, mkG 0 20 [(3, .one (.v (.string y0)))] [] GL)
theorem zay.e (a0:Int) : zay [.one (.v (.int .i64 a0))] [] = bif decide (a0 ≤ 0) then some ⟨[.v (.string (ByteArray.mk #[109, 48]))], []⟩ else (zay.L4 a0 (ByteArray.mk #[])).bind zay.A4 := by
 refine (zay.run _ _ (by kernel_rfl)).trans ?_
 delta zay zay.L4 zay.A4 XX
 generalize lpL (Y.ctx (lim' Y)) 82 = lp
 generalize lim' Y = call
 kernel_rfl
theorem zay.s4 (y0:Int) (y1:BAy) : zay.L4 y0 y1 = bif decide (y0 > 0) then bif decide (1 + y1.size ≤ 70368744177664) then zay.L4 (IntKind.i64.wrap (y0.tdiv 10)) (strOf [[.v (.int .u8 (IntKind.u8.wrap (IntKind.i64.wrap (48 + y0.tmod 10))))]] ++ y1) else none else some (zay.x4 y1) := by
 refine (zbz (Y := Y) (c := lim' Y) (fn := 82) (rid := 4) (b := zav 4 zay.c) (by kernel_rfl) _).trans ?_
 delta zay.L4 zay.x4 XX
 generalize lpL (Y.ctx (lim' Y)) 82 = lp
 generalize lim' Y = call
 kernel_rfl
theorem zay.a4x4 (y0:BAy) : zay.A4 (zay.x4 y0) = bif decide (1 + y0.size ≤ 70368744177664) then some ⟨[.v (.string ((ByteArray.mk #[109]) ++ y0))], []⟩ else none := by
 delta zay.A4 zay.x4 XX
 generalize lpL (Y.ctx (lim' Y)) 82 = lp
 generalize lim' Y = call
 kernel_rfl
noncomputable def zao.L2 (y0 y1:Int) (y2:LLD) : Option (Ex × St) := lpL XX 83 (zav 2 zao.c) (mkG 1 51 [(0, .one (.r 0 [] 0)), (1, .one (.v (.int .i64 y0))), (5, .one (.v (.int .i64 y1)))] [(0, some ⟨.virt, [.s y2], [.deep]⟩)] GL)
noncomputable def zao.A2 : Ex × St → Option Res := fun r => evA XX 83 (lpL XX 83) 2 zao.c r.fst r.snd (outE XX 83 Tryz.f83)
noncomputable def zao.P9 (y0 y1:Int) (y2:LLD) : Option (Ex × St) := evB XX 83 (lpL XX 83) 9 (zav 2 zao.c) (mkG 1 51 [(0, .one (.r 0 [] 0)), (1, .one (.v (.int .i64 y0))), (5, .one (.v (.int .i64 y1)))] [(0, some ⟨.virt, [.s y2], [.deep]⟩)] GL) (backL (lpL XX 83) (zav 2 zao.c) (XX.live 83 2))
noncomputable def zao.x2 (y0:Int) (y1:LLD) : Ex × St := (Ex.exit 0, mkG 1 51 [(1, .one (.v (.int .i64 y0)))] [(0, some ⟨.virt, [.s y1], [.deep]⟩)] GL)
theorem zao.e (a0:LLD) (a1:Int) : zao [.one (.r 0 [] 0), .one (.v (.int .i64 a1))] [⟨.virt, [.s a0], [.deep]⟩] = (zao.L2 a1 0 a0).bind zao.A2 := by
 refine (zao.run _ _ (by kernel_rfl)).trans ?_
 delta zao zao.L2 zao.A2 XX
 generalize lpL (Y.ctx (lim' Y)) 83 = lp
 generalize lim' Y = call
 kernel_rfl
theorem zao.s2 (y0 y1:Int) (y2:LLD) : zao.L2 y0 y1 y2 = bif decide (y1 < (↑y2.length : Int)) then bif decide (0 ≤ y1) && decide (y1 < (↑y2.length : Int)) && decide ((y2.getD y1.toNat []).length = 5) then bif decide (1 ≤ (y2.getD y1.toNat []).length) && true then bif decide (0 ≤ y1) && decide (y1 < (↑(y2.set y1.toNat (.v (.bool (y0.tmod 3 == 0)) :: List.drop 1 (y2.getD y1.toNat []))).length : Int)) && decide (((y2.set y1.toNat (.v (.bool (y0.tmod 3 == 0)) :: List.drop 1 (y2.getD y1.toNat []))).getD y1.toNat []).length = 5) then bif decide (2 ≤ ((y2.set y1.toNat (.v (.bool (y0.tmod 3 == 0)) :: List.drop 1 (y2.getD y1.toNat []))).getD y1.toNat []).length) && true then (zay [.one (.v (.int .i64 (IntKind.i64.wrap (IntKind.i64.wrap (y0 + 1) + 1))))] []).bind fun val => bif zae [.str] val.1 && true then bif decide (0 ≤ y1) && decide (y1 < (↑((y2.set y1.toNat (.v (.bool (y0.tmod 3 == 0)) :: List.drop 1 (y2.getD y1.toNat []))).set y1.toNat (List.take 1 ((y2.set y1.toNat (.v (.bool (y0.tmod 3 == 0)) :: List.drop 1 (y2.getD y1.toNat []))).getD y1.toNat []) ++ [.v (.int .i64 (IntKind.i64.wrap (y0 + 1)))] ++ List.drop 2 ((y2.set y1.toNat (.v (.bool (y0.tmod 3 == 0)) :: List.drop 1 (y2.getD y1.toNat []))).getD y1.toNat []))).length : Int)) && decide ((((y2.set y1.toNat (.v (.bool (y0.tmod 3 == 0)) :: List.drop 1 (y2.getD y1.toNat []))).set y1.toNat (List.take 1 ((y2.set y1.toNat (.v (.bool (y0.tmod 3 == 0)) :: List.drop 1 (y2.getD y1.toNat []))).getD y1.toNat []) ++ [.v (.int .i64 (IntKind.i64.wrap (y0 + 1)))] ++ List.drop 2 ((y2.set y1.toNat (.v (.bool (y0.tmod 3 == 0)) :: List.drop 1 (y2.getD y1.toNat []))).getD y1.toNat []))).getD y1.toNat []).length = 5) then bif decide (3 ≤ (((y2.set y1.toNat (.v (.bool (y0.tmod 3 == 0)) :: List.drop 1 (y2.getD y1.toNat []))).set y1.toNat (List.take 1 ((y2.set y1.toNat (.v (.bool (y0.tmod 3 == 0)) :: List.drop 1 (y2.getD y1.toNat []))).getD y1.toNat []) ++ [.v (.int .i64 (IntKind.i64.wrap (y0 + 1)))] ++ List.drop 2 ((y2.set y1.toNat (.v (.bool (y0.tmod 3 == 0)) :: List.drop 1 (y2.getD y1.toNat []))).getD y1.toNat []))).getD y1.toNat []).length) && true then zao.P9 (IntKind.i64.wrap (IntKind.i64.wrap (y0 + 1) + 1)) y1 (((y2.set y1.toNat (.v (.bool (y0.tmod 3 == 0)) :: List.drop 1 (y2.getD y1.toNat []))).set y1.toNat (List.take 1 ((y2.set y1.toNat (.v (.bool (y0.tmod 3 == 0)) :: List.drop 1 (y2.getD y1.toNat []))).getD y1.toNat []) ++ [.v (.int .i64 (IntKind.i64.wrap (y0 + 1)))] ++ List.drop 2 ((y2.set y1.toNat (.v (.bool (y0.tmod 3 == 0)) :: List.drop 1 (y2.getD y1.toNat []))).getD y1.toNat []))).set y1.toNat (List.take 2 (((y2.set y1.toNat (.v (.bool (y0.tmod 3 == 0)) :: List.drop 1 (y2.getD y1.toNat []))).set y1.toNat (List.take 1 ((y2.set y1.toNat (.v (.bool (y0.tmod 3 == 0)) :: List.drop 1 (y2.getD y1.toNat []))).getD y1.toNat []) ++ [.v (.int .i64 (IntKind.i64.wrap (y0 + 1)))] ++ List.drop 2 ((y2.set y1.toNat (.v (.bool (y0.tmod 3 == 0)) :: List.drop 1 (y2.getD y1.toNat []))).getD y1.toNat []))).getD y1.toNat []) ++ [.v (.string (val.1.getD 0 .d).str)] ++ List.drop 3 (((y2.set y1.toNat (.v (.bool (y0.tmod 3 == 0)) :: List.drop 1 (y2.getD y1.toNat []))).set y1.toNat (List.take 1 ((y2.set y1.toNat (.v (.bool (y0.tmod 3 == 0)) :: List.drop 1 (y2.getD y1.toNat []))).getD y1.toNat []) ++ [.v (.int .i64 (IntKind.i64.wrap (y0 + 1)))] ++ List.drop 2 ((y2.set y1.toNat (.v (.bool (y0.tmod 3 == 0)) :: List.drop 1 (y2.getD y1.toNat []))).getD y1.toNat []))).getD y1.toNat []))) else none else none else none else none else none else none else none else some (zao.x2 y0 y2) := by
 refine (zbz (Y := Y) (c := lim' Y) (fn := 83) (rid := 2) (b := zav 2 zao.c) (by kernel_rfl) _).trans ?_
 delta zao.L2 zay zao.P9 zao.x2 XX
 refine za3 [9] (by kernel_rfl) fun J e1 => ?_
 try simp only [← e1]
 clear e1
 generalize lpL (Y.ctx (lim' Y)) 83 = lp
 generalize lim' Y = call
 kernel_rfl
theorem zao.p9 (y0 y1:Int) (y2:LLD) : zao.P9 y0 y1 y2 = bif decide (0 ≤ y1) && decide (y1 < (↑y2.length : Int)) && decide ((y2.getD y1.toNat []).length = 5) then bif zaz [.sl] (y2.getD y1.toNat []) 3 && decide (4 ≤ (y2.getD y1.toNat []).length) then (zap [.one (.r 0 [] 0), .one (.v (.int .i64 (IntKind.i64.wrap (y0 + 1))))] [⟨.virt, [.s ((y2.getD y1.toNat []).getD 3 .h).es], [.deep]⟩]).bind fun val => bif zae [.int .i64] val.1 && za2 [⟨⟨.virt, [.s ((y2.getD y1.toNat []).getD 3 .h).es], [.deep]⟩, .sl 0 [(0, y1.toNat)] 3⟩] val.2 then bif decide (0 ≤ y1) && decide (y1 < (↑(y2.set y1.toNat ((y2.getD y1.toNat []).set 3 (.s ((val.2.getD 0 ⟨.ro, [], []⟩).2.getD 0 .h).es))).length : Int)) && decide (((y2.set y1.toNat ((y2.getD y1.toNat []).set 3 (.s ((val.2.getD 0 ⟨.ro, [], []⟩).2.getD 0 .h).es))).getD y1.toNat []).length = 5) then bif zaz [.sl] ((y2.set y1.toNat ((y2.getD y1.toNat []).set 3 (.s ((val.2.getD 0 ⟨.ro, [], []⟩).2.getD 0 .h).es))).getD y1.toNat []) 4 && decide (5 ≤ ((y2.set y1.toNat ((y2.getD y1.toNat []).set 3 (.s ((val.2.getD 0 ⟨.ro, [], []⟩).2.getD 0 .h).es))).getD y1.toNat []).length) then (zao [.one (.r 0 [] 0), .one (.v (.int .i64 (val.1.getD 0 .d).int))] [⟨.virt, [.s (((y2.set y1.toNat ((y2.getD y1.toNat []).set 3 (.s ((val.2.getD 0 ⟨.ro, [], []⟩).2.getD 0 .h).es))).getD y1.toNat []).getD 4 .h).es], [.deep]⟩]).bind fun val_1 => bif zae [.int .i64] val_1.1 && za2 [⟨⟨.virt, [.s (((y2.set y1.toNat ((y2.getD y1.toNat []).set 3 (.s ((val.2.getD 0 ⟨.ro, [], []⟩).2.getD 0 .h).es))).getD y1.toNat []).getD 4 .h).es], [.deep]⟩, .sl 0 [(0, y1.toNat)] 4⟩] val_1.2 then zao.L2 (val_1.1.getD 0 .d).int (IntKind.i64.wrap (y1 + 1)) ((y2.set y1.toNat ((y2.getD y1.toNat []).set 3 (.s ((val.2.getD 0 ⟨.ro, [], []⟩).2.getD 0 .h).es))).set y1.toNat (((y2.set y1.toNat ((y2.getD y1.toNat []).set 3 (.s ((val.2.getD 0 ⟨.ro, [], []⟩).2.getD 0 .h).es))).getD y1.toNat []).set 4 (.s ((val_1.2.getD 0 ⟨.ro, [], []⟩).2.getD 0 .h).es))) else none else none else none else none else none else none := by
 delta zao.P9 zap zao zao.L2 XX
 refine zaL [9] 9 (by kernel_rfl) fun J e1 => ?_
 try simp only [← e1]
 clear e1
 generalize lpL (Y.ctx (lim' Y)) 83 = lp
 generalize lim' Y = call
 kernel_rfl
theorem zao.a2x2 (y0:Int) (y1:LLD) : zao.A2 (zao.x2 y0 y1) = some ⟨[.v (.int .i64 y0)], [⟨.virt, [.s y1], [.deep]⟩]⟩ := by
 delta zao.A2 zao.x2 XX
 generalize lpL (Y.ctx (lim' Y)) 83 = lp
 generalize lim' Y = call
 kernel_rfl
noncomputable def zaj.L2 (y0:LLD) (y1 y2:Int) : Option (Ex × St) := lpL XX 84 (zav 2 zaj.c) (mkG 0 61 [(0, .one (.s y0)), (1, .one (.v (.int .i64 y1))), (5, .one (.v (.int .i64 y2)))] [] GL)
noncomputable def zaj.A2 : Ex × St → Option Res := fun r => evA XX 84 (lpL XX 84) 2 zaj.c r.fst r.snd (outE XX 84 Tryz.f84)
noncomputable def zaj.q2 (y0 y1:Int) : Ex × St := (Ex.ret, mkG 0 61 [(1, .one (.v (.int .i64 y0))), (4, .one (.v (.int .i64 y1)))] [] GL)
noncomputable def zaj.P10 (y0:LLD) (y1 y2:Int) : Option (Ex × St) := evB XX 84 (lpL XX 84) 10 (zav 2 zaj.c) (mkG 0 61 [(0, .one (.s y0)), (1, .one (.v (.int .i64 y1))), (5, .one (.v (.int .i64 y2)))] [] GL) (backL (lpL XX 84) (zav 2 zaj.c) (XX.live 84 2))
noncomputable def zaj.x2 (y0:Int) : Ex × St := (Ex.exit 0, mkG 0 61 [(1, .one (.v (.int .i64 y0)))] [] GL)
noncomputable def zaj.P17 (y0:LLD) (y1 y2:Int) : Option (Ex × St) := evB XX 84 (lpL XX 84) 17 (zav 2 zaj.c) (mkG 0 61 [(0, .one (.s y0)), (1, .one (.v (.int .i64 y1))), (5, .one (.v (.int .i64 y2)))] [] GL) (backL (lpL XX 84) (zav 2 zaj.c) (XX.live 84 2))
theorem zaj.e (a0:LLD) (a1:Int) : zaj [.one (.s a0), .one (.v (.int .i64 a1))] [] = (zaj.L2 a0 a1 0).bind zaj.A2 := by
 refine (zaj.run _ _ (by kernel_rfl)).trans ?_
 delta zaj zaj.L2 zaj.A2 XX
 generalize lpL (Y.ctx (lim' Y)) 84 = lp
 generalize lim' Y = call
 kernel_rfl
theorem zaj.s2 (y0:LLD) (y1 y2:Int) : zaj.L2 y0 y1 y2 = bif decide (y2 < (↑y0.length : Int)) then bif decide (0 ≤ y2) && decide (y2 < (↑y0.length : Int)) && decide ((y0.getD y2.toNat []).length = 5) then bif zaz [.bool] (y0.getD y2.toNat []) 0 && decide (1 ≤ (y0.getD y2.toNat []).length) then bif !((y0.getD y2.toNat []).getD 0 .h).bool == (y1.tmod 3 == 0) then some (zaj.q2 y1 (-1)) else bif decide (0 ≤ y2) && decide (y2 < (↑y0.length : Int)) && decide ((y0.getD y2.toNat []).length = 5) then bif zaz [.int .i64] (y0.getD y2.toNat []) 1 && decide (2 ≤ (y0.getD y2.toNat []).length) then bif ((y0.getD y2.toNat []).getD 1 .h).int != IntKind.i64.wrap (y1 + 1) then some (zaj.q2 (IntKind.i64.wrap (y1 + 1)) (-1)) else zaj.P10 y0 (IntKind.i64.wrap (IntKind.i64.wrap (y1 + 1) + 1)) y2 else none else none else none else none else some (zaj.x2 y1) := by
 refine (zbz (Y := Y) (c := lim' Y) (fn := 84) (rid := 2) (b := zav 2 zaj.c) (by kernel_rfl) _).trans ?_
 delta zaj.L2 zaj.q2 zaj.P10 zaj.x2 XX
 refine za3 [10, 17] (by kernel_rfl) fun J e1 => ?_
 try simp only [← e1]
 clear e1
 generalize lpL (Y.ctx (lim' Y)) 84 = lp
 generalize lim' Y = call
 kernel_rfl
theorem zaj.p10 (y0:LLD) (y1 y2:Int) : zaj.P10 y0 y1 y2 = bif decide (0 ≤ y2) && decide (y2 < (↑y0.length : Int)) && decide ((y0.getD y2.toNat []).length = 5) then bif zaz [.str] (y0.getD y2.toNat []) 2 && decide (3 ≤ (y0.getD y2.toNat []).length) then (zay [.one (.v (.int .i64 y1))] []).bind fun val => bif zae [.str] val.1 && true then bif !((y0.getD y2.toNat []).getD 2 .h).str.toList == (val.1.getD 0 .d).str.toList then some (zaj.q2 y1 (-1)) else bif decide (0 ≤ y2) && decide (y2 < (↑y0.length : Int)) && decide ((y0.getD y2.toNat []).length = 5) then bif zaz [.sl] (y0.getD y2.toNat []) 3 && decide (4 ≤ (y0.getD y2.toNat []).length) then (zam [.one (.s ((y0.getD y2.toNat []).getD 3 .h).es), .one (.v (.int .i64 (IntKind.i64.wrap (y1 + 1))))] []).bind fun val => bif zae [.int .i64] val.1 && true then bif decide ((val.1.getD 0 .d).int < 0) then some (zaj.q2 (val.1.getD 0 .d).int (-1)) else bif decide (0 ≤ y2) && decide (y2 < (↑y0.length : Int)) && decide ((y0.getD y2.toNat []).length = 5) then bif zaz [.sl] (y0.getD y2.toNat []) 4 && decide (5 ≤ (y0.getD y2.toNat []).length) then (zaj [.one (.s ((y0.getD y2.toNat []).getD 4 .h).es), .one (.v (.int .i64 (val.1.getD 0 .d).int))] []).bind fun val => bif zae [.int .i64] val.1 && true then zaj.P17 y0 (val.1.getD 0 .d).int y2 else none else none else none else none else none else none else none else none else none := by
 delta zaj.P10 zay zaj.q2 zam zaj zaj.P17 XX
 refine zaL [10, 17] 10 (by kernel_rfl) fun J e1 => ?_
 try simp only [← e1]
 clear e1
 generalize lpL (Y.ctx (lim' Y)) 84 = lp
 generalize lim' Y = call
 kernel_rfl
theorem zaj.a2x2 (y0:Int) : zaj.A2 (zaj.x2 y0) = some ⟨[.v (.int .i64 y0)], []⟩ := by
 delta zaj.A2 zaj.x2 XX
 generalize lpL (Y.ctx (lim' Y)) 84 = lp
 generalize lim' Y = call
 kernel_rfl
theorem zaj.p17 (y0:LLD) (y1 y2:Int) : zaj.P17 y0 y1 y2 = bif decide (y1 < 0) then some (zaj.q2 y1 (-1)) else zaj.L2 y0 y1 (IntKind.i64.wrap (y2 + 1)) := by
 delta zaj.P17 zaj.q2 zaj.L2 XX
 refine zaL [10, 17] 17 (by kernel_rfl) fun J e1 => ?_
 try simp only [← e1]
 clear e1
 generalize lpL (Y.ctx (lim' Y)) 84 = lp
 generalize lim' Y = call
 kernel_rfl
theorem zbV.e (a0:Bool) (a1:Int) (a2:BAy) (a3 a4:LLD) : zbV [.g [.v (.bool a0), .v (.int .i64 a1), .v (.string a2), .s a3, .s a4]] [] = bif a0 then (zaq [.g [.v (.bool a0), .v (.int .i64 a1), .v (.string a2), .s a3, .s a4], .one (.v (.int .i64 0))] []).bind fun val => bif zae [.bool] val.1 && true then bif (val.1.getD 0 .d).bool then (zaK [.g [.v (.bool a0), .v (.int .i64 a1), .v (.string a2), .s a3, .s a4]] []).bind fun val => bif zae [.int .i64] val.1 && true then some ⟨[.v (.bool (decide ((val.1.getD 0 .d).int ≤ 30)))], []⟩ else none else some ⟨[.v (.bool false)], []⟩ else none else some ⟨[.v (.bool false)], []⟩ := by
 refine (zbV.run _ _ (by kernel_rfl)).trans ?_
 delta zbV zaq zaK XX
 generalize lpL (Y.ctx (lim' Y)) 86 = lp
 generalize lim' Y = call
 kernel_rfl
noncomputable def za0.L4 (y0:BAy) (y1 y2 y3:Int) (y4:LLD) : Option (Ex × St) := lpL XX 97 (zav 4 za0.c) (mkG 0 35 [(0, .one (.v (.string y0))), (1, .one (.v (.int .u8 y1))), (5, .one (.r 5 [] 0)), (6, .one (.v (.int .i64 y2))), (7, .one (.v (.int .i64 y3)))] [(5, some ⟨.virt, [.s y4], [.deep]⟩)] GL)
noncomputable def za0.A4 : Ex × St → Option Res := fun r => evA XX 97 (lpL XX 97) 4 za0.c r.fst r.snd (outE XX 97 Tryz.f97)
noncomputable def za0.x4 (y0:BAy) (y1:Int) (y2:LLD) : Ex × St := (Ex.exit 0, mkG 0 35 [(0, .one (.v (.string y0))), (5, .one (.r 5 [] 0)), (6, .one (.v (.int .i64 y1)))] [(5, some ⟨.virt, [.s y2], [.deep]⟩)] GL)
theorem za0.e (a0:BAy) (a1:Int) : za0 [.one (.v (.string a0)), .one (.v (.int .u8 a1))] [] = (za0.L4 a0 a1 0 0 []).bind za0.A4 := by
 refine (za0.run _ _ (by kernel_rfl)).trans ?_
 delta za0 za0.L4 za0.A4 XX
 generalize lpL (Y.ctx (lim' Y)) 97 = lp
 generalize lim' Y = call
 kernel_rfl
theorem za0.s4 (y0:BAy) (y1 y2 y3:Int) (y4:LLD) : za0.L4 y0 y1 y2 y3 y4 = bif decide (y3 < (↑y0.size : Int)) then bif decide (0 ≤ y3) && decide (y3 < (↑y0.size : Int)) then bif zaS y0 y3.toNat == y1 then bif decide (0 ≤ y2) && decide (y2 ≤ y3) && decide (y3 ≤ (↑y0.size : Int)) then bif zaA 1 y4 && true && true && true && decide ((y4.length + 1) * 17 ≤ 70368744177664) then za0.L4 y0 y1 (IntKind.i64.wrap (y3 + 1)) (IntKind.i64.wrap (y3 + 1)) (y4 ++ [[D.v (.string (y0.extract y2.toNat y3.toNat))]]) else none else none else za0.L4 y0 y1 y2 (IntKind.i64.wrap (y3 + 1)) y4 else none else some (za0.x4 y0 y2 y4) := by
 refine (zbz (Y := Y) (c := lim' Y) (fn := 97) (rid := 4) (b := zav 4 za0.c) (by kernel_rfl) _).trans ?_
 delta za0.L4 za0.x4 XX
 generalize lpL (Y.ctx (lim' Y)) 97 = lp
 generalize lim' Y = call
 kernel_rfl
theorem za0.a4x4 (y0:BAy) (y1:Int) (y2:LLD) : za0.A4 (za0.x4 y0 y1 y2) = bif decide (0 ≤ y1) && decide (y1 ≤ (↑y0.size : Int)) && decide ((↑y0.size : Int) ≤ (↑y0.size : Int)) then bif zaA 1 y2 && true && true && true && decide ((y2.length + 1) * 17 ≤ 70368744177664) then some ⟨[.o .deep (y2 ++ [[D.v (.string (y0.extract y1.toNat (↑y0.size : Int).toNat))]])], []⟩ else none else none := by
 delta za0.A4 za0.x4 XX
 generalize lpL (Y.ctx (lim' Y)) 97 = lp
 generalize lim' Y = call
 kernel_rfl
noncomputable def zaC.P5 (y0:LLD) (y1:Int) (y2:Bool) (y3:Int) (y4:BAy) (y5 y6:LLD) (y7:Bool) (y8:Int) (y9:BAy) (y10 y11:LLD) : Option Res := evB XX 99 (lpL XX 99) 5 zaC.c (mkG 0 75 [(0, .one (.s y0)), (2, .one (.p true 2 [] 0)), (4, .one (.p true 4 [] 0)), (5, .one (.v (.int .i64 y1)))] [(2, some ⟨.box, [.v (.bool y2), .v (.int .i64 y3), .v (.string y4), .s y5, .s y6], [.deep, .deep, .deep, .deep, .deep]⟩), (4, some ⟨.box, [.v (.bool y7), .v (.int .i64 y8), .v (.string y9), .s y10, .s y11], [.deep, .deep, .deep, .deep, .deep]⟩)] GL) (outE XX 99 Tryz.f99)
noncomputable def zaC.P6 (y0:LLD) (y1 y2:Bool) (y3:Int) (y4:BAy) (y5 y6:LLD) (y7:Bool) (y8:Int) (y9:BAy) (y10 y11:LLD) : Option Res := evB XX 99 (lpL XX 99) 6 zaC.c (mkG 0 75 [(0, .one (.s y0)), (2, .one (.p true 2 [] 0)), (4, .one (.p true 4 [] 0)), (48, .one (.v (.bool y1)))] [(2, some ⟨.box, [.v (.bool y2), .v (.int .i64 y3), .v (.string y4), .s y5, .s y6], [.deep, .deep, .deep, .deep, .deep]⟩), (4, some ⟨.box, [.v (.bool y7), .v (.int .i64 y8), .v (.string y9), .s y10, .s y11], [.deep, .deep, .deep, .deep, .deep]⟩)] GL) (outE XX 99 Tryz.f99)
noncomputable def zaC.P7 (y0:LLD) (y1:Bool) (y2:Int) (y3:BAy) (y4 y5:LLD) (y6:Bool) (y7:Int) (y8:BAy) (y9 y10:LLD) : Option Res := evB XX 99 (lpL XX 99) 7 zaC.c (mkG 0 75 [(0, .one (.s y0)), (2, .one (.p true 2 [] 0)), (4, .one (.p true 4 [] 0))] [(2, some ⟨.box, [.v (.bool y1), .v (.int .i64 y2), .v (.string y3), .s y4, .s y5], [.deep, .deep, .deep, .deep, .deep]⟩), (4, some ⟨.box, [.v (.bool y6), .v (.int .i64 y7), .v (.string y8), .s y9, .s y10], [.deep, .deep, .deep, .deep, .deep]⟩)] GL) (outE XX 99 Tryz.f99)
noncomputable def zaC.P12 (y0 y1:Bool) (y2:Int) (y3:BAy) (y4 y5:LLD) (y6:Bool) (y7:Int) (y8:BAy) (y9 y10:LLD) : Option Res := evB XX 99 (lpL XX 99) 12 zaC.c (mkG 0 75 [(2, .one (.p true 2 [] 0)), (4, .one (.p true 4 [] 0)), (6, .one (.v (.bool y0)))] [(2, some ⟨.box, [.v (.bool y1), .v (.int .i64 y2), .v (.string y3), .s y4, .s y5], [.deep, .deep, .deep, .deep, .deep]⟩), (4, some ⟨.box, [.v (.bool y6), .v (.int .i64 y7), .v (.string y8), .s y9, .s y10], [.deep, .deep, .deep, .deep, .deep]⟩)] GL) (outE XX 99 Tryz.f99)
theorem zaC.e (a0:LLD) : zaC [.one (.s a0)] [] = bif decide (0 < (↑a0.length : Int)) && decide ((a0.getD 0 []).length = 1) then bif zaz [.str] (a0.getD 0 []) 0 && decide (1 ≤ (a0.getD 0 []).length) then bif ((a0.getD 0 []).getD 0 .h).str.toList == [(ByteArray.mk #[102, 105, 108, 101]).get! 0, (ByteArray.mk #[102, 105, 108, 101]).get! 1, (ByteArray.mk #[102, 105, 108, 101]).get! 2, (ByteArray.mk #[102, 105, 108, 101]).get! 3] then zaC.P5 a0 4 false 0 (ByteArray.mk #[]) [] [] false 0 (ByteArray.mk #[]) [] [] else zaC.P5 a0 3 false 0 (ByteArray.mk #[]) [] [] false 0 (ByteArray.mk #[]) [] [] else none else none := by
 refine (zaC.run _ _ (by kernel_rfl)).trans ?_
 delta zaC zaC.P5 XX
 refine za3 [5, 6, 7, 12] (by kernel_rfl) fun J e1 => ?_
 try simp only [← e1]
 clear e1
 generalize lpL (Y.ctx (lim' Y)) 99 = lp
 generalize lim' Y = call
 kernel_rfl
theorem zaC.p5 (y0:LLD) (y1:Int) (y2:Bool) (y3:Int) (y4:BAy) (y5 y6:LLD) (y7:Bool) (y8:Int) (y9:BAy) (y10 y11:LLD) : zaC.P5 y0 y1 y2 y3 y4 y5 y6 y7 y8 y9 y10 y11 = bif decide (0 < (↑y0.length : Int)) && decide ((y0.getD 0 []).length = 1) then bif zaz [.str] (y0.getD 0 []) 0 && decide (1 ≤ (y0.getD 0 []).length) then bif !((y0.getD 0 []).getD 0 .h).str.toList == [(ByteArray.mk #[102, 105, 108, 101]).get! 0, (ByteArray.mk #[102, 105, 108, 101]).get! 1, (ByteArray.mk #[102, 105, 108, 101]).get! 2, (ByteArray.mk #[102, 105, 108, 101]).get! 3] then bif decide (0 < (↑y0.length : Int)) && decide ((y0.getD 0 []).length = 1) then bif zaz [.str] (y0.getD 0 []) 0 && decide (1 ≤ (y0.getD 0 []).length) then bif !((y0.getD 0 []).getD 0 .h).str.toList == [(ByteArray.mk #[100, 105, 114]).get! 0, (ByteArray.mk #[100, 105, 114]).get! 1, (ByteArray.mk #[100, 105, 114]).get! 2] then zaC.P6 y0 true y2 y3 y4 y5 y6 y7 y8 y9 y10 y11 else bif (↑y0.length : Int) != y1 then zaC.P6 y0 true y2 y3 y4 y5 y6 y7 y8 y9 y10 y11 else bif decide (2 < (↑y0.length : Int)) && decide ((y0.getD 2 []).length = 1) then bif zaz [.str] (y0.getD 2 []) 0 && decide (1 ≤ (y0.getD 2 []).length) then bif (↑((y0.getD 2 []).getD 0 .h).str.size : Int) != 1 then zaC.P6 y0 true y2 y3 y4 y5 y6 y7 y8 y9 y10 y11 else bif decide (2 < (↑y0.length : Int)) && decide ((y0.getD 2 []).length = 1) then bif zaz [.str] (y0.getD 2 []) 0 && decide (1 ≤ (y0.getD 2 []).length) then bif decide (0 < (↑((y0.getD 2 []).getD 0 .h).str.size : Int)) then bif decide (zaS ((y0.getD 2 []).getD 0 .h).str 0 < 48) then zaC.P6 y0 true y2 y3 y4 y5 y6 y7 y8 y9 y10 y11 else bif decide (2 < (↑y0.length : Int)) && decide ((y0.getD 2 []).length = 1) then bif zaz [.str] (y0.getD 2 []) 0 && decide (1 ≤ (y0.getD 2 []).length) then bif decide (0 < (↑((y0.getD 2 []).getD 0 .h).str.size : Int)) then zaC.P6 y0 (decide (zaS ((y0.getD 2 []).getD 0 .h).str 0 > 55)) y2 y3 y4 y5 y6 y7 y8 y9 y10 y11 else none else none else none else none else none else none else none else none else none else none else bif (↑y0.length : Int) != y1 then zaC.P6 y0 true y2 y3 y4 y5 y6 y7 y8 y9 y10 y11 else bif decide (2 < (↑y0.length : Int)) && decide ((y0.getD 2 []).length = 1) then bif zaz [.str] (y0.getD 2 []) 0 && decide (1 ≤ (y0.getD 2 []).length) then bif (↑((y0.getD 2 []).getD 0 .h).str.size : Int) != 1 then zaC.P6 y0 true y2 y3 y4 y5 y6 y7 y8 y9 y10 y11 else bif decide (2 < (↑y0.length : Int)) && decide ((y0.getD 2 []).length = 1) then bif zaz [.str] (y0.getD 2 []) 0 && decide (1 ≤ (y0.getD 2 []).length) then bif decide (0 < (↑((y0.getD 2 []).getD 0 .h).str.size : Int)) then bif decide (zaS ((y0.getD 2 []).getD 0 .h).str 0 < 48) then zaC.P6 y0 true y2 y3 y4 y5 y6 y7 y8 y9 y10 y11 else bif decide (2 < (↑y0.length : Int)) && decide ((y0.getD 2 []).length = 1) then bif zaz [.str] (y0.getD 2 []) 0 && decide (1 ≤ (y0.getD 2 []).length) then bif decide (0 < (↑((y0.getD 2 []).getD 0 .h).str.size : Int)) then zaC.P6 y0 (decide (zaS ((y0.getD 2 []).getD 0 .h).str 0 > 55)) y2 y3 y4 y5 y6 y7 y8 y9 y10 y11 else none else none else none else none else none else none else none else none else none else none := by
 delta zaC.P5 zaC.P6 XX
 refine zaL [5, 6, 7, 12] 5 (by kernel_rfl) fun J e1 => ?_
 try simp only [← e1]
 clear e1
 generalize lpL (Y.ctx (lim' Y)) 99 = lp
 generalize lim' Y = call
 kernel_rfl
theorem zaC.p6 (y0:LLD) (y1 y2:Bool) (y3:Int) (y4:BAy) (y5 y6:LLD) (y7:Bool) (y8:Int) (y9:BAy) (y10 y11:LLD) : zaC.P6 y0 y1 y2 y3 y4 y5 y6 y7 y8 y9 y10 y11 = bif y1 then some ⟨[.v (.bool y7), .v (.int .i64 y8), .v (.string y9), .o .deep y10, .o .deep y11, .v (.bool false)], []⟩ else zaC.P7 y0 y2 y3 y4 y5 y6 y7 y8 y9 y10 y11 := by
 delta zaC.P6 zaC.P7 XX
 refine zaL [5, 6, 7, 12] 6 (by kernel_rfl) fun J e1 => ?_
 try simp only [← e1]
 clear e1
 generalize lpL (Y.ctx (lim' Y)) 99 = lp
 generalize lim' Y = call
 kernel_rfl
theorem zaC.p7 (y0:LLD) (y1:Bool) (y2:Int) (y3:BAy) (y4 y5:LLD) (y6:Bool) (y7:Int) (y8:BAy) (y9 y10:LLD) : zaC.P7 y0 y1 y2 y3 y4 y5 y6 y7 y8 y9 y10 = bif decide (0 < (↑y0.length : Int)) && decide ((y0.getD 0 []).length = 1) then bif zaz [.str] (y0.getD 0 []) 0 && decide (1 ≤ (y0.getD 0 []).length) then bif decide (2 < (↑y0.length : Int)) && decide ((y0.getD 2 []).length = 1) then bif zaz [.str] (y0.getD 2 []) 0 && decide (1 ≤ (y0.getD 2 []).length) then bif decide (0 < (↑((y0.getD 2 []).getD 0 .h).str.size : Int)) then bif !((y0.getD 0 []).getD 0 .h).str.toList == [(ByteArray.mk #[100, 105, 114]).get! 0, (ByteArray.mk #[100, 105, 114]).get! 1, (ByteArray.mk #[100, 105, 114]).get! 2] then bif decide (3 < (↑y0.length : Int)) && decide ((y0.getD 3 []).length = 1) then bif zaz [.str] (y0.getD 3 []) 0 && decide (1 ≤ (y0.getD 3 []).length) then (zak [.one (.v (.string ((y0.getD 3 []).getD 0 .h).str))] []).bind fun val => bif zae [.str, .bool] val.1 && true then zaC.P12 (val.1.getD 1 .d).bool y1 y2 y3 y4 y5 (((y0.getD 0 []).getD 0 .h).str.toList == [(ByteArray.mk #[100, 105, 114]).get! 0, (ByteArray.mk #[100, 105, 114]).get! 1, (ByteArray.mk #[100, 105, 114]).get! 2]) (IntKind.i64.wrap (IntKind.u8.wrap (zaS ((y0.getD 2 []).getD 0 .h).str 0 - 48))) (val.1.getD 0 .d).str y9 y10 else none else none else none else zaC.P12 true y1 y2 y3 y4 y5 (((y0.getD 0 []).getD 0 .h).str.toList == [(ByteArray.mk #[100, 105, 114]).get! 0, (ByteArray.mk #[100, 105, 114]).get! 1, (ByteArray.mk #[100, 105, 114]).get! 2]) (IntKind.i64.wrap (IntKind.u8.wrap (zaS ((y0.getD 2 []).getD 0 .h).str 0 - 48))) y8 y9 y10 else none else none else none else none else none := by
 delta zaC.P7 zak zaC.P12 XX
 refine zaL [5, 6, 7, 12] 7 (by kernel_rfl) fun J e1 => ?_
 try simp only [← e1]
 clear e1
 generalize lpL (Y.ctx (lim' Y)) 99 = lp
 generalize lim' Y = call
 kernel_rfl
theorem zaC.p12 (y0 y1:Bool) (y2:Int) (y3:BAy) (y4 y5:LLD) (y6:Bool) (y7:Int) (y8:BAy) (y9 y10:LLD) : zaC.P12 y0 y1 y2 y3 y4 y5 y6 y7 y8 y9 y10 = some ⟨[.v (.bool y6), .v (.int .i64 y7), .v (.string y8), .o .deep y9, .o .deep y10, .v (.bool y0)], []⟩ := by
 delta zaC.P12 XX
 refine zaL [5, 6, 7, 12] 12 (by kernel_rfl) fun J e1 => ?_
 try simp only [← e1]
 clear e1
 generalize lpL (Y.ctx (lim' Y)) 99 = lp
 generalize lim' Y = call
 kernel_rfl
theorem zb6.e (a0:BAy) : zb6 [.one (.v (.string a0))] [] = (strings_Split [.one (.v (.string a0)), .one (.v (.string (ByteArray.mk #[10])))] []).bind fun val => bif zae [.own .deep] val.1 && true then bif decide (none.getD 0 ≤ IntKind.i64.wrap ((↑(val.1.getD 0 .d).es.length : Int) - 1)) && decide (IntKind.i64.wrap ((↑(val.1.getD 0 .d).es.length : Int) - 1) ≤ (↑(val.1.getD 0 .d).es.length : Int)) && true then some ⟨[.s (List.drop 0 (List.take (IntKind.i64.wrap ((↑(val.1.getD 0 .d).es.length : Int) - 1)).toNat (val.1.getD 0 .d).es))], []⟩ else none else none := by
 refine (zb6.run _ _ (by kernel_rfl)).trans ?_
 delta zb6 strings_Split XX
 generalize lpL (Y.ctx (lim' Y)) 102 = lp
 generalize lim' Y = call
 kernel_rfl
theorem zbM.e (a0:BAy) : zbM [.one (.v (.string a0))] [] = (strings_TrimPrefix [.one (.v (.string a0)), .one (.v (.string (ByteArray.mk #[47])))] []).bind fun val => bif zae [.str] val.1 && true then bif (val.1.getD 0 .d).str.toList == [] then some ⟨[.o .deep []], []⟩ else (strings_Split [.one (.v (.string (val.1.getD 0 .d).str)), .one (.v (.string (ByteArray.mk #[47])))] []).bind fun val => bif zae [.own .deep] val.1 && true then some ⟨[.o .deep (val.1.getD 0 .d).es], []⟩ else none else none := by
 refine (zbM.run _ _ (by kernel_rfl)).trans ?_
 delta zbM strings_TrimPrefix strings_Split XX
 generalize lpL (Y.ctx (lim' Y)) 104 = lp
 generalize lim' Y = call
 kernel_rfl
noncomputable def za4.P5 (y0:Bool) (y1:Int) (y2:BAy) (y3 y4 y5:LLD) (y6:Bool) (y7:Int) (y8:BAy) (y9 y10:LLD) : Option Res := evB XX 105 (lpL XX 105) 5 za4.c (mkG 0 32 [(3, .one (.p true 3 [] 0)), (4, .one (.r 4 [] 0)), (5, .one (.p true 5 [] 0))] [(3, some ⟨.box, [.v (.bool y0), .v (.int .i64 y1), .v (.string y2), .s y3, .s y4], [.deep, .deep, .deep, .deep, .deep]⟩), (4, some ⟨.virt, [.s y5], [.deep]⟩), (5, some ⟨.box, [.v (.bool y6), .v (.int .i64 y7), .v (.string y8), .s y9, .s y10], [.deep, .deep, .deep, .deep, .deep]⟩)] GL) (outE XX 105 Tryz.f105)
theorem za4.e (a0:BAy) : za4 [.one (.v (.string a0))] [] = (strings_Split [.one (.v (.string a0)), .one (.v (.string (ByteArray.mk #[32])))] []).bind fun val => bif zae [.own .deep] val.1 && true then bif zaA 1 (val.1.getD 0 .d).es && true && true && true && decide (((val.1.getD 0 .d).es.length + 3) * 17 ≤ 70368744177664) then bif decide (0 < (↑((val.1.getD 0 .d).es ++ [[D.v (.string (ByteArray.mk #[]))], [D.v (.string (ByteArray.mk #[]))], [D.v (.string (ByteArray.mk #[]))]]).length : Int)) && decide ((((val.1.getD 0 .d).es ++ [[D.v (.string (ByteArray.mk #[]))], [D.v (.string (ByteArray.mk #[]))], [D.v (.string (ByteArray.mk #[]))]]).getD 0 []).length = 1) then bif zaz [.str] (((val.1.getD 0 .d).es ++ [[D.v (.string (ByteArray.mk #[]))], [D.v (.string (ByteArray.mk #[]))], [D.v (.string (ByteArray.mk #[]))]]).getD 0 []) 0 && decide (1 ≤ (((val.1.getD 0 .d).es ++ [[D.v (.string (ByteArray.mk #[]))], [D.v (.string (ByteArray.mk #[]))], [D.v (.string (ByteArray.mk #[]))]]).getD 0 []).length) then bif decide (2 < (↑((val.1.getD 0 .d).es ++ [[D.v (.string (ByteArray.mk #[]))], [D.v (.string (ByteArray.mk #[]))], [D.v (.string (ByteArray.mk #[]))]]).length : Int)) && decide ((((val.1.getD 0 .d).es ++ [[D.v (.string (ByteArray.mk #[]))], [D.v (.string (ByteArray.mk #[]))], [D.v (.string (ByteArray.mk #[]))]]).getD 2 []).length = 1) then bif zaz [.str] (((val.1.getD 0 .d).es ++ [[D.v (.string (ByteArray.mk #[]))], [D.v (.string (ByteArray.mk #[]))], [D.v (.string (ByteArray.mk #[]))]]).getD 2 []) 0 && decide (1 ≤ (((val.1.getD 0 .d).es ++ [[D.v (.string (ByteArray.mk #[]))], [D.v (.string (ByteArray.mk #[]))], [D.v (.string (ByteArray.mk #[]))]]).getD 2 []).length) then (zb7 [.one (.v (.string ((((val.1.getD 0 .d).es ++ [[D.v (.string (ByteArray.mk #[]))], [D.v (.string (ByteArray.mk #[]))], [D.v (.string (ByteArray.mk #[]))]]).getD 2 []).getD 0 D.h).str))] []).bind fun val_1 => bif zae [.int .i64] val_1.1 && true then bif !((((val.1.getD 0 .d).es ++ [[D.v (.string (ByteArray.mk #[]))], [D.v (.string (ByteArray.mk #[]))], [D.v (.string (ByteArray.mk #[]))]]).getD 0 []).getD 0 D.h).str.toList == [(ByteArray.mk #[100, 105, 114]).get! 0, (ByteArray.mk #[100, 105, 114]).get! 1, (ByteArray.mk #[100, 105, 114]).get! 2] then bif decide (3 < (↑((val.1.getD 0 .d).es ++ [[D.v (.string (ByteArray.mk #[]))], [D.v (.string (ByteArray.mk #[]))], [D.v (.string (ByteArray.mk #[]))]]).length : Int)) && decide ((((val.1.getD 0 .d).es ++ [[D.v (.string (ByteArray.mk #[]))], [D.v (.string (ByteArray.mk #[]))], [D.v (.string (ByteArray.mk #[]))]]).getD 3 []).length = 1) then bif zaz [.str] (((val.1.getD 0 .d).es ++ [[D.v (.string (ByteArray.mk #[]))], [D.v (.string (ByteArray.mk #[]))], [D.v (.string (ByteArray.mk #[]))]]).getD 3 []) 0 && decide (1 ≤ (((val.1.getD 0 .d).es ++ [[D.v (.string (ByteArray.mk #[]))], [D.v (.string (ByteArray.mk #[]))], [D.v (.string (ByteArray.mk #[]))]]).getD 3 []).length) then (zbO [.one (.v (.string ((((val.1.getD 0 .d).es ++ [[D.v (.string (ByteArray.mk #[]))], [D.v (.string (ByteArray.mk #[]))], [D.v (.string (ByteArray.mk #[]))]]).getD 3 []).getD 0 D.h).str))] []).bind fun val_2 => bif zae [.str] val_2.1 && true then za4.P5 false 0 (ByteArray.mk #[]) [] [] ((val.1.getD 0 .d).es ++ [[D.v (.string (ByteArray.mk #[]))], [D.v (.string (ByteArray.mk #[]))], [D.v (.string (ByteArray.mk #[]))]]) (((((val.1.getD 0 .d).es ++ [[D.v (.string (ByteArray.mk #[]))], [D.v (.string (ByteArray.mk #[]))], [D.v (.string (ByteArray.mk #[]))]]).getD 0 []).getD 0 D.h).str.toList == [(ByteArray.mk #[100, 105, 114]).get! 0, (ByteArray.mk #[100, 105, 114]).get! 1, (ByteArray.mk #[100, 105, 114]).get! 2]) (val_1.1.getD 0 .d).int (val_2.1.getD 0 .d).str [] [] else none else none else none else za4.P5 false 0 (ByteArray.mk #[]) [] [] ((val.1.getD 0 .d).es ++ [[D.v (.string (ByteArray.mk #[]))], [D.v (.string (ByteArray.mk #[]))], [D.v (.string (ByteArray.mk #[]))]]) (((((val.1.getD 0 .d).es ++ [[D.v (.string (ByteArray.mk #[]))], [D.v (.string (ByteArray.mk #[]))], [D.v (.string (ByteArray.mk #[]))]]).getD 0 []).getD 0 D.h).str.toList == [(ByteArray.mk #[100, 105, 114]).get! 0, (ByteArray.mk #[100, 105, 114]).get! 1, (ByteArray.mk #[100, 105, 114]).get! 2]) (val_1.1.getD 0 .d).int (ByteArray.mk #[]) [] [] else none else none else none else none else none else none else none := by
 refine (za4.run _ _ (by kernel_rfl)).trans ?_
 delta za4 strings_Split zb7 zbO za4.P5 XX
 refine za3 [5] (by kernel_rfl) fun J e1 => ?_
 try simp only [← e1]
 clear e1
 generalize lpL (Y.ctx (lim' Y)) 105 = lp
 generalize lim' Y = call
 kernel_rfl
theorem za4.p5 (y0:Bool) (y1:Int) (y2:BAy) (y3 y4 y5:LLD) (y6:Bool) (y7:Int) (y8:BAy) (y9 y10:LLD) : za4.P5 y0 y1 y2 y3 y4 y5 y6 y7 y8 y9 y10 = bif decide (1 < (↑y5.length : Int)) && decide ((y5.getD 1 []).length = 1) then bif zaz [.str] (y5.getD 1 []) 0 && decide (1 ≤ (y5.getD 1 []).length) then (zbM [.one (.v (.string ((y5.getD 1 []).getD 0 .h).str))] []).bind fun val => bif zae [.own .deep] val.1 && true then some ⟨[.s (val.1.getD 0 .d).es, .v (.bool y6), .v (.int .i64 y7), .v (.string y8), .o .deep y9, .o .deep y10], []⟩ else none else none else none := by
 delta za4.P5 zbM XX
 refine zaL [5] 5 (by kernel_rfl) fun J e1 => ?_
 try simp only [← e1]
 clear e1
 generalize lpL (Y.ctx (lim' Y)) 105 = lp
 generalize lim' Y = call
 kernel_rfl
theorem zbx.e (a0:Bool) (a1:Int) (a2:BAy) (a3 a4:LLD) : zbx [.g [.v (.bool a0), .v (.int .i64 a1), .v (.string a2), .s a3, .s a4]] [] = (zbV [.g [.v (.bool a0), .v (.int .i64 a1), .v (.string a2), .s a3, .s a4]] []).bind fun val => bif zae [.bool] val.1 && true then bif !(val.1.getD 0 .d).bool then some ⟨[.v (.string (ByteArray.mk #[]))], []⟩ else (zcl [.one (.v (.string (ByteArray.mk #[47]))), .g [.v (.bool a0), .v (.int .i64 a1), .v (.string a2), .s a3, .s a4]] []).bind fun val => bif zae [.str] val.1 && true then (zaW [.one (.v (.string (ByteArray.mk #[]))), .g [.v (.bool a0), .v (.int .i64 a1), .v (.string a2), .s a3, .s a4]] []).bind fun val_1 => bif zae [.str] val_1.1 && true then bif decide ((val.1.getD 0 .d).str.size + (val_1.1.getD 0 .d).str.size ≤ 70368744177664) then some ⟨[.v (.string ((val.1.getD 0 .d).str ++ (val_1.1.getD 0 .d).str))], []⟩ else none else none else none else none := by
 refine (zbx.run _ _ (by kernel_rfl)).trans ?_
 delta zbx zbV zcl zaW XX
 generalize lpL (Y.ctx (lim' Y)) 113 = lp
 generalize lim' Y = call
 kernel_rfl
theorem zbN.e (a0:Bool) (a1:Int) (a2:BAy) (a3 a4:LLD) : zbN [.g [.v (.bool a0), .v (.int .i64 a1), .v (.string a2), .s a3, .s a4]] [] = (zcF [.g [.v (.bool a0), .v (.int .i64 a1), .v (.string a2), .s a3, .s a4]] []).bind fun val => bif zae [.bool] val.1 && true then bif !(val.1.getD 0 .d).bool then some ⟨[.v (.string (ByteArray.mk #[]))], []⟩ else (zbt [.g [.v (.bool a0), .v (.int .i64 a1), .v (.string a2), .s a3, .s a4]] []).bind fun val => bif zae [.str] val.1 && true then some ⟨[.v (.string (val.1.getD 0 .d).str)], []⟩ else none else none := by
 refine (zbN.run _ _ (by kernel_rfl)).trans ?_
 delta zbN zcF zbt XX
 generalize lpL (Y.ctx (lim' Y)) 114 = lp
 generalize lim' Y = call
 kernel_rfl
noncomputable def zan.L2 (y0:BAy) (y1:Int) : Option (Ex × St) := lpL XX 125 (zav 2 zan.c) (mkG 0 36 [(0, .one (.v (.string y0))), (3, .one (.v (.int .i64 y1)))] [] GL)
noncomputable def zan.A2 : Ex × St → Option Res := fun r => evA XX 125 (lpL XX 125) 2 zan.c r.fst r.snd (outE XX 125 Tryz.f125)
noncomputable def zan.P5 (y0:BAy) (y1:Int) (y2:Bool) : Option (Ex × St) := evB XX 125 (lpL XX 125) 5 (zav 2 zan.c) (mkG 0 36 [(0, .one (.v (.string y0))), (3, .one (.v (.int .i64 y1))), (32, .one (.v (.bool y2)))] [] GL) (backL (lpL XX 125) (zav 2 zan.c) (XX.live 125 2))
noncomputable def zan.x2 (y0:BAy) : Ex × St := (Ex.exit 0, mkG 0 36 [(0, .one (.v (.string y0)))] [] GL)
noncomputable def zan.q2 (y0:BAy) (y1:Bool) : Ex × St := (Ex.ret, mkG 0 36 [(0, .one (.v (.string y0))), (2, .one (.v (.bool y1)))] [] GL)
theorem zan.e (a0:BAy) : zan [.one (.v (.string a0))] [] = (zan.L2 a0 0).bind zan.A2 := by
 refine (zan.run _ _ (by kernel_rfl)).trans ?_
 delta zan zan.L2 zan.A2 XX
 generalize lpL (Y.ctx (lim' Y)) 125 = lp
 generalize lim' Y = call
 kernel_rfl
theorem zan.s2 (y0:BAy) (y1:Int) : zan.L2 y0 y1 = bif decide (y1 < (↑y0.size : Int)) then bif decide (0 ≤ y1) && decide (y1 < (↑y0.size : Int)) then bif decide (zaS y0 y1.toNat ≥ 97) then bif decide (0 ≤ y1) && decide (y1 < (↑y0.size : Int)) then bif decide (zaS y0 y1.toNat ≤ 122) then zan.P5 y0 y1 false else bif decide (0 ≤ y1) && decide (y1 < (↑y0.size : Int)) then bif decide (zaS y0 y1.toNat ≥ 48) then bif decide (0 ≤ y1) && decide (y1 < (↑y0.size : Int)) then zan.P5 y0 y1 !decide (zaS y0 y1.toNat ≤ 57) else none else zan.P5 y0 y1 true else none else none else bif decide (0 ≤ y1) && decide (y1 < (↑y0.size : Int)) then bif decide (zaS y0 y1.toNat ≥ 48) then bif decide (0 ≤ y1) && decide (y1 < (↑y0.size : Int)) then zan.P5 y0 y1 !decide (zaS y0 y1.toNat ≤ 57) else none else zan.P5 y0 y1 true else none else none else some (zan.x2 y0) := by
 refine (zbz (Y := Y) (c := lim' Y) (fn := 125) (rid := 2) (b := zav 2 zan.c) (by kernel_rfl) _).trans ?_
 delta zan.L2 zan.P5 zan.x2 XX
 refine za3 [5] (by kernel_rfl) fun J e1 => ?_
 try simp only [← e1]
 clear e1
 generalize lpL (Y.ctx (lim' Y)) 125 = lp
 generalize lim' Y = call
 kernel_rfl
theorem zan.p5 (y0:BAy) (y1:Int) (y2:Bool) : zan.P5 y0 y1 y2 = bif y2 then some (zan.q2 y0 false) else zan.L2 y0 (IntKind.i64.wrap (y1 + 1)) := by
 delta zan.P5 zan.q2 zan.L2 XX
 refine zaL [5] 5 (by kernel_rfl) fun J e1 => ?_
 try simp only [← e1]
 clear e1
 generalize lpL (Y.ctx (lim' Y)) 125 = lp
 generalize lim' Y = call
 kernel_rfl
theorem zan.a2x2 (y0:BAy) : zan.A2 (zan.x2 y0) = (sl1In [.one (.v (.int .i64 (↑y0.size : Int))), .one (.v (.int .i64 1)), .one (.v (.int .i64 5))] []).bind fun val => bif zae [.bool] val.1 && true then some ⟨[.v (.bool (val.1.getD 0 .d).bool)], []⟩ else none := by
 delta zan.A2 zan.x2 sl1In XX
 generalize lpL (Y.ctx (lim' Y)) 125 = lp
 generalize lim' Y = call
 kernel_rfl
theorem zan.a2q2 (y0:BAy) (y1:Bool) : zan.A2 (zan.q2 y0 y1) = some ⟨[.v (.bool y1)], []⟩ := by
 delta zan.A2 zan.q2 XX
 generalize lpL (Y.ctx (lim' Y)) 125 = lp
 generalize lim' Y = call
 kernel_rfl
theorem sl1In.e (a0 a1 a2:Int) : sl1In [.one (.v (.int .i64 a0)), .one (.v (.int .i64 a1)), .one (.v (.int .i64 a2))] [] = bif decide (a0 ≥ a1) then some ⟨[.v (.bool (decide (a0 ≤ a2)))], []⟩ else some ⟨[.v (.bool false)], []⟩ := by
 refine (sl1In.run _ _ (by kernel_rfl)).trans ?_
 delta sl1In XX
 generalize lpL (Y.ctx (lim' Y)) 126 = lp
 generalize lim' Y = call
 kernel_rfl
noncomputable def zaO.L2 (y0:BAy) (y1:Int) (y2:Bool) (y3:Int) (y4:BAy) (y5 y6:LLD) : Option (Ex × St) := lpL XX 127 (zav 2 zaO.c) (mkG 0 21 [(1, .one (.v (.string y0))), (2, .one (.p true 2 [] 0)), (5, .one (.v (.int .i64 y1)))] [(2, some ⟨.box, [.v (.bool y2), .v (.int .i64 y3), .v (.string y4), .s y5, .s y6], [.deep, .deep, .deep, .sh, .sh]⟩)] GL)
noncomputable def zaO.A2 : Ex × St → Option Res := fun r => evA XX 127 (lpL XX 127) 2 zaO.c r.fst r.snd (outE XX 127 Tryz.f127)
noncomputable def zaO.q2 (y0:Int) : Ex × St := (Ex.ret, mkG 0 21 [(4, .one (.v (.int .i64 y0)))] [] GL)
noncomputable def zaO.x2 : Ex × St := (Ex.exit 0, mkG 0 21 [] [] GL)
theorem zaO.e (a0:Bool) (a1:Int) (a2:BAy) (a3 a4:LLD) (a5:BAy) : zaO [.g [.v (.bool a0), .v (.int .i64 a1), .v (.string a2), .s a3, .s a4], .one (.v (.string a5))] [] = (zaO.L2 a5 0 a0 a1 a2 a3 a4).bind zaO.A2 := by
 refine (zaO.run _ _ (by kernel_rfl)).trans ?_
 delta zaO zaO.L2 zaO.A2 XX
 generalize lpL (Y.ctx (lim' Y)) 127 = lp
 generalize lim' Y = call
 kernel_rfl
theorem zaO.s2 (y0:BAy) (y1:Int) (y2:Bool) (y3:Int) (y4:BAy) (y5 y6:LLD) : zaO.L2 y0 y1 y2 y3 y4 y5 y6 = bif decide (y1 < (↑y5.length : Int)) then bif decide (0 ≤ y1) && decide (y1 < (↑y5.length : Int)) && decide ((y5.getD y1.toNat []).length = 1) then bif zaz [.str] (y5.getD y1.toNat []) 0 && decide (1 ≤ (y5.getD y1.toNat []).length) then bif ((y5.getD y1.toNat []).getD 0 .h).str.toList == y0.toList then some (zaO.q2 y1) else zaO.L2 y0 (IntKind.i64.wrap (y1 + 1)) y2 y3 y4 y5 y6 else none else none else some zaO.x2 := by
 refine (zbz (Y := Y) (c := lim' Y) (fn := 127) (rid := 2) (b := zav 2 zaO.c) (by kernel_rfl) _).trans ?_
 delta zaO.L2 zaO.q2 zaO.x2 XX
 generalize lpL (Y.ctx (lim' Y)) 127 = lp
 generalize lim' Y = call
 kernel_rfl
theorem zaO.a2q2 (y0:Int) : zaO.A2 (zaO.q2 y0) = some ⟨[.v (.int .i64 y0)], []⟩ := by
 delta zaO.A2 zaO.q2 XX
 generalize lpL (Y.ctx (lim' Y)) 127 = lp
 generalize lim' Y = call
 kernel_rfl
theorem zaO.a2x2 : zaO.A2 zaO.x2 = some ⟨[.v (.int .i64 (-1))], []⟩ := by
 delta zaO.A2 zaO.x2 XX
 generalize lpL (Y.ctx (lim' Y)) 127 = lp
 generalize lim' Y = call
 kernel_rfl
noncomputable def zaN.P3 (y0:Int) (y1 y2:Bool) (y3:Int) (y4:BAy) (y5 y6:LLD) : Option Res := evB XX 129 (lpL XX 129) 3 zaN.c (mkG 1 29 [(0, .one (.p true 0 [] 0)), (5, .one (.v (.int .i64 y0))), (22, .one (.v (.bool y1)))] [(0, some ⟨.ro, [.v (.bool y2), .v (.int .i64 y3), .v (.string y4), .s y5, .s y6], [.sh, .sh, .sh, .sh, .sh]⟩)] GL) (outE XX 129 Tryz.f129)
noncomputable def zaN.P4 (y0:Int) (y1:Bool) (y2:Int) (y3:BAy) (y4 y5:LLD) : Option Res := evB XX 129 (lpL XX 129) 4 zaN.c (mkG 1 29 [(0, .one (.p true 0 [] 0)), (5, .one (.v (.int .i64 y0)))] [(0, some ⟨.ro, [.v (.bool y1), .v (.int .i64 y2), .v (.string y3), .s y4, .s y5], [.sh, .sh, .sh, .sh, .sh]⟩)] GL) (outE XX 129 Tryz.f129)
theorem zaN.e (a0:Bool) (a1:Int) (a2:BAy) (a3 a4:LLD) (a5:BAy) : zaN [.one (.p true 0 [] 0), .one (.v (.string a5))] [⟨.ro, [.v (.bool a0), .v (.int .i64 a1), .v (.string a2), .s a3, .s a4], [.sh, .sh, .sh, .sh, .sh]⟩] = (zab [.one (.s a3), .one (.v (.string a5))] []).bind fun val => bif zae [.int .i64] val.1 && true then bif decide ((val.1.getD 0 .d).int < 0) then zaN.P3 (val.1.getD 0 .d).int true a0 a1 a2 a3 a4 else zaN.P3 (val.1.getD 0 .d).int (decide ((val.1.getD 0 .d).int ≥ (↑a4.length : Int))) a0 a1 a2 a3 a4 else none := by
 refine (zaN.run _ _ (by kernel_rfl)).trans ?_
 delta zaN zab zaN.P3 XX
 refine za3 [3, 4] (by kernel_rfl) fun J e1 => ?_
 try simp only [← e1]
 clear e1
 generalize lpL (Y.ctx (lim' Y)) 129 = lp
 generalize lim' Y = call
 kernel_rfl
theorem zaN.p3 (y0:Int) (y1 y2:Bool) (y3:Int) (y4:BAy) (y5 y6:LLD) : zaN.P3 y0 y1 y2 y3 y4 y5 y6 = bif y1 then some ⟨[.p false 0 [] 0], [⟨.ro, [.v (.bool y2), .v (.int .i64 y3), .v (.string y4), .s y5, .s y6], [.sh, .sh, .sh, .sh, .sh]⟩]⟩ else zaN.P4 y0 y2 y3 y4 y5 y6 := by
 delta zaN.P3 zaN.P4 XX
 refine zaL [3, 4] 3 (by kernel_rfl) fun J e1 => ?_
 try simp only [← e1]
 clear e1
 generalize lpL (Y.ctx (lim' Y)) 129 = lp
 generalize lim' Y = call
 kernel_rfl
theorem zaN.p4 (y0:Int) (y1:Bool) (y2:Int) (y3:BAy) (y4 y5:LLD) : zaN.P4 y0 y1 y2 y3 y4 y5 = bif decide (0 ≤ y0) && decide (y0 < (↑y5.length : Int)) && decide ((y5.getD y0.toNat []).length = 5) then some ⟨[.p true 0 [(4, y0.toNat)] 0], [⟨.ro, [.v (.bool y1), .v (.int .i64 y2), .v (.string y3), .s y4, .s y5], [.sh, .sh, .sh, .sh, .sh]⟩]⟩ else none := by
 delta zaN.P4 XX
 refine zaL [3, 4] 4 (by kernel_rfl) fun J e1 => ?_
 try simp only [← e1]
 clear e1
 generalize lpL (Y.ctx (lim' Y)) 129 = lp
 generalize lim' Y = call
 kernel_rfl
noncomputable def zaa.L3 (y0:LLD) (y1:BAy) (y2 y3 y4:Int) : Option (Ex × St) := lpL XX 130 (zav 3 zaa.c) (mkG 0 54 [(0, .one (.s y0)), (1, .one (.v (.string y1))), (6, .one (.v (.int .i64 y2))), (7, .one (.v (.int .i64 y3))), (8, .one (.v (.int .i64 y4)))] [] GL)
noncomputable def zaa.A3 : Ex × St → Option Res := fun r => evA XX 130 (lpL XX 130) 3 zaa.c r.fst r.snd (outE XX 130 Tryz.f130)
noncomputable def zaa.x3 (y0:LLD) (y1:BAy) (y2 y3:Int) : Ex × St := (Ex.exit 0, mkG 0 54 [(0, .one (.s y0)), (1, .one (.v (.string y1))), (6, .one (.v (.int .i64 y2))), (7, .one (.v (.int .i64 y3)))] [] GL)
theorem zaa.e (a0:LLD) (a1:BAy) : zaa [.one (.s a0), .one (.v (.string a1))] [] = (zaa.L3 a0 a1 (↑a0.length : Int) 0 (↑a0.length : Int)).bind zaa.A3 := by
 refine (zaa.run _ _ (by kernel_rfl)).trans ?_
 delta zaa zaa.L3 zaa.A3 XX
 generalize lpL (Y.ctx (lim' Y)) 130 = lp
 generalize lim' Y = call
 kernel_rfl
theorem zaa.s3 (y0:LLD) (y1:BAy) (y2 y3 y4:Int) : zaa.L3 y0 y1 y2 y3 y4 = bif decide (y3 < y4) then bif decide (0 ≤ IntKind.i64.wrap ((IntKind.u64.wrap (IntKind.i64.wrap (y3 + y4))).fdiv (2 ^ min (Int.toNat 1) IntKind.u64.bits))) && decide (IntKind.i64.wrap ((IntKind.u64.wrap (IntKind.i64.wrap (y3 + y4))).fdiv (2 ^ min (Int.toNat 1) IntKind.u64.bits)) < (↑y0.length : Int)) && decide ((y0.getD (IntKind.i64.wrap ((IntKind.u64.wrap (IntKind.i64.wrap (y3 + y4))).fdiv (2 ^ min (Int.toNat 1) IntKind.u64.bits))).toNat []).length = 1) then bif zaz [.str] (y0.getD (IntKind.i64.wrap ((IntKind.u64.wrap (IntKind.i64.wrap (y3 + y4))).fdiv (2 ^ min (Int.toNat 1) IntKind.u64.bits))).toNat []) 0 && decide (1 ≤ (y0.getD (IntKind.i64.wrap ((IntKind.u64.wrap (IntKind.i64.wrap (y3 + y4))).fdiv (2 ^ min (Int.toNat 1) IntKind.u64.bits))).toNat []).length) then (zaX [.one (.v (.string ((y0.getD (IntKind.i64.wrap ((IntKind.u64.wrap (IntKind.i64.wrap (y3 + y4))).fdiv (2 ^ min (Int.toNat 1) IntKind.u64.bits))).toNat []).getD 0 .h).str)), .one (.v (.string y1))] []).bind fun val => bif zae [.bool] val.1 && true then bif (val.1.getD 0 .d).bool then zaa.L3 y0 y1 y2 (IntKind.i64.wrap (IntKind.i64.wrap ((IntKind.u64.wrap (IntKind.i64.wrap (y3 + y4))).fdiv (2 ^ min (Int.toNat 1) IntKind.u64.bits)) + 1)) y4 else zaa.L3 y0 y1 y2 y3 (IntKind.i64.wrap ((IntKind.u64.wrap (IntKind.i64.wrap (y3 + y4))).fdiv (2 ^ min (Int.toNat 1) IntKind.u64.bits))) else none else none else none else some (zaa.x3 y0 y1 y2 y3) := by
 refine (zbz (Y := Y) (c := lim' Y) (fn := 130) (rid := 3) (b := zav 3 zaa.c) (by kernel_rfl) _).trans ?_
 delta zaa.L3 zaX zaa.x3 XX
 generalize lpL (Y.ctx (lim' Y)) 130 = lp
 generalize lim' Y = call
 kernel_rfl
theorem zaa.a3x3 (y0:LLD) (y1:BAy) (y2 y3:Int) : zaa.A3 (zaa.x3 y0 y1 y2 y3) = bif decide (y3 < y2) then bif decide (0 ≤ y3) && decide (y3 < (↑y0.length : Int)) && decide ((y0.getD y3.toNat []).length = 1) then bif zaz [.str] (y0.getD y3.toNat []) 0 && decide (1 ≤ (y0.getD y3.toNat []).length) then bif ((y0.getD y3.toNat []).getD 0 .h).str.toList == y1.toList then some ⟨[.v (.int .i64 y3), .v (.bool true)], []⟩ else bif decide (0 ≤ y3) && decide (y3 < (↑y0.length : Int)) && decide ((y0.getD y3.toNat []).length = 1) then bif zaz [.str] (y0.getD y3.toNat []) 0 && decide (1 ≤ (y0.getD y3.toNat []).length) then (zaF [.one (.v (.string ((y0.getD y3.toNat []).getD 0 .h).str))] []).bind fun val => bif zae [.bool] val.1 && true then bif (val.1.getD 0 .d).bool then (zaF [.one (.v (.string y1))] []).bind fun val => bif zae [.bool] val.1 && true then some ⟨[.v (.int .i64 y3), .v (.bool (val.1.getD 0 .d).bool)], []⟩ else none else some ⟨[.v (.int .i64 y3), .v (.bool false)], []⟩ else none else none else none else none else none else some ⟨[.v (.int .i64 y3), .v (.bool false)], []⟩ := by
 delta zaa.A3 zaa.x3 zaF XX
 generalize lpL (Y.ctx (lim' Y)) 130 = lp
 generalize lim' Y = call
 kernel_rfl
noncomputable def zaf.P2 (y0:Int) (y1 y2:Bool) (y3:Int) (y4:BAy) (y5 y6:LLD) : Option Res := evB XX 133 (lpL XX 133) 2 zaf.c (mkG 0 77 [(1, .one (.v (.int .i64 y0))), (2, .one (.p true 2 [] 0)), (23, .one (.v (.bool y1)))] [(2, some ⟨.box, [.v (.bool y2), .v (.int .i64 y3), .v (.string y4), .s y5, .s y6], [.deep, .deep, .deep, .sh, .sh]⟩)] GL) (outE XX 133 Tryz.f133)
noncomputable def zaf.P3 (y0:Int) (y1:Bool) (y2:Int) (y3:BAy) (y4 y5:LLD) : Option Res := evB XX 133 (lpL XX 133) 3 zaf.c (mkG 0 77 [(1, .one (.v (.int .i64 y0))), (2, .one (.p true 2 [] 0))] [(2, some ⟨.box, [.v (.bool y1), .v (.int .i64 y2), .v (.string y3), .s y4, .s y5], [.deep, .deep, .deep, .sh, .sh]⟩)] GL) (outE XX 133 Tryz.f133)
noncomputable def zaf.L8 (y0:Int) (y1:LLD) (y2 y3:Int) (y4:Bool) (y5:Int) (y6:BAy) (y7 y8:LLD) : Option (Ex × St) := lpL XX 133 (zav 8 zaf.c) (mkG 0 77 [(1, .one (.v (.int .i64 y0))), (2, .one (.p true 2 [] 0)), (41, .one (.s y1)), (42, .one (.v (.int .i64 y2))), (43, .one (.v (.int .i64 y3)))] [(2, some ⟨.box, [.v (.bool y4), .v (.int .i64 y5), .v (.string y6), .s y7, .s y8], [.deep, .deep, .deep, .sh, .sh]⟩)] GL)
noncomputable def zaf.A8 : Ex × St → Option Res := fun r => evA XX 133 (lpL XX 133) 8 zaf.c r.fst r.snd (outE XX 133 Tryz.f133)
noncomputable def zaf.P11 (y0:Int) (y1:LLD) (y2 y3:Int) (y4 y5:Bool) (y6:Int) (y7:BAy) (y8 y9:LLD) : Option (Ex × St) := evB XX 133 (lpL XX 133) 11 (zav 8 zaf.c) (mkG 0 77 [(1, .one (.v (.int .i64 y0))), (2, .one (.p true 2 [] 0)), (41, .one (.s y1)), (42, .one (.v (.int .i64 y2))), (43, .one (.v (.int .i64 y3))), (75, .one (.v (.bool y4)))] [(2, some ⟨.box, [.v (.bool y5), .v (.int .i64 y6), .v (.string y7), .s y8, .s y9], [.deep, .deep, .deep, .sh, .sh]⟩)] GL) (backL (lpL XX 133) (zav 8 zaf.c) (XX.live 133 8))
noncomputable def zaf.x8 : Ex × St := (Ex.exit 0, mkG 0 77 [] [] GL)
noncomputable def zaf.q8 (y0:Bool) : Ex × St := (Ex.ret, mkG 0 77 [(4, .one (.v (.bool y0)))] [] GL)
theorem zaf.e (a0:Bool) (a1:Int) (a2:BAy) (a3 a4:LLD) (a5:Int) : zaf [.g [.v (.bool a0), .v (.int .i64 a1), .v (.string a2), .s a3, .s a4], .one (.v (.int .i64 a5))] [] = (zcG [.one (.v (.int .i64 a1))] []).bind fun val => bif zae [.bool] val.1 && true then bif !(val.1.getD 0 .d).bool then zaf.P2 a5 true a0 a1 a2 a3 a4 else bif decide (a5 > 4) then zaf.P2 a5 true a0 a1 a2 a3 a4 else zaf.P2 a5 ((↑a3.length : Int) != (↑a4.length : Int)) a0 a1 a2 a3 a4 else none := by
 refine (zaf.run _ _ (by kernel_rfl)).trans ?_
 delta zaf zcG zaf.P2 XX
 refine za3 [2, 3] (by kernel_rfl) fun J e1 => ?_
 try simp only [← e1]
 clear e1
 generalize lpL (Y.ctx (lim' Y)) 133 = lp
 generalize lim' Y = call
 kernel_rfl
theorem zaf.p2 (y0:Int) (y1 y2:Bool) (y3:Int) (y4:BAy) (y5 y6:LLD) : zaf.P2 y0 y1 y2 y3 y4 y5 y6 = bif y1 then some ⟨[.v (.bool false)], []⟩ else zaf.P3 y0 y2 y3 y4 y5 y6 := by
 delta zaf.P2 zaf.P3 XX
 refine zaL [2, 3] 2 (by kernel_rfl) fun J e1 => ?_
 try simp only [← e1]
 clear e1
 generalize lpL (Y.ctx (lim' Y)) 133 = lp
 generalize lim' Y = call
 kernel_rfl
theorem zaf.p3 (y0:Int) (y1:Bool) (y2:Int) (y3:BAy) (y4 y5:LLD) : zaf.P3 y0 y1 y2 y3 y4 y5 = bif !y1 then bif decide ((↑y3.size : Int) ≤ 24) then some ⟨[.v (.bool ((↑y4.length : Int) == 0))], []⟩ else some ⟨[.v (.bool false)], []⟩ else bif !y3.toList == [] then some ⟨[.v (.bool false)], []⟩ else (zaf.L8 y0 y4 (↑y4.length : Int) 0 y1 y2 y3 y4 y5).bind zaf.A8 := by
 delta zaf.P3 zaf.L8 zaf.A8 XX
 refine zaL [2, 3] 3 (by kernel_rfl) fun J e1 => ?_
 have eA := evA_J [2, 3] 8 (by kernel_rfl) e1
 try simp only [eA]
 clear eA
 try simp only [← e1]
 clear e1
 show _ = _
 generalize lpL (Y.ctx (lim' Y)) 133 = lp
 generalize lim' Y = call
 kernel_rfl
theorem zaf.s8 (y0:Int) (y1:LLD) (y2 y3:Int) (y4:Bool) (y5:Int) (y6:BAy) (y7 y8:LLD) : zaf.L8 y0 y1 y2 y3 y4 y5 y6 y7 y8 = bif decide (y3 < y2) then bif decide (0 ≤ y3) && decide (y3 < (↑y1.length : Int)) && decide ((y1.getD y3.toNat []).length = 1) then bif zaz [.str] (y1.getD y3.toNat []) 0 && decide (1 ≤ (y1.getD y3.toNat []).length) then (zaD [.one (.v (.string ((y1.getD y3.toNat []).getD 0 .h).str))] []).bind fun val => bif zae [.bool] val.1 && true then bif !(val.1.getD 0 .d).bool then zaf.P11 y0 y1 y2 y3 true y4 y5 y6 y7 y8 else bif decide (y3 > 0) then bif decide (0 ≤ IntKind.i64.wrap (y3 - 1)) && decide (IntKind.i64.wrap (y3 - 1) < (↑y7.length : Int)) && decide ((y7.getD (IntKind.i64.wrap (y3 - 1)).toNat []).length = 1) then bif zaz [.str] (y7.getD (IntKind.i64.wrap (y3 - 1)).toNat []) 0 && decide (1 ≤ (y7.getD (IntKind.i64.wrap (y3 - 1)).toNat []).length) then bif !Op.bytesLess ((y7.getD (IntKind.i64.wrap (y3 - 1)).toNat []).getD 0 .h).str.toList ((y1.getD y3.toNat []).getD 0 .h).str.toList then zaf.P11 y0 y1 y2 y3 true y4 y5 y6 y7 y8 else bif decide (0 ≤ y3) && decide (y3 < (↑y8.length : Int)) && decide ((y8.getD y3.toNat []).length = 5) then bif zaz [.bool, .int .i64, .str, .sl, .sl] (y8.getD y3.toNat []) 0 && decide (5 ≤ (y8.getD y3.toNat []).length) then (zaf [.g [.v (.bool ((y8.getD y3.toNat []).getD 0 .h).bool), .v (.int .i64 ((y8.getD y3.toNat []).getD 1 .h).int), .v (.string ((y8.getD y3.toNat []).getD 2 .h).str), .s ((y8.getD y3.toNat []).getD 3 .h).es, .s ((y8.getD y3.toNat []).getD 4 .h).es], .one (.v (.int .i64 (IntKind.i64.wrap (y0 + 1))))] []).bind fun val => bif zae [.bool] val.1 && true then zaf.P11 y0 y1 y2 y3 (!(val.1.getD 0 .d).bool) y4 y5 y6 y7 y8 else none else none else none else none else none else bif decide (0 ≤ y3) && decide (y3 < (↑y8.length : Int)) && decide ((y8.getD y3.toNat []).length = 5) then bif zaz [.bool, .int .i64, .str, .sl, .sl] (y8.getD y3.toNat []) 0 && decide (5 ≤ (y8.getD y3.toNat []).length) then (zaf [.g [.v (.bool ((y8.getD y3.toNat []).getD 0 .h).bool), .v (.int .i64 ((y8.getD y3.toNat []).getD 1 .h).int), .v (.string ((y8.getD y3.toNat []).getD 2 .h).str), .s ((y8.getD y3.toNat []).getD 3 .h).es, .s ((y8.getD y3.toNat []).getD 4 .h).es], .one (.v (.int .i64 (IntKind.i64.wrap (y0 + 1))))] []).bind fun val => bif zae [.bool] val.1 && true then zaf.P11 y0 y1 y2 y3 (!(val.1.getD 0 .d).bool) y4 y5 y6 y7 y8 else none else none else none else none else none else none else some zaf.x8 := by
 refine (zbz (Y := Y) (c := lim' Y) (fn := 133) (rid := 8) (b := zav 8 zaf.c) (by kernel_rfl) _).trans ?_
 delta zaf.L8 zaD zaf.P11 zaf zaf.x8 XX
 refine za3 [11] (by kernel_rfl) fun J e1 => ?_
 try simp only [← e1]
 clear e1
 generalize lpL (Y.ctx (lim' Y)) 133 = lp
 generalize lim' Y = call
 kernel_rfl
theorem zaf.p11 (y0:Int) (y1:LLD) (y2 y3:Int) (y4 y5:Bool) (y6:Int) (y7:BAy) (y8 y9:LLD) : zaf.P11 y0 y1 y2 y3 y4 y5 y6 y7 y8 y9 = bif y4 then some (zaf.q8 false) else zaf.L8 y0 y1 y2 (IntKind.i64.wrap (y3 + 1)) y5 y6 y7 y8 y9 := by
 delta zaf.P11 zaf.q8 zaf.L8 XX
 refine zaL [11] 11 (by kernel_rfl) fun J e1 => ?_
 try simp only [← e1]
 clear e1
 generalize lpL (Y.ctx (lim' Y)) 133 = lp
 generalize lim' Y = call
 kernel_rfl
theorem zaf.a8x8 : zaf.A8 zaf.x8 = some ⟨[.v (.bool true)], []⟩ := by
 delta zaf.A8 zaf.x8 XX
 refine zbe [2, 3] 8 (by kernel_rfl) fun J e1 => ?_
 have eA := evA_J [2, 3] 8 (by kernel_rfl) e1
 try simp only [eA]
 clear eA
 try simp only [← e1]
 clear e1
 show _ = _
 generalize lpL (Y.ctx (lim' Y)) 133 = lp
 generalize lim' Y = call
 kernel_rfl
theorem zaf.a8q8 (y0:Bool) : zaf.A8 (zaf.q8 y0) = some ⟨[.v (.bool y0)], []⟩ := by
 delta zaf.A8 zaf.q8 XX
 refine zbe [2, 3] 8 (by kernel_rfl) fun J e1 => ?_
 have eA := evA_J [2, 3] 8 (by kernel_rfl) e1
 try simp only [eA]
 clear eA
 try simp only [← e1]
 clear e1
 show _ = _
 generalize lpL (Y.ctx (lim' Y)) 133 = lp
 generalize lim' Y = call
 kernel_rfl
noncomputable def zat.L3 (y0:Int) (y1:LLD) (y2 y3:Int) : Option (Ex × St) := lpL XX 134 (zav 3 zat.c) (mkG 0 19 [(3, .one (.v (.int .i64 y0))), (7, .one (.s y1)), (8, .one (.v (.int .i64 y2))), (9, .one (.v (.int .i64 y3)))] [] GL)
noncomputable def zat.A3 : Ex × St → Option Res := fun r => evA XX 134 (lpL XX 134) 3 zat.c r.fst r.snd (outE XX 134 Tryz.f134)
noncomputable def zat.x3 (y0:Int) : Ex × St := (Ex.exit 0, mkG 0 19 [(3, .one (.v (.int .i64 y0)))] [] GL)
theorem zat.e (a0:Bool) (a1:Int) (a2:BAy) (a3 a4:LLD) : zat [.g [.v (.bool a0), .v (.int .i64 a1), .v (.string a2), .s a3, .s a4]] [] = (zat.L3 1 a4 (↑a4.length : Int) 0).bind zat.A3 := by
 refine (zat.run _ _ (by kernel_rfl)).trans ?_
 delta zat zat.L3 zat.A3 XX
 generalize lpL (Y.ctx (lim' Y)) 134 = lp
 generalize lim' Y = call
 kernel_rfl
theorem zat.s3 (y0:Int) (y1:LLD) (y2 y3:Int) : zat.L3 y0 y1 y2 y3 = bif decide (y3 < y2) then bif decide (0 ≤ y3) && decide (y3 < (↑y1.length : Int)) && decide ((y1.getD y3.toNat []).length = 5) then bif zaz [.bool, .int .i64, .str, .sl, .sl] (y1.getD y3.toNat []) 0 && decide (5 ≤ (y1.getD y3.toNat []).length) then (zat [.g [.v (.bool ((y1.getD y3.toNat []).getD 0 .h).bool), .v (.int .i64 ((y1.getD y3.toNat []).getD 1 .h).int), .v (.string ((y1.getD y3.toNat []).getD 2 .h).str), .s ((y1.getD y3.toNat []).getD 3 .h).es, .s ((y1.getD y3.toNat []).getD 4 .h).es]] []).bind fun val => bif zae [.int .i64] val.1 && true then zat.L3 (IntKind.i64.wrap (y0 + (val.1.getD 0 .d).int)) y1 y2 (IntKind.i64.wrap (y3 + 1)) else none else none else none else some (zat.x3 y0) := by
 refine (zbz (Y := Y) (c := lim' Y) (fn := 134) (rid := 3) (b := zav 3 zat.c) (by kernel_rfl) _).trans ?_
 delta zat.L3 zat zat.x3 XX
 generalize lpL (Y.ctx (lim' Y)) 134 = lp
 generalize lim' Y = call
 kernel_rfl
theorem zat.a3x3 (y0:Int) : zat.A3 (zat.x3 y0) = some ⟨[.v (.int .i64 y0)], []⟩ := by
 delta zat.A3 zat.x3 XX
 generalize lpL (Y.ctx (lim' Y)) 134 = lp
 generalize lim' Y = call
 kernel_rfl
noncomputable def iTree_each_show.L3 (y0 y1:LLD) (y2 y3:Int) (y4:BAy) (y5:Bool) (y6:Int) (y7:BAy) (y8 y9:LLD) : Option (Ex × St) := lpL XX 135 (zav 3 za9.c) (mkG 1 31 [(1, .one (.s y0)), (2, .f zaJ.id [.bx [A0.p true 0 [] 0] 0]), (3, .one (.p true 4 [] 0)), (13, .one (.s y1)), (14, .one (.v (.int .i64 y2))), (15, .one (.v (.int .i64 y3)))] [(0, some ⟨.bld 170 5, [.v (.string y4), .h], [.deep, .deep]⟩), (4, some ⟨.box, [.v (.bool y5), .v (.int .i64 y6), .v (.string y7), .s y8, .s y9], [.deep, .deep, .deep, .sh, .sh]⟩)] GL)
noncomputable def iTree_each_show.A3 : Ex × St → Option Res := fun r => evA XX 135 (lpL XX 135) 3 za9.c r.fst r.snd (outE XX 135 Tryz.f135)
noncomputable def iTree_each_show.x3 (y0:BAy) : Ex × St := (Ex.exit 0, mkG 1 31 [] [(0, some ⟨.bld 170 5, [.v (.string y0), .h], [.deep, .deep]⟩)] GL)
theorem iTree_each_show.e (a0:Bool) (a1:Int) (a2:BAy) (a3 a4 a5:LLD) (b:BAy) : za9 [.g [.v (.bool a0), .v (.int .i64 a1), .v (.string a2), .s a3, .s a4], .one (.s a5), .f zaJ.id [.bx [A0.p true 0 [] 0] 0]] [⟨.bld 170 5, [.v (.string b), .h], [.deep, .deep]⟩] = (zaJ [.one (.s a5), .g [.v (.bool a0), .v (.int .i64 a1), .v (.string a2), .s a3, .s a4], .one (.bx [A0.p true 0 [] 0] 0)] [⟨.bld 170 5, [.v (.string b), .h], [.deep, .deep]⟩]).bind fun val => bif zae [] val.1 && za2 [⟨⟨.bld 170 5, [.v (.string b), .h], [.deep, .deep]⟩, .box 0⟩] val.2 then (iTree_each_show.L3 a5 a3 (↑a3.length : Int) 0 ((val.2.getD 0 ⟨.ro, [], []⟩).2.getD 0 .h).str a0 a1 a2 a3 a4).bind iTree_each_show.A3 else none := by
 refine (za9.run _ _ (by kernel_rfl)).trans ?_
 delta za9 zaJ iTree_each_show.L3 iTree_each_show.A3 zaJ.id XX
 generalize lpL (Y.ctx (lim' Y)) 135 = lp
 generalize lim' Y = call
 kernel_rfl
theorem iTree_each_show.s3 (y0 y1:LLD) (y2 y3:Int) (y4:BAy) (y5:Bool) (y6:Int) (y7:BAy) (y8 y9:LLD) : iTree_each_show.L3 y0 y1 y2 y3 y4 y5 y6 y7 y8 y9 = bif decide (y3 < y2) then bif decide (0 ≤ y3) && decide (y3 < (↑y1.length : Int)) && decide ((y1.getD y3.toNat []).length = 1) then bif zaz [.str] (y1.getD y3.toNat []) 0 && decide (1 ≤ (y1.getD y3.toNat []).length) then bif decide (0 ≤ y3) && decide (y3 < (↑y9.length : Int)) && decide ((y9.getD y3.toNat []).length = 5) then bif zaz [.bool, .int .i64, .str, .sl, .sl] (y9.getD y3.toNat []) 0 && decide (5 ≤ (y9.getD y3.toNat []).length) then (zdF [.one (.s y0), .one (.v (.string ((y1.getD y3.toNat []).getD 0 .h).str))] []).bind fun val => bif zae [.own .deep] val.1 && true then (za9 [.g [.v (.bool ((y9.getD y3.toNat []).getD 0 .h).bool), .v (.int .i64 ((y9.getD y3.toNat []).getD 1 .h).int), .v (.string ((y9.getD y3.toNat []).getD 2 .h).str), .s ((y9.getD y3.toNat []).getD 3 .h).es, .s ((y9.getD y3.toNat []).getD 4 .h).es], .one (.s (val.1.getD 0 .d).es), .f zaJ.id [.bx [A0.p true 0 [] 0] 0]] [⟨.bld 170 5, [.v (.string y4), .h], [.deep, .deep]⟩]).bind fun val => bif zae [] val.1 && za2 [⟨⟨.bld 170 5, [.v (.string y4), .h], [.deep, .deep]⟩, .box 0⟩] val.2 then iTree_each_show.L3 y0 y1 y2 (IntKind.i64.wrap (y3 + 1)) ((val.2.getD 0 ⟨.ro, [], []⟩).2.getD 0 .h).str y5 y6 y7 y8 y9 else none else none else none else none else none else none else some (iTree_each_show.x3 y4) := by
 refine (zbz (Y := Y) (c := lim' Y) (fn := 135) (rid := 3) (b := zav 3 za9.c) (by kernel_rfl) _).trans ?_
 delta iTree_each_show.L3 zdF za9 iTree_each_show.x3 zaJ.id XX
 generalize lpL (Y.ctx (lim' Y)) 135 = lp
 generalize lim' Y = call
 kernel_rfl
theorem iTree_each_show.a3x3 (y0:BAy) : iTree_each_show.A3 (iTree_each_show.x3 y0) = some ⟨[], [⟨.bld 170 5, [.v (.string y0), .h], [.deep, .deep]⟩]⟩ := by
 delta iTree_each_show.A3 iTree_each_show.x3 XX
 generalize lpL (Y.ctx (lim' Y)) 135 = lp
 generalize lim' Y = call
 kernel_rfl
noncomputable def zaq.P2 (y0:Int) (y1 y2:Bool) (y3:Int) (y4:BAy) (y5 y6:LLD) : Option Res := evB XX 138 (lpL XX 138) 2 zaq.c (mkG 0 29 [(1, .one (.v (.int .i64 y0))), (2, .one (.p true 2 [] 0)), (12, .one (.v (.bool y1)))] [(2, some ⟨.box, [.v (.bool y2), .v (.int .i64 y3), .v (.string y4), .s y5, .s y6], [.deep, .deep, .deep, .sh, .sh]⟩)] GL) (outE XX 138 Tryz.f138)
noncomputable def zaq.P3 (y0:Int) (y1:Bool) (y2:Int) (y3:BAy) (y4 y5:LLD) : Option Res := evB XX 138 (lpL XX 138) 3 zaq.c (mkG 0 29 [(1, .one (.v (.int .i64 y0))), (2, .one (.p true 2 [] 0))] [(2, some ⟨.box, [.v (.bool y1), .v (.int .i64 y2), .v (.string y3), .s y4, .s y5], [.deep, .deep, .deep, .sh, .sh]⟩)] GL) (outE XX 138 Tryz.f138)
noncomputable def zaq.L4 (y0 y1:Int) (y2:Bool) (y3:Int) (y4:BAy) (y5 y6:LLD) : Option (Ex × St) := lpL XX 138 (zav 4 zaq.c) (mkG 0 29 [(1, .one (.v (.int .i64 y0))), (2, .one (.p true 2 [] 0)), (5, .one (.v (.int .i64 y1)))] [(2, some ⟨.box, [.v (.bool y2), .v (.int .i64 y3), .v (.string y4), .s y5, .s y6], [.deep, .deep, .deep, .sh, .sh]⟩)] GL)
noncomputable def zaq.A4 : Ex × St → Option Res := fun r => evA XX 138 (lpL XX 138) 4 zaq.c r.fst r.snd (outE XX 138 Tryz.f138)
noncomputable def zaq.q4 (y0:Bool) : Ex × St := (Ex.ret, mkG 0 29 [(4, .one (.v (.bool y0)))] [] GL)
noncomputable def zaq.x4 : Ex × St := (Ex.exit 0, mkG 0 29 [] [] GL)
theorem zaq.e (a0:Bool) (a1:Int) (a2:BAy) (a3 a4:LLD) (a5:Int) : zaq [.g [.v (.bool a0), .v (.int .i64 a1), .v (.string a2), .s a3, .s a4], .one (.v (.int .i64 a5))] [] = (zal [.g [.v (.bool a0), .v (.int .i64 a1), .v (.string a2), .s a3, .s a4]] []).bind fun val => bif zae [.bool] val.1 && true then bif !(val.1.getD 0 .d).bool then zaq.P2 a5 true a0 a1 a2 a3 a4 else zaq.P2 a5 (decide (a5 > 4)) a0 a1 a2 a3 a4 else none := by
 refine (zaq.run _ _ (by kernel_rfl)).trans ?_
 delta zaq zal zaq.P2 XX
 refine za3 [2, 3] (by kernel_rfl) fun J e1 => ?_
 try simp only [← e1]
 clear e1
 generalize lpL (Y.ctx (lim' Y)) 138 = lp
 generalize lim' Y = call
 kernel_rfl
theorem zaq.p2 (y0:Int) (y1 y2:Bool) (y3:Int) (y4:BAy) (y5 y6:LLD) : zaq.P2 y0 y1 y2 y3 y4 y5 y6 = bif y1 then some ⟨[.v (.bool false)], []⟩ else zaq.P3 y0 y2 y3 y4 y5 y6 := by
 delta zaq.P2 zaq.P3 XX
 refine zaL [2, 3] 2 (by kernel_rfl) fun J e1 => ?_
 try simp only [← e1]
 clear e1
 generalize lpL (Y.ctx (lim' Y)) 138 = lp
 generalize lim' Y = call
 kernel_rfl
theorem zaq.p3 (y0:Int) (y1:Bool) (y2:Int) (y3:BAy) (y4 y5:LLD) : zaq.P3 y0 y1 y2 y3 y4 y5 = (zaq.L4 y0 0 y1 y2 y3 y4 y5).bind zaq.A4 := by
 delta zaq.P3 zaq.L4 zaq.A4 XX
 refine zaL [2, 3] 3 (by kernel_rfl) fun J e1 => ?_
 have eA := evA_J [2, 3] 4 (by kernel_rfl) e1
 try simp only [eA]
 clear eA
 try simp only [← e1]
 clear e1
 show _ = _
 generalize lpL (Y.ctx (lim' Y)) 138 = lp
 generalize lim' Y = call
 kernel_rfl
theorem zaq.s4 (y0 y1:Int) (y2:Bool) (y3:Int) (y4:BAy) (y5 y6:LLD) : zaq.L4 y0 y1 y2 y3 y4 y5 y6 = bif decide (y1 < (↑y6.length : Int)) then bif decide (0 ≤ y1) && decide (y1 < (↑y6.length : Int)) && decide ((y6.getD y1.toNat []).length = 5) then bif zaz [.bool, .int .i64, .str, .sl, .sl] (y6.getD y1.toNat []) 0 && decide (5 ≤ (y6.getD y1.toNat []).length) then (zaq [.g [.v (.bool ((y6.getD y1.toNat []).getD 0 .h).bool), .v (.int .i64 ((y6.getD y1.toNat []).getD 1 .h).int), .v (.string ((y6.getD y1.toNat []).getD 2 .h).str), .s ((y6.getD y1.toNat []).getD 3 .h).es, .s ((y6.getD y1.toNat []).getD 4 .h).es], .one (.v (.int .i64 (IntKind.i64.wrap (y0 + 1))))] []).bind fun val => bif zae [.bool] val.1 && true then bif !(val.1.getD 0 .d).bool then some (zaq.q4 false) else zaq.L4 y0 (IntKind.i64.wrap (y1 + 1)) y2 y3 y4 y5 y6 else none else none else none else some zaq.x4 := by
 refine (zbz (Y := Y) (c := lim' Y) (fn := 138) (rid := 4) (b := zav 4 zaq.c) (by kernel_rfl) _).trans ?_
 delta zaq.L4 zaq zaq.q4 zaq.x4 XX
 generalize lpL (Y.ctx (lim' Y)) 138 = lp
 generalize lim' Y = call
 kernel_rfl
theorem zaq.a4q4 (y0:Bool) : zaq.A4 (zaq.q4 y0) = some ⟨[.v (.bool y0)], []⟩ := by
 delta zaq.A4 zaq.q4 XX
 refine zbe [2, 3] 4 (by kernel_rfl) fun J e1 => ?_
 have eA := evA_J [2, 3] 4 (by kernel_rfl) e1
 try simp only [eA]
 clear eA
 try simp only [← e1]
 clear e1
 show _ = _
 generalize lpL (Y.ctx (lim' Y)) 138 = lp
 generalize lim' Y = call
 kernel_rfl
theorem zaq.a4x4 : zaq.A4 zaq.x4 = some ⟨[.v (.bool true)], []⟩ := by
 delta zaq.A4 zaq.x4 XX
 refine zbe [2, 3] 4 (by kernel_rfl) fun J e1 => ?_
 have eA := evA_J [2, 3] 4 (by kernel_rfl) e1
 try simp only [eA]
 clear eA
 try simp only [← e1]
 clear e1
 show _ = _
 generalize lpL (Y.ctx (lim' Y)) 138 = lp
 generalize lim' Y = call
 kernel_rfl
noncomputable def zaK.L3 (y0 y1:Int) (y2:Bool) (y3:Int) (y4:BAy) (y5 y6:LLD) : Option (Ex × St) := lpL XX 139 (zav 3 zaK.c) (mkG 0 24 [(1, .one (.p true 1 [] 0)), (3, .one (.v (.int .i64 y0))), (4, .one (.v (.int .i64 y1)))] [(1, some ⟨.box, [.v (.bool y2), .v (.int .i64 y3), .v (.string y4), .s y5, .s y6], [.deep, .deep, .deep, .sh, .sh]⟩)] GL)
noncomputable def zaK.A3 : Ex × St → Option Res := fun r => evA XX 139 (lpL XX 139) 3 zaK.c r.fst r.snd (outE XX 139 Tryz.f139)
noncomputable def zaK.x3 (y0:Int) : Ex × St := (Ex.exit 0, mkG 0 24 [(3, .one (.v (.int .i64 y0)))] [] GL)
theorem zaK.e (a0:Bool) (a1:Int) (a2:BAy) (a3 a4:LLD) : zaK [.g [.v (.bool a0), .v (.int .i64 a1), .v (.string a2), .s a3, .s a4]] [] = (zaK.L3 (↑a4.length : Int) 0 a0 a1 a2 a3 a4).bind zaK.A3 := by
 refine (zaK.run _ _ (by kernel_rfl)).trans ?_
 delta zaK zaK.L3 zaK.A3 XX
 generalize lpL (Y.ctx (lim' Y)) 139 = lp
 generalize lim' Y = call
 kernel_rfl
theorem zaK.s3 (y0 y1:Int) (y2:Bool) (y3:Int) (y4:BAy) (y5 y6:LLD) : zaK.L3 y0 y1 y2 y3 y4 y5 y6 = bif decide (y1 < (↑y6.length : Int)) then bif decide (0 ≤ y1) && decide (y1 < (↑y6.length : Int)) && decide ((y6.getD y1.toNat []).length = 5) then bif zaz [.bool, .int .i64, .str, .sl, .sl] (y6.getD y1.toNat []) 0 && decide (5 ≤ (y6.getD y1.toNat []).length) then (zaK [.g [.v (.bool ((y6.getD y1.toNat []).getD 0 .h).bool), .v (.int .i64 ((y6.getD y1.toNat []).getD 1 .h).int), .v (.string ((y6.getD y1.toNat []).getD 2 .h).str), .s ((y6.getD y1.toNat []).getD 3 .h).es, .s ((y6.getD y1.toNat []).getD 4 .h).es]] []).bind fun val => bif zae [.int .i64] val.1 && true then zaK.L3 (IntKind.i64.wrap (y0 + (val.1.getD 0 .d).int)) (IntKind.i64.wrap (y1 + 1)) y2 y3 y4 y5 y6 else none else none else none else some (zaK.x3 y0) := by
 refine (zbz (Y := Y) (c := lim' Y) (fn := 139) (rid := 3) (b := zav 3 zaK.c) (by kernel_rfl) _).trans ?_
 delta zaK.L3 zaK zaK.x3 XX
 generalize lpL (Y.ctx (lim' Y)) 139 = lp
 generalize lim' Y = call
 kernel_rfl
theorem zaK.a3x3 (y0:Int) : zaK.A3 (zaK.x3 y0) = some ⟨[.v (.int .i64 y0)], []⟩ := by
 delta zaK.A3 zaK.x3 XX
 generalize lpL (Y.ctx (lim' Y)) 139 = lp
 generalize lim' Y = call
 kernel_rfl
noncomputable def zak.P5 (y0:BAy) (y1:Bool) (y2:LLD) : Option Res := evB XX 146 (lpL XX 146) 5 zak.c (mkG 0 50 [(0, .one (.v (.string y0))), (4, .one (.r 4 [] 0)), (18, .one (.v (.bool y1)))] [(4, some ⟨.virt, [.s y2], [.deep]⟩)] GL) (outE XX 146 Tryz.f146)
noncomputable def zak.P6 (y0:BAy) (y1:LLD) : Option Res := evB XX 146 (lpL XX 146) 6 zak.c (mkG 0 50 [(0, .one (.v (.string y0))), (4, .one (.r 4 [] 0))] [(4, some ⟨.virt, [.s y1], [.deep]⟩)] GL) (outE XX 146 Tryz.f146)
noncomputable def zak.L7 (y0:BAy) (y1:Int) (y2:LLD) : Option (Ex × St) := lpL XX 146 (zav 7 zak.c) (mkG 0 50 [(0, .one (.v (.string y0))), (4, .one (.r 4 [] 0)), (5, .one (.v (.int .i64 y1)))] [(4, some ⟨.virt, [.s y2], [.deep]⟩)] GL)
noncomputable def zak.A7 : Ex × St → Option Res := fun r => evA XX 146 (lpL XX 146) 7 zak.c r.fst r.snd (outE XX 146 Tryz.f146)
noncomputable def zak.P12 (y0:BAy) (y1 y2 y3:Int) (y4:Bool) (y5:LLD) : Option (Ex × St) := evB XX 146 (lpL XX 146) 12 (zav 7 zak.c) (mkG 0 50 [(0, .one (.v (.string y0))), (4, .one (.r 4 [] 0)), (5, .one (.v (.int .i64 y1))), (6, .one (.v (.int .i64 y2))), (7, .one (.v (.int .i64 y3))), (39, .one (.v (.bool y4)))] [(4, some ⟨.virt, [.s y5], [.deep]⟩)] GL) (backL (lpL XX 146) (zav 7 zak.c) (XX.live 146 7))
noncomputable def zak.x7 (y0:LLD) : Ex × St := (Ex.exit 0, mkG 0 50 [(4, .one (.r 4 [] 0))] [(4, some ⟨.virt, [.s y0], [.deep]⟩)] GL)
noncomputable def zak.q7 (y0:BAy) (y1:Bool) (y2:LLD) : Ex × St := (Ex.ret, mkG 0 50 [(2, .one (.v (.string y0))), (3, .one (.v (.bool y1))), (4, .one (.r 4 [] 0))] [(4, some ⟨.virt, [.s y2], [.deep]⟩)] GL)
noncomputable def zak.P13 (y0:BAy) (y1 y2 y3:Int) (y4:LLD) : Option (Ex × St) := evB XX 146 (lpL XX 146) 13 (zav 7 zak.c) (mkG 0 50 [(0, .one (.v (.string y0))), (4, .one (.r 4 [] 0)), (5, .one (.v (.int .i64 y1))), (6, .one (.v (.int .i64 y2))), (7, .one (.v (.int .i64 y3)))] [(4, some ⟨.virt, [.s y4], [.deep]⟩)] GL) (backL (lpL XX 146) (zav 7 zak.c) (XX.live 146 7))
theorem zak.e (a0:BAy) : zak [.one (.v (.string a0))] [] = bif a0.toList == [(ByteArray.mk #[45]).get! 0] then some ⟨[.v (.string (ByteArray.mk #[])), .v (.bool true)], []⟩ else bif (↑a0.size : Int).tmod 2 == 1 then zak.P5 a0 true [] else zak.P5 a0 (a0.toList == []) [] := by
 refine (zak.run _ _ (by kernel_rfl)).trans ?_
 delta zak zak.P5 XX
 refine za3 [5, 6] (by kernel_rfl) fun J e1 => ?_
 try simp only [← e1]
 clear e1
 generalize lpL (Y.ctx (lim' Y)) 146 = lp
 generalize lim' Y = call
 kernel_rfl
theorem zak.p5 (y0:BAy) (y1:Bool) (y2:LLD) : zak.P5 y0 y1 y2 = bif y1 then some ⟨[.v (.string (ByteArray.mk #[])), .v (.bool false)], []⟩ else zak.P6 y0 y2 := by
 delta zak.P5 zak.P6 XX
 refine zaL [5, 6] 5 (by kernel_rfl) fun J e1 => ?_
 try simp only [← e1]
 clear e1
 generalize lpL (Y.ctx (lim' Y)) 146 = lp
 generalize lim' Y = call
 kernel_rfl
theorem zak.p6 (y0:BAy) (y1:LLD) : zak.P6 y0 y1 = (zak.L7 y0 0 y1).bind zak.A7 := by
 delta zak.P6 zak.L7 zak.A7 XX
 refine zaL [5, 6] 6 (by kernel_rfl) fun J e1 => ?_
 have eA := evA_J [5, 6] 7 (by kernel_rfl) e1
 try simp only [eA]
 clear eA
 try simp only [← e1]
 clear e1
 show _ = _
 generalize lpL (Y.ctx (lim' Y)) 146 = lp
 generalize lim' Y = call
 kernel_rfl
theorem zak.s7 (y0:BAy) (y1:Int) (y2:LLD) : zak.L7 y0 y1 y2 = bif decide (y1 < (↑y0.size : Int)) then bif decide (0 ≤ y1) && decide (y1 < (↑y0.size : Int)) then (zaZ [.one (.v (.int .u8 (zaS y0 y1.toNat)))] []).bind fun val => bif zae [.int .i64] val.1 && true then bif decide (0 ≤ IntKind.i64.wrap (y1 + 1)) && decide (IntKind.i64.wrap (y1 + 1) < (↑y0.size : Int)) then (zaZ [.one (.v (.int .u8 (zaS y0 (IntKind.i64.wrap (y1 + 1)).toNat)))] []).bind fun val_1 => bif zae [.int .i64] val_1.1 && true then bif decide ((val.1.getD 0 .d).int > 15) then zak.P12 y0 y1 (val.1.getD 0 .d).int (val_1.1.getD 0 .d).int true y2 else zak.P12 y0 y1 (val.1.getD 0 .d).int (val_1.1.getD 0 .d).int (decide ((val_1.1.getD 0 .d).int > 15)) y2 else none else none else none else none else some (zak.x7 y2) := by
 refine (zbz (Y := Y) (c := lim' Y) (fn := 146) (rid := 7) (b := zav 7 zak.c) (by kernel_rfl) _).trans ?_
 delta zak.L7 zaZ zak.P12 zak.x7 XX
 refine za3 [12, 13] (by kernel_rfl) fun J e1 => ?_
 try simp only [← e1]
 clear e1
 generalize lpL (Y.ctx (lim' Y)) 146 = lp
 generalize lim' Y = call
 kernel_rfl
theorem zak.p12 (y0:BAy) (y1 y2 y3:Int) (y4:Bool) (y5:LLD) : zak.P12 y0 y1 y2 y3 y4 y5 = bif y4 then some (zak.q7 (ByteArray.mk #[]) false y5) else zak.P13 y0 y1 y2 y3 y5 := by
 delta zak.P12 zak.q7 zak.P13 XX
 refine zaL [12, 13] 12 (by kernel_rfl) fun J e1 => ?_
 try simp only [← e1]
 clear e1
 generalize lpL (Y.ctx (lim' Y)) 146 = lp
 generalize lim' Y = call
 kernel_rfl
theorem zak.a7x7 (y0:LLD) : zak.A7 (zak.x7 y0) = bif zeA y0 then some ⟨[.v (.string (strOf y0)), .v (.bool true)], []⟩ else none := by
 delta zak.A7 zak.x7 XX
 refine zbe [5, 6] 7 (by kernel_rfl) fun J e1 => ?_
 have eA := evA_J [5, 6] 7 (by kernel_rfl) e1
 try simp only [eA]
 clear eA
 try simp only [← e1]
 clear e1
 show _ = _
 generalize lpL (Y.ctx (lim' Y)) 146 = lp
 generalize lim' Y = call
 kernel_rfl
theorem zak.a7q7 (y0:BAy) (y1:Bool) (y2:LLD) : zak.A7 (zak.q7 y0 y1 y2) = some ⟨[.v (.string y0), .v (.bool y1)], []⟩ := by
 delta zak.A7 zak.q7 XX
 refine zbe [5, 6] 7 (by kernel_rfl) fun J e1 => ?_
 have eA := evA_J [5, 6] 7 (by kernel_rfl) e1
 try simp only [eA]
 clear eA
 try simp only [← e1]
 clear e1
 show _ = _
 generalize lpL (Y.ctx (lim' Y)) 146 = lp
 generalize lim' Y = call
 kernel_rfl
theorem zak.p13 (y0:BAy) (y1 y2 y3:Int) (y4:LLD) : zak.P13 y0 y1 y2 y3 y4 = bif zaA 1 y4 && true && true && true && decide ((y4.length + 1) * 2 ≤ 70368744177664) then zak.L7 y0 (IntKind.i64.wrap (y1 + 2)) (y4 ++ [[D.v (.int .u8 (IntKind.u8.wrap (IntKind.i64.wrap (IntKind.i64.wrap (16 * y2) + y3))))]]) else none := by
 delta zak.P13 zak.L7 XX
 refine zaL [12, 13] 13 (by kernel_rfl) fun J e1 => ?_
 try simp only [← e1]
 clear e1
 generalize lpL (Y.ctx (lim' Y)) 146 = lp
 generalize lim' Y = call
 kernel_rfl
theorem zcl.e (a0:BAy) (a1:Bool) (a2:Int) (a3:BAy) (a4 a5:LLD) : zcl [.one (.v (.string a0)), .g [.v (.bool a1), .v (.int .i64 a2), .v (.string a3), .s a4, .s a5]] [] = bif a1 then bif decide (4 + a0.size ≤ 70368744177664) then bif decide (((ByteArray.mk #[100, 105, 114, 32]) ++ a0).size + 1 ≤ 70368744177664) then (zcP [.one (.v (.int .i64 a2))] []).bind fun val => bif zae [.str] val.1 && true then bif decide (((ByteArray.mk #[100, 105, 114, 32]) ++ a0 ++ (ByteArray.mk #[32])).size + (val.1.getD 0 .d).str.size ≤ 70368744177664) then bif decide (((ByteArray.mk #[100, 105, 114, 32]) ++ a0 ++ (ByteArray.mk #[32]) ++ (val.1.getD 0 .d).str).size + 1 ≤ 70368744177664) then some ⟨[.v (.string ((ByteArray.mk #[100, 105, 114, 32]) ++ a0 ++ (ByteArray.mk #[32]) ++ (val.1.getD 0 .d).str ++ (ByteArray.mk #[10])))], []⟩ else none else none else none else none else none else bif decide (5 + a0.size ≤ 70368744177664) then bif decide (((ByteArray.mk #[102, 105, 108, 101, 32]) ++ a0).size + 1 ≤ 70368744177664) then (zcP [.one (.v (.int .i64 a2))] []).bind fun val => bif zae [.str] val.1 && true then bif decide (((ByteArray.mk #[102, 105, 108, 101, 32]) ++ a0 ++ (ByteArray.mk #[32])).size + (val.1.getD 0 .d).str.size ≤ 70368744177664) then bif decide (((ByteArray.mk #[102, 105, 108, 101, 32]) ++ a0 ++ (ByteArray.mk #[32]) ++ (val.1.getD 0 .d).str).size + 1 ≤ 70368744177664) then (zba [.one (.v (.string a3))] []).bind fun val_1 => bif zae [.str] val_1.1 && true then bif decide (((ByteArray.mk #[102, 105, 108, 101, 32]) ++ a0 ++ (ByteArray.mk #[32]) ++ (val.1.getD 0 .d).str ++ (ByteArray.mk #[32])).size + (val_1.1.getD 0 .d).str.size ≤ 70368744177664) then bif decide (((ByteArray.mk #[102, 105, 108, 101, 32]) ++ a0 ++ (ByteArray.mk #[32]) ++ (val.1.getD 0 .d).str ++ (ByteArray.mk #[32]) ++ (val_1.1.getD 0 .d).str).size + 1 ≤ 70368744177664) then some ⟨[.v (.string ((ByteArray.mk #[102, 105, 108, 101, 32]) ++ a0 ++ (ByteArray.mk #[32]) ++ (val.1.getD 0 .d).str ++ (ByteArray.mk #[32]) ++ (val_1.1.getD 0 .d).str ++ (ByteArray.mk #[10])))], []⟩ else none else none else none else none else none else none else none else none := by
 refine (zcl.run _ _ (by kernel_rfl)).trans ?_
 delta zcl zcP zba XX
 generalize lpL (Y.ctx (lim' Y)) 149 = lp
 generalize lim' Y = call
 kernel_rfl
theorem zb7.e (a0:BAy) : zb7 [.one (.v (.string a0))] [] = (zcp [.one (.v (.string a0))] []).bind fun val => bif zae [.int .i64, .any] val.1 && true then some ⟨[.v (.int .i64 (val.1.getD 0 .d).int)], []⟩ else none := by
 refine (zb7.run _ _ (by kernel_rfl)).trans ?_
 delta zb7 zcp XX
 generalize lpL (Y.ctx (lim' Y)) 153 = lp
 generalize lim' Y = call
 kernel_rfl
theorem zbO.e (a0:BAy) : zbO [.one (.v (.string a0))] [] = (zaY [.one (.v (.string a0))] []).bind fun val => bif zae [.str] val.1 && true then some ⟨[.v (.string (val.1.getD 0 .d).str)], []⟩ else none := by
 refine (zbO.run _ _ (by kernel_rfl)).trans ?_
 delta zbO zaY XX
 generalize lpL (Y.ctx (lim' Y)) 154 = lp
 generalize lim' Y = call
 kernel_rfl
theorem zbH.e (a0:LLD) : zbH [.one (.s a0)] [] = bif (↑a0.length : Int) == 0 then some ⟨[.v (.string (ByteArray.mk #[47]))], []⟩ else (strings_Join [.one (.s a0), .one (.v (.string (ByteArray.mk #[47])))] []).bind fun val => bif zae [.str] val.1 && true then bif decide (1 + (val.1.getD 0 .d).str.size ≤ 70368744177664) then some ⟨[.v (.string ((ByteArray.mk #[47]) ++ (val.1.getD 0 .d).str))], []⟩ else none else none := by
 refine (zbH.run _ _ (by kernel_rfl)).trans ?_
 delta zbH strings_Join XX
 generalize lpL (Y.ctx (lim' Y)) 157 = lp
 generalize lim' Y = call
 kernel_rfl
theorem zcG.e (a0:Int) : zcG [.one (.v (.int .i64 a0))] [] = (zck [.one (.v (.int .i64 a0)), .one (.v (.int .i64 0)), .one (.v (.int .i64 7))] []).bind fun val => bif zae [.bool] val.1 && true then some ⟨[.v (.bool (val.1.getD 0 .d).bool)], []⟩ else none := by
 refine (zcG.run _ _ (by kernel_rfl)).trans ?_
 delta zcG zck XX
 generalize lpL (Y.ctx (lim' Y)) 158 = lp
 generalize lim' Y = call
 kernel_rfl
theorem zbs.e (a0:Bool) (a1:Int) (a2:BAy) (a3 a4 a5:LLD) : zbs [.g [.v (.bool a0), .v (.int .i64 a1), .v (.string a2), .s a3, .s a4], .one (.s a5)] [] = bif a0 then (zbH [.one (.s a5)] []).bind fun val => bif zae [.str] val.1 && true then bif decide (4 + (val.1.getD 0 .d).str.size ≤ 70368744177664) then bif decide (((ByteArray.mk #[100, 105, 114, 32]) ++ (val.1.getD 0 .d).str).size + 1 ≤ 70368744177664) then (strconv_Itoa [.one (.v (.int .i64 a1))] []).bind fun val_1 => bif zae [.str] val_1.1 && true then bif decide (((ByteArray.mk #[100, 105, 114, 32]) ++ (val.1.getD 0 .d).str ++ (ByteArray.mk #[32])).size + (val_1.1.getD 0 .d).str.size ≤ 70368744177664) then bif decide (((ByteArray.mk #[100, 105, 114, 32]) ++ (val.1.getD 0 .d).str ++ (ByteArray.mk #[32]) ++ (val_1.1.getD 0 .d).str).size + 1 ≤ 70368744177664) then some ⟨[.v (.string ((ByteArray.mk #[100, 105, 114, 32]) ++ (val.1.getD 0 .d).str ++ (ByteArray.mk #[32]) ++ (val_1.1.getD 0 .d).str ++ (ByteArray.mk #[10])))], []⟩ else none else none else none else none else none else none else (zbH [.one (.s a5)] []).bind fun val => bif zae [.str] val.1 && true then bif decide (5 + (val.1.getD 0 .d).str.size ≤ 70368744177664) then bif decide (((ByteArray.mk #[102, 105, 108, 101, 32]) ++ (val.1.getD 0 .d).str).size + 1 ≤ 70368744177664) then (strconv_Itoa [.one (.v (.int .i64 a1))] []).bind fun val_1 => bif zae [.str] val_1.1 && true then bif decide (((ByteArray.mk #[102, 105, 108, 101, 32]) ++ (val.1.getD 0 .d).str ++ (ByteArray.mk #[32])).size + (val_1.1.getD 0 .d).str.size ≤ 70368744177664) then bif decide (((ByteArray.mk #[102, 105, 108, 101, 32]) ++ (val.1.getD 0 .d).str ++ (ByteArray.mk #[32]) ++ (val_1.1.getD 0 .d).str).size + 1 ≤ 70368744177664) then (zbP [.one (.v (.string a2))] []).bind fun val_2 => bif zae [.str] val_2.1 && true then bif decide (((ByteArray.mk #[102, 105, 108, 101, 32]) ++ (val.1.getD 0 .d).str ++ (ByteArray.mk #[32]) ++ (val_1.1.getD 0 .d).str ++ (ByteArray.mk #[32])).size + (val_2.1.getD 0 .d).str.size ≤ 70368744177664) then bif decide (((ByteArray.mk #[102, 105, 108, 101, 32]) ++ (val.1.getD 0 .d).str ++ (ByteArray.mk #[32]) ++ (val_1.1.getD 0 .d).str ++ (ByteArray.mk #[32]) ++ (val_2.1.getD 0 .d).str).size + 1 ≤ 70368744177664) then some ⟨[.v (.string ((ByteArray.mk #[102, 105, 108, 101, 32]) ++ (val.1.getD 0 .d).str ++ (ByteArray.mk #[32]) ++ (val_1.1.getD 0 .d).str ++ (ByteArray.mk #[32]) ++ (val_2.1.getD 0 .d).str ++ (ByteArray.mk #[10])))], []⟩ else none else none else none else none else none else none else none else none else none := by
 refine (zbs.run _ _ (by kernel_rfl)).trans ?_
 delta zbs zbH strconv_Itoa zbP XX
 generalize lpL (Y.ctx (lim' Y)) 160 = lp
 generalize lim' Y = call
 kernel_rfl
noncomputable def zaW.L3 (y0 y1:BAy) (y2:Int) (y3:Bool) (y4:Int) (y5:BAy) (y6 y7:LLD) : Option (Ex × St) := lpL XX 164 (zav 3 zaW.c) (mkG 0 41 [(0, .one (.v (.string y0))), (3, .one (.p true 3 [] 0)), (5, .one (.v (.string y1))), (6, .one (.v (.int .i64 y2)))] [(3, some ⟨.box, [.v (.bool y3), .v (.int .i64 y4), .v (.string y5), .s y6, .s y7], [.deep, .deep, .deep, .sh, .sh]⟩)] GL)
noncomputable def zaW.A3 : Ex × St → Option Res := fun r => evA XX 164 (lpL XX 164) 3 zaW.c r.fst r.snd (outE XX 164 Tryz.f164)
noncomputable def zaW.x3 (y0:BAy) : Ex × St := (Ex.exit 0, mkG 0 41 [(5, .one (.v (.string y0)))] [] GL)
theorem zaW.e (a0:BAy) (a1:Bool) (a2:Int) (a3:BAy) (a4 a5:LLD) : zaW [.one (.v (.string a0)), .g [.v (.bool a1), .v (.int .i64 a2), .v (.string a3), .s a4, .s a5]] [] = (zaW.L3 a0 (ByteArray.mk #[]) 0 a1 a2 a3 a4 a5).bind zaW.A3 := by
 refine (zaW.run _ _ (by kernel_rfl)).trans ?_
 delta zaW zaW.L3 zaW.A3 XX
 generalize lpL (Y.ctx (lim' Y)) 164 = lp
 generalize lim' Y = call
 kernel_rfl
theorem zaW.s3 (y0 y1:BAy) (y2:Int) (y3:Bool) (y4:Int) (y5:BAy) (y6 y7:LLD) : zaW.L3 y0 y1 y2 y3 y4 y5 y6 y7 = bif decide (y2 < (↑y6.length : Int)) then bif decide (y0.size + 1 ≤ 70368744177664) then bif decide (0 ≤ y2) && decide (y2 < (↑y6.length : Int)) && decide ((y6.getD y2.toNat []).length = 1) then bif zaz [.str] (y6.getD y2.toNat []) 0 && decide (1 ≤ (y6.getD y2.toNat []).length) then bif decide ((y0 ++ (ByteArray.mk #[47])).size + ((y6.getD y2.toNat []).getD 0 .h).str.size ≤ 70368744177664) then bif decide (0 ≤ y2) && decide (y2 < (↑y7.length : Int)) && decide ((y7.getD y2.toNat []).length = 5) then bif zaz [.bool, .int .i64, .str, .sl, .sl] (y7.getD y2.toNat []) 0 && decide (5 ≤ (y7.getD y2.toNat []).length) then (zcl [.one (.v (.string (y0 ++ (ByteArray.mk #[47]) ++ ((y6.getD y2.toNat []).getD 0 .h).str))), .g [.v (.bool ((y7.getD y2.toNat []).getD 0 .h).bool), .v (.int .i64 ((y7.getD y2.toNat []).getD 1 .h).int), .v (.string ((y7.getD y2.toNat []).getD 2 .h).str), .s ((y7.getD y2.toNat []).getD 3 .h).es, .s ((y7.getD y2.toNat []).getD 4 .h).es]] []).bind fun val => bif zae [.str] val.1 && true then bif decide (y1.size + (val.1.getD 0 .d).str.size ≤ 70368744177664) then bif decide (0 ≤ y2) && decide (y2 < (↑y7.length : Int)) && decide ((y7.getD y2.toNat []).length = 5) then bif zaz [.bool, .int .i64, .str, .sl, .sl] (y7.getD y2.toNat []) 0 && decide (5 ≤ (y7.getD y2.toNat []).length) then (zaW [.one (.v (.string (y0 ++ (ByteArray.mk #[47]) ++ ((y6.getD y2.toNat []).getD 0 .h).str))), .g [.v (.bool ((y7.getD y2.toNat []).getD 0 .h).bool), .v (.int .i64 ((y7.getD y2.toNat []).getD 1 .h).int), .v (.string ((y7.getD y2.toNat []).getD 2 .h).str), .s ((y7.getD y2.toNat []).getD 3 .h).es, .s ((y7.getD y2.toNat []).getD 4 .h).es]] []).bind fun val_1 => bif zae [.str] val_1.1 && true then bif decide ((y1 ++ (val.1.getD 0 .d).str).size + (val_1.1.getD 0 .d).str.size ≤ 70368744177664) then zaW.L3 y0 (y1 ++ (val.1.getD 0 .d).str ++ (val_1.1.getD 0 .d).str) (IntKind.i64.wrap (y2 + 1)) y3 y4 y5 y6 y7 else none else none else none else none else none else none else none else none else none else none else none else none else some (zaW.x3 y1) := by
 refine (zbz (Y := Y) (c := lim' Y) (fn := 164) (rid := 3) (b := zav 3 zaW.c) (by kernel_rfl) _).trans ?_
 delta zaW.L3 zcl zaW zaW.x3 XX
 generalize lpL (Y.ctx (lim' Y)) 164 = lp
 generalize lim' Y = call
 kernel_rfl
theorem zaW.a3x3 (y0:BAy) : zaW.A3 (zaW.x3 y0) = some ⟨[.v (.string y0)], []⟩ := by
 delta zaW.A3 zaW.x3 XX
 generalize lpL (Y.ctx (lim' Y)) 164 = lp
 generalize lim' Y = call
 kernel_rfl
theorem zbt.e (a0:Bool) (a1:Int) (a2:BAy) (a3 a4:LLD) : zbt [.g [.v (.bool a0), .v (.int .i64 a1), .v (.string a2), .s a3, .s a4]] [] = (za9 [.g [.v (.bool a0), .v (.int .i64 a1), .v (.string a2), .s a3, .s a4], .one (.s []), .f zaJ.id [.bx [A0.p true 0 [] 0] 0]] [⟨.bld 170 5, [.v (.string (ByteArray.mk #[])), .h], [.deep, .deep]⟩]).bind fun val => bif zae [] val.1 && za2 [⟨⟨.bld 170 5, [.v (.string (ByteArray.mk #[])), .h], [.deep, .deep]⟩, .box 5⟩] val.2 then (za6 [.one (.p true 0 [] 0)] [⟨.bld 170 5, [.v (.string ((val.2.getD 0 ⟨.ro, [], []⟩).2.getD 0 .h).str), .h], [.deep, .deep]⟩]).bind fun val_1 => bif zae [.str] val_1.1 && za2 [⟨⟨.bld 170 5, [.v (.string ((val.2.getD 0 ⟨.ro, [], []⟩).2.getD 0 .h).str), .h], [.deep, .deep]⟩, .box 5⟩] val_1.2 then some ⟨[.v (.string (val_1.1.getD 0 .d).str)], []⟩ else none else none := by
 refine (zbt.run _ _ (by kernel_rfl)).trans ?_
 delta zbt za9 za6 zaJ.id XX
 generalize lpL (Y.ctx (lim' Y)) 165 = lp
 generalize lim' Y = call
 kernel_rfl
noncomputable def zab.L2 (y0:LLD) (y1:BAy) (y2 y3:Int) : Option (Ex × St) := lpL XX 180 (zav 2 zab.c) (mkG 0 19 [(0, .one (.s y0)), (1, .one (.v (.string y1))), (7, .one (.v (.int .i64 y2))), (8, .one (.v (.int .i64 y3)))] [] GL)
noncomputable def zab.A2 : Ex × St → Option Res := fun r => evA XX 180 (lpL XX 180) 2 zab.c r.fst r.snd (outE XX 180 Tryz.f180)
noncomputable def zab.q2 (y0:Int) : Ex × St := (Ex.ret, mkG 0 19 [(4, .one (.v (.int .i64 y0)))] [] GL)
noncomputable def zab.x2 : Ex × St := (Ex.exit 0, mkG 0 19 [] [] GL)
theorem zab.e (a0:LLD) (a1:BAy) : zab [.one (.s a0), .one (.v (.string a1))] [] = (zab.L2 a0 a1 (↑a0.length : Int) 0).bind zab.A2 := by
 refine (zab.run _ _ (by kernel_rfl)).trans ?_
 delta zab zab.L2 zab.A2 XX
 generalize lpL (Y.ctx (lim' Y)) 180 = lp
 generalize lim' Y = call
 kernel_rfl
theorem zab.s2 (y0:LLD) (y1:BAy) (y2 y3:Int) : zab.L2 y0 y1 y2 y3 = bif decide (y3 < y2) then bif decide (0 ≤ y3) && decide (y3 < (↑y0.length : Int)) && decide ((y0.getD y3.toNat []).length = 1) then bif zaz [.str] (y0.getD y3.toNat []) 0 && decide (1 ≤ (y0.getD y3.toNat []).length) then bif y1.toList == ((y0.getD y3.toNat []).getD 0 .h).str.toList then some (zab.q2 y3) else zab.L2 y0 y1 y2 (IntKind.i64.wrap (y3 + 1)) else none else none else some zab.x2 := by
 refine (zbz (Y := Y) (c := lim' Y) (fn := 180) (rid := 2) (b := zav 2 zab.c) (by kernel_rfl) _).trans ?_
 delta zab.L2 zab.q2 zab.x2 XX
 generalize lpL (Y.ctx (lim' Y)) 180 = lp
 generalize lim' Y = call
 kernel_rfl
theorem zab.a2q2 (y0:Int) : zab.A2 (zab.q2 y0) = some ⟨[.v (.int .i64 y0)], []⟩ := by
 delta zab.A2 zab.q2 XX
 generalize lpL (Y.ctx (lim' Y)) 180 = lp
 generalize lim' Y = call
 kernel_rfl
theorem zab.a2x2 : zab.A2 zab.x2 = some ⟨[.v (.int .i64 (-1))], []⟩ := by
 delta zab.A2 zab.x2 XX
 generalize lpL (Y.ctx (lim' Y)) 180 = lp
 generalize lim' Y = call
 kernel_rfl
theorem zaX.e (a0 a1:BAy) : zaX [.one (.v (.string a0)), .one (.v (.string a1))] [] = (zaP [.one (.v (.string a0))] []).bind fun val => bif zae [.bool] val.1 && true then bif (val.1.getD 0 .d).bool then (zaP [.one (.v (.string a1))] []).bind fun val => bif zae [.bool] val.1 && true then bif !(val.1.getD 0 .d).bool then some ⟨[.v (.bool true)], []⟩ else some ⟨[.v (.bool (Op.bytesLess a0.toList a1.toList))], []⟩ else none else some ⟨[.v (.bool (Op.bytesLess a0.toList a1.toList))], []⟩ else none := by
 refine (zaX.run _ _ (by kernel_rfl)).trans ?_
 delta zaX zaP XX
 generalize lpL (Y.ctx (lim' Y)) 181 = lp
 generalize lim' Y = call
 kernel_rfl
theorem zaF.e (a0:BAy) : zaF [.one (.v (.string a0))] [] = some ⟨[.v (.bool !a0.toList == a0.toList)], []⟩ := by
 refine (zaF.run _ _ (by kernel_rfl)).trans ?_
 delta zaF XX
 generalize lpL (Y.ctx (lim' Y)) 182 = lp
 generalize lim' Y = call
 kernel_rfl
noncomputable def zaD.L2 (y0:BAy) (y1 y2:Int) : Option (Ex × St) := lpL XX 187 (zav 2 zaD.c) (mkG 0 35 [(0, .one (.v (.string y0))), (5, .one (.v (.int .i64 y1))), (6, .one (.v (.int .i64 y2)))] [] GL)
noncomputable def zaD.A2 : Ex × St → Option Res := fun r => evA XX 187 (lpL XX 187) 2 zaD.c r.fst r.snd (outE XX 187 Tryz.f187)
noncomputable def zaD.P5 (y0:BAy) (y1 y2:Int) (y3:Bool) : Option (Ex × St) := evB XX 187 (lpL XX 187) 5 (zav 2 zaD.c) (mkG 0 35 [(0, .one (.v (.string y0))), (5, .one (.v (.int .i64 y1))), (6, .one (.v (.int .i64 y2))), (30, .one (.v (.bool y3)))] [] GL) (backL (lpL XX 187) (zav 2 zaD.c) (XX.live 187 2))
noncomputable def zaD.x2 (y0:BAy) : Ex × St := (Ex.exit 0, mkG 0 35 [(0, .one (.v (.string y0)))] [] GL)
noncomputable def zaD.q2 (y0:BAy) (y1:Bool) : Ex × St := (Ex.ret, mkG 0 35 [(0, .one (.v (.string y0))), (2, .one (.v (.bool y1)))] [] GL)
theorem zaD.e (a0:BAy) : zaD [.one (.v (.string a0))] [] = (zaD.L2 a0 (↑a0.size : Int) 0).bind zaD.A2 := by
 refine (zaD.run _ _ (by kernel_rfl)).trans ?_
 delta zaD zaD.L2 zaD.A2 XX
 generalize lpL (Y.ctx (lim' Y)) 187 = lp
 generalize lim' Y = call
 kernel_rfl
theorem zaD.s2 (y0:BAy) (y1 y2:Int) : zaD.L2 y0 y1 y2 = bif decide (y2 < y1) then bif decide (0 ≤ y2) && decide (y2 < (↑y0.size : Int)) then bif decide (zaS y0 y2.toNat < 97) then bif decide (0 ≤ y2) && decide (y2 < (↑y0.size : Int)) then bif decide (zaS y0 y2.toNat < 48) then zaD.P5 y0 y1 y2 true else bif decide (0 ≤ y2) && decide (y2 < (↑y0.size : Int)) then zaD.P5 y0 y1 y2 (decide (zaS y0 y2.toNat > 57)) else none else none else bif decide (0 ≤ y2) && decide (y2 < (↑y0.size : Int)) then bif decide (zaS y0 y2.toNat > 122) then bif decide (0 ≤ y2) && decide (y2 < (↑y0.size : Int)) then bif decide (zaS y0 y2.toNat < 48) then zaD.P5 y0 y1 y2 true else bif decide (0 ≤ y2) && decide (y2 < (↑y0.size : Int)) then zaD.P5 y0 y1 y2 (decide (zaS y0 y2.toNat > 57)) else none else none else zaD.P5 y0 y1 y2 false else none else none else some (zaD.x2 y0) := by
 refine (zbz (Y := Y) (c := lim' Y) (fn := 187) (rid := 2) (b := zav 2 zaD.c) (by kernel_rfl) _).trans ?_
 delta zaD.L2 zaD.P5 zaD.x2 XX
 refine za3 [5] (by kernel_rfl) fun J e1 => ?_
 try simp only [← e1]
 clear e1
 generalize lpL (Y.ctx (lim' Y)) 187 = lp
 generalize lim' Y = call
 kernel_rfl
theorem zaD.p5 (y0:BAy) (y1 y2:Int) (y3:Bool) : zaD.P5 y0 y1 y2 y3 = bif y3 then some (zaD.q2 y0 false) else zaD.L2 y0 y1 (IntKind.i64.wrap (y2 + 1)) := by
 delta zaD.P5 zaD.q2 zaD.L2 XX
 refine zaL [5] 5 (by kernel_rfl) fun J e1 => ?_
 try simp only [← e1]
 clear e1
 generalize lpL (Y.ctx (lim' Y)) 187 = lp
 generalize lim' Y = call
 kernel_rfl
theorem zaD.a2x2 (y0:BAy) : zaD.A2 (zaD.x2 y0) = (zck [.one (.v (.int .i64 (↑y0.size : Int))), .one (.v (.int .i64 1)), .one (.v (.int .i64 5))] []).bind fun val => bif zae [.bool] val.1 && true then some ⟨[.v (.bool (val.1.getD 0 .d).bool)], []⟩ else none := by
 delta zaD.A2 zaD.x2 zck XX
 generalize lpL (Y.ctx (lim' Y)) 187 = lp
 generalize lim' Y = call
 kernel_rfl
theorem zaD.a2q2 (y0:BAy) (y1:Bool) : zaD.A2 (zaD.q2 y0 y1) = some ⟨[.v (.bool y1)], []⟩ := by
 delta zaD.A2 zaD.q2 XX
 generalize lpL (Y.ctx (lim' Y)) 187 = lp
 generalize lim' Y = call
 kernel_rfl
theorem zdF.e (a0:LLD) (a1:BAy) : zdF [.one (.s a0), .one (.v (.string a1))] [] = bif zaA 1 a0 && zaE false a0 && true && decide ((0 + a0.length) * 17 ≤ 70368744177664) then bif zaA 1 a0 && true && true && true && decide ((a0.length + 1) * 17 ≤ 70368744177664) then some ⟨[.o .deep (a0 ++ [[D.v (.string a1)]])], []⟩ else none else none := by
 refine (zdF.run _ _ (by kernel_rfl)).trans ?_
 delta zdF XX
 generalize lpL (Y.ctx (lim' Y)) 188 = lp
 generalize lim' Y = call
 kernel_rfl
noncomputable def zal.P2 (y0 y1:Bool) (y2:Int) (y3:BAy) (y4 y5:LLD) : Option Res := evB XX 189 (lpL XX 189) 2 zal.c (mkG 0 65 [(1, .one (.p true 1 [] 0)), (16, .one (.v (.bool y0)))] [(1, some ⟨.box, [.v (.bool y1), .v (.int .i64 y2), .v (.string y3), .s y4, .s y5], [.deep, .deep, .deep, .sh, .sh]⟩)] GL) (outE XX 189 Tryz.f189)
noncomputable def zal.P3 (y0:Bool) (y1:Int) (y2:BAy) (y3 y4:LLD) : Option Res := evB XX 189 (lpL XX 189) 3 zal.c (mkG 0 65 [(1, .one (.p true 1 [] 0))] [(1, some ⟨.box, [.v (.bool y0), .v (.int .i64 y1), .v (.string y2), .s y3, .s y4], [.deep, .deep, .deep, .sh, .sh]⟩)] GL) (outE XX 189 Tryz.f189)
noncomputable def zal.L6 (y0:Int) (y1:Bool) (y2:Int) (y3:BAy) (y4 y5:LLD) : Option (Ex × St) := lpL XX 189 (zav 6 zal.c) (mkG 0 65 [(1, .one (.p true 1 [] 0)), (3, .one (.v (.int .i64 y0)))] [(1, some ⟨.box, [.v (.bool y1), .v (.int .i64 y2), .v (.string y3), .s y4, .s y5], [.deep, .deep, .deep, .sh, .sh]⟩)] GL)
noncomputable def zal.A6 : Ex × St → Option Res := fun r => evA XX 189 (lpL XX 189) 6 zal.c r.fst r.snd (outE XX 189 Tryz.f189)
noncomputable def zal.P9 (y0:Int) (y1 y2:Bool) (y3:Int) (y4:BAy) (y5 y6:LLD) : Option (Ex × St) := evB XX 189 (lpL XX 189) 9 (zav 6 zal.c) (mkG 0 65 [(1, .one (.p true 1 [] 0)), (3, .one (.v (.int .i64 y0))), (61, .one (.v (.bool y1)))] [(1, some ⟨.box, [.v (.bool y2), .v (.int .i64 y3), .v (.string y4), .s y5, .s y6], [.deep, .deep, .deep, .sh, .sh]⟩)] GL) (backL (lpL XX 189) (zav 6 zal.c) (XX.live 189 6))
noncomputable def zal.x6 (y0:Bool) (y1:Int) (y2:BAy) (y3 y4:LLD) : Ex × St := (Ex.exit 0, mkG 0 65 [(1, .one (.p true 1 [] 0))] [(1, some ⟨.box, [.v (.bool y0), .v (.int .i64 y1), .v (.string y2), .s y3, .s y4], [.deep, .deep, .deep, .sh, .sh]⟩)] GL)
noncomputable def zal.q6 (y0 y1:Bool) (y2:Int) (y3:BAy) (y4 y5:LLD) : Ex × St := (Ex.ret, mkG 0 65 [(1, .one (.p true 1 [] 0)), (2, .one (.v (.bool y0)))] [(1, some ⟨.box, [.v (.bool y1), .v (.int .i64 y2), .v (.string y3), .s y4, .s y5], [.deep, .deep, .deep, .sh, .sh]⟩)] GL)
theorem zal.e (a0:Bool) (a1:Int) (a2:BAy) (a3 a4:LLD) : zal [.g [.v (.bool a0), .v (.int .i64 a1), .v (.string a2), .s a3, .s a4]] [] = (sl1In [.one (.v (.int .i64 a1)), .one (.v (.int .i64 0)), .one (.v (.int .i64 7))] []).bind fun val => bif zae [.bool] val.1 && true then bif !(val.1.getD 0 .d).bool then zal.P2 true a0 a1 a2 a3 a4 else zal.P2 ((↑a3.length : Int) != (↑a4.length : Int)) a0 a1 a2 a3 a4 else none := by
 refine (zal.run _ _ (by kernel_rfl)).trans ?_
 delta zal sl1In zal.P2 XX
 refine za3 [2, 3] (by kernel_rfl) fun J e1 => ?_
 try simp only [← e1]
 clear e1
 generalize lpL (Y.ctx (lim' Y)) 189 = lp
 generalize lim' Y = call
 kernel_rfl
theorem zal.p2 (y0 y1:Bool) (y2:Int) (y3:BAy) (y4 y5:LLD) : zal.P2 y0 y1 y2 y3 y4 y5 = bif y0 then some ⟨[.v (.bool false)], []⟩ else zal.P3 y1 y2 y3 y4 y5 := by
 delta zal.P2 zal.P3 XX
 refine zaL [2, 3] 2 (by kernel_rfl) fun J e1 => ?_
 try simp only [← e1]
 clear e1
 generalize lpL (Y.ctx (lim' Y)) 189 = lp
 generalize lim' Y = call
 kernel_rfl
theorem zal.p3 (y0:Bool) (y1:Int) (y2:BAy) (y3 y4:LLD) : zal.P3 y0 y1 y2 y3 y4 = bif !y0 then bif decide ((↑y2.size : Int) ≤ 24) then some ⟨[.v (.bool ((↑y3.length : Int) == 0))], []⟩ else some ⟨[.v (.bool false)], []⟩ else (zal.L6 0 y0 y1 y2 y3 y4).bind zal.A6 := by
 delta zal.P3 zal.L6 zal.A6 XX
 refine zaL [2, 3] 3 (by kernel_rfl) fun J e1 => ?_
 have eA := evA_J [2, 3] 6 (by kernel_rfl) e1
 try simp only [eA]
 clear eA
 try simp only [← e1]
 clear e1
 show _ = _
 generalize lpL (Y.ctx (lim' Y)) 189 = lp
 generalize lim' Y = call
 kernel_rfl
theorem zal.s6 (y0:Int) (y1:Bool) (y2:Int) (y3:BAy) (y4 y5:LLD) : zal.L6 y0 y1 y2 y3 y4 y5 = bif decide (y0 < (↑y4.length : Int)) then bif decide (0 ≤ y0) && decide (y0 < (↑y4.length : Int)) && decide ((y4.getD y0.toNat []).length = 1) then bif zaz [.str] (y4.getD y0.toNat []) 0 && decide (1 ≤ (y4.getD y0.toNat []).length) then (zan [.one (.v (.string ((y4.getD y0.toNat []).getD 0 .h).str))] []).bind fun val => bif zae [.bool] val.1 && true then bif !(val.1.getD 0 .d).bool then zal.P9 y0 true y1 y2 y3 y4 y5 else bif decide (y0 > 0) then bif decide (0 ≤ IntKind.i64.wrap (y0 - 1)) && decide (IntKind.i64.wrap (y0 - 1) < (↑y4.length : Int)) && decide ((y4.getD (IntKind.i64.wrap (y0 - 1)).toNat []).length = 1) then bif zaz [.str] (y4.getD (IntKind.i64.wrap (y0 - 1)).toNat []) 0 && decide (1 ≤ (y4.getD (IntKind.i64.wrap (y0 - 1)).toNat []).length) then bif decide (0 ≤ y0) && decide (y0 < (↑y4.length : Int)) && decide ((y4.getD y0.toNat []).length = 1) then bif zaz [.str] (y4.getD y0.toNat []) 0 && decide (1 ≤ (y4.getD y0.toNat []).length) then zal.P9 y0 (!Op.bytesLess ((y4.getD (IntKind.i64.wrap (y0 - 1)).toNat []).getD 0 .h).str.toList ((y4.getD y0.toNat []).getD 0 .h).str.toList) y1 y2 y3 y4 y5 else none else none else none else none else zal.P9 y0 false y1 y2 y3 y4 y5 else none else none else none else some (zal.x6 y1 y2 y3 y4 y5) := by
 refine (zbz (Y := Y) (c := lim' Y) (fn := 189) (rid := 6) (b := zav 6 zal.c) (by kernel_rfl) _).trans ?_
 delta zal.L6 zan zal.P9 zal.x6 XX
 refine za3 [9] (by kernel_rfl) fun J e1 => ?_
 try simp only [← e1]
 clear e1
 generalize lpL (Y.ctx (lim' Y)) 189 = lp
 generalize lim' Y = call
 kernel_rfl
theorem zal.p9 (y0:Int) (y1 y2:Bool) (y3:Int) (y4:BAy) (y5 y6:LLD) : zal.P9 y0 y1 y2 y3 y4 y5 y6 = bif y1 then some (zal.q6 false y2 y3 y4 y5 y6) else zal.L6 (IntKind.i64.wrap (y0 + 1)) y2 y3 y4 y5 y6 := by
 delta zal.P9 zal.q6 zal.L6 XX
 refine zaL [9] 9 (by kernel_rfl) fun J e1 => ?_
 try simp only [← e1]
 clear e1
 generalize lpL (Y.ctx (lim' Y)) 189 = lp
 generalize lim' Y = call
 kernel_rfl
theorem zal.a6x6 (y0:Bool) (y1:Int) (y2:BAy) (y3 y4:LLD) : zal.A6 (zal.x6 y0 y1 y2 y3 y4) = some ⟨[.v (.bool (y2.toList == []))], []⟩ := by
 delta zal.A6 zal.x6 XX
 refine zbe [2, 3] 6 (by kernel_rfl) fun J e1 => ?_
 have eA := evA_J [2, 3] 6 (by kernel_rfl) e1
 try simp only [eA]
 clear eA
 try simp only [← e1]
 clear e1
 show _ = _
 generalize lpL (Y.ctx (lim' Y)) 189 = lp
 generalize lim' Y = call
 kernel_rfl
theorem zal.a6q6 (y0 y1:Bool) (y2:Int) (y3:BAy) (y4 y5:LLD) : zal.A6 (zal.q6 y0 y1 y2 y3 y4 y5) = some ⟨[.v (.bool y0)], []⟩ := by
 delta zal.A6 zal.q6 XX
 refine zbe [2, 3] 6 (by kernel_rfl) fun J e1 => ?_
 have eA := evA_J [2, 3] 6 (by kernel_rfl) e1
 try simp only [eA]
 clear eA
 try simp only [← e1]
 clear e1
 show _ = _
 generalize lpL (Y.ctx (lim' Y)) 189 = lp
 generalize lim' Y = call
 kernel_rfl
noncomputable def zaZ.P2 (y0:Int) (y1:Bool) : Option Res := evB XX 192 (lpL XX 192) 2 zaZ.c (mkG 0 24 [(0, .one (.v (.int .u8 y0))), (3, .one (.v (.bool y1)))] [] GL) (outE XX 192 Tryz.f192)
noncomputable def zaZ.P4 (y0:Int) (y1:Bool) : Option Res := evB XX 192 (lpL XX 192) 4 zaZ.c (mkG 0 24 [(0, .one (.v (.int .u8 y0))), (13, .one (.v (.bool y1)))] [] GL) (outE XX 192 Tryz.f192)
theorem zaZ.e (a0:Int) : zaZ [.one (.v (.int .u8 a0))] [] = bif decide (a0 ≥ 48) then zaZ.P2 a0 (decide (a0 ≤ 57)) else zaZ.P2 a0 false := by
 refine (zaZ.run _ _ (by kernel_rfl)).trans ?_
 delta zaZ zaZ.P2 XX
 refine za3 [2, 4] (by kernel_rfl) fun J e1 => ?_
 try simp only [← e1]
 clear e1
 generalize lpL (Y.ctx (lim' Y)) 192 = lp
 generalize lim' Y = call
 kernel_rfl
theorem zaZ.p2 (y0:Int) (y1:Bool) : zaZ.P2 y0 y1 = bif y1 then some ⟨[.v (.int .i64 (IntKind.i64.wrap (IntKind.u8.wrap (y0 - 48))))], []⟩ else bif decide (y0 ≥ 97) then zaZ.P4 y0 (decide (y0 ≤ 102)) else zaZ.P4 y0 false := by
 delta zaZ.P2 zaZ.P4 XX
 refine zaL [2, 4] 2 (by kernel_rfl) fun J e1 => ?_
 try simp only [← e1]
 clear e1
 generalize lpL (Y.ctx (lim' Y)) 192 = lp
 generalize lim' Y = call
 kernel_rfl
theorem zaZ.p4 (y0:Int) (y1:Bool) : zaZ.P4 y0 y1 = bif y1 then some ⟨[.v (.int .i64 (IntKind.i64.wrap (IntKind.i64.wrap (IntKind.u8.wrap (y0 - 97)) + 10)))], []⟩ else some ⟨[.v (.int .i64 99)], []⟩ := by
 delta zaZ.P4 XX
 refine zaL [2, 4] 4 (by kernel_rfl) fun J e1 => ?_
 try simp only [← e1]
 clear e1
 generalize lpL (Y.ctx (lim' Y)) 192 = lp
 generalize lim' Y = call
 kernel_rfl
theorem zcP.e (a0:Int) : zcP [.one (.v (.int .i64 a0))] [] = bif decide (a0 < -9223372036854775807) then some ⟨[.v (.string (ByteArray.mk #[45, 57, 50, 50, 51, 51, 55, 50, 48, 51, 54, 56, 53, 52, 55, 55, 53, 56, 48, 56]))], []⟩ else bif decide (a0 < 0) then (zcP [.one (.v (.int .i64 (IntKind.i64.wrap (0 - a0))))] []).bind fun val => bif zae [.str] val.1 && true then bif decide (1 + (val.1.getD 0 .d).str.size ≤ 70368744177664) then some ⟨[.v (.string ((ByteArray.mk #[45]) ++ (val.1.getD 0 .d).str))], []⟩ else none else none else bif decide (a0 < 10) then some ⟨[.v (.string (strOf [[.v (.int .u8 (IntKind.u8.wrap (IntKind.i64.wrap (48 + a0))))]]))], []⟩ else (zcP [.one (.v (.int .i64 (IntKind.i64.wrap (a0.tdiv 10))))] []).bind fun val => bif zae [.str] val.1 && true then bif decide ((val.1.getD 0 .d).str.size + 1 ≤ 70368744177664) then some ⟨[.v (.string ((val.1.getD 0 .d).str ++ strOf [[.v (.int .u8 (IntKind.u8.wrap (IntKind.i64.wrap (48 + a0.tmod 10))))]]))], []⟩ else none else none := by
 refine (zcP.run _ _ (by kernel_rfl)).trans ?_
 delta zcP XX
 generalize lpL (Y.ctx (lim' Y)) 193 = lp
 generalize lim' Y = call
 kernel_rfl
noncomputable def zba.L3 (y0 y1:BAy) (y2:Int) : Option (Ex × St) := lpL XX 194 (zav 3 zba.c) (mkG 0 37 [(0, .one (.v (.string y0))), (3, .one (.v (.string y1))), (4, .one (.v (.int .i64 y2)))] [] GL)
noncomputable def zba.A3 : Ex × St → Option Res := fun r => evA XX 194 (lpL XX 194) 3 zba.c r.fst r.snd (outE XX 194 Tryz.f194)
noncomputable def zba.x3 (y0:BAy) : Ex × St := (Ex.exit 0, mkG 0 37 [(3, .one (.v (.string y0)))] [] GL)
theorem zba.e (a0:BAy) : zba [.one (.v (.string a0))] [] = (zba.L3 a0 (ByteArray.mk #[]) 0).bind zba.A3 := by
 refine (zba.run _ _ (by kernel_rfl)).trans ?_
 delta zba zba.L3 zba.A3 XX
 generalize lpL (Y.ctx (lim' Y)) 194 = lp
 generalize lim' Y = call
 kernel_rfl
theorem zba.s3 (y0 y1:BAy) (y2:Int) : zba.L3 y0 y1 y2 = bif decide (y2 < (↑y0.size : Int)) then bif decide (0 ≤ y2) && decide (y2 < (↑y0.size : Int)) then bif decide (0 ≤ y2) && decide (y2 < (↑y0.size : Int)) then bif decide (IntKind.u8.wrap ((zaS y0 y2.toNat).tdiv 16) ≤ IntKind.u8.wrap (IntKind.u8.wrap ((zaS y0 y2.toNat).tdiv 16) + 1)) && decide (IntKind.u8.wrap (IntKind.u8.wrap ((zaS y0 y2.toNat).tdiv 16) + 1) ≤ (↑(ByteArray.mk #[48, 49, 50, 51, 52, 53, 54, 55, 56, 57, 97, 98, 99, 100, 101, 102]).size : Int)) then bif decide (y1.size + ((ByteArray.mk #[48, 49, 50, 51, 52, 53, 54, 55, 56, 57, 97, 98, 99, 100, 101, 102]).extract (IntKind.u8.wrap ((zaS y0 y2.toNat).tdiv 16)).toNat (IntKind.u8.wrap (IntKind.u8.wrap ((zaS y0 y2.toNat).tdiv 16) + 1)).toNat).size ≤ 70368744177664) then bif decide (0 ≤ y2) && decide (y2 < (↑y0.size : Int)) then bif decide (0 ≤ y2) && decide (y2 < (↑y0.size : Int)) then bif decide ((zaS y0 y2.toNat).tmod 16 ≤ IntKind.u8.wrap ((zaS y0 y2.toNat).tmod 16 + 1)) && decide (IntKind.u8.wrap ((zaS y0 y2.toNat).tmod 16 + 1) ≤ (↑(ByteArray.mk #[48, 49, 50, 51, 52, 53, 54, 55, 56, 57, 97, 98, 99, 100, 101, 102]).size : Int)) then bif decide ((y1 ++ (ByteArray.mk #[48, 49, 50, 51, 52, 53, 54, 55, 56, 57, 97, 98, 99, 100, 101, 102]).extract (IntKind.u8.wrap ((zaS y0 y2.toNat).tdiv 16)).toNat (IntKind.u8.wrap (IntKind.u8.wrap ((zaS y0 y2.toNat).tdiv 16) + 1)).toNat).size + ((ByteArray.mk #[48, 49, 50, 51, 52, 53, 54, 55, 56, 57, 97, 98, 99, 100, 101, 102]).extract ((zaS y0 y2.toNat).tmod 16).toNat (IntKind.u8.wrap ((zaS y0 y2.toNat).tmod 16 + 1)).toNat).size ≤ 70368744177664) then zba.L3 y0 (y1 ++ (ByteArray.mk #[48, 49, 50, 51, 52, 53, 54, 55, 56, 57, 97, 98, 99, 100, 101, 102]).extract (IntKind.u8.wrap ((zaS y0 y2.toNat).tdiv 16)).toNat (IntKind.u8.wrap (IntKind.u8.wrap ((zaS y0 y2.toNat).tdiv 16) + 1)).toNat ++ (ByteArray.mk #[48, 49, 50, 51, 52, 53, 54, 55, 56, 57, 97, 98, 99, 100, 101, 102]).extract ((zaS y0 y2.toNat).tmod 16).toNat (IntKind.u8.wrap ((zaS y0 y2.toNat).tmod 16 + 1)).toNat) (IntKind.i64.wrap (y2 + 1)) else none else none else none else none else none else none else none else none else some (zba.x3 y1) := by
 refine (zbz (Y := Y) (c := lim' Y) (fn := 194) (rid := 3) (b := zav 3 zba.c) (by kernel_rfl) _).trans ?_
 delta zba.L3 zba.x3 XX
 generalize lpL (Y.ctx (lim' Y)) 194 = lp
 generalize lim' Y = call
 kernel_rfl
theorem zba.a3x3 (y0:BAy) : zba.A3 (zba.x3 y0) = bif y0.toList == [] then some ⟨[.v (.string (ByteArray.mk #[45]))], []⟩ else some ⟨[.v (.string y0)], []⟩ := by
 delta zba.A3 zba.x3 XX
 generalize lpL (Y.ctx (lim' Y)) 194 = lp
 generalize lim' Y = call
 kernel_rfl
noncomputable def zaY.L3 (y0:BAy) (y1:Int) (y2:LLD) : Option (Ex × St) := lpL XX 199 (zav 3 zaY.c) (mkG 0 45 [(0, .one (.v (.string y0))), (3, .one (.r 3 [] 0)), (4, .one (.v (.int .i64 y1)))] [(3, some ⟨.virt, [.s y2], [.deep]⟩)] GL)
noncomputable def zaY.A3 : Ex × St → Option Res := fun r => evA XX 199 (lpL XX 199) 3 zaY.c r.fst r.snd (outE XX 199 Tryz.f199)
noncomputable def zaY.P5 (y0:BAy) (y1:Int) (y2:LLD) : Option (Ex × St) := evB XX 199 (lpL XX 199) 5 (zav 3 zaY.c) (mkG 0 45 [(0, .one (.v (.string y0))), (3, .one (.r 3 [] 0)), (4, .one (.v (.int .i64 y1)))] [(3, some ⟨.virt, [.s y2], [.deep]⟩)] GL) (backL (lpL XX 199) (zav 3 zaY.c) (XX.live 199 3))
noncomputable def zaY.x3 (y0:LLD) : Ex × St := (Ex.exit 0, mkG 0 45 [(3, .one (.r 3 [] 0))] [(3, some ⟨.virt, [.s y0], [.deep]⟩)] GL)
theorem zaY.e (a0:BAy) : zaY [.one (.v (.string a0))] [] = (zaY.L3 a0 0 []).bind zaY.A3 := by
 refine (zaY.run _ _ (by kernel_rfl)).trans ?_
 delta zaY zaY.L3 zaY.A3 XX
 generalize lpL (Y.ctx (lim' Y)) 199 = lp
 generalize lim' Y = call
 kernel_rfl
theorem zaY.s3 (y0:BAy) (y1:Int) (y2:LLD) : zaY.L3 y0 y1 y2 = bif decide (IntKind.i64.wrap (y1 + 1) < (↑y0.size : Int)) then bif decide (0 ≤ y1) && decide (y1 < (↑y0.size : Int)) then (zaT [.one (.v (.int .u8 (zaS y0 y1.toNat)))] []).bind fun val => bif zae [.int .i64] val.1 && true then bif decide ((val.1.getD 0 .d).int ≥ 0) then bif decide (0 ≤ IntKind.i64.wrap (y1 + 1)) && decide (IntKind.i64.wrap (y1 + 1) < (↑y0.size : Int)) then (zaT [.one (.v (.int .u8 (zaS y0 (IntKind.i64.wrap (y1 + 1)).toNat)))] []).bind fun val => bif zae [.int .i64] val.1 && true then bif decide ((val.1.getD 0 .d).int ≥ 0) then zaY.P5 y0 y1 y2 else some (zaY.x3 y2) else none else none else some (zaY.x3 y2) else none else none else some (zaY.x3 y2) := by
 refine (zbz (Y := Y) (c := lim' Y) (fn := 199) (rid := 3) (b := zav 3 zaY.c) (by kernel_rfl) _).trans ?_
 delta zaY.L3 zaT zaY.P5 zaY.x3 XX
 refine za3 [5] (by kernel_rfl) fun J e1 => ?_
 try simp only [← e1]
 clear e1
 generalize lpL (Y.ctx (lim' Y)) 199 = lp
 generalize lim' Y = call
 kernel_rfl
theorem zaY.p5 (y0:BAy) (y1:Int) (y2:LLD) : zaY.P5 y0 y1 y2 = bif decide (0 ≤ y1) && decide (y1 < (↑y0.size : Int)) then (zaT [.one (.v (.int .u8 (zaS y0 y1.toNat)))] []).bind fun val => bif zae [.int .i64] val.1 && true then bif decide (0 ≤ IntKind.i64.wrap (y1 + 1)) && decide (IntKind.i64.wrap (y1 + 1) < (↑y0.size : Int)) then (zaT [.one (.v (.int .u8 (zaS y0 (IntKind.i64.wrap (y1 + 1)).toNat)))] []).bind fun val_1 => bif zae [.int .i64] val_1.1 && true then bif zaA 1 y2 && true && true && true && decide ((y2.length + 1) * 2 ≤ 70368744177664) then zaY.L3 y0 (IntKind.i64.wrap (y1 + 2)) (y2 ++ [[D.v (.int .u8 (IntKind.u8.wrap (IntKind.i64.wrap (IntKind.i64.wrap (16 * (val.1.getD 0 .d).int) + (val_1.1.getD 0 .d).int))))]]) else none else none else none else none else none := by
 delta zaY.P5 zaT zaY.L3 XX
 refine zaL [5] 5 (by kernel_rfl) fun J e1 => ?_
 try simp only [← e1]
 clear e1
 generalize lpL (Y.ctx (lim' Y)) 199 = lp
 generalize lim' Y = call
 kernel_rfl
theorem zaY.a3x3 (y0:LLD) : zaY.A3 (zaY.x3 y0) = bif zeA y0 then some ⟨[.v (.string (strOf y0))], []⟩ else none := by
 delta zaY.A3 zaY.x3 XX
 generalize lpL (Y.ctx (lim' Y)) 199 = lp
 generalize lim' Y = call
 kernel_rfl
theorem zbP.e (a0:BAy) : zbP [.one (.v (.string a0))] [] = bif a0.toList == [] then some ⟨[.v (.string (ByteArray.mk #[45]))], []⟩ else (zbb [.one (.v (.string a0))] []).bind fun val => bif zae [.str] val.1 && true then some ⟨[.v (.string (val.1.getD 0 .d).str)], []⟩ else none := by
 refine (zbP.run _ _ (by kernel_rfl)).trans ?_
 delta zbP zbb XX
 generalize lpL (Y.ctx (lim' Y)) 203 = lp
 generalize lim' Y = call
 kernel_rfl
theorem zaJ.e (a0:LLD) (b0:Bool) (b1:Int) (b2:BAy) (b3 b4:LLD) (b:BAy) : zaJ [.one (.s a0), .g [.v (.bool b0), .v (.int .i64 b1), .v (.string b2), .s b3, .s b4], .one (.bx [A0.p true 0 [] 0] 0)] [⟨.bld 170 5, [.v (.string b), .h], [.deep, .deep]⟩] = (zbs [.g [.v (.bool b0), .v (.int .i64 b1), .v (.string b2), .s b3, .s b4], .one (.s a0)] []).bind fun val => bif zae [.str] val.1 && true then (zaV [.one (.p true 0 [] 0), .one (.v (.string (val.1.getD 0 .d).str))] [⟨.bld 170 5, [.v (.string b), .h], [.deep, .deep]⟩]).bind fun val => bif zae [.int .i64, .any] val.1 && za2 [⟨⟨.bld 170 5, [.v (.string b), .h], [.deep, .deep]⟩, .box 0⟩] val.2 then some ⟨[], [⟨.bld 170 5, [.v (.string ((val.2.getD 0 ⟨.ro, [], []⟩).2.getD 0 .h).str), .h], [.deep, .deep]⟩]⟩ else none else none := by
 refine (zaJ.run _ _ (by kernel_rfl)).trans ?_
 delta zaJ zbs zaV XX
 generalize lpL (Y.ctx (lim' Y)) 204 = lp
 generalize lim' Y = call
 kernel_rfl
theorem zaP.e (a0:BAy) : zaP [.one (.v (.string a0))] [] = some ⟨[.v (.bool !a0.toList == a0.toList)], []⟩ := by
 refine (zaP.run _ _ (by kernel_rfl)).trans ?_
 delta zaP XX
 generalize lpL (Y.ctx (lim' Y)) 224 = lp
 generalize lim' Y = call
 kernel_rfl
noncomputable def zaT.P2 (y0:Int) (y1:Bool) : Option Res := evB XX 232 (lpL XX 232) 2 zaT.c (mkG 0 35 [(0, .one (.v (.int .u8 y0))), (3, .one (.v (.bool y1)))] [] GL) (outE XX 232 Tryz.f232)
noncomputable def zaT.P4 (y0:Int) (y1:Bool) : Option Res := evB XX 232 (lpL XX 232) 4 zaT.c (mkG 0 35 [(0, .one (.v (.int .u8 y0))), (13, .one (.v (.bool y1)))] [] GL) (outE XX 232 Tryz.f232)
noncomputable def zaT.P6 (y0:Int) (y1:Bool) : Option Res := evB XX 232 (lpL XX 232) 6 zaT.c (mkG 0 35 [(0, .one (.v (.int .u8 y0))), (24, .one (.v (.bool y1)))] [] GL) (outE XX 232 Tryz.f232)
theorem zaT.e (a0:Int) : zaT [.one (.v (.int .u8 a0))] [] = bif decide (a0 ≥ 48) then zaT.P2 a0 (decide (a0 ≤ 57)) else zaT.P2 a0 false := by
 refine (zaT.run _ _ (by kernel_rfl)).trans ?_
 delta zaT zaT.P2 XX
 refine za3 [2, 4, 6] (by kernel_rfl) fun J e1 => ?_
 try simp only [← e1]
 clear e1
 generalize lpL (Y.ctx (lim' Y)) 232 = lp
 generalize lim' Y = call
 kernel_rfl
theorem zaT.p2 (y0:Int) (y1:Bool) : zaT.P2 y0 y1 = bif y1 then some ⟨[.v (.int .i64 (IntKind.i64.wrap (IntKind.u8.wrap (y0 - 48))))], []⟩ else bif decide (y0 ≥ 97) then zaT.P4 y0 (decide (y0 ≤ 102)) else zaT.P4 y0 false := by
 delta zaT.P2 zaT.P4 XX
 refine zaL [2, 4, 6] 2 (by kernel_rfl) fun J e1 => ?_
 try simp only [← e1]
 clear e1
 generalize lpL (Y.ctx (lim' Y)) 232 = lp
 generalize lim' Y = call
 kernel_rfl
theorem zaT.p4 (y0:Int) (y1:Bool) : zaT.P4 y0 y1 = bif y1 then some ⟨[.v (.int .i64 (IntKind.i64.wrap (IntKind.i64.wrap (IntKind.u8.wrap (y0 - 97)) + 10)))], []⟩ else bif decide (y0 ≥ 65) then zaT.P6 y0 (decide (y0 ≤ 70)) else zaT.P6 y0 false := by
 delta zaT.P4 zaT.P6 XX
 refine zaL [2, 4, 6] 4 (by kernel_rfl) fun J e1 => ?_
 try simp only [← e1]
 clear e1
 generalize lpL (Y.ctx (lim' Y)) 232 = lp
 generalize lim' Y = call
 kernel_rfl
theorem zaT.p6 (y0:Int) (y1:Bool) : zaT.P6 y0 y1 = bif y1 then some ⟨[.v (.int .i64 (IntKind.i64.wrap (IntKind.i64.wrap (IntKind.u8.wrap (y0 - 65)) + 10)))], []⟩ else some ⟨[.v (.int .i64 (-1))], []⟩ := by
 delta zaT.P6 XX
 refine zaL [2, 4, 6] 6 (by kernel_rfl) fun J e1 => ?_
 try simp only [← e1]
 clear e1
 generalize lpL (Y.ctx (lim' Y)) 232 = lp
 generalize lim' Y = call
 kernel_rfl
noncomputable def zbb.L3 (y0:BAy) (y1:Int) (y2:LLD) : Option (Ex × St) := lpL XX 236 (zav 3 zbb.c) (mkG 0 27 [(0, .one (.v (.string y0))), (3, .one (.r 3 [] 0)), (4, .one (.v (.int .i64 y1)))] [(3, some ⟨.virt, [.s y2], [.deep]⟩)] GL)
noncomputable def zbb.A3 : Ex × St → Option Res := fun r => evA XX 236 (lpL XX 236) 3 zbb.c r.fst r.snd (outE XX 236 Tryz.f236)
noncomputable def zbb.x3 (y0:LLD) : Ex × St := (Ex.exit 0, mkG 0 27 [(3, .one (.r 3 [] 0))] [(3, some ⟨.virt, [.s y0], [.deep]⟩)] GL)
theorem zbb.e (a0:BAy) : zbb [.one (.v (.string a0))] [] = (zbb.L3 a0 0 []).bind zbb.A3 := by
 refine (zbb.run _ _ (by kernel_rfl)).trans ?_
 delta zbb zbb.L3 zbb.A3 XX
 generalize lpL (Y.ctx (lim' Y)) 236 = lp
 generalize lim' Y = call
 kernel_rfl
theorem zbb.s3 (y0:BAy) (y1:Int) (y2:LLD) : zbb.L3 y0 y1 y2 = bif decide (y1 < (↑y0.size : Int)) then bif decide (0 ≤ y1) && decide (y1 < (↑y0.size : Int)) then bif decide (IntKind.u8.wrap ((zaS y0 y1.toNat).tdiv 16) < (↑(ByteArray.mk #[48, 49, 50, 51, 52, 53, 54, 55, 56, 57, 97, 98, 99, 100, 101, 102]).size : Int)) then bif decide (0 ≤ y1) && decide (y1 < (↑y0.size : Int)) then bif decide ((zaS y0 y1.toNat).tmod 16 < (↑(ByteArray.mk #[48, 49, 50, 51, 52, 53, 54, 55, 56, 57, 97, 98, 99, 100, 101, 102]).size : Int)) then bif zaA 1 y2 && true && true && true && decide ((y2.length + 2) * 2 ≤ 70368744177664) then zbb.L3 y0 (IntKind.i64.wrap (y1 + 1)) (y2 ++ [[.v (.int .u8 (zaS (ByteArray.mk #[48, 49, 50, 51, 52, 53, 54, 55, 56, 57, 97, 98, 99, 100, 101, 102]) (IntKind.u8.wrap ((zaS y0 y1.toNat).tdiv 16)).toNat))], [.v (.int .u8 (zaS (ByteArray.mk #[48, 49, 50, 51, 52, 53, 54, 55, 56, 57, 97, 98, 99, 100, 101, 102]) ((zaS y0 y1.toNat).tmod 16).toNat))]]) else none else none else none else none else none else some (zbb.x3 y2) := by
 refine (zbz (Y := Y) (c := lim' Y) (fn := 236) (rid := 3) (b := zav 3 zbb.c) (by kernel_rfl) _).trans ?_
 delta zbb.L3 zbb.x3 XX
 generalize lpL (Y.ctx (lim' Y)) 236 = lp
 generalize lim' Y = call
 kernel_rfl
theorem zbb.a3x3 (y0:LLD) : zbb.A3 (zbb.x3 y0) = bif zeA y0 then some ⟨[.v (.string (strOf y0))], []⟩ else none := by
 delta zbb.A3 zbb.x3 XX
 generalize lpL (Y.ctx (lim' Y)) 236 = lp
 generalize lim' Y = call
 kernel_rfl
end Go.PVx
