/- A part of the proof: PvTtRes. -/
import Derived.Test.YtkaclcgkndbppaaGreatDoorTab
import Derived.KernelRfl
set_option linter.unusedSimpArgs false
set_option linter.unusedVariables false
namespace Go.PVx
open Go.PV Go.Proofs
set_option maxRecDepth 100000
set_option linter.unusedVariables false
abbrev LLD := List (List D)
abbrev BAy := ByteArray
noncomputable def zaf.P8 (y0:LLD) (y1 y2 y3:Bool) (y4:Int) (y5:BAy) (y6 y7 y8:LLD) (y9:Bool) (y10:Int) (y11:BAy) (y12 y13:LLD) : Option Res := evB XX 5 (lpL XX 5) 8 zaf.c (mkG 0 96 [(0, .one (.s y0)), (4, .one (.p true 4 [] 0)), (5, .one (.v (.bool y1))), (6, .one (.r 6 [] 0)), (7, .one (.p true 7 [] 0)), (8, .one (.v (.bool y2)))] [(4, some ⟨.box, [.v (.bool y3), .v (.int .i64 y4), .v (.string y5), .s y6, .s y7], [.deep, .deep, .deep, .deep, .deep]⟩), (6, some ⟨.virt, [.s y8], [.deep]⟩), (7, some ⟨.box, [.v (.bool y9), .v (.int .i64 y10), .v (.string y11), .s y12, .s y13], [.deep, .deep, .deep, .deep, .deep]⟩)] GL) (outE XX 5 Tryz.f5)
noncomputable def zaf.P9 (y0:LLD) (y1 y2 y3 y4:Bool) (y5:Int) (y6:BAy) (y7 y8 y9:LLD) (y10:Bool) (y11:Int) (y12:BAy) (y13 y14:LLD) : Option Res := evB XX 5 (lpL XX 5) 9 zaf.c (mkG 0 96 [(0, .one (.s y0)), (4, .one (.p true 4 [] 0)), (5, .one (.v (.bool y1))), (6, .one (.r 6 [] 0)), (7, .one (.p true 7 [] 0)), (8, .one (.v (.bool y2))), (40, .one (.v (.bool y3)))] [(4, some ⟨.box, [.v (.bool y4), .v (.int .i64 y5), .v (.string y6), .s y7, .s y8], [.deep, .deep, .deep, .deep, .deep]⟩), (6, some ⟨.virt, [.s y9], [.deep]⟩), (7, some ⟨.box, [.v (.bool y10), .v (.int .i64 y11), .v (.string y12), .s y13, .s y14], [.deep, .deep, .deep, .deep, .deep]⟩)] GL) (outE XX 5 Tryz.f5)
noncomputable def zaf.P10 (y0:LLD) (y1 y2 y3:Bool) (y4:Int) (y5:BAy) (y6 y7 y8:LLD) (y9:Bool) (y10:Int) (y11:BAy) (y12 y13:LLD) : Option Res := evB XX 5 (lpL XX 5) 10 zaf.c (mkG 0 96 [(0, .one (.s y0)), (4, .one (.p true 4 [] 0)), (5, .one (.v (.bool y1))), (6, .one (.r 6 [] 0)), (7, .one (.p true 7 [] 0)), (8, .one (.v (.bool y2)))] [(4, some ⟨.box, [.v (.bool y3), .v (.int .i64 y4), .v (.string y5), .s y6, .s y7], [.deep, .deep, .deep, .deep, .deep]⟩), (6, some ⟨.virt, [.s y8], [.deep]⟩), (7, some ⟨.box, [.v (.bool y9), .v (.int .i64 y10), .v (.string y11), .s y12, .s y13], [.deep, .deep, .deep, .deep, .deep]⟩)] GL) (outE XX 5 Tryz.f5)
noncomputable def zaf.P15 (y0:LLD) (y1 y2 y3:Bool) (y4:Int) (y5:BAy) (y6 y7:LLD) (y8:Bool) (y9:Int) (y10:BAy) (y11 y12:LLD) : Option Res := evB XX 5 (lpL XX 5) 15 zaf.c (mkG 0 96 [(0, .one (.s y0)), (4, .one (.p true 4 [] 0)), (5, .one (.v (.bool y1))), (7, .one (.p true 7 [] 0)), (61, .one (.v (.bool y2)))] [(4, some ⟨.box, [.v (.bool y3), .v (.int .i64 y4), .v (.string y5), .s y6, .s y7], [.deep, .deep, .deep, .deep, .deep]⟩), (7, some ⟨.box, [.v (.bool y8), .v (.int .i64 y9), .v (.string y10), .s y11, .s y12], [.deep, .deep, .deep, .deep, .deep]⟩)] GL) (outE XX 5 Tryz.f5)
noncomputable def zaf.P16 (y0:LLD) (y1 y2:Bool) (y3:Int) (y4:BAy) (y5 y6:LLD) (y7:Bool) (y8:Int) (y9:BAy) (y10 y11:LLD) : Option Res := evB XX 5 (lpL XX 5) 16 zaf.c (mkG 0 96 [(0, .one (.s y0)), (4, .one (.p true 4 [] 0)), (5, .one (.v (.bool y1))), (7, .one (.p true 7 [] 0))] [(4, some ⟨.box, [.v (.bool y2), .v (.int .i64 y3), .v (.string y4), .s y5, .s y6], [.deep, .deep, .deep, .deep, .deep]⟩), (7, some ⟨.box, [.v (.bool y7), .v (.int .i64 y8), .v (.string y9), .s y10, .s y11], [.deep, .deep, .deep, .deep, .deep]⟩)] GL) (outE XX 5 Tryz.f5)
noncomputable def zaf.P25 (y0:Bool) (y1:Int) (y2 y3:Bool) (y4:Int) (y5:BAy) (y6 y7:LLD) (y8:Bool) (y9:Int) (y10:BAy) (y11 y12:LLD) (y13:Bool) (y14:Int) (y15:BAy) (y16 y17:LLD) : Option Res := evB XX 5 (lpL XX 5) 25 zaf.c (mkG 0 96 [(4, .one (.p true 4 [] 0)), (5, .one (.v (.bool y0))), (7, .one (.p true 7 [] 0)), (10, .one (.v (.int .i64 y1))), (12, .one (.p true 12 [] 0)), (13, .one (.v (.bool y2)))] [(4, some ⟨.box, [.v (.bool y3), .v (.int .i64 y4), .v (.string y5), .s y6, .s y7], [.deep, .deep, .deep, .deep, .deep]⟩), (7, some ⟨.box, [.v (.bool y8), .v (.int .i64 y9), .v (.string y10), .s y11, .s y12], [.deep, .deep, .deep, .deep, .deep]⟩), (12, some ⟨.box, [.v (.bool y13), .v (.int .i64 y14), .v (.string y15), .s y16, .s y17], [.deep, .deep, .deep, .deep, .deep]⟩)] GL) (outE XX 5 Tryz.f5)
noncomputable def zaf.P26 (y0:Int) (y1 y2:Bool) (y3:Int) (y4:BAy) (y5 y6:LLD) : Option Res := evB XX 5 (lpL XX 5) 26 zaf.c (mkG 0 96 [(7, .one (.p true 7 [] 0)), (10, .one (.v (.int .i64 y0))), (87, .one (.v (.bool y1)))] [(7, some ⟨.box, [.v (.bool y2), .v (.int .i64 y3), .v (.string y4), .s y5, .s y6], [.deep, .deep, .deep, .deep, .deep]⟩)] GL) (outE XX 5 Tryz.f5)
noncomputable def zaf.P27 (y0:Int) (y1:Bool) (y2:Int) (y3:BAy) (y4 y5:LLD) : Option Res := evB XX 5 (lpL XX 5) 27 zaf.c (mkG 0 96 [(7, .one (.p true 7 [] 0)), (10, .one (.v (.int .i64 y0)))] [(7, some ⟨.box, [.v (.bool y1), .v (.int .i64 y2), .v (.string y3), .s y4, .s y5], [.deep, .deep, .deep, .deep, .deep]⟩)] GL) (outE XX 5 Tryz.f5)
theorem zaf.e (a0:LLD) : zaf [.one (.s a0)] [] = (zaX [.one (.s a0), .one (.v (.int .i64 1048576))] []).bind fun val => bif zag [.int .i64] val.1 && true then bif decide ((val.1.getD 0 .d).int < 0) then some ⟨[.v (.bool true)], []⟩ else (za2 [.one (.s a0)] []).bind fun val => bif zag [.own .deep] val.1 && true then (zab [.one (.s (val.1.getD 0 .d).es)] []).bind fun val => bif zag [.bool, .int .i64, .str, .own .deep, .own .deep, .bool] val.1 && true then (za2 [.one (.s a0)] []).bind fun val_1 => bif zag [.own .deep] val_1.1 && true then (zah [.one (.s (val_1.1.getD 0 .d).es)] []).bind fun val_2 => bif zag [.bool, .int .i64, .str, .own .deep, .own .deep, .bool] val_2.1 && true then zaf.P8 a0 (val.1.getD 5 .d).bool (val_2.1.getD 5 .d).bool (val.1.getD 0 .d).bool (val.1.getD 1 .d).int (val.1.getD 2 .d).str (val.1.getD 3 .d).es (val.1.getD 4 .d).es (val_1.1.getD 0 .d).es (val_2.1.getD 0 .d).bool (val_2.1.getD 1 .d).int (val_2.1.getD 2 .d).str (val_2.1.getD 3 .d).es (val_2.1.getD 4 .d).es else none else none else none else none else none := by
 refine (zaf.run _ _ (by kernel_rfl)).trans ?_
 delta zaf zaX za2 zab zah zaf.P8 XX
 refine zbp [8, 9, 10, 15, 16, 25, 26, 27] (by kernel_rfl) fun J e1 => ?_
 try simp only [← e1]
 clear e1
 generalize lpL (Y.ctx (lim' Y)) 5 = lp
 generalize lim' Y = call
 kernel_rfl
theorem zaf.p8 (y0:LLD) (y1 y2 y3:Bool) (y4:Int) (y5:BAy) (y6 y7 y8:LLD) (y9:Bool) (y10:Int) (y11:BAy) (y12 y13:LLD) : zaf.P8 y0 y1 y2 y3 y4 y5 y6 y7 y8 y9 y10 y11 y12 y13 = (zbr [.g [.v (.bool y9), .v (.int .i64 y10), .v (.string y11), .s y12, .s y13], .g [.v (.bool y3), .v (.int .i64 y4), .v (.string y5), .s y6, .s y7]] []).bind fun val => bif zag [.bool] val.1 && true then bif !(val.1.getD 0 .d).bool then zaf.P9 y0 y1 y2 true y3 y4 y5 y6 y7 y8 y9 y10 y11 y12 y13 else zaf.P9 y0 y1 y2 (!y2 == y1) y3 y4 y5 y6 y7 y8 y9 y10 y11 y12 y13 else none := by
 delta zaf.P8 zbr zaf.P9 XX
 refine zbb [8, 9, 10, 15, 16, 25, 26, 27] 8 (by kernel_rfl) fun J e1 => ?_
 try simp only [← e1]
 clear e1
 generalize lpL (Y.ctx (lim' Y)) 5 = lp
 generalize lim' Y = call
 kernel_rfl
theorem zaf.p9 (y0:LLD) (y1 y2 y3 y4:Bool) (y5:Int) (y6:BAy) (y7 y8 y9:LLD) (y10:Bool) (y11:Int) (y12:BAy) (y13 y14:LLD) : zaf.P9 y0 y1 y2 y3 y4 y5 y6 y7 y8 y9 y10 y11 y12 y13 y14 = bif y3 then some ⟨[.v (.bool false)], []⟩ else zaf.P10 y0 y1 y2 y4 y5 y6 y7 y8 y9 y10 y11 y12 y13 y14 := by
 delta zaf.P9 zaf.P10 XX
 refine zbb [8, 9, 10, 15, 16, 25, 26, 27] 9 (by kernel_rfl) fun J e1 => ?_
 try simp only [← e1]
 clear e1
 generalize lpL (Y.ctx (lim' Y)) 5 = lp
 generalize lim' Y = call
 kernel_rfl
theorem zaf.p10 (y0:LLD) (y1 y2 y3:Bool) (y4:Int) (y5:BAy) (y6 y7 y8:LLD) (y9:Bool) (y10:Int) (y11:BAy) (y12 y13:LLD) : zaf.P10 y0 y1 y2 y3 y4 y5 y6 y7 y8 y9 y10 y11 y12 y13 = (za2 [.one (.s y0)] []).bind fun val => bif zag [.own .deep] val.1 && true then (za5 [.one (.s y8), .one (.s (val.1.getD 0 .d).es)] []).bind fun val => bif zag [.bool] val.1 && true then bif !(val.1.getD 0 .d).bool then some ⟨[.v (.bool false)], []⟩ else (zaF [.one (.r 0 [] 0), .one (.v (.int .i64 1))] [⟨.virt, [.s y8], [.deep]⟩]).bind fun val => bif zag [.int .i64] val.1 && za4 [⟨⟨.virt, [.s y8], [.deep]⟩, .sl 6 [] 0⟩] val.2 then bif decide ((val.1.getD 0 .d).int < 0) then zaf.P15 y0 y1 true y3 y4 y5 y6 y7 y9 y10 y11 y12 y13 else (zbr [.g [.v (.bool y9), .v (.int .i64 y10), .v (.string y11), .s y12, .s y13], .g [.v (.bool y3), .v (.int .i64 y4), .v (.string y5), .s y6, .s y7]] []).bind fun val => bif zag [.bool] val.1 && true then bif !(val.1.getD 0 .d).bool then zaf.P15 y0 y1 true y3 y4 y5 y6 y7 y9 y10 y11 y12 y13 else zaf.P15 y0 y1 (!y2 == y1) y3 y4 y5 y6 y7 y9 y10 y11 y12 y13 else none else none else none else none := by
 delta zaf.P10 za2 za5 zaF zaf.P15 zbr XX
 refine zbb [8, 9, 10, 15, 16, 25, 26, 27] 10 (by kernel_rfl) fun J e1 => ?_
 try simp only [← e1]
 clear e1
 generalize lpL (Y.ctx (lim' Y)) 5 = lp
 generalize lim' Y = call
 kernel_rfl
theorem zaf.p15 (y0:LLD) (y1 y2 y3:Bool) (y4:Int) (y5:BAy) (y6 y7:LLD) (y8:Bool) (y9:Int) (y10:BAy) (y11 y12:LLD) : zaf.P15 y0 y1 y2 y3 y4 y5 y6 y7 y8 y9 y10 y11 y12 = bif y2 then some ⟨[.v (.bool false)], []⟩ else zaf.P16 y0 y1 y3 y4 y5 y6 y7 y8 y9 y10 y11 y12 := by
 delta zaf.P15 zaf.P16 XX
 refine zbb [8, 9, 10, 15, 16, 25, 26, 27] 15 (by kernel_rfl) fun J e1 => ?_
 try simp only [← e1]
 clear e1
 generalize lpL (Y.ctx (lim' Y)) 5 = lp
 generalize lim' Y = call
 kernel_rfl
theorem zaf.p16 (y0:LLD) (y1 y2:Bool) (y3:Int) (y4:BAy) (y5 y6:LLD) (y7:Bool) (y8:Int) (y9:BAy) (y10 y11:LLD) : zaf.P16 y0 y1 y2 y3 y4 y5 y6 y7 y8 y9 y10 y11 = (zbU [.g [.v (.bool y7), .v (.int .i64 y8), .v (.string y9), .r 0 [] 0, .r 0 [] 1], .one (.v (.int .i64 1))] [⟨.virt, [.s y10, .s y11], [.deep, .deep]⟩]).bind fun val => bif zag [.int .i64] val.1 && za4 [⟨⟨.virt, [.s y10, .s y11], [.deep, .deep]⟩, .grp 7 [3, 4] false⟩] val.2 then (zbG [.g [.v (.bool y7), .v (.int .i64 y8), .v (.string y9), .s ((val.2.getD 0 ⟨.ro, [], []⟩).2.getD 0 .h).es, .s ((val.2.getD 0 ⟨.ro, [], []⟩).2.getD 1 .h).es], .one (.v (.int .i64 1))] []).bind fun val_1 => bif zag [.int .i64] val_1.1 && true then bif decide ((val_1.1.getD 0 .d).int < 0) then some ⟨[.v (.bool false)], []⟩ else bif (val_1.1.getD 0 .d).int != (val.1.getD 0 .d).int then some ⟨[.v (.bool false)], []⟩ else (za2 [.one (.s y0)] []).bind fun val_2 => bif zag [.own .deep] val_2.1 && true then (zah [.one (.s (val_2.1.getD 0 .d).es)] []).bind fun val_3 => bif zag [.bool, .int .i64, .str, .own .deep, .own .deep, .bool] val_3.1 && true then zaf.P25 y1 (val.1.getD 0 .d).int (val_3.1.getD 5 .d).bool y2 y3 y4 y5 y6 y7 y8 y9 ((val.2.getD 0 ⟨.ro, [], []⟩).2.getD 0 .h).es ((val.2.getD 0 ⟨.ro, [], []⟩).2.getD 1 .h).es (val_3.1.getD 0 .d).bool (val_3.1.getD 1 .d).int (val_3.1.getD 2 .d).str (val_3.1.getD 3 .d).es (val_3.1.getD 4 .d).es else none else none else none else none := by
 delta zaf.P16 zbU zbG za2 zah zaf.P25 XX
 refine zbb [8, 9, 10, 15, 16, 25, 26, 27] 16 (by kernel_rfl) fun J e1 => ?_
 try simp only [← e1]
 clear e1
 generalize lpL (Y.ctx (lim' Y)) 5 = lp
 generalize lim' Y = call
 kernel_rfl
theorem zaf.p25 (y0:Bool) (y1:Int) (y2 y3:Bool) (y4:Int) (y5:BAy) (y6 y7:LLD) (y8:Bool) (y9:Int) (y10:BAy) (y11 y12:LLD) (y13:Bool) (y14:Int) (y15:BAy) (y16 y17:LLD) : zaf.P25 y0 y1 y2 y3 y4 y5 y6 y7 y8 y9 y10 y11 y12 y13 y14 y15 y16 y17 = (zbr [.g [.v (.bool y13), .v (.int .i64 y14), .v (.string y15), .s y16, .s y17], .g [.v (.bool y3), .v (.int .i64 y4), .v (.string y5), .s y6, .s y7]] []).bind fun val => bif zag [.bool] val.1 && true then bif !(val.1.getD 0 .d).bool then zaf.P26 y1 true y8 y9 y10 y11 y12 else zaf.P26 y1 (!y2 == y0) y8 y9 y10 y11 y12 else none := by
 delta zaf.P25 zbr zaf.P26 XX
 refine zbb [8, 9, 10, 15, 16, 25, 26, 27] 25 (by kernel_rfl) fun J e1 => ?_
 try simp only [← e1]
 clear e1
 generalize lpL (Y.ctx (lim' Y)) 5 = lp
 generalize lim' Y = call
 kernel_rfl
theorem zaf.p26 (y0:Int) (y1 y2:Bool) (y3:Int) (y4:BAy) (y5 y6:LLD) : zaf.P26 y0 y1 y2 y3 y4 y5 y6 = bif y1 then some ⟨[.v (.bool false)], []⟩ else zaf.P27 y0 y2 y3 y4 y5 y6 := by
 delta zaf.P26 zaf.P27 XX
 refine zbb [8, 9, 10, 15, 16, 25, 26, 27] 26 (by kernel_rfl) fun J e1 => ?_
 try simp only [← e1]
 clear e1
 generalize lpL (Y.ctx (lim' Y)) 5 = lp
 generalize lim' Y = call
 kernel_rfl
theorem zaf.p27 (y0:Int) (y1:Bool) (y2:Int) (y3:BAy) (y4 y5:LLD) : zaf.P27 y0 y1 y2 y3 y4 y5 = (zbG [.g [.v (.bool y1), .v (.int .i64 y2), .v (.string y3), .s y4, .s y5], .one (.v (.int .i64 1))] []).bind fun val => bif zag [.int .i64] val.1 && true then bif decide ((val.1.getD 0 .d).int < 0) then some ⟨[.v (.bool false)], []⟩ else bif (val.1.getD 0 .d).int != y0 then some ⟨[.v (.bool false)], []⟩ else some ⟨[.v (.bool true)], []⟩ else none := by
 delta zaf.P27 zbG XX
 refine zbb [8, 9, 10, 15, 16, 25, 26, 27] 27 (by kernel_rfl) fun J e1 => ?_
 try simp only [← e1]
 clear e1
 generalize lpL (Y.ctx (lim' Y)) 5 = lp
 generalize lim' Y = call
 kernel_rfl
noncomputable def zaX.L5 (y0:LLD) (y1 y2:Int) : Option (Ex × St) := lpL XX 14 (zar 5 zaX.c) (mkG 0 27 [(0, .one (.s y0)), (1, .one (.v (.int .i64 y1))), (5, .one (.v (.int .i64 y2)))] [] GL)
noncomputable def zaX.A5 : Ex × St → Option Res := fun r => evA XX 14 (lpL XX 14) 5 zaX.c r.fst r.snd (outE XX 14 Tryz.f14)
noncomputable def zaX.q5 (y0 y1:Int) : Ex × St := (Ex.ret, mkG 0 27 [(1, .one (.v (.int .i64 y0))), (4, .one (.v (.int .i64 y1)))] [] GL)
noncomputable def zaX.x5 (y0:Int) : Ex × St := (Ex.exit 0, mkG 0 27 [(1, .one (.v (.int .i64 y0)))] [] GL)
theorem zaX.e (a0:LLD) (a1:Int) : zaX [.one (.s a0), .one (.v (.int .i64 a1))] [] = bif decide (IntKind.i64.wrap (a1 - (↑a0.length : Int)) < 0) then some ⟨[.v (.int .i64 (-1))], []⟩ else (zaX.L5 a0 (IntKind.i64.wrap (a1 - (↑a0.length : Int))) 0).bind zaX.A5 := by
 refine (zaX.run _ _ (by kernel_rfl)).trans ?_
 delta zaX zaX.L5 zaX.A5 XX
 generalize lpL (Y.ctx (lim' Y)) 14 = lp
 generalize lim' Y = call
 kernel_rfl
theorem zaX.s5 (y0:LLD) (y1 y2:Int) : zaX.L5 y0 y1 y2 = bif decide (y2 < (↑y0.length : Int)) then bif decide (0 ≤ y2) && decide (y2 < (↑y0.length : Int)) && decide ((y0.getD y2.toNat []).length = 5) then bif zau [.sl, .bool, .int .i64, .str, .int .i64] (y0.getD y2.toNat []) 0 && decide (5 ≤ (y0.getD y2.toNat []).length) then (zdd [.g [.s ((y0.getD y2.toNat []).getD 0 .h).es, .v (.bool ((y0.getD y2.toNat []).getD 1 .h).bool), .v (.int .i64 ((y0.getD y2.toNat []).getD 2 .h).int), .v (.string ((y0.getD y2.toNat []).getD 3 .h).str), .v (.int .i64 ((y0.getD y2.toNat []).getD 4 .h).int)], .one (.v (.int .i64 y1))] []).bind fun val => bif zag [.int .i64] val.1 && true then bif decide ((val.1.getD 0 .d).int < 0) then some (zaX.q5 (val.1.getD 0 .d).int (-1)) else zaX.L5 y0 (val.1.getD 0 .d).int (IntKind.i64.wrap (y2 + 1)) else none else none else none else some (zaX.x5 y1) := by
 refine (zbf (Y := Y) (c := lim' Y) (fn := 14) (rid := 5) (b := zar 5 zaX.c) (by kernel_rfl) _).trans ?_
 delta zaX.L5 zdd zaX.q5 zaX.x5 XX
 generalize lpL (Y.ctx (lim' Y)) 14 = lp
 generalize lim' Y = call
 kernel_rfl
theorem zaX.a5q5 (y0 y1:Int) : zaX.A5 (zaX.q5 y0 y1) = some ⟨[.v (.int .i64 y1)], []⟩ := by
 delta zaX.A5 zaX.q5 XX
 generalize lpL (Y.ctx (lim' Y)) 14 = lp
 generalize lim' Y = call
 kernel_rfl
theorem zaX.a5x5 (y0:Int) : zaX.A5 (zaX.x5 y0) = some ⟨[.v (.int .i64 y0)], []⟩ := by
 delta zaX.A5 zaX.x5 XX
 generalize lpL (Y.ctx (lim' Y)) 14 = lp
 generalize lim' Y = call
 kernel_rfl
noncomputable def zat.L5 (y0:LLD) (y1 y2:Int) : Option (Ex × St) := lpL XX 15 (zar 5 zat.c) (mkG 0 28 [(0, .one (.s y0)), (1, .one (.v (.int .i64 y1))), (5, .one (.v (.int .i64 y2)))] [] GL)
noncomputable def zat.A5 : Ex × St → Option Res := fun r => evA XX 15 (lpL XX 15) 5 zat.c r.fst r.snd (outE XX 15 Tryz.f15)
noncomputable def zat.q5 (y0 y1:Int) : Ex × St := (Ex.ret, mkG 0 28 [(1, .one (.v (.int .i64 y0))), (4, .one (.v (.int .i64 y1)))] [] GL)
noncomputable def zat.x5 (y0:Int) : Ex × St := (Ex.exit 0, mkG 0 28 [(1, .one (.v (.int .i64 y0)))] [] GL)
theorem zat.e (a0:LLD) (a1:Int) : zat [.one (.s a0), .one (.v (.int .i64 a1))] [] = bif decide (IntKind.i64.wrap (a1 - (↑a0.length : Int)) < 0) then some ⟨[.v (.int .i64 (-1))], []⟩ else (zat.L5 a0 (IntKind.i64.wrap (a1 - (↑a0.length : Int))) 0).bind zat.A5 := by
 refine (zat.run _ _ (by kernel_rfl)).trans ?_
 delta zat zat.L5 zat.A5 XX
 generalize lpL (Y.ctx (lim' Y)) 15 = lp
 generalize lim' Y = call
 kernel_rfl
theorem zat.s5 (y0:LLD) (y1 y2:Int) : zat.L5 y0 y1 y2 = bif decide (y2 < (↑y0.length : Int)) then bif decide (0 ≤ y2) && decide (y2 < (↑y0.length : Int)) && decide ((y0.getD y2.toNat []).length = 1) then bif zau [.str] (y0.getD y2.toNat []) 0 && decide (1 ≤ (y0.getD y2.toNat []).length) then bif decide (IntKind.i64.wrap (y1 - (↑((y0.getD y2.toNat []).getD 0 .h).str.size : Int)) < 0) then some (zat.q5 (IntKind.i64.wrap (y1 - (↑((y0.getD y2.toNat []).getD 0 .h).str.size : Int))) (-1)) else zat.L5 y0 (IntKind.i64.wrap (y1 - (↑((y0.getD y2.toNat []).getD 0 .h).str.size : Int))) (IntKind.i64.wrap (y2 + 1)) else none else none else some (zat.x5 y1) := by
 refine (zbf (Y := Y) (c := lim' Y) (fn := 15) (rid := 5) (b := zar 5 zat.c) (by kernel_rfl) _).trans ?_
 delta zat.L5 zat.q5 zat.x5 XX
 generalize lpL (Y.ctx (lim' Y)) 15 = lp
 generalize lim' Y = call
 kernel_rfl
theorem zat.a5q5 (y0 y1:Int) : zat.A5 (zat.q5 y0 y1) = some ⟨[.v (.int .i64 y1)], []⟩ := by
 delta zat.A5 zat.q5 XX
 generalize lpL (Y.ctx (lim' Y)) 15 = lp
 generalize lim' Y = call
 kernel_rfl
theorem zat.a5x5 (y0:Int) : zat.A5 (zat.x5 y0) = some ⟨[.v (.int .i64 y0)], []⟩ := by
 delta zat.A5 zat.x5 XX
 generalize lpL (Y.ctx (lim' Y)) 15 = lp
 generalize lim' Y = call
 kernel_rfl
noncomputable def za2.L3 (y0:LLD) (y1:Int) (y2:LLD) : Option (Ex × St) := lpL XX 17 (zar 3 za2.c) (mkG 0 23 [(0, .one (.s y0)), (3, .one (.r 3 [] 0)), (4, .one (.v (.int .i64 y1)))] [(3, some ⟨.virt, [.s y2], [.deep]⟩)] GL)
noncomputable def za2.A3 : Ex × St → Option Res := fun r => evA XX 17 (lpL XX 17) 3 za2.c r.fst r.snd (outE XX 17 Tryz.f17)
noncomputable def za2.x3 (y0:LLD) : Ex × St := (Ex.exit 0, mkG 0 23 [(3, .one (.r 3 [] 0))] [(3, some ⟨.virt, [.s y0], [.deep]⟩)] GL)
theorem za2.e (a0:LLD) : za2 [.one (.s a0)] [] = bif decide ((↑a0.length : Int) * ((↑64 : Int) + 1) ≤ 2 ^ 46) && true && true then (za2.L3 a0 0 (List.replicate (↑a0.length : Int).toNat [.s [], .v (.bool false), .v (.int .i64 0), .v (.string (ByteArray.mk #[])), .v (.int .i64 0)])).bind za2.A3 else none := by
 refine (za2.run _ _ (by kernel_rfl)).trans ?_
 delta za2 za2.L3 za2.A3 XX
 generalize lpL (Y.ctx (lim' Y)) 17 = lp
 generalize lim' Y = call
 kernel_rfl
theorem za2.s3 (y0:LLD) (y1:Int) (y2:LLD) : za2.L3 y0 y1 y2 = bif decide (y1 < (↑y0.length : Int)) then bif decide (0 ≤ y1) && decide (y1 < (↑y0.length : Int)) && decide ((y0.getD y1.toNat []).length = 5) then bif zau [.sl, .bool, .int .i64, .str, .int .i64] (y0.getD y1.toNat []) 0 && decide (5 ≤ (y0.getD y1.toNat []).length) then (zdq [.g [.s ((y0.getD y1.toNat []).getD 0 .h).es, .v (.bool ((y0.getD y1.toNat []).getD 1 .h).bool), .v (.int .i64 ((y0.getD y1.toNat []).getD 2 .h).int), .v (.string ((y0.getD y1.toNat []).getD 3 .h).str), .v (.int .i64 ((y0.getD y1.toNat []).getD 4 .h).int)]] []).bind fun val => bif zag [.own .deep, .bool, .int .i64, .str, .int .i64] val.1 && true then bif decide (0 ≤ y1) && decide (y1 < (↑y2.length : Int)) && decide ((y2.getD y1.toNat []).length = 5) then bif decide (5 ≤ (y2.getD y1.toNat []).length) && true then za2.L3 y0 (IntKind.i64.wrap (y1 + 1)) (y2.set y1.toNat (.s (val.1.getD 0 .d).es :: .v (.bool (val.1.getD 1 .d).bool) :: .v (.int .i64 (val.1.getD 2 .d).int) :: .v (.string (val.1.getD 3 .d).str) :: .v (.int .i64 (val.1.getD 4 .d).int) :: List.drop 5 (y2.getD y1.toNat []))) else none else none else none else none else none else some (za2.x3 y2) := by
 refine (zbf (Y := Y) (c := lim' Y) (fn := 17) (rid := 3) (b := zar 3 za2.c) (by kernel_rfl) _).trans ?_
 delta za2.L3 zdq za2.x3 XX
 generalize lpL (Y.ctx (lim' Y)) 17 = lp
 generalize lim' Y = call
 kernel_rfl
theorem za2.a3x3 (y0:LLD) : za2.A3 (za2.x3 y0) = some ⟨[.o .deep y0], []⟩ := by
 delta za2.A3 za2.x3 XX
 generalize lpL (Y.ctx (lim' Y)) 17 = lp
 generalize lim' Y = call
 kernel_rfl
noncomputable def zaI.L3 (y0:LLD) (y1:Int) (y2:LLD) : Option (Ex × St) := lpL XX 18 (zar 3 zaI.c) (mkG 0 22 [(0, .one (.s y0)), (3, .one (.r 3 [] 0)), (4, .one (.v (.int .i64 y1)))] [(3, some ⟨.virt, [.s y2], [.deep]⟩)] GL)
noncomputable def zaI.A3 : Ex × St → Option Res := fun r => evA XX 18 (lpL XX 18) 3 zaI.c r.fst r.snd (outE XX 18 Tryz.f18)
noncomputable def zaI.x3 (y0:LLD) : Ex × St := (Ex.exit 0, mkG 0 22 [(3, .one (.r 3 [] 0))] [(3, some ⟨.virt, [.s y0], [.deep]⟩)] GL)
theorem zaI.e (a0:LLD) : zaI [.one (.s a0)] [] = bif decide ((↑a0.length : Int) * ((↑16 : Int) + 1) ≤ 2 ^ 46) && true && true then (zaI.L3 a0 0 (List.replicate (↑a0.length : Int).toNat [.v (.string (ByteArray.mk #[]))])).bind zaI.A3 else none := by
 refine (zaI.run _ _ (by kernel_rfl)).trans ?_
 delta zaI zaI.L3 zaI.A3 XX
 generalize lpL (Y.ctx (lim' Y)) 18 = lp
 generalize lim' Y = call
 kernel_rfl
theorem zaI.s3 (y0:LLD) (y1:Int) (y2:LLD) : zaI.L3 y0 y1 y2 = bif decide (y1 < (↑y0.length : Int)) then bif decide (0 ≤ y1) && decide (y1 < (↑y0.length : Int)) && decide ((y0.getD y1.toNat []).length = 1) then bif zau [.str] (y0.getD y1.toNat []) 0 && decide (1 ≤ (y0.getD y1.toNat []).length) then bif decide (0 ≤ y1) && decide (y1 < (↑y2.length : Int)) && decide ((y2.getD y1.toNat []).length = 1) then bif decide (1 ≤ (y2.getD y1.toNat []).length) && true then zaI.L3 y0 (IntKind.i64.wrap (y1 + 1)) (y2.set y1.toNat (.v (.string ((y0.getD y1.toNat []).getD 0 .h).str) :: List.drop 1 (y2.getD y1.toNat []))) else none else none else none else none else some (zaI.x3 y2) := by
 refine (zbf (Y := Y) (c := lim' Y) (fn := 18) (rid := 3) (b := zar 3 zaI.c) (by kernel_rfl) _).trans ?_
 delta zaI.L3 zaI.x3 XX
 generalize lpL (Y.ctx (lim' Y)) 18 = lp
 generalize lim' Y = call
 kernel_rfl
theorem zaI.a3x3 (y0:LLD) : zaI.A3 (zaI.x3 y0) = some ⟨[.o .deep y0], []⟩ := by
 delta zaI.A3 zaI.x3 XX
 generalize lpL (Y.ctx (lim' Y)) 18 = lp
 generalize lim' Y = call
 kernel_rfl
noncomputable def za5.L4 (y0 y1:LLD) (y2:Int) : Option (Ex × St) := lpL XX 20 (zar 4 za5.c) (mkG 0 27 [(0, .one (.s y0)), (1, .one (.s y1)), (5, .one (.v (.int .i64 y2)))] [] GL)
noncomputable def za5.A4 : Ex × St → Option Res := fun r => evA XX 20 (lpL XX 20) 4 za5.c r.fst r.snd (outE XX 20 Tryz.f20)
noncomputable def za5.q4 (y0:Bool) : Ex × St := (Ex.ret, mkG 0 27 [(4, .one (.v (.bool y0)))] [] GL)
noncomputable def za5.x4 : Ex × St := (Ex.exit 0, mkG 0 27 [] [] GL)
theorem za5.e (a0 a1:LLD) : za5 [.one (.s a0), .one (.s a1)] [] = bif (↑a0.length : Int) != (↑a1.length : Int) then some ⟨[.v (.bool false)], []⟩ else (za5.L4 a0 a1 0).bind za5.A4 := by
 refine (za5.run _ _ (by kernel_rfl)).trans ?_
 delta za5 za5.L4 za5.A4 XX
 generalize lpL (Y.ctx (lim' Y)) 20 = lp
 generalize lim' Y = call
 kernel_rfl
theorem za5.s4 (y0 y1:LLD) (y2:Int) : za5.L4 y0 y1 y2 = bif decide (y2 < (↑y0.length : Int)) then bif decide (0 ≤ y2) && decide (y2 < (↑y0.length : Int)) && decide ((y0.getD y2.toNat []).length = 5) then bif zau [.sl, .bool, .int .i64, .str, .int .i64] (y0.getD y2.toNat []) 0 && decide (5 ≤ (y0.getD y2.toNat []).length) then bif decide (0 ≤ y2) && decide (y2 < (↑y1.length : Int)) && decide ((y1.getD y2.toNat []).length = 5) then bif zau [.sl, .bool, .int .i64, .str, .int .i64] (y1.getD y2.toNat []) 0 && decide (5 ≤ (y1.getD y2.toNat []).length) then (zcj [.g [.s ((y0.getD y2.toNat []).getD 0 .h).es, .v (.bool ((y0.getD y2.toNat []).getD 1 .h).bool), .v (.int .i64 ((y0.getD y2.toNat []).getD 2 .h).int), .v (.string ((y0.getD y2.toNat []).getD 3 .h).str), .v (.int .i64 ((y0.getD y2.toNat []).getD 4 .h).int)], .g [.s ((y1.getD y2.toNat []).getD 0 .h).es, .v (.bool ((y1.getD y2.toNat []).getD 1 .h).bool), .v (.int .i64 ((y1.getD y2.toNat []).getD 2 .h).int), .v (.string ((y1.getD y2.toNat []).getD 3 .h).str), .v (.int .i64 ((y1.getD y2.toNat []).getD 4 .h).int)]] []).bind fun val => bif zag [.bool] val.1 && true then bif !(val.1.getD 0 .d).bool then some (za5.q4 false) else za5.L4 y0 y1 (IntKind.i64.wrap (y2 + 1)) else none else none else none else none else none else some za5.x4 := by
 refine (zbf (Y := Y) (c := lim' Y) (fn := 20) (rid := 4) (b := zar 4 za5.c) (by kernel_rfl) _).trans ?_
 delta za5.L4 zcj za5.q4 za5.x4 XX
 generalize lpL (Y.ctx (lim' Y)) 20 = lp
 generalize lim' Y = call
 kernel_rfl
theorem za5.a4x4 : za5.A4 za5.x4 = some ⟨[.v (.bool true)], []⟩ := by
 delta za5.A4 za5.x4 XX
 generalize lpL (Y.ctx (lim' Y)) 20 = lp
 generalize lim' Y = call
 kernel_rfl
noncomputable def zaA.L4 (y0 y1:LLD) (y2:Int) : Option (Ex × St) := lpL XX 21 (zar 4 zaA.c) (mkG 0 26 [(0, .one (.s y0)), (1, .one (.s y1)), (5, .one (.v (.int .i64 y2)))] [] GL)
noncomputable def zaA.A4 : Ex × St → Option Res := fun r => evA XX 21 (lpL XX 21) 4 zaA.c r.fst r.snd (outE XX 21 Tryz.f21)
noncomputable def zaA.q4 (y0:Bool) : Ex × St := (Ex.ret, mkG 0 26 [(4, .one (.v (.bool y0)))] [] GL)
noncomputable def zaA.x4 : Ex × St := (Ex.exit 0, mkG 0 26 [] [] GL)
theorem zaA.e (a0 a1:LLD) : zaA [.one (.s a0), .one (.s a1)] [] = bif (↑a0.length : Int) != (↑a1.length : Int) then some ⟨[.v (.bool false)], []⟩ else (zaA.L4 a0 a1 0).bind zaA.A4 := by
 refine (zaA.run _ _ (by kernel_rfl)).trans ?_
 delta zaA zaA.L4 zaA.A4 XX
 generalize lpL (Y.ctx (lim' Y)) 21 = lp
 generalize lim' Y = call
 kernel_rfl
theorem zaA.s4 (y0 y1:LLD) (y2:Int) : zaA.L4 y0 y1 y2 = bif decide (y2 < (↑y0.length : Int)) then bif decide (0 ≤ y2) && decide (y2 < (↑y0.length : Int)) && decide ((y0.getD y2.toNat []).length = 1) then bif zau [.str] (y0.getD y2.toNat []) 0 && decide (1 ≤ (y0.getD y2.toNat []).length) then bif decide (0 ≤ y2) && decide (y2 < (↑y1.length : Int)) && decide ((y1.getD y2.toNat []).length = 1) then bif zau [.str] (y1.getD y2.toNat []) 0 && decide (1 ≤ (y1.getD y2.toNat []).length) then bif !((y0.getD y2.toNat []).getD 0 .h).str.toList == ((y1.getD y2.toNat []).getD 0 .h).str.toList then some (zaA.q4 false) else zaA.L4 y0 y1 (IntKind.i64.wrap (y2 + 1)) else none else none else none else none else some zaA.x4 := by
 refine (zbf (Y := Y) (c := lim' Y) (fn := 21) (rid := 4) (b := zar 4 zaA.c) (by kernel_rfl) _).trans ?_
 delta zaA.L4 zaA.q4 zaA.x4 XX
 generalize lpL (Y.ctx (lim' Y)) 21 = lp
 generalize lim' Y = call
 kernel_rfl
theorem zaA.a4x4 : zaA.A4 zaA.x4 = some ⟨[.v (.bool true)], []⟩ := by
 delta zaA.A4 zaA.x4 XX
 generalize lpL (Y.ctx (lim' Y)) 21 = lp
 generalize lim' Y = call
 kernel_rfl
noncomputable def zab.P2 (y0:LLD) (y1 y2:Bool) (y3:Int) (y4:BAy) (y5 y6:LLD) : Option Res := evB XX 24 (lpL XX 24) 2 zab.c (mkG 0 101 [(0, .one (.s y0)), (2, .one (.p true 2 [] 0)), (26, .one (.v (.bool y1)))] [(2, some ⟨.box, [.v (.bool y2), .v (.int .i64 y3), .v (.string y4), .s y5, .s y6], [.deep, .deep, .deep, .deep, .deep]⟩)] GL) (outE XX 24 Tryz.f24)
noncomputable def zab.P3 (y0:LLD) (y1:Bool) (y2:Int) (y3:BAy) (y4 y5:LLD) : Option Res := evB XX 24 (lpL XX 24) 3 zab.c (mkG 0 101 [(0, .one (.s y0)), (2, .one (.p true 2 [] 0))] [(2, some ⟨.box, [.v (.bool y1), .v (.int .i64 y2), .v (.string y3), .s y4, .s y5], [.deep, .deep, .deep, .deep, .deep]⟩)] GL) (outE XX 24 Tryz.f24)
noncomputable def zab.L5 (y0:LLD) (y1:Int) (y2:Bool) (y3:Int) (y4:BAy) (y5 y6:LLD) (y7:Bool) (y8:Int) (y9:BAy) (y10 y11:LLD) : Option (Ex × St) := lpL XX 24 (zar 5 zab.c) (mkG 0 101 [(0, .one (.s y0)), (2, .one (.p true 2 [] 0)), (4, .one (.p true 4 [] 0)), (5, .one (.v (.int .i64 y1)))] [(2, some ⟨.box, [.v (.bool y2), .v (.int .i64 y3), .v (.string y4), .s y5, .s y6], [.deep, .deep, .deep, .deep, .deep]⟩), (4, some ⟨.box, [.v (.bool y7), .v (.int .i64 y8), .v (.string y9), .s y10, .s y11], [.deep, .deep, .deep, .deep, .deep]⟩)] GL)
noncomputable def zab.A5 : Ex × St → Option Res := fun r => evA XX 24 (lpL XX 24) 5 zab.c r.fst r.snd (outE XX 24 Tryz.f24)
noncomputable def zab.q5 (y0:LLD) (y1 y2:Bool) (y3:Int) (y4:BAy) (y5 y6:LLD) (y7:Bool) (y8:Int) (y9:BAy) (y10 y11:LLD) : Ex × St := (Ex.ret, mkG 0 101 [(0, .one (.s y0)), (2, .one (.p true 2 [] 0)), (3, .one (.v (.bool y1))), (4, .one (.p true 4 [] 0))] [(2, some ⟨.box, [.v (.bool y2), .v (.int .i64 y3), .v (.string y4), .s y5, .s y6], [.deep, .deep, .deep, .deep, .deep]⟩), (4, some ⟨.box, [.v (.bool y7), .v (.int .i64 y8), .v (.string y9), .s y10, .s y11], [.deep, .deep, .deep, .deep, .deep]⟩)] GL)
noncomputable def zab.P11 (y0:LLD) (y1:Int) (y2 y3:Bool) (y4:Int) (y5:BAy) (y6 y7:LLD) (y8:Bool) (y9:Int) (y10:BAy) (y11 y12:LLD) (y13:Bool) (y14:Int) (y15:BAy) (y16 y17:LLD) : Option (Ex × St) := evB XX 24 (lpL XX 24) 11 (zar 5 zab.c) (mkG 0 101 [(0, .one (.s y0)), (2, .one (.p true 2 [] 0)), (4, .one (.p true 4 [] 0)), (5, .one (.v (.int .i64 y1))), (7, .one (.p true 7 [] 0)), (8, .one (.v (.bool y2)))] [(2, some ⟨.box, [.v (.bool y3), .v (.int .i64 y4), .v (.string y5), .s y6, .s y7], [.deep, .deep, .deep, .deep, .deep]⟩), (4, some ⟨.box, [.v (.bool y8), .v (.int .i64 y9), .v (.string y10), .s y11, .s y12], [.sh, .sh, .sh, .sh, .sh]⟩), (7, some ⟨.box, [.v (.bool y13), .v (.int .i64 y14), .v (.string y15), .s y16, .s y17], [.deep, .deep, .deep, .sh, .sh]⟩)] GL) (backL (lpL XX 24) (zar 5 zab.c) (XX.live 24 5))
noncomputable def zab.x5 (y0:LLD) (y1:Bool) (y2:Int) (y3:BAy) (y4 y5:LLD) (y6:Bool) (y7:Int) (y8:BAy) (y9 y10:LLD) : Ex × St := (Ex.exit 0, mkG 0 101 [(0, .one (.s y0)), (2, .one (.p true 2 [] 0)), (4, .one (.p true 4 [] 0))] [(2, some ⟨.box, [.v (.bool y1), .v (.int .i64 y2), .v (.string y3), .s y4, .s y5], [.deep, .deep, .deep, .deep, .deep]⟩), (4, some ⟨.box, [.v (.bool y6), .v (.int .i64 y7), .v (.string y8), .s y9, .s y10], [.deep, .deep, .deep, .deep, .deep]⟩)] GL)
noncomputable def zab.q5b (y0:LLD) (y1 y2:Bool) (y3:Int) (y4:BAy) (y5 y6:LLD) (y7:Bool) (y8:Int) (y9:BAy) (y10 y11:LLD) : Ex × St := (Ex.ret, mkG 0 101 [(0, .one (.s y0)), (2, .one (.p true 2 [] 0)), (3, .one (.v (.bool y1))), (4, .one (.p true 4 [] 0))] [(2, some ⟨.box, [.v (.bool y2), .v (.int .i64 y3), .v (.string y4), .s y5, .s y6], [.deep, .deep, .deep, .deep, .deep]⟩), (4, some ⟨.box, [.v (.bool y7), .v (.int .i64 y8), .v (.string y9), .s y10, .s y11], [.sh, .sh, .sh, .sh, .sh]⟩)] GL)
noncomputable def zab.L5b (y0:LLD) (y1:Int) (y2:Bool) (y3:Int) (y4:BAy) (y5 y6:LLD) (y7:Bool) (y8:Int) (y9:BAy) (y10 y11:LLD) : Option (Ex × St) := lpL XX 24 (zar 5 zab.c) (mkG 0 101 [(0, .one (.s y0)), (2, .one (.p true 2 [] 0)), (4, .one (.p true 4 [] 0)), (5, .one (.v (.int .i64 y1)))] [(2, some ⟨.box, [.v (.bool y2), .v (.int .i64 y3), .v (.string y4), .s y5, .s y6], [.deep, .deep, .deep, .deep, .deep]⟩), (4, some ⟨.box, [.v (.bool y7), .v (.int .i64 y8), .v (.string y9), .s y10, .s y11], [.deep, .deep, .deep, .sh, .sh]⟩)] GL)
noncomputable def zab.L18 (y0:LLD) (y1:Int) (y2:Bool) (y3:Int) (y4:BAy) (y5 y6:LLD) (y7:Bool) (y8:Int) (y9:BAy) (y10 y11 y12:LLD) : Option (Ex × St) := lpL XX 24 (zar 18 zab.c) (mkG 0 101 [(0, .one (.s y0)), (2, .one (.p true 2 [] 0)), (4, .one (.p true 4 [] 0)), (9, .one (.r 9 [] 0)), (10, .one (.v (.int .i64 y1)))] [(2, some ⟨.box, [.v (.bool y2), .v (.int .i64 y3), .v (.string y4), .s y5, .s y6], [.deep, .deep, .deep, .deep, .deep]⟩), (4, some ⟨.box, [.v (.bool y7), .v (.int .i64 y8), .v (.string y9), .s y10, .s y11], [.deep, .deep, .deep, .deep, .deep]⟩), (9, some ⟨.virt, [.s y12], [.deep]⟩)] GL)
noncomputable def zab.A18 : Ex × St → Option Res := fun r => evA XX 24 (lpL XX 24) 18 zab.c r.fst r.snd (outE XX 24 Tryz.f24)
noncomputable def zab.q5c (y0:LLD) (y1 y2:Bool) (y3:Int) (y4:BAy) (y5 y6:LLD) (y7:Bool) (y8:Int) (y9:BAy) (y10 y11:LLD) : Ex × St := (Ex.ret, mkG 0 101 [(0, .one (.s y0)), (2, .one (.p true 2 [] 0)), (3, .one (.v (.bool y1))), (4, .one (.p true 4 [] 0))] [(2, some ⟨.box, [.v (.bool y2), .v (.int .i64 y3), .v (.string y4), .s y5, .s y6], [.deep, .deep, .deep, .deep, .deep]⟩), (4, some ⟨.box, [.v (.bool y7), .v (.int .i64 y8), .v (.string y9), .s y10, .s y11], [.deep, .deep, .deep, .sh, .sh]⟩)] GL)
noncomputable def zab.P11b (y0:LLD) (y1:Int) (y2 y3:Bool) (y4:Int) (y5:BAy) (y6 y7:LLD) (y8:Bool) (y9:Int) (y10:BAy) (y11 y12:LLD) (y13:Bool) (y14:Int) (y15:BAy) (y16 y17:LLD) : Option (Ex × St) := evB XX 24 (lpL XX 24) 11 (zar 5 zab.c) (mkG 0 101 [(0, .one (.s y0)), (2, .one (.p true 2 [] 0)), (4, .one (.p true 4 [] 0)), (5, .one (.v (.int .i64 y1))), (7, .one (.p true 7 [] 0)), (8, .one (.v (.bool y2)))] [(2, some ⟨.box, [.v (.bool y3), .v (.int .i64 y4), .v (.string y5), .s y6, .s y7], [.deep, .deep, .deep, .deep, .deep]⟩), (4, some ⟨.box, [.v (.bool y8), .v (.int .i64 y9), .v (.string y10), .s y11, .s y12], [.deep, .deep, .deep, .sh, .sh]⟩), (7, some ⟨.box, [.v (.bool y13), .v (.int .i64 y14), .v (.string y15), .s y16, .s y17], [.deep, .deep, .deep, .sh, .sh]⟩)] GL) (backL (lpL XX 24) (zar 5 zab.c) (XX.live 24 5))
noncomputable def zab.x5b (y0:LLD) (y1:Bool) (y2:Int) (y3:BAy) (y4 y5:LLD) (y6:Bool) (y7:Int) (y8:BAy) (y9 y10:LLD) : Ex × St := (Ex.exit 0, mkG 0 101 [(0, .one (.s y0)), (2, .one (.p true 2 [] 0)), (4, .one (.p true 4 [] 0))] [(2, some ⟨.box, [.v (.bool y1), .v (.int .i64 y2), .v (.string y3), .s y4, .s y5], [.deep, .deep, .deep, .deep, .deep]⟩), (4, some ⟨.box, [.v (.bool y6), .v (.int .i64 y7), .v (.string y8), .s y9, .s y10], [.deep, .deep, .deep, .sh, .sh]⟩)] GL)
noncomputable def zab.q18 (y0 y1:Bool) (y2:Int) (y3:BAy) (y4 y5:LLD) (y6:Bool) (y7:Int) (y8:BAy) (y9 y10:LLD) : Ex × St := (Ex.ret, mkG 0 101 [(2, .one (.p true 2 [] 0)), (3, .one (.v (.bool y0))), (4, .one (.p true 4 [] 0))] [(2, some ⟨.box, [.v (.bool y1), .v (.int .i64 y2), .v (.string y3), .s y4, .s y5], [.deep, .deep, .deep, .deep, .deep]⟩), (4, some ⟨.box, [.v (.bool y6), .v (.int .i64 y7), .v (.string y8), .s y9, .s y10], [.deep, .deep, .deep, .deep, .deep]⟩)] GL)
noncomputable def zab.x18 (y0:Bool) (y1:Int) (y2:BAy) (y3 y4:LLD) (y5:Bool) (y6:Int) (y7:BAy) (y8 y9:LLD) : Ex × St := (Ex.exit 2, mkG 0 101 [(2, .one (.p true 2 [] 0)), (4, .one (.p true 4 [] 0))] [(2, some ⟨.box, [.v (.bool y0), .v (.int .i64 y1), .v (.string y2), .s y3, .s y4], [.deep, .deep, .deep, .deep, .deep]⟩), (4, some ⟨.box, [.v (.bool y5), .v (.int .i64 y6), .v (.string y7), .s y8, .s y9], [.deep, .deep, .deep, .deep, .deep]⟩)] GL)
noncomputable def zab.L18b (y0:LLD) (y1:Int) (y2:Bool) (y3:Int) (y4:BAy) (y5 y6:LLD) (y7:Bool) (y8:Int) (y9:BAy) (y10 y11 y12:LLD) : Option (Ex × St) := lpL XX 24 (zar 18 zab.c) (mkG 0 101 [(0, .one (.s y0)), (2, .one (.p true 2 [] 0)), (4, .one (.p true 4 [] 0)), (9, .one (.r 9 [] 0)), (10, .one (.v (.int .i64 y1)))] [(2, some ⟨.box, [.v (.bool y2), .v (.int .i64 y3), .v (.string y4), .s y5, .s y6], [.deep, .deep, .deep, .deep, .deep]⟩), (4, some ⟨.box, [.v (.bool y7), .v (.int .i64 y8), .v (.string y9), .s y10, .s y11], [.deep, .deep, .deep, .sh, .sh]⟩), (9, some ⟨.virt, [.s y12], [.deep]⟩)] GL)
noncomputable def zab.q18b (y0 y1:Bool) (y2:Int) (y3:BAy) (y4 y5:LLD) (y6:Bool) (y7:Int) (y8:BAy) (y9 y10:LLD) : Ex × St := (Ex.ret, mkG 0 101 [(2, .one (.p true 2 [] 0)), (3, .one (.v (.bool y0))), (4, .one (.p true 4 [] 0))] [(2, some ⟨.box, [.v (.bool y1), .v (.int .i64 y2), .v (.string y3), .s y4, .s y5], [.deep, .deep, .deep, .deep, .deep]⟩), (4, some ⟨.box, [.v (.bool y6), .v (.int .i64 y7), .v (.string y8), .s y9, .s y10], [.deep, .deep, .deep, .sh, .sh]⟩)] GL)
noncomputable def zab.x18b (y0:Bool) (y1:Int) (y2:BAy) (y3 y4:LLD) (y5:Bool) (y6:Int) (y7:BAy) (y8 y9:LLD) : Ex × St := (Ex.exit 2, mkG 0 101 [(2, .one (.p true 2 [] 0)), (4, .one (.p true 4 [] 0))] [(2, some ⟨.box, [.v (.bool y0), .v (.int .i64 y1), .v (.string y2), .s y3, .s y4], [.deep, .deep, .deep, .deep, .deep]⟩), (4, some ⟨.box, [.v (.bool y5), .v (.int .i64 y6), .v (.string y7), .s y8, .s y9], [.deep, .deep, .deep, .sh, .sh]⟩)] GL)
theorem zab.e (a0:LLD) : zab [.one (.s a0)] [] = bif (↑a0.length : Int) == 0 then zab.P2 a0 true false 0 (ByteArray.mk #[]) [] [] else bif decide ((↑a0.length : Int) > 31) then zab.P2 a0 true false 0 (ByteArray.mk #[]) [] [] else bif decide (0 < (↑a0.length : Int)) && decide ((a0.getD 0 []).length = 5) then bif zau [.sl] (a0.getD 0 []) 0 && decide (1 ≤ (a0.getD 0 []).length) then zab.P2 a0 ((↑((a0.getD 0 []).getD 0 .h).es.length : Int) != 0) false 0 (ByteArray.mk #[]) [] [] else none else none := by
 refine (zab.run _ _ (by kernel_rfl)).trans ?_
 delta zab zab.P2 XX
 refine zbp [2, 3] (by kernel_rfl) fun J e1 => ?_
 try simp only [← e1]
 clear e1
 generalize lpL (Y.ctx (lim' Y)) 24 = lp
 generalize lim' Y = call
 kernel_rfl
theorem zab.p2 (y0:LLD) (y1 y2:Bool) (y3:Int) (y4:BAy) (y5 y6:LLD) : zab.P2 y0 y1 y2 y3 y4 y5 y6 = bif y1 then some ⟨[.v (.bool false), .v (.int .i64 0), .v (.string (ByteArray.mk #[])), .o .deep [], .o .deep [], .v (.bool false)], []⟩ else zab.P3 y0 y2 y3 y4 y5 y6 := by
 delta zab.P2 zab.P3 XX
 refine zbb [2, 3] 2 (by kernel_rfl) fun J e1 => ?_
 try simp only [← e1]
 clear e1
 generalize lpL (Y.ctx (lim' Y)) 24 = lp
 generalize lim' Y = call
 kernel_rfl
theorem zab.p3 (y0:LLD) (y1:Bool) (y2:Int) (y3:BAy) (y4 y5:LLD) : zab.P3 y0 y1 y2 y3 y4 y5 = bif decide (0 < (↑y0.length : Int)) && decide ((y0.getD 0 []).length = 5) then bif zau [.bool] (y0.getD 0 []) 1 && decide (2 ≤ (y0.getD 0 []).length) then bif decide (0 < (↑y0.length : Int)) && decide ((y0.getD 0 []).length = 5) then bif zau [.int .i64] (y0.getD 0 []) 2 && decide (3 ≤ (y0.getD 0 []).length) then bif decide (0 < (↑y0.length : Int)) && decide ((y0.getD 0 []).length = 5) then bif zau [.str] (y0.getD 0 []) 3 && decide (4 ≤ (y0.getD 0 []).length) then (zab.L5 y0 1 y1 y2 y3 y4 y5 ((y0.getD 0 []).getD 1 .h).bool ((y0.getD 0 []).getD 2 .h).int ((y0.getD 0 []).getD 3 .h).str [] []).bind zab.A5 else none else none else none else none else none else none := by
 delta zab.P3 zab.L5 zab.A5 XX
 refine zbb [2, 3] 3 (by kernel_rfl) fun J e1 => ?_
 have eA := evA_J [2, 3] 5 (by kernel_rfl) e1
 try simp only [eA]
 clear eA
 try simp only [← e1]
 clear e1
 show _ = _
 generalize lpL (Y.ctx (lim' Y)) 24 = lp
 generalize lim' Y = call
 kernel_rfl
theorem zab.s5 (y0:LLD) (y1:Int) (y2:Bool) (y3:Int) (y4:BAy) (y5 y6:LLD) (y7:Bool) (y8:Int) (y9:BAy) (y10 y11:LLD) : zab.L5 y0 y1 y2 y3 y4 y5 y6 y7 y8 y9 y10 y11 = bif decide (y1 < (↑y0.length : Int)) then bif decide (0 ≤ y1) && decide (y1 < (↑y0.length : Int)) && decide ((y0.getD y1.toNat []).length = 5) then bif zau [.sl, .bool, .int .i64, .str, .int .i64] (y0.getD y1.toNat []) 0 && decide (5 ≤ (y0.getD y1.toNat []).length) then (zaz [.one (.s ((y0.getD y1.toNat []).getD 0 .h).es)] []).bind fun val => bif zag [.bool] val.1 && true then bif !(val.1.getD 0 .d).bool then some (zab.q5 y0 false false 0 (ByteArray.mk #[]) [] [] y7 y8 y9 y10 y11) else (zbk [.g [.v (.bool y7), .v (.int .i64 y8), .v (.string y9), .s y10, .s y11], .one (.s ((y0.getD y1.toNat []).getD 0 .h).es), .g [.v (.bool ((y0.getD y1.toNat []).getD 1 .h).bool), .v (.int .i64 ((y0.getD y1.toNat []).getD 2 .h).int), .v (.string ((y0.getD y1.toNat []).getD 3 .h).str), .s [], .s []]] []).bind fun val => bif zag [.bool, .int .i64, .str, .sh, .sh, .bool] val.1 && true then zab.P11 y0 y1 (val.1.getD 5 .d).bool y2 y3 y4 y5 y6 y7 y8 y9 y10 y11 (val.1.getD 0 .d).bool (val.1.getD 1 .d).int (val.1.getD 2 .d).str (val.1.getD 3 .d).es (val.1.getD 4 .d).es else none else none else none else none else some (zab.x5 y0 y2 y3 y4 y5 y6 y7 y8 y9 y10 y11) := by
 refine (zbf (Y := Y) (c := lim' Y) (fn := 24) (rid := 5) (b := zar 5 zab.c) (by kernel_rfl) _).trans ?_
 delta zab.L5 zaz zab.q5 zbk zab.P11 zab.x5 XX
 refine zbp [11] (by kernel_rfl) fun J e1 => ?_
 try simp only [← e1]
 clear e1
 generalize lpL (Y.ctx (lim' Y)) 24 = lp
 generalize lim' Y = call
 kernel_rfl
theorem zab.a5q5 (y0:LLD) (y1 y2:Bool) (y3:Int) (y4:BAy) (y5 y6:LLD) (y7:Bool) (y8:Int) (y9:BAy) (y10 y11:LLD) : zab.A5 (zab.q5 y0 y1 y2 y3 y4 y5 y6 y7 y8 y9 y10 y11) = some ⟨[.v (.bool y2), .v (.int .i64 y3), .v (.string y4), .o .deep y5, .o .deep y6, .v (.bool y1)], []⟩ := by
 delta zab.A5 zab.q5 XX
 refine zbd [2, 3] 5 (by kernel_rfl) fun J e1 => ?_
 have eA := evA_J [2, 3] 5 (by kernel_rfl) e1
 try simp only [eA]
 clear eA
 try simp only [← e1]
 clear e1
 show _ = _
 generalize lpL (Y.ctx (lim' Y)) 24 = lp
 generalize lim' Y = call
 kernel_rfl
theorem zab.p11 (y0:LLD) (y1:Int) (y2 y3:Bool) (y4:Int) (y5:BAy) (y6 y7:LLD) (y8:Bool) (y9:Int) (y10:BAy) (y11 y12:LLD) (y13:Bool) (y14:Int) (y15:BAy) (y16 y17:LLD) : zab.P11 y0 y1 y2 y3 y4 y5 y6 y7 y8 y9 y10 y11 y12 y13 y14 y15 y16 y17 = bif !y2 then some (zab.q5b y0 false false 0 (ByteArray.mk #[]) [] [] y8 y9 y10 y11 y12) else zab.L5b y0 (IntKind.i64.wrap (y1 + 1)) y3 y4 y5 y6 y7 y13 y14 y15 y16 y17 := by
 delta zab.P11 zab.q5b zab.L5b XX
 refine zbb [11] 11 (by kernel_rfl) fun J e1 => ?_
 try simp only [← e1]
 clear e1
 generalize lpL (Y.ctx (lim' Y)) 24 = lp
 generalize lim' Y = call
 kernel_rfl
theorem zab.a5x5 (y0:LLD) (y1:Bool) (y2:Int) (y3:BAy) (y4 y5:LLD) (y6:Bool) (y7:Int) (y8:BAy) (y9 y10:LLD) : zab.A5 (zab.x5 y0 y1 y2 y3 y4 y5 y6 y7 y8 y9 y10) = (zbs [.g [.v (.bool y6), .v (.int .i64 y7), .v (.string y8), .s y9, .s y10]] []).bind fun val => bif zag [.own .deep] val.1 && true then bif (↑(val.1.getD 0 .d).es.length : Int) != (↑y0.length : Int) then some ⟨[.v (.bool false), .v (.int .i64 0), .v (.string (ByteArray.mk #[])), .o .deep [], .o .deep [], .v (.bool false)], []⟩ else (zab.L18 y0 0 y1 y2 y3 y4 y5 y6 y7 y8 y9 y10 (val.1.getD 0 .d).es).bind zab.A18 else none := by
 delta zab.A5 zab.x5 zbs zab.L18 zab.A18 XX
 refine zbd [2, 3] 5 (by kernel_rfl) fun J e1 => ?_
 have eA := evA_J [2, 3] 5 (by kernel_rfl) e1
 try simp only [eA]
 clear eA
 have eA := evA_J [2, 3] 18 (by kernel_rfl) e1
 try simp only [eA]
 clear eA
 try simp only [← e1]
 clear e1
 show _ = _
 generalize lpL (Y.ctx (lim' Y)) 24 = lp
 generalize lim' Y = call
 kernel_rfl
theorem zab.a5q5b (y0:LLD) (y1 y2:Bool) (y3:Int) (y4:BAy) (y5 y6:LLD) (y7:Bool) (y8:Int) (y9:BAy) (y10 y11:LLD) : zab.A5 (zab.q5b y0 y1 y2 y3 y4 y5 y6 y7 y8 y9 y10 y11) = some ⟨[.v (.bool y2), .v (.int .i64 y3), .v (.string y4), .o .deep y5, .o .deep y6, .v (.bool y1)], []⟩ := by
 delta zab.A5 zab.q5b XX
 refine zbd [2, 3] 5 (by kernel_rfl) fun J e1 => ?_
 have eA := evA_J [2, 3] 5 (by kernel_rfl) e1
 try simp only [eA]
 clear eA
 try simp only [← e1]
 clear e1
 show _ = _
 generalize lpL (Y.ctx (lim' Y)) 24 = lp
 generalize lim' Y = call
 kernel_rfl
theorem zab.s5b (y0:LLD) (y1:Int) (y2:Bool) (y3:Int) (y4:BAy) (y5 y6:LLD) (y7:Bool) (y8:Int) (y9:BAy) (y10 y11:LLD) : zab.L5b y0 y1 y2 y3 y4 y5 y6 y7 y8 y9 y10 y11 = bif decide (y1 < (↑y0.length : Int)) then bif decide (0 ≤ y1) && decide (y1 < (↑y0.length : Int)) && decide ((y0.getD y1.toNat []).length = 5) then bif zau [.sl, .bool, .int .i64, .str, .int .i64] (y0.getD y1.toNat []) 0 && decide (5 ≤ (y0.getD y1.toNat []).length) then (zaz [.one (.s ((y0.getD y1.toNat []).getD 0 .h).es)] []).bind fun val => bif zag [.bool] val.1 && true then bif !(val.1.getD 0 .d).bool then some (zab.q5c y0 false false 0 (ByteArray.mk #[]) [] [] y7 y8 y9 y10 y11) else (zbk [.g [.v (.bool y7), .v (.int .i64 y8), .v (.string y9), .s y10, .s y11], .one (.s ((y0.getD y1.toNat []).getD 0 .h).es), .g [.v (.bool ((y0.getD y1.toNat []).getD 1 .h).bool), .v (.int .i64 ((y0.getD y1.toNat []).getD 2 .h).int), .v (.string ((y0.getD y1.toNat []).getD 3 .h).str), .s [], .s []]] []).bind fun val => bif zag [.bool, .int .i64, .str, .sh, .sh, .bool] val.1 && true then zab.P11b y0 y1 (val.1.getD 5 .d).bool y2 y3 y4 y5 y6 y7 y8 y9 y10 y11 (val.1.getD 0 .d).bool (val.1.getD 1 .d).int (val.1.getD 2 .d).str (val.1.getD 3 .d).es (val.1.getD 4 .d).es else none else none else none else none else some (zab.x5b y0 y2 y3 y4 y5 y6 y7 y8 y9 y10 y11) := by
 refine (zbf (Y := Y) (c := lim' Y) (fn := 24) (rid := 5) (b := zar 5 zab.c) (by kernel_rfl) _).trans ?_
 delta zab.L5b zaz zab.q5c zbk zab.P11b zab.x5b XX
 refine zbp [11] (by kernel_rfl) fun J e1 => ?_
 try simp only [← e1]
 clear e1
 generalize lpL (Y.ctx (lim' Y)) 24 = lp
 generalize lim' Y = call
 kernel_rfl
theorem zab.s18 (y0:LLD) (y1:Int) (y2:Bool) (y3:Int) (y4:BAy) (y5 y6:LLD) (y7:Bool) (y8:Int) (y9:BAy) (y10 y11 y12:LLD) : zab.L18 y0 y1 y2 y3 y4 y5 y6 y7 y8 y9 y10 y11 y12 = bif decide (y1 < (↑y0.length : Int)) then bif decide (0 ≤ y1) && decide (y1 < (↑y12.length : Int)) && decide ((y12.getD y1.toNat []).length = 5) then bif zau [.sl, .bool, .int .i64, .str, .int .i64] (y12.getD y1.toNat []) 0 && decide (5 ≤ (y12.getD y1.toNat []).length) then bif decide (0 ≤ y1) && decide (y1 < (↑y0.length : Int)) && decide ((y0.getD y1.toNat []).length = 5) then bif zau [.sl, .bool, .int .i64, .str, .int .i64] (y0.getD y1.toNat []) 0 && decide (5 ≤ (y0.getD y1.toNat []).length) then (zbZ [.g [.s ((y12.getD y1.toNat []).getD 0 .h).es, .v (.bool ((y12.getD y1.toNat []).getD 1 .h).bool), .v (.int .i64 ((y12.getD y1.toNat []).getD 2 .h).int), .v (.string ((y12.getD y1.toNat []).getD 3 .h).str), .v (.int .i64 ((y12.getD y1.toNat []).getD 4 .h).int)], .g [.s ((y0.getD y1.toNat []).getD 0 .h).es, .v (.bool ((y0.getD y1.toNat []).getD 1 .h).bool), .v (.int .i64 ((y0.getD y1.toNat []).getD 2 .h).int), .v (.string ((y0.getD y1.toNat []).getD 3 .h).str), .v (.int .i64 ((y0.getD y1.toNat []).getD 4 .h).int)]] []).bind fun val => bif zag [.bool] val.1 && true then bif !(val.1.getD 0 .d).bool then some (zab.q18 false false 0 (ByteArray.mk #[]) [] [] y7 y8 y9 y10 y11) else zab.L18 y0 (IntKind.i64.wrap (y1 + 1)) y2 y3 y4 y5 y6 y7 y8 y9 y10 y11 y12 else none else none else none else none else none else some (zab.x18 y2 y3 y4 y5 y6 y7 y8 y9 y10 y11) := by
 refine (zbf (Y := Y) (c := lim' Y) (fn := 24) (rid := 18) (b := zar 18 zab.c) (by kernel_rfl) _).trans ?_
 delta zab.L18 zbZ zab.q18 zab.x18 XX
 generalize lpL (Y.ctx (lim' Y)) 24 = lp
 generalize lim' Y = call
 kernel_rfl
theorem zab.a5q5c (y0:LLD) (y1 y2:Bool) (y3:Int) (y4:BAy) (y5 y6:LLD) (y7:Bool) (y8:Int) (y9:BAy) (y10 y11:LLD) : zab.A5 (zab.q5c y0 y1 y2 y3 y4 y5 y6 y7 y8 y9 y10 y11) = some ⟨[.v (.bool y2), .v (.int .i64 y3), .v (.string y4), .o .deep y5, .o .deep y6, .v (.bool y1)], []⟩ := by
 delta zab.A5 zab.q5c XX
 refine zbd [2, 3] 5 (by kernel_rfl) fun J e1 => ?_
 have eA := evA_J [2, 3] 5 (by kernel_rfl) e1
 try simp only [eA]
 clear eA
 try simp only [← e1]
 clear e1
 show _ = _
 generalize lpL (Y.ctx (lim' Y)) 24 = lp
 generalize lim' Y = call
 kernel_rfl
theorem zab.p11b (y0:LLD) (y1:Int) (y2 y3:Bool) (y4:Int) (y5:BAy) (y6 y7:LLD) (y8:Bool) (y9:Int) (y10:BAy) (y11 y12:LLD) (y13:Bool) (y14:Int) (y15:BAy) (y16 y17:LLD) : zab.P11b y0 y1 y2 y3 y4 y5 y6 y7 y8 y9 y10 y11 y12 y13 y14 y15 y16 y17 = bif !y2 then some (zab.q5c y0 false false 0 (ByteArray.mk #[]) [] [] y8 y9 y10 y11 y12) else zab.L5b y0 (IntKind.i64.wrap (y1 + 1)) y3 y4 y5 y6 y7 y13 y14 y15 y16 y17 := by
 delta zab.P11b zab.q5c zab.L5b XX
 refine zbb [11] 11 (by kernel_rfl) fun J e1 => ?_
 try simp only [← e1]
 clear e1
 generalize lpL (Y.ctx (lim' Y)) 24 = lp
 generalize lim' Y = call
 kernel_rfl
theorem zab.a5x5b (y0:LLD) (y1:Bool) (y2:Int) (y3:BAy) (y4 y5:LLD) (y6:Bool) (y7:Int) (y8:BAy) (y9 y10:LLD) : zab.A5 (zab.x5b y0 y1 y2 y3 y4 y5 y6 y7 y8 y9 y10) = (zbs [.g [.v (.bool y6), .v (.int .i64 y7), .v (.string y8), .s y9, .s y10]] []).bind fun val => bif zag [.own .deep] val.1 && true then bif (↑(val.1.getD 0 .d).es.length : Int) != (↑y0.length : Int) then some ⟨[.v (.bool false), .v (.int .i64 0), .v (.string (ByteArray.mk #[])), .o .deep [], .o .deep [], .v (.bool false)], []⟩ else (zab.L18b y0 0 y1 y2 y3 y4 y5 y6 y7 y8 y9 y10 (val.1.getD 0 .d).es).bind zab.A18 else none := by
 delta zab.A5 zab.x5b zbs zab.L18b zab.A18 XX
 refine zbd [2, 3] 5 (by kernel_rfl) fun J e1 => ?_
 have eA := evA_J [2, 3] 5 (by kernel_rfl) e1
 try simp only [eA]
 clear eA
 have eA := evA_J [2, 3] 18 (by kernel_rfl) e1
 try simp only [eA]
 clear eA
 try simp only [← e1]
 clear e1
 show _ = _
 generalize lpL (Y.ctx (lim' Y)) 24 = lp
 generalize lim' Y = call
 kernel_rfl
theorem zab.a18q18 (y0 y1:Bool) (y2:Int) (y3:BAy) (y4 y5:LLD) (y6:Bool) (y7:Int) (y8:BAy) (y9 y10:LLD) : zab.A18 (zab.q18 y0 y1 y2 y3 y4 y5 y6 y7 y8 y9 y10) = some ⟨[.v (.bool y1), .v (.int .i64 y2), .v (.string y3), .o .deep y4, .o .deep y5, .v (.bool y0)], []⟩ := by
 delta zab.A18 zab.q18 XX
 refine zbd [2, 3] 18 (by kernel_rfl) fun J e1 => ?_
 have eA := evA_J [2, 3] 18 (by kernel_rfl) e1
 try simp only [eA]
 clear eA
 try simp only [← e1]
 clear e1
 show _ = _
 generalize lpL (Y.ctx (lim' Y)) 24 = lp
 generalize lim' Y = call
 kernel_rfl
theorem zab.a18x18 (y0:Bool) (y1:Int) (y2:BAy) (y3 y4:LLD) (y5:Bool) (y6:Int) (y7:BAy) (y8 y9:LLD) : zab.A18 (zab.x18 y0 y1 y2 y3 y4 y5 y6 y7 y8 y9) = (za6 [.g [.v (.bool y5), .v (.int .i64 y6), .v (.string y7), .s y8, .s y9]] []).bind fun val => bif zag [.bool, .int .i64, .str, .own .deep, .own .deep] val.1 && true then some ⟨[.v (.bool (val.1.getD 0 .d).bool), .v (.int .i64 (val.1.getD 1 .d).int), .v (.string (val.1.getD 2 .d).str), .o .deep (val.1.getD 3 .d).es, .o .deep (val.1.getD 4 .d).es, .v (.bool true)], []⟩ else none := by
 delta zab.A18 zab.x18 za6 XX
 refine zbd [2, 3] 18 (by kernel_rfl) fun J e1 => ?_
 have eA := evA_J [2, 3] 18 (by kernel_rfl) e1
 try simp only [eA]
 clear eA
 try simp only [← e1]
 clear e1
 show _ = _
 generalize lpL (Y.ctx (lim' Y)) 24 = lp
 generalize lim' Y = call
 kernel_rfl
theorem zab.s18b (y0:LLD) (y1:Int) (y2:Bool) (y3:Int) (y4:BAy) (y5 y6:LLD) (y7:Bool) (y8:Int) (y9:BAy) (y10 y11 y12:LLD) : zab.L18b y0 y1 y2 y3 y4 y5 y6 y7 y8 y9 y10 y11 y12 = bif decide (y1 < (↑y0.length : Int)) then bif decide (0 ≤ y1) && decide (y1 < (↑y12.length : Int)) && decide ((y12.getD y1.toNat []).length = 5) then bif zau [.sl, .bool, .int .i64, .str, .int .i64] (y12.getD y1.toNat []) 0 && decide (5 ≤ (y12.getD y1.toNat []).length) then bif decide (0 ≤ y1) && decide (y1 < (↑y0.length : Int)) && decide ((y0.getD y1.toNat []).length = 5) then bif zau [.sl, .bool, .int .i64, .str, .int .i64] (y0.getD y1.toNat []) 0 && decide (5 ≤ (y0.getD y1.toNat []).length) then (zbZ [.g [.s ((y12.getD y1.toNat []).getD 0 .h).es, .v (.bool ((y12.getD y1.toNat []).getD 1 .h).bool), .v (.int .i64 ((y12.getD y1.toNat []).getD 2 .h).int), .v (.string ((y12.getD y1.toNat []).getD 3 .h).str), .v (.int .i64 ((y12.getD y1.toNat []).getD 4 .h).int)], .g [.s ((y0.getD y1.toNat []).getD 0 .h).es, .v (.bool ((y0.getD y1.toNat []).getD 1 .h).bool), .v (.int .i64 ((y0.getD y1.toNat []).getD 2 .h).int), .v (.string ((y0.getD y1.toNat []).getD 3 .h).str), .v (.int .i64 ((y0.getD y1.toNat []).getD 4 .h).int)]] []).bind fun val => bif zag [.bool] val.1 && true then bif !(val.1.getD 0 .d).bool then some (zab.q18b false false 0 (ByteArray.mk #[]) [] [] y7 y8 y9 y10 y11) else zab.L18b y0 (IntKind.i64.wrap (y1 + 1)) y2 y3 y4 y5 y6 y7 y8 y9 y10 y11 y12 else none else none else none else none else none else some (zab.x18b y2 y3 y4 y5 y6 y7 y8 y9 y10 y11) := by
 refine (zbf (Y := Y) (c := lim' Y) (fn := 24) (rid := 18) (b := zar 18 zab.c) (by kernel_rfl) _).trans ?_
 delta zab.L18b zbZ zab.q18b zab.x18b XX
 generalize lpL (Y.ctx (lim' Y)) 24 = lp
 generalize lim' Y = call
 kernel_rfl
theorem zab.a18q18b (y0 y1:Bool) (y2:Int) (y3:BAy) (y4 y5:LLD) (y6:Bool) (y7:Int) (y8:BAy) (y9 y10:LLD) : zab.A18 (zab.q18b y0 y1 y2 y3 y4 y5 y6 y7 y8 y9 y10) = some ⟨[.v (.bool y1), .v (.int .i64 y2), .v (.string y3), .o .deep y4, .o .deep y5, .v (.bool y0)], []⟩ := by
 delta zab.A18 zab.q18b XX
 refine zbd [2, 3] 18 (by kernel_rfl) fun J e1 => ?_
 have eA := evA_J [2, 3] 18 (by kernel_rfl) e1
 try simp only [eA]
 clear eA
 try simp only [← e1]
 clear e1
 show _ = _
 generalize lpL (Y.ctx (lim' Y)) 24 = lp
 generalize lim' Y = call
 kernel_rfl
theorem zab.a18x18b (y0:Bool) (y1:Int) (y2:BAy) (y3 y4:LLD) (y5:Bool) (y6:Int) (y7:BAy) (y8 y9:LLD) : zab.A18 (zab.x18b y0 y1 y2 y3 y4 y5 y6 y7 y8 y9) = (za6 [.g [.v (.bool y5), .v (.int .i64 y6), .v (.string y7), .s y8, .s y9]] []).bind fun val => bif zag [.bool, .int .i64, .str, .own .deep, .own .deep] val.1 && true then some ⟨[.v (.bool (val.1.getD 0 .d).bool), .v (.int .i64 (val.1.getD 1 .d).int), .v (.string (val.1.getD 2 .d).str), .o .deep (val.1.getD 3 .d).es, .o .deep (val.1.getD 4 .d).es, .v (.bool true)], []⟩ else none := by
 delta zab.A18 zab.x18b za6 XX
 refine zbd [2, 3] 18 (by kernel_rfl) fun J e1 => ?_
 have eA := evA_J [2, 3] 18 (by kernel_rfl) e1
 try simp only [eA]
 clear eA
 try simp only [← e1]
 clear e1
 show _ = _
 generalize lpL (Y.ctx (lim' Y)) 24 = lp
 generalize lim' Y = call
 kernel_rfl
noncomputable def zah.P5 (y0 y1:LLD) (y2 y3:Int) (y4:Bool) (y5:Int) (y6:BAy) (y7 y8:LLD) (y9:Bool) (y10:Int) (y11:BAy) (y12 y13:LLD) : Option Res := evB XX 25 (lpL XX 25) 5 zah.c (mkG 0 79 [(0, .one (.s y0)), (2, .one (.p true 2 [] 0)), (4, .one (.p true 4 [] 0)), (28, .one (.s y1)), (29, .one (.v (.int .i64 y2))), (30, .one (.v (.int .i64 y3)))] [(2, some ⟨.box, [.v (.bool y4), .v (.int .i64 y5), .v (.string y6), .s y7, .s y8], [.deep, .deep, .deep, .deep, .deep]⟩), (4, some ⟨.box, [.v (.bool y9), .v (.int .i64 y10), .v (.string y11), .s y12, .s y13], [.deep, .deep, .deep, .deep, .deep]⟩)] GL) (outE XX 25 Tryz.f25)
noncomputable def zah.L5 (y0 y1:LLD) (y2 y3:Int) (y4:Bool) (y5:Int) (y6:BAy) (y7 y8:LLD) (y9:Bool) (y10:Int) (y11:BAy) (y12 y13:LLD) : Option (Ex × St) := lpL XX 25 (zar 5 zah.c) (mkG 0 79 [(0, .one (.s y0)), (2, .one (.p true 2 [] 0)), (4, .one (.p true 4 [] 0)), (28, .one (.s y1)), (29, .one (.v (.int .i64 y2))), (30, .one (.v (.int .i64 y3)))] [(2, some ⟨.box, [.v (.bool y4), .v (.int .i64 y5), .v (.string y6), .s y7, .s y8], [.deep, .deep, .deep, .deep, .deep]⟩), (4, some ⟨.box, [.v (.bool y9), .v (.int .i64 y10), .v (.string y11), .s y12, .s y13], [.deep, .deep, .deep, .deep, .deep]⟩)] GL)
noncomputable def zah.A5 : Ex × St → Option Res := fun r => evA XX 25 (lpL XX 25) 5 zah.c r.fst r.snd (outE XX 25 Tryz.f25)
noncomputable def zah.q5 (y0:LLD) (y1 y2:Bool) (y3:Int) (y4:BAy) (y5 y6:LLD) (y7:Bool) (y8:Int) (y9:BAy) (y10 y11:LLD) : Ex × St := (Ex.ret, mkG 0 79 [(0, .one (.s y0)), (2, .one (.p true 2 [] 0)), (3, .one (.v (.bool y1))), (4, .one (.p true 4 [] 0))] [(2, some ⟨.box, [.v (.bool y2), .v (.int .i64 y3), .v (.string y4), .s y5, .s y6], [.deep, .deep, .deep, .deep, .deep]⟩), (4, some ⟨.box, [.v (.bool y7), .v (.int .i64 y8), .v (.string y9), .s y10, .s y11], [.deep, .deep, .deep, .deep, .deep]⟩)] GL)
noncomputable def zah.P11 (y0:LLD) (y1:Int) (y2:Bool) (y3:LLD) (y4 y5:Int) (y6:Bool) (y7:Int) (y8:BAy) (y9 y10:LLD) (y11:Bool) (y12:Int) (y13:BAy) (y14 y15 y16:LLD) (y17:Bool) (y18:Int) (y19:BAy) (y20:Int) : Option (Ex × St) := evB XX 25 (lpL XX 25) 11 (zar 5 zah.c) (mkG 0 79 [(0, .one (.s y0)), (2, .one (.p true 2 [] 0)), (4, .one (.p true 4 [] 0)), (6, .one (.p true 6 [] 0)), (7, .one (.v (.int .i64 y1))), (8, .one (.p y2 4 [] 0)), (28, .one (.s y3)), (29, .one (.v (.int .i64 y4))), (30, .one (.v (.int .i64 y5)))] [(2, some ⟨.box, [.v (.bool y6), .v (.int .i64 y7), .v (.string y8), .s y9, .s y10], [.deep, .deep, .deep, .deep, .deep]⟩), (4, some ⟨.box, [.v (.bool y11), .v (.int .i64 y12), .v (.string y13), .s y14, .s y15], [.deep, .deep, .deep, .deep, .deep]⟩), (6, some ⟨.box, [.s y16, .v (.bool y17), .v (.int .i64 y18), .v (.string y19), .v (.int .i64 y20)], [.sh, .deep, .deep, .deep, .deep]⟩)] GL) (backL (lpL XX 25) (zar 5 zah.c) (XX.live 25 5))
noncomputable def zah.P11b (y0:LLD) (y1:Int) (y2:Bool) (y3:Nat) (y4:List (Nat × Nat)) (y5:LLD) (y6 y7:Int) (y8:Bool) (y9:Int) (y10:BAy) (y11 y12:LLD) (y13:Bool) (y14:Int) (y15:BAy) (y16 y17 y18:LLD) (y19:Bool) (y20:Int) (y21:BAy) (y22:Int) : Option (Ex × St) := evB XX 25 (lpL XX 25) 11 (zar 5 zah.c) (mkG 0 79 [(0, .one (.s y0)), (2, .one (.p true 2 [] 0)), (4, .one (.p true 4 [] 0)), (6, .one (.p true 6 [] 0)), (7, .one (.v (.int .i64 y1))), (8, .one (.p y2 4 ((4, y3) :: y4) 0)), (28, .one (.s y5)), (29, .one (.v (.int .i64 y6))), (30, .one (.v (.int .i64 y7)))] [(2, some ⟨.box, [.v (.bool y8), .v (.int .i64 y9), .v (.string y10), .s y11, .s y12], [.deep, .deep, .deep, .deep, .deep]⟩), (4, some ⟨.box, [.v (.bool y13), .v (.int .i64 y14), .v (.string y15), .s y16, .s y17], [.deep, .deep, .deep, .deep, .deep]⟩), (6, some ⟨.box, [.s y18, .v (.bool y19), .v (.int .i64 y20), .v (.string y21), .v (.int .i64 y22)], [.sh, .deep, .deep, .deep, .deep]⟩)] GL) (backL (lpL XX 25) (zar 5 zah.c) (XX.live 25 5))
noncomputable def zah.x5 (y0:LLD) (y1:Bool) (y2:Int) (y3:BAy) (y4 y5:LLD) (y6:Bool) (y7:Int) (y8:BAy) (y9 y10:LLD) : Ex × St := (Ex.exit 0, mkG 0 79 [(0, .one (.s y0)), (2, .one (.p true 2 [] 0)), (4, .one (.p true 4 [] 0))] [(2, some ⟨.box, [.v (.bool y1), .v (.int .i64 y2), .v (.string y3), .s y4, .s y5], [.deep, .deep, .deep, .deep, .deep]⟩), (4, some ⟨.box, [.v (.bool y6), .v (.int .i64 y7), .v (.string y8), .s y9, .s y10], [.deep, .deep, .deep, .deep, .deep]⟩)] GL)
noncomputable def zah.P16 (y0 y1:Bool) (y2:Int) (y3:BAy) (y4 y5:LLD) (y6:Bool) (y7:Int) (y8:BAy) (y9 y10:LLD) : Option Res := evB XX 25 (lpL XX 25) 16 zah.c (mkG 0 79 [(2, .one (.p true 2 [] 0)), (4, .one (.p true 4 [] 0)), (75, .one (.v (.bool y0)))] [(2, some ⟨.box, [.v (.bool y1), .v (.int .i64 y2), .v (.string y3), .s y4, .s y5], [.deep, .deep, .deep, .deep, .deep]⟩), (4, some ⟨.box, [.v (.bool y6), .v (.int .i64 y7), .v (.string y8), .s y9, .s y10], [.deep, .deep, .deep, .deep, .deep]⟩)] GL) (outE XX 25 Tryz.f25)
noncomputable def zah.P17 (y0:Bool) (y1:Int) (y2:BAy) (y3 y4:LLD) (y5:Bool) (y6:Int) (y7:BAy) (y8 y9:LLD) : Option Res := evB XX 25 (lpL XX 25) 17 zah.c (mkG 0 79 [(2, .one (.p true 2 [] 0)), (4, .one (.p true 4 [] 0))] [(2, some ⟨.box, [.v (.bool y0), .v (.int .i64 y1), .v (.string y2), .s y3, .s y4], [.deep, .deep, .deep, .deep, .deep]⟩), (4, some ⟨.box, [.v (.bool y5), .v (.int .i64 y6), .v (.string y7), .s y8, .s y9], [.deep, .deep, .deep, .deep, .deep]⟩)] GL) (outE XX 25 Tryz.f25)
theorem zah.e (a0:LLD) : zah [.one (.s a0)] [] = (zb3 [.one (.v (.int .i64 (↑a0.length : Int))), .one (.v (.int .i64 1)), .one (.v (.int .i64 31))] []).bind fun val => bif zag [.bool] val.1 && true then bif !(val.1.getD 0 .d).bool then some ⟨[.v (.bool false), .v (.int .i64 0), .v (.string (ByteArray.mk #[])), .o .deep [], .o .deep [], .v (.bool false)], []⟩ else bif decide (0 < (↑a0.length : Int)) && decide ((a0.getD 0 []).length = 5) then bif zau [.bool] (a0.getD 0 []) 1 && decide (2 ≤ (a0.getD 0 []).length) then bif decide (0 < (↑a0.length : Int)) && decide ((a0.getD 0 []).length = 5) then bif zau [.int .i64] (a0.getD 0 []) 2 && decide (3 ≤ (a0.getD 0 []).length) then bif decide (0 < (↑a0.length : Int)) && decide ((a0.getD 0 []).length = 5) then bif zau [.str] (a0.getD 0 []) 3 && decide (4 ≤ (a0.getD 0 []).length) then bif decide ((some 1).getD 0 ≤ (↑a0.length : Int)) && decide ((↑a0.length : Int) ≤ (↑a0.length : Int)) && (false || decide ((a0.getD 0 []).length = 5)) then zah.P5 a0 (List.drop 1 (List.take (↑a0.length : Int).toNat a0)) (↑(List.drop 1 (List.take (↑a0.length : Int).toNat a0)).length : Int) 0 false 0 (ByteArray.mk #[]) [] [] ((a0.getD 0 []).getD 1 .h).bool ((a0.getD 0 []).getD 2 .h).int ((a0.getD 0 []).getD 3 .h).str [] [] else none else none else none else none else none else none else none else none := by
 refine (zah.run _ _ (by kernel_rfl)).trans ?_
 delta zah zb3 zah.P5 XX
 refine zbp [5, 16, 17] (by kernel_rfl) fun J e1 => ?_
 try simp only [← e1]
 clear e1
 generalize lpL (Y.ctx (lim' Y)) 25 = lp
 generalize lim' Y = call
 kernel_rfl
theorem zah.p5 (y0 y1:LLD) (y2 y3:Int) (y4:Bool) (y5:Int) (y6:BAy) (y7 y8:LLD) (y9:Bool) (y10:Int) (y11:BAy) (y12 y13:LLD) : zah.P5 y0 y1 y2 y3 y4 y5 y6 y7 y8 y9 y10 y11 y12 y13 = (zah.L5 y0 y1 y2 y3 y4 y5 y6 y7 y8 y9 y10 y11 y12 y13).bind zah.A5 := by
 delta zah.P5 zah.L5 zah.A5 XX
 refine zbb [5, 16, 17] 5 (by kernel_rfl) fun J e1 => ?_
 have eA := evA_J [5, 16, 17] 5 (by kernel_rfl) e1
 try simp only [eA]
 clear eA
 try simp only [← e1]
 clear e1
 show _ = _
 generalize lpL (Y.ctx (lim' Y)) 25 = lp
 generalize lim' Y = call
 kernel_rfl
theorem zah.s5 (y0 y1:LLD) (y2 y3:Int) (y4:Bool) (y5:Int) (y6:BAy) (y7 y8:LLD) (y9:Bool) (y10:Int) (y11:BAy) (y12 y13:LLD) : zah.L5 y0 y1 y2 y3 y4 y5 y6 y7 y8 y9 y10 y11 y12 y13 = bif decide (y3 < y2) then bif decide (0 ≤ y3) && decide (y3 < (↑y1.length : Int)) && decide ((y1.getD y3.toNat []).length = 5) then bif zau [.sl, .bool, .int .i64, .str, .int .i64] (y1.getD y3.toNat []) 0 && decide (5 ≤ (y1.getD y3.toNat []).length) then bif (↑((y1.getD y3.toNat []).getD 0 .h).es.length : Int) == 0 then some (zah.q5 y0 false false 0 (ByteArray.mk #[]) [] [] y9 y10 y11 y12 y13) else bif decide (none.getD 0 ≤ IntKind.i64.wrap ((↑((y1.getD y3.toNat []).getD 0 .h).es.length : Int) - 1)) && decide (IntKind.i64.wrap ((↑((y1.getD y3.toNat []).getD 0 .h).es.length : Int) - 1) ≤ (↑((y1.getD y3.toNat []).getD 0 .h).es.length : Int)) && true then (zak [.one (.p true 0 [] 0), .one (.s (List.drop 0 (List.take (IntKind.i64.wrap ((↑((y1.getD y3.toNat []).getD 0 .h).es.length : Int) - 1)).toNat ((y1.getD y3.toNat []).getD 0 .h).es)))] [⟨.ro, [.v (.bool y9), .v (.int .i64 y10), .v (.string y11), .s y12, .s y13], [.sh, .sh, .sh, .sh, .sh]⟩]).bind fun val => bif zag [.ptr 0] val.1 && true then bif List.isEmpty (val.1.getD 0 .d).path then zah.P11 y0 (IntKind.i64.wrap ((↑((y1.getD y3.toNat []).getD 0 .h).es.length : Int) - 1)) (val.1.getD 0 .d).ok y1 y2 y3 y4 y5 y6 y7 y8 y9 y10 y11 y12 y13 ((y1.getD y3.toNat []).getD 0 .h).es ((y1.getD y3.toNat []).getD 1 .h).bool ((y1.getD y3.toNat []).getD 2 .h).int ((y1.getD y3.toNat []).getD 3 .h).str ((y1.getD y3.toNat []).getD 4 .h).int else zah.P11b y0 (IntKind.i64.wrap ((↑((y1.getD y3.toNat []).getD 0 .h).es.length : Int) - 1)) (val.1.getD 0 .d).ok (List.headD (val.1.getD 0 .d).path (0, 0)).2 (List.tail (val.1.getD 0 .d).path) y1 y2 y3 y4 y5 y6 y7 y8 y9 y10 y11 y12 y13 ((y1.getD y3.toNat []).getD 0 .h).es ((y1.getD y3.toNat []).getD 1 .h).bool ((y1.getD y3.toNat []).getD 2 .h).int ((y1.getD y3.toNat []).getD 3 .h).str ((y1.getD y3.toNat []).getD 4 .h).int else none else none else none else none else some (zah.x5 y0 y4 y5 y6 y7 y8 y9 y10 y11 y12 y13) := by
 refine (zbf (Y := Y) (c := lim' Y) (fn := 25) (rid := 5) (b := zar 5 zah.c) (by kernel_rfl) _).trans ?_
 delta zah.L5 zah.q5 zak zah.P11 zah.P11b zah.x5 XX
 refine zbp [11] (by kernel_rfl) fun J e1 => ?_
 try simp only [← e1]
 clear e1
 generalize lpL (Y.ctx (lim' Y)) 25 = lp
 generalize lim' Y = call
 kernel_rfl
theorem zah.a5q5 (y0:LLD) (y1 y2:Bool) (y3:Int) (y4:BAy) (y5 y6:LLD) (y7:Bool) (y8:Int) (y9:BAy) (y10 y11:LLD) : zah.A5 (zah.q5 y0 y1 y2 y3 y4 y5 y6 y7 y8 y9 y10 y11) = some ⟨[.v (.bool y2), .v (.int .i64 y3), .v (.string y4), .o .deep y5, .o .deep y6, .v (.bool y1)], []⟩ := by
 delta zah.A5 zah.q5 XX
 refine zbd [5, 16, 17] 5 (by kernel_rfl) fun J e1 => ?_
 have eA := evA_J [5, 16, 17] 5 (by kernel_rfl) e1
 try simp only [eA]
 clear eA
 try simp only [← e1]
 clear e1
 show _ = _
 generalize lpL (Y.ctx (lim' Y)) 25 = lp
 generalize lim' Y = call
 kernel_rfl
theorem zah.p11 (y0:LLD) (y1:Int) (y2:Bool) (y3:LLD) (y4 y5:Int) (y6:Bool) (y7:Int) (y8:BAy) (y9 y10:LLD) (y11:Bool) (y12:Int) (y13:BAy) (y14 y15 y16:LLD) (y17:Bool) (y18:Int) (y19:BAy) (y20:Int) : zah.P11 y0 y1 y2 y3 y4 y5 y6 y7 y8 y9 y10 y11 y12 y13 y14 y15 y16 y17 y18 y19 y20 = bif !y2 then some (zah.q5 y0 false false 0 (ByteArray.mk #[]) [] [] y11 y12 y13 y14 y15) else bif decide (0 ≤ y1) && decide (y1 < (↑y16.length : Int)) && decide ((y16.getD y1.toNat []).length = 1) then bif zau [.str] (y16.getD y1.toNat []) 0 && decide (1 ≤ (y16.getD y1.toNat []).length) then (zbP [.one (.p y2 0 [] 0), .one (.v (.string ((y16.getD y1.toNat []).getD 0 .h).str)), .g [.v (.bool y17), .v (.int .i64 y18), .v (.string y19), .v (.slice none 0 0), .v (.slice none 0 0)]] [⟨.box, [.v (.bool y11), .v (.int .i64 y12), .v (.string y13), .s y14, .s y15], [.deep, .deep, .deep, .deep, .deep]⟩]).bind fun val => bif zag [] val.1 && za4 [⟨⟨.box, [.v (.bool y11), .v (.int .i64 y12), .v (.string y13), .s y14, .s y15], [.deep, .deep, .deep, .deep, .deep]⟩, .box 4⟩] val.2 then zah.L5 y0 y3 y4 (IntKind.i64.wrap (y5 + 1)) y6 y7 y8 y9 y10 ((val.2.getD 0 ⟨.ro, [], []⟩).2.getD 0 .h).bool ((val.2.getD 0 ⟨.ro, [], []⟩).2.getD 1 .h).int ((val.2.getD 0 ⟨.ro, [], []⟩).2.getD 2 .h).str ((val.2.getD 0 ⟨.ro, [], []⟩).2.getD 3 .h).es ((val.2.getD 0 ⟨.ro, [], []⟩).2.getD 4 .h).es else none else none else none := by
 delta zah.P11 zah.q5 zbP zah.L5 XX
 refine zbb [11] 11 (by kernel_rfl) fun J e1 => ?_
 try simp only [← e1]
 clear e1
 generalize lpL (Y.ctx (lim' Y)) 25 = lp
 generalize lim' Y = call
 kernel_rfl
theorem zah.p11b (y0:LLD) (y1:Int) (y2:Bool) (y3:Nat) (y4:List (Nat × Nat)) (y5:LLD) (y6 y7:Int) (y8:Bool) (y9:Int) (y10:BAy) (y11 y12:LLD) (y13:Bool) (y14:Int) (y15:BAy) (y16 y17 y18:LLD) (y19:Bool) (y20:Int) (y21:BAy) (y22:Int) : zah.P11b y0 y1 y2 y3 y4 y5 y6 y7 y8 y9 y10 y11 y12 y13 y14 y15 y16 y17 y18 y19 y20 y21 y22 = bif !y2 then some (zah.q5 y0 false false 0 (ByteArray.mk #[]) [] [] y13 y14 y15 y16 y17) else bif decide (0 ≤ y1) && decide (y1 < (↑y18.length : Int)) && decide ((y18.getD y1.toNat []).length = 1) then bif zau [.str] (y18.getD y1.toNat []) 0 && decide (1 ≤ (y18.getD y1.toNat []).length) then bif y2 && true && !(zaj (y17.getD y3 []) y4).isEmpty then (zbP [.one (.p true 0 [] 0), .one (.v (.string ((y18.getD y1.toNat []).getD 0 .h).str)), .g [.v (.bool y19), .v (.int .i64 y20), .v (.string y21), .v (.slice none 0 0), .v (.slice none 0 0)]] [⟨.box, zaj (y17.getD y3 []) y4, List.map (fun x => .deep) (zaj (y17.getD y3 []) y4)⟩]).bind fun val => bif zag [] val.1 && za4 [⟨⟨.box, zaj (y17.getD y3 []) y4, List.map (fun x => .deep) (zaj (y17.getD y3 []) y4)⟩, .row 4 ((4, y3) :: y4)⟩] val.2 then zah.L5 y0 y5 y6 (IntKind.i64.wrap (y7 + 1)) y8 y9 y10 y11 y12 y13 y14 y15 y16 (y17.set y3 (zav (y17.getD y3 []) y4 (List.map (fun x => zkv x.1 ((val.2.getD 0 ⟨.ro, [], []⟩).2.getD x.2 .h)) (zaj (y17.getD y3 []) y4).zipIdx))) else none else none else none else none := by
 delta zah.P11b zah.q5 zbP zah.L5 XX
 refine zbb [11] 11 (by kernel_rfl) fun J e1 => ?_
 try simp only [← e1]
 clear e1
 generalize lpL (Y.ctx (lim' Y)) 25 = lp
 generalize lim' Y = call
 kernel_rfl
theorem zah.a5x5 (y0:LLD) (y1:Bool) (y2:Int) (y3:BAy) (y4 y5:LLD) (y6:Bool) (y7:Int) (y8:BAy) (y9 y10:LLD) : zah.A5 (zah.x5 y0 y1 y2 y3 y4 y5 y6 y7 y8 y9 y10) = (zcM [.g [.v (.bool y6), .v (.int .i64 y7), .v (.string y8), .s y9, .s y10]] []).bind fun val => bif zag [.bool] val.1 && true then bif !(val.1.getD 0 .d).bool then zah.P16 true y1 y2 y3 y4 y5 y6 y7 y8 y9 y10 else (zbt [.g [.v (.bool y6), .v (.int .i64 y7), .v (.string y8), .s y9, .s y10]] []).bind fun val => bif zag [.own .deep] val.1 && true then (zaa [.one (.s (val.1.getD 0 .d).es), .one (.s y0), .f zby.id []] []).bind fun val => bif zag [.bool] val.1 && true then zah.P16 (!(val.1.getD 0 .d).bool) y1 y2 y3 y4 y5 y6 y7 y8 y9 y10 else none else none else none := by
 delta zah.A5 zah.x5 zcM zah.P16 zbt zaa zby.id XX
 refine zbd [5, 16, 17] 5 (by kernel_rfl) fun J e1 => ?_
 have eA := evA_J [5, 16, 17] 5 (by kernel_rfl) e1
 try simp only [eA]
 clear eA
 try simp only [← e1]
 clear e1
 show _ = _
 generalize lpL (Y.ctx (lim' Y)) 25 = lp
 generalize lim' Y = call
 kernel_rfl
theorem zah.p16 (y0 y1:Bool) (y2:Int) (y3:BAy) (y4 y5:LLD) (y6:Bool) (y7:Int) (y8:BAy) (y9 y10:LLD) : zah.P16 y0 y1 y2 y3 y4 y5 y6 y7 y8 y9 y10 = bif y0 then some ⟨[.v (.bool false), .v (.int .i64 0), .v (.string (ByteArray.mk #[])), .o .deep [], .o .deep [], .v (.bool false)], []⟩ else zah.P17 y1 y2 y3 y4 y5 y6 y7 y8 y9 y10 := by
 delta zah.P16 zah.P17 XX
 refine zbb [5, 16, 17] 16 (by kernel_rfl) fun J e1 => ?_
 try simp only [← e1]
 clear e1
 generalize lpL (Y.ctx (lim' Y)) 25 = lp
 generalize lim' Y = call
 kernel_rfl
theorem zah.p17 (y0:Bool) (y1:Int) (y2:BAy) (y3 y4:LLD) (y5:Bool) (y6:Int) (y7:BAy) (y8 y9:LLD) : zah.P17 y0 y1 y2 y3 y4 y5 y6 y7 y8 y9 = (zay [.g [.v (.bool y5), .v (.int .i64 y6), .v (.string y7), .s y8, .s y9]] []).bind fun val => bif zag [.bool, .int .i64, .str, .own .deep, .own .deep] val.1 && true then some ⟨[.v (.bool (val.1.getD 0 .d).bool), .v (.int .i64 (val.1.getD 1 .d).int), .v (.string (val.1.getD 2 .d).str), .o .deep (val.1.getD 3 .d).es, .o .deep (val.1.getD 4 .d).es, .v (.bool true)], []⟩ else none := by
 delta zah.P17 zay XX
 refine zbb [5, 16, 17] 17 (by kernel_rfl) fun J e1 => ?_
 try simp only [← e1]
 clear e1
 generalize lpL (Y.ctx (lim' Y)) 25 = lp
 generalize lim' Y = call
 kernel_rfl
noncomputable def zbr.P9 (y0:Bool) (y1:Int) (y2:BAy) (y3 y4:LLD) (y5:Bool) (y6:Int) (y7:BAy) (y8 y9:LLD) : Option Res := evB XX 26 (lpL XX 26) 9 zbr.c (mkG 0 32 [(2, .one (.p true 2 [] 0)), (3, .one (.p true 3 [] 0))] [(2, some ⟨.box, [.v (.bool y0), .v (.int .i64 y1), .v (.string y2), .s y3, .s y4], [.deep, .deep, .deep, .sh, .sh]⟩), (3, some ⟨.box, [.v (.bool y5), .v (.int .i64 y6), .v (.string y7), .s y8, .s y9], [.deep, .deep, .deep, .sh, .sh]⟩)] GL) (outE XX 26 Tryz.f26)
theorem zbr.e (a0:Bool) (a1:Int) (a2:BAy) (a3 a4:LLD) (a5:Bool) (a6:Int) (a7:BAy) (a8 a9:LLD) : zbr [.g [.v (.bool a0), .v (.int .i64 a1), .v (.string a2), .s a3, .s a4], .g [.v (.bool a5), .v (.int .i64 a6), .v (.string a7), .s a8, .s a9]] [] = bif !a0 == a5 then some ⟨[.v (.bool false)], []⟩ else bif a1 != a6 then some ⟨[.v (.bool false)], []⟩ else bif !a2.toList == a7.toList then some ⟨[.v (.bool false)], []⟩ else (zaA [.one (.s a3), .one (.s a8)] []).bind fun val => bif zag [.bool] val.1 && true then bif !(val.1.getD 0 .d).bool then some ⟨[.v (.bool false)], []⟩ else zbr.P9 a0 a1 a2 a3 a4 a5 a6 a7 a8 a9 else none := by
 refine (zbr.run _ _ (by kernel_rfl)).trans ?_
 delta zbr zaA zbr.P9 XX
 refine zbp [9] (by kernel_rfl) fun J e1 => ?_
 try simp only [← e1]
 clear e1
 generalize lpL (Y.ctx (lim' Y)) 26 = lp
 generalize lim' Y = call
 kernel_rfl
theorem zbr.p9 (y0:Bool) (y1:Int) (y2:BAy) (y3 y4:LLD) (y5:Bool) (y6:Int) (y7:BAy) (y8 y9:LLD) : zbr.P9 y0 y1 y2 y3 y4 y5 y6 y7 y8 y9 = (zaR [.one (.s y4), .one (.s y9)] []).bind fun val => bif zag [.bool] val.1 && true then bif !(val.1.getD 0 .d).bool then some ⟨[.v (.bool false)], []⟩ else some ⟨[.v (.bool true)], []⟩ else none := by
 delta zbr.P9 zaR XX
 refine zbb [9] 9 (by kernel_rfl) fun J e1 => ?_
 try simp only [← e1]
 clear e1
 generalize lpL (Y.ctx (lim' Y)) 26 = lp
 generalize lim' Y = call
 kernel_rfl
noncomputable def zaF.L2 (y0 y1:Int) (y2:LLD) : Option (Ex × St) := lpL XX 27 (zar 2 zaF.c) (mkG 1 51 [(0, .one (.r 0 [] 0)), (1, .one (.v (.int .i64 y0))), (5, .one (.v (.int .i64 y1)))] [(0, some ⟨.virt, [.s y2], [.deep]⟩)] GL)
noncomputable def zaF.A2 : Ex × St → Option Res := fun r => evA XX 27 (lpL XX 27) 2 zaF.c r.fst r.snd (outE XX 27 Tryz.f27)
noncomputable def zaF.P8 (y0 y1:Int) (y2:LLD) : Option (Ex × St) := evB XX 27 (lpL XX 27) 8 (zar 2 zaF.c) (mkG 1 51 [(0, .one (.r 0 [] 0)), (1, .one (.v (.int .i64 y0))), (5, .one (.v (.int .i64 y1)))] [(0, some ⟨.virt, [.s y2], [.deep]⟩)] GL) (backL (lpL XX 27) (zar 2 zaF.c) (XX.live 27 2))
noncomputable def zaF.x2 (y0:Int) (y1:LLD) : Ex × St := (Ex.exit 0, mkG 1 51 [(1, .one (.v (.int .i64 y0)))] [(0, some ⟨.virt, [.s y1], [.deep]⟩)] GL)
theorem zaF.e (a0:LLD) (a1:Int) : zaF [.one (.r 0 [] 0), .one (.v (.int .i64 a1))] [⟨.virt, [.s a0], [.deep]⟩] = (zaF.L2 a1 0 a0).bind zaF.A2 := by
 refine (zaF.run _ _ (by kernel_rfl)).trans ?_
 delta zaF zaF.L2 zaF.A2 XX
 generalize lpL (Y.ctx (lim' Y)) 27 = lp
 generalize lim' Y = call
 kernel_rfl
theorem zaF.s2 (y0 y1:Int) (y2:LLD) : zaF.L2 y0 y1 y2 = bif decide (y1 < (↑y2.length : Int)) then bif decide (0 ≤ y1) && decide (y1 < (↑y2.length : Int)) && decide ((y2.getD y1.toNat []).length = 5) then bif zau [.sl] (y2.getD y1.toNat []) 0 && decide (1 ≤ (y2.getD y1.toNat []).length) then (zap [.one (.r 0 [] 0), .one (.v (.int .i64 y0))] [⟨.virt, [.s ((y2.getD y1.toNat []).getD 0 .h).es], [.deep]⟩]).bind fun val => bif zag [.int .i64] val.1 && za4 [⟨⟨.virt, [.s ((y2.getD y1.toNat []).getD 0 .h).es], [.deep]⟩, .sl 0 [(0, y1.toNat)] 0⟩] val.2 then bif decide (0 ≤ y1) && decide (y1 < (↑(y2.set y1.toNat ((y2.getD y1.toNat []).set 0 (.s ((val.2.getD 0 ⟨.ro, [], []⟩).2.getD 0 .h).es))).length : Int)) && decide (((y2.set y1.toNat ((y2.getD y1.toNat []).set 0 (.s ((val.2.getD 0 ⟨.ro, [], []⟩).2.getD 0 .h).es))).getD y1.toNat []).length = 5) then bif decide (2 ≤ ((y2.set y1.toNat ((y2.getD y1.toNat []).set 0 (.s ((val.2.getD 0 ⟨.ro, [], []⟩).2.getD 0 .h).es))).getD y1.toNat []).length) && true then bif decide (0 ≤ y1) && decide (y1 < (↑((y2.set y1.toNat ((y2.getD y1.toNat []).set 0 (.s ((val.2.getD 0 ⟨.ro, [], []⟩).2.getD 0 .h).es))).set y1.toNat (List.take 1 ((y2.set y1.toNat ((y2.getD y1.toNat []).set 0 (.s ((val.2.getD 0 ⟨.ro, [], []⟩).2.getD 0 .h).es))).getD y1.toNat []) ++ [.v (.bool ((val.1.getD 0 .d).int.tmod 3 == 0))] ++ List.drop 2 ((y2.set y1.toNat ((y2.getD y1.toNat []).set 0 (.s ((val.2.getD 0 ⟨.ro, [], []⟩).2.getD 0 .h).es))).getD y1.toNat []))).length : Int)) && decide ((((y2.set y1.toNat ((y2.getD y1.toNat []).set 0 (.s ((val.2.getD 0 ⟨.ro, [], []⟩).2.getD 0 .h).es))).set y1.toNat (List.take 1 ((y2.set y1.toNat ((y2.getD y1.toNat []).set 0 (.s ((val.2.getD 0 ⟨.ro, [], []⟩).2.getD 0 .h).es))).getD y1.toNat []) ++ [.v (.bool ((val.1.getD 0 .d).int.tmod 3 == 0))] ++ List.drop 2 ((y2.set y1.toNat ((y2.getD y1.toNat []).set 0 (.s ((val.2.getD 0 ⟨.ro, [], []⟩).2.getD 0 .h).es))).getD y1.toNat []))).getD y1.toNat []).length = 5) then bif decide (3 ≤ (((y2.set y1.toNat ((y2.getD y1.toNat []).set 0 (.s ((val.2.getD 0 ⟨.ro, [], []⟩).2.getD 0 .h).es))).set y1.toNat (List.take 1 ((y2.set y1.toNat ((y2.getD y1.toNat []).set 0 (.s ((val.2.getD 0 ⟨.ro, [], []⟩).2.getD 0 .h).es))).getD y1.toNat []) ++ [.v (.bool ((val.1.getD 0 .d).int.tmod 3 == 0))] ++ List.drop 2 ((y2.set y1.toNat ((y2.getD y1.toNat []).set 0 (.s ((val.2.getD 0 ⟨.ro, [], []⟩).2.getD 0 .h).es))).getD y1.toNat []))).getD y1.toNat []).length) && true then zaF.P8 (IntKind.i64.wrap ((val.1.getD 0 .d).int + 1)) y1 (((y2.set y1.toNat ((y2.getD y1.toNat []).set 0 (.s ((val.2.getD 0 ⟨.ro, [], []⟩).2.getD 0 .h).es))).set y1.toNat (List.take 1 ((y2.set y1.toNat ((y2.getD y1.toNat []).set 0 (.s ((val.2.getD 0 ⟨.ro, [], []⟩).2.getD 0 .h).es))).getD y1.toNat []) ++ [.v (.bool ((val.1.getD 0 .d).int.tmod 3 == 0))] ++ List.drop 2 ((y2.set y1.toNat ((y2.getD y1.toNat []).set 0 (.s ((val.2.getD 0 ⟨.ro, [], []⟩).2.getD 0 .h).es))).getD y1.toNat []))).set y1.toNat (List.take 2 (((y2.set y1.toNat ((y2.getD y1.toNat []).set 0 (.s ((val.2.getD 0 ⟨.ro, [], []⟩).2.getD 0 .h).es))).set y1.toNat (List.take 1 ((y2.set y1.toNat ((y2.getD y1.toNat []).set 0 (.s ((val.2.getD 0 ⟨.ro, [], []⟩).2.getD 0 .h).es))).getD y1.toNat []) ++ [.v (.bool ((val.1.getD 0 .d).int.tmod 3 == 0))] ++ List.drop 2 ((y2.set y1.toNat ((y2.getD y1.toNat []).set 0 (.s ((val.2.getD 0 ⟨.ro, [], []⟩).2.getD 0 .h).es))).getD y1.toNat []))).getD y1.toNat []) ++ [.v (.int .i64 (IntKind.i64.wrap ((val.1.getD 0 .d).int + 1)))] ++ List.drop 3 (((y2.set y1.toNat ((y2.getD y1.toNat []).set 0 (.s ((val.2.getD 0 ⟨.ro, [], []⟩).2.getD 0 .h).es))).set y1.toNat (List.take 1 ((y2.set y1.toNat ((y2.getD y1.toNat []).set 0 (.s ((val.2.getD 0 ⟨.ro, [], []⟩).2.getD 0 .h).es))).getD y1.toNat []) ++ [.v (.bool ((val.1.getD 0 .d).int.tmod 3 == 0))] ++ List.drop 2 ((y2.set y1.toNat ((y2.getD y1.toNat []).set 0 (.s ((val.2.getD 0 ⟨.ro, [], []⟩).2.getD 0 .h).es))).getD y1.toNat []))).getD y1.toNat []))) else none else none else none else none else none else none else none else some (zaF.x2 y0 y2) := by
 refine (zbf (Y := Y) (c := lim' Y) (fn := 27) (rid := 2) (b := zar 2 zaF.c) (by kernel_rfl) _).trans ?_
 delta zaF.L2 zap zaF.P8 zaF.x2 XX
 refine zbp [8] (by kernel_rfl) fun J e1 => ?_
 try simp only [← e1]
 clear e1
 generalize lpL (Y.ctx (lim' Y)) 27 = lp
 generalize lim' Y = call
 kernel_rfl
theorem zaF.p8 (y0 y1:Int) (y2:LLD) : zaF.P8 y0 y1 y2 = (zaC [.one (.v (.int .i64 (IntKind.i64.wrap (y0 + 1))))] []).bind fun val => bif zag [.str] val.1 && true then bif decide (0 ≤ y1) && decide (y1 < (↑y2.length : Int)) && decide ((y2.getD y1.toNat []).length = 5) then bif decide (4 ≤ (y2.getD y1.toNat []).length) && true then bif decide (0 ≤ y1) && decide (y1 < (↑(y2.set y1.toNat (List.take 3 (y2.getD y1.toNat []) ++ [.v (.string (val.1.getD 0 .d).str)] ++ List.drop 4 (y2.getD y1.toNat []))).length : Int)) && decide (((y2.set y1.toNat (List.take 3 (y2.getD y1.toNat []) ++ [.v (.string (val.1.getD 0 .d).str)] ++ List.drop 4 (y2.getD y1.toNat []))).getD y1.toNat []).length = 5) then bif decide (5 ≤ ((y2.set y1.toNat (List.take 3 (y2.getD y1.toNat []) ++ [.v (.string (val.1.getD 0 .d).str)] ++ List.drop 4 (y2.getD y1.toNat []))).getD y1.toNat []).length) && true then zaF.L2 (IntKind.i64.wrap (IntKind.i64.wrap (IntKind.i64.wrap (y0 + 1) + 1) + 1)) (IntKind.i64.wrap (y1 + 1)) ((y2.set y1.toNat (List.take 3 (y2.getD y1.toNat []) ++ [.v (.string (val.1.getD 0 .d).str)] ++ List.drop 4 (y2.getD y1.toNat []))).set y1.toNat (List.take 4 ((y2.set y1.toNat (List.take 3 (y2.getD y1.toNat []) ++ [.v (.string (val.1.getD 0 .d).str)] ++ List.drop 4 (y2.getD y1.toNat []))).getD y1.toNat []) ++ [.v (.int .i64 (IntKind.i64.wrap (IntKind.i64.wrap (y0 + 1) + 1)))] ++ List.drop 5 ((y2.set y1.toNat (List.take 3 (y2.getD y1.toNat []) ++ [.v (.string (val.1.getD 0 .d).str)] ++ List.drop 4 (y2.getD y1.toNat []))).getD y1.toNat []))) else none else none else none else none else none := by
 delta zaF.P8 zaC zaF.L2 XX
 refine zbb [8] 8 (by kernel_rfl) fun J e1 => ?_
 try simp only [← e1]
 clear e1
 generalize lpL (Y.ctx (lim' Y)) 27 = lp
 generalize lim' Y = call
 kernel_rfl
theorem zaF.a2x2 (y0:Int) (y1:LLD) : zaF.A2 (zaF.x2 y0 y1) = some ⟨[.v (.int .i64 y0)], [⟨.virt, [.s y1], [.deep]⟩]⟩ := by
 delta zaF.A2 zaF.x2 XX
 generalize lpL (Y.ctx (lim' Y)) 27 = lp
 generalize lim' Y = call
 kernel_rfl
theorem zbU.e (a0:Bool) (a1:Int) (a2:BAy) (a3 a4:LLD) (a5:Int) : zbU [.g [.v (.bool a0), .v (.int .i64 a1), .v (.string a2), .r 0 [] 0, .r 0 [] 1], .one (.v (.int .i64 a5))] [⟨.virt, [.s a3, .s a4], [.deep, .deep]⟩] = (zap [.one (.r 0 [] 0), .one (.v (.int .i64 a5))] [⟨.virt, [.s a3], [.deep]⟩]).bind fun val => bif zag [.int .i64] val.1 && za4 [⟨⟨.virt, [.s a3], [.deep]⟩, .sl 0 [] 0⟩] val.2 then (zaq [.one (.r 0 [] 0), .one (.v (.int .i64 (val.1.getD 0 .d).int))] [⟨.virt, [.s a4], [.deep]⟩]).bind fun val_1 => bif zag [.int .i64] val_1.1 && za4 [⟨⟨.virt, [.s a4], [.deep]⟩, .sl 0 [] 1⟩] val_1.2 then some ⟨[.v (.int .i64 (val_1.1.getD 0 .d).int)], [⟨.virt, [.s ((val.2.getD 0 ⟨.ro, [], []⟩).2.getD 0 .h).es, .s ((val_1.2.getD 0 ⟨.ro, [], []⟩).2.getD 0 .h).es], [.deep, .deep]⟩]⟩ else none else none := by
 refine (zbU.run _ _ (by kernel_rfl)).trans ?_
 delta zbU zap zaq XX
 generalize lpL (Y.ctx (lim' Y)) 28 = lp
 generalize lim' Y = call
 kernel_rfl
theorem zbG.e (a0:Bool) (a1:Int) (a2:BAy) (a3 a4:LLD) (a5:Int) : zbG [.g [.v (.bool a0), .v (.int .i64 a1), .v (.string a2), .s a3, .s a4], .one (.v (.int .i64 a5))] [] = (zao [.one (.s a3), .one (.v (.int .i64 a5))] []).bind fun val => bif zag [.int .i64] val.1 && true then bif decide ((val.1.getD 0 .d).int < 0) then some ⟨[.v (.int .i64 (-1))], []⟩ else (zal [.one (.s a4), .one (.v (.int .i64 (val.1.getD 0 .d).int))] []).bind fun val => bif zag [.int .i64] val.1 && true then bif decide ((val.1.getD 0 .d).int < 0) then some ⟨[.v (.int .i64 (-1))], []⟩ else some ⟨[.v (.int .i64 (val.1.getD 0 .d).int)], []⟩ else none else none := by
 refine (zbG.run _ _ (by kernel_rfl)).trans ?_
 delta zbG zao zal XX
 generalize lpL (Y.ctx (lim' Y)) 29 = lp
 generalize lim' Y = call
 kernel_rfl
noncomputable def zap.L2 (y0 y1:Int) (y2:LLD) : Option (Ex × St) := lpL XX 32 (zar 2 zap.c) (mkG 1 20 [(0, .one (.r 0 [] 0)), (1, .one (.v (.int .i64 y0))), (5, .one (.v (.int .i64 y1)))] [(0, some ⟨.virt, [.s y2], [.deep]⟩)] GL)
noncomputable def zap.A2 : Ex × St → Option Res := fun r => evA XX 32 (lpL XX 32) 2 zap.c r.fst r.snd (outE XX 32 Tryz.f32)
noncomputable def zap.x2 (y0:Int) (y1:LLD) : Ex × St := (Ex.exit 0, mkG 1 20 [(1, .one (.v (.int .i64 y0)))] [(0, some ⟨.virt, [.s y1], [.deep]⟩)] GL)
theorem zap.e (a0:LLD) (a1:Int) : zap [.one (.r 0 [] 0), .one (.v (.int .i64 a1))] [⟨.virt, [.s a0], [.deep]⟩] = (zap.L2 a1 0 a0).bind zap.A2 := by
 refine (zap.run _ _ (by kernel_rfl)).trans ?_
 delta zap zap.L2 zap.A2 XX
 generalize lpL (Y.ctx (lim' Y)) 32 = lp
 generalize lim' Y = call
 kernel_rfl
theorem zap.s2 (y0 y1:Int) (y2:LLD) : zap.L2 y0 y1 y2 = bif decide (y1 < (↑y2.length : Int)) then (zaC [.one (.v (.int .i64 y0))] []).bind fun val => bif zag [.str] val.1 && true then bif decide (0 ≤ y1) && decide (y1 < (↑y2.length : Int)) && decide ((y2.getD y1.toNat []).length = 1) then bif decide (1 ≤ (y2.getD y1.toNat []).length) && true then zap.L2 (IntKind.i64.wrap (y0 + 1)) (IntKind.i64.wrap (y1 + 1)) (y2.set y1.toNat (.v (.string (val.1.getD 0 .d).str) :: List.drop 1 (y2.getD y1.toNat []))) else none else none else none else some (zap.x2 y0 y2) := by
 refine (zbf (Y := Y) (c := lim' Y) (fn := 32) (rid := 2) (b := zar 2 zap.c) (by kernel_rfl) _).trans ?_
 delta zap.L2 zaC zap.x2 XX
 generalize lpL (Y.ctx (lim' Y)) 32 = lp
 generalize lim' Y = call
 kernel_rfl
theorem zap.a2x2 (y0:Int) (y1:LLD) : zap.A2 (zap.x2 y0 y1) = some ⟨[.v (.int .i64 y0)], [⟨.virt, [.s y1], [.deep]⟩]⟩ := by
 delta zap.A2 zap.x2 XX
 generalize lpL (Y.ctx (lim' Y)) 32 = lp
 generalize lim' Y = call
 kernel_rfl
noncomputable def zao.L2 (y0:LLD) (y1 y2:Int) : Option (Ex × St) := lpL XX 33 (zar 2 zao.c) (mkG 0 22 [(0, .one (.s y0)), (1, .one (.v (.int .i64 y1))), (5, .one (.v (.int .i64 y2)))] [] GL)
noncomputable def zao.A2 : Ex × St → Option Res := fun r => evA XX 33 (lpL XX 33) 2 zao.c r.fst r.snd (outE XX 33 Tryz.f33)
noncomputable def zao.q2 (y0 y1:Int) : Ex × St := (Ex.ret, mkG 0 22 [(1, .one (.v (.int .i64 y0))), (4, .one (.v (.int .i64 y1)))] [] GL)
noncomputable def zao.x2 (y0:Int) : Ex × St := (Ex.exit 0, mkG 0 22 [(1, .one (.v (.int .i64 y0)))] [] GL)
theorem zao.e (a0:LLD) (a1:Int) : zao [.one (.s a0), .one (.v (.int .i64 a1))] [] = (zao.L2 a0 a1 0).bind zao.A2 := by
 refine (zao.run _ _ (by kernel_rfl)).trans ?_
 delta zao zao.L2 zao.A2 XX
 generalize lpL (Y.ctx (lim' Y)) 33 = lp
 generalize lim' Y = call
 kernel_rfl
theorem zao.s2 (y0:LLD) (y1 y2:Int) : zao.L2 y0 y1 y2 = bif decide (y2 < (↑y0.length : Int)) then bif decide (0 ≤ y2) && decide (y2 < (↑y0.length : Int)) && decide ((y0.getD y2.toNat []).length = 1) then bif zau [.str] (y0.getD y2.toNat []) 0 && decide (1 ≤ (y0.getD y2.toNat []).length) then (zaC [.one (.v (.int .i64 y1))] []).bind fun val => bif zag [.str] val.1 && true then bif !((y0.getD y2.toNat []).getD 0 .h).str.toList == (val.1.getD 0 .d).str.toList then some (zao.q2 y1 (-1)) else zao.L2 y0 (IntKind.i64.wrap (y1 + 1)) (IntKind.i64.wrap (y2 + 1)) else none else none else none else some (zao.x2 y1) := by
 refine (zbf (Y := Y) (c := lim' Y) (fn := 33) (rid := 2) (b := zar 2 zao.c) (by kernel_rfl) _).trans ?_
 delta zao.L2 zaC zao.q2 zao.x2 XX
 generalize lpL (Y.ctx (lim' Y)) 33 = lp
 generalize lim' Y = call
 kernel_rfl
theorem zao.a2x2 (y0:Int) : zao.A2 (zao.x2 y0) = some ⟨[.v (.int .i64 y0)], []⟩ := by
 delta zao.A2 zao.x2 XX
 generalize lpL (Y.ctx (lim' Y)) 33 = lp
 generalize lim' Y = call
 kernel_rfl
theorem zdd.e (a0:LLD) (a1:Bool) (a2:Int) (a3:BAy) (a4 a5:Int) : zdd [.g [.s a0, .v (.bool a1), .v (.int .i64 a2), .v (.string a3), .v (.int .i64 a4)], .one (.v (.int .i64 a5))] [] = (zat [.one (.s a0), .one (.v (.int .i64 a5))] []).bind fun val => bif zag [.int .i64] val.1 && true then bif decide ((val.1.getD 0 .d).int < 0) then some ⟨[.v (.int .i64 (-1))], []⟩ else bif decide (IntKind.i64.wrap ((val.1.getD 0 .d).int - (↑a3.size : Int)) < 0) then some ⟨[.v (.int .i64 (-1))], []⟩ else some ⟨[.v (.int .i64 (IntKind.i64.wrap ((val.1.getD 0 .d).int - (↑a3.size : Int))))], []⟩ else none := by
 refine (zdd.run _ _ (by kernel_rfl)).trans ?_
 delta zdd zat XX
 generalize lpL (Y.ctx (lim' Y)) 58 = lp
 generalize lim' Y = call
 kernel_rfl
theorem zce.e (a0 a1:LLD) : zce [.one (.s a0), .one (.s a1)] [] = bif (↑a0.length : Int) == (↑a1.length : Int) then (zaD [.one (.s a0), .one (.s a1)] []).bind fun val => bif zag [.bool] val.1 && true then some ⟨[.v (.bool (val.1.getD 0 .d).bool)], []⟩ else none else some ⟨[.v (.bool false)], []⟩ := by
 refine (zce.run _ _ (by kernel_rfl)).trans ?_
 delta zce zaD XX
 generalize lpL (Y.ctx (lim' Y)) 60 = lp
 generalize lim' Y = call
 kernel_rfl
theorem zdq.e (a0:LLD) (a1:Bool) (a2:Int) (a3:BAy) (a4:Int) : zdq [.g [.s a0, .v (.bool a1), .v (.int .i64 a2), .v (.string a3), .v (.int .i64 a4)]] [] = (zaI [.one (.s a0)] []).bind fun val => bif zag [.own .deep] val.1 && true then some ⟨[.o .deep (val.1.getD 0 .d).es, .v (.bool a1), .v (.int .i64 a2), .v (.string a3), .v (.int .i64 a4)], []⟩ else none := by
 refine (zdq.run _ _ (by kernel_rfl)).trans ?_
 delta zdq zaI XX
 generalize lpL (Y.ctx (lim' Y)) 61 = lp
 generalize lim' Y = call
 kernel_rfl
noncomputable def zad.L4 (y0 y1:LLD) (y2 y3:Int) : Option (Ex × St) := lpL XX 64 (zar 4 zad.c) (mkG 0 26 [(0, .one (.s y0)), (1, .one (.s y1)), (12, .one (.v (.int .i64 y2))), (13, .one (.v (.int .i64 y3)))] [] GL)
noncomputable def zad.A4 : Ex × St → Option Res := fun r => evA XX 64 (lpL XX 64) 4 zad.c r.fst r.snd (outE XX 64 Tryz.f64)
noncomputable def zad.q4 (y0:Bool) : Ex × St := (Ex.ret, mkG 0 26 [(4, .one (.v (.bool y0)))] [] GL)
noncomputable def zad.x4 : Ex × St := (Ex.exit 0, mkG 0 26 [] [] GL)
theorem zad.e (a0 a1:LLD) : zad [.one (.s a0), .one (.s a1)] [] = bif (↑a0.length : Int) != (↑a1.length : Int) then some ⟨[.v (.bool false)], []⟩ else (zad.L4 a0 a1 (↑a0.length : Int) 0).bind zad.A4 := by
 refine (zad.run _ _ (by kernel_rfl)).trans ?_
 delta zad zad.L4 zad.A4 XX
 generalize lpL (Y.ctx (lim' Y)) 64 = lp
 generalize lim' Y = call
 kernel_rfl
theorem zad.s4 (y0 y1:LLD) (y2 y3:Int) : zad.L4 y0 y1 y2 y3 = bif decide (y3 < y2) then bif decide (0 ≤ y3) && decide (y3 < (↑y0.length : Int)) && decide ((y0.getD y3.toNat []).length = 1) then bif zau [.str] (y0.getD y3.toNat []) 0 && decide (1 ≤ (y0.getD y3.toNat []).length) then bif decide (0 ≤ y3) && decide (y3 < (↑y1.length : Int)) && decide ((y1.getD y3.toNat []).length = 1) then bif zau [.str] (y1.getD y3.toNat []) 0 && decide (1 ≤ (y1.getD y3.toNat []).length) then bif !((y0.getD y3.toNat []).getD 0 .h).str.toList == ((y1.getD y3.toNat []).getD 0 .h).str.toList then some (zad.q4 false) else zad.L4 y0 y1 y2 (IntKind.i64.wrap (y3 + 1)) else none else none else none else none else some zad.x4 := by
 refine (zbf (Y := Y) (c := lim' Y) (fn := 64) (rid := 4) (b := zar 4 zad.c) (by kernel_rfl) _).trans ?_
 delta zad.L4 zad.q4 zad.x4 XX
 generalize lpL (Y.ctx (lim' Y)) 64 = lp
 generalize lim' Y = call
 kernel_rfl
theorem zad.a4q4 (y0:Bool) : zad.A4 (zad.q4 y0) = some ⟨[.v (.bool y0)], []⟩ := by
 delta zad.A4 zad.q4 XX
 generalize lpL (Y.ctx (lim' Y)) 64 = lp
 generalize lim' Y = call
 kernel_rfl
theorem zad.a4x4 : zad.A4 zad.x4 = some ⟨[.v (.bool true)], []⟩ := by
 delta zad.A4 zad.x4 XX
 generalize lpL (Y.ctx (lim' Y)) 64 = lp
 generalize lim' Y = call
 kernel_rfl
noncomputable def zcj.P9 (y0:LLD) (y1:Bool) (y2:Int) (y3:BAy) (y4:Int) (y5:LLD) (y6:Bool) (y7:Int) (y8:BAy) (y9:Int) : Option Res := evB XX 65 (lpL XX 65) 9 zcj.c (mkG 0 31 [(2, .one (.p true 2 [] 0)), (3, .one (.p true 3 [] 0))] [(2, some ⟨.box, [.s y0, .v (.bool y1), .v (.int .i64 y2), .v (.string y3), .v (.int .i64 y4)], [.sh, .deep, .deep, .deep, .deep]⟩), (3, some ⟨.box, [.s y5, .v (.bool y6), .v (.int .i64 y7), .v (.string y8), .v (.int .i64 y9)], [.sh, .deep, .deep, .deep, .deep]⟩)] GL) (outE XX 65 Tryz.f65)
theorem zcj.e (a0:LLD) (a1:Bool) (a2:Int) (a3:BAy) (a4:Int) (a5:LLD) (a6:Bool) (a7:Int) (a8:BAy) (a9:Int) : zcj [.g [.s a0, .v (.bool a1), .v (.int .i64 a2), .v (.string a3), .v (.int .i64 a4)], .g [.s a5, .v (.bool a6), .v (.int .i64 a7), .v (.string a8), .v (.int .i64 a9)]] [] = (zaA [.one (.s a0), .one (.s a5)] []).bind fun val => bif zag [.bool] val.1 && true then bif !(val.1.getD 0 .d).bool then some ⟨[.v (.bool false)], []⟩ else bif !a1 == a6 then some ⟨[.v (.bool false)], []⟩ else bif a2 != a7 then some ⟨[.v (.bool false)], []⟩ else bif !a3.toList == a8.toList then some ⟨[.v (.bool false)], []⟩ else zcj.P9 a0 a1 a2 a3 a4 a5 a6 a7 a8 a9 else none := by
 refine (zcj.run _ _ (by kernel_rfl)).trans ?_
 delta zcj zaA zcj.P9 XX
 refine zbp [9] (by kernel_rfl) fun J e1 => ?_
 try simp only [← e1]
 clear e1
 generalize lpL (Y.ctx (lim' Y)) 65 = lp
 generalize lim' Y = call
 kernel_rfl
theorem zcj.p9 (y0:LLD) (y1:Bool) (y2:Int) (y3:BAy) (y4:Int) (y5:LLD) (y6:Bool) (y7:Int) (y8:BAy) (y9:Int) : zcj.P9 y0 y1 y2 y3 y4 y5 y6 y7 y8 y9 = bif y4 != y9 then some ⟨[.v (.bool false)], []⟩ else some ⟨[.v (.bool true)], []⟩ := by
 delta zcj.P9 XX
 refine zbb [9] 9 (by kernel_rfl) fun J e1 => ?_
 try simp only [← e1]
 clear e1
 generalize lpL (Y.ctx (lim' Y)) 65 = lp
 generalize lim' Y = call
 kernel_rfl
noncomputable def zaD.L4 (y0 y1:LLD) (y2:Int) : Option (Ex × St) := lpL XX 66 (zar 4 zaD.c) (mkG 0 26 [(0, .one (.s y0)), (1, .one (.s y1)), (5, .one (.v (.int .i64 y2)))] [] GL)
noncomputable def zaD.A4 : Ex × St → Option Res := fun r => evA XX 66 (lpL XX 66) 4 zaD.c r.fst r.snd (outE XX 66 Tryz.f66)
noncomputable def zaD.q4 (y0:Bool) : Ex × St := (Ex.ret, mkG 0 26 [(4, .one (.v (.bool y0)))] [] GL)
noncomputable def zaD.x4 : Ex × St := (Ex.exit 0, mkG 0 26 [] [] GL)
theorem zaD.e (a0 a1:LLD) : zaD [.one (.s a0), .one (.s a1)] [] = bif decide ((↑a0.length : Int) < (↑a1.length : Int)) then some ⟨[.v (.bool false)], []⟩ else (zaD.L4 a0 a1 0).bind zaD.A4 := by
 refine (zaD.run _ _ (by kernel_rfl)).trans ?_
 delta zaD zaD.L4 zaD.A4 XX
 generalize lpL (Y.ctx (lim' Y)) 66 = lp
 generalize lim' Y = call
 kernel_rfl
theorem zaD.s4 (y0 y1:LLD) (y2:Int) : zaD.L4 y0 y1 y2 = bif decide (y2 < (↑y1.length : Int)) then bif decide (0 ≤ y2) && decide (y2 < (↑y0.length : Int)) && decide ((y0.getD y2.toNat []).length = 1) then bif zau [.str] (y0.getD y2.toNat []) 0 && decide (1 ≤ (y0.getD y2.toNat []).length) then bif decide (0 ≤ y2) && decide (y2 < (↑y1.length : Int)) && decide ((y1.getD y2.toNat []).length = 1) then bif zau [.str] (y1.getD y2.toNat []) 0 && decide (1 ≤ (y1.getD y2.toNat []).length) then bif !((y0.getD y2.toNat []).getD 0 .h).str.toList == ((y1.getD y2.toNat []).getD 0 .h).str.toList then some (zaD.q4 false) else zaD.L4 y0 y1 (IntKind.i64.wrap (y2 + 1)) else none else none else none else none else some zaD.x4 := by
 refine (zbf (Y := Y) (c := lim' Y) (fn := 66) (rid := 4) (b := zar 4 zaD.c) (by kernel_rfl) _).trans ?_
 delta zaD.L4 zaD.q4 zaD.x4 XX
 generalize lpL (Y.ctx (lim' Y)) 66 = lp
 generalize lim' Y = call
 kernel_rfl
theorem zaD.a4q4 (y0:Bool) : zaD.A4 (zaD.q4 y0) = some ⟨[.v (.bool y0)], []⟩ := by
 delta zaD.A4 zaD.q4 XX
 generalize lpL (Y.ctx (lim' Y)) 66 = lp
 generalize lim' Y = call
 kernel_rfl
theorem zaD.a4x4 : zaD.A4 zaD.x4 = some ⟨[.v (.bool true)], []⟩ := by
 delta zaD.A4 zaD.x4 XX
 generalize lpL (Y.ctx (lim' Y)) 66 = lp
 generalize lim' Y = call
 kernel_rfl
noncomputable def zaz.L2 (y0:LLD) (y1:Int) : Option (Ex × St) := lpL XX 68 (zar 2 zaz.c) (mkG 0 19 [(0, .one (.s y0)), (3, .one (.v (.int .i64 y1)))] [] GL)
noncomputable def zaz.A2 : Ex × St → Option Res := fun r => evA XX 68 (lpL XX 68) 2 zaz.c r.fst r.snd (outE XX 68 Tryz.f68)
noncomputable def zaz.q2 (y0:LLD) (y1:Bool) : Ex × St := (Ex.ret, mkG 0 19 [(0, .one (.s y0)), (2, .one (.v (.bool y1)))] [] GL)
noncomputable def zaz.x2 (y0:LLD) : Ex × St := (Ex.exit 0, mkG 0 19 [(0, .one (.s y0))] [] GL)
theorem zaz.e (a0:LLD) : zaz [.one (.s a0)] [] = (zaz.L2 a0 0).bind zaz.A2 := by
 refine (zaz.run _ _ (by kernel_rfl)).trans ?_
 delta zaz zaz.L2 zaz.A2 XX
 generalize lpL (Y.ctx (lim' Y)) 68 = lp
 generalize lim' Y = call
 kernel_rfl
theorem zaz.s2 (y0:LLD) (y1:Int) : zaz.L2 y0 y1 = bif decide (y1 < (↑y0.length : Int)) then bif decide (0 ≤ y1) && decide (y1 < (↑y0.length : Int)) && decide ((y0.getD y1.toNat []).length = 1) then bif zau [.str] (y0.getD y1.toNat []) 0 && decide (1 ≤ (y0.getD y1.toNat []).length) then (zan [.one (.v (.string ((y0.getD y1.toNat []).getD 0 .h).str))] []).bind fun val => bif zag [.bool] val.1 && true then bif !(val.1.getD 0 .d).bool then some (zaz.q2 y0 false) else zaz.L2 y0 (IntKind.i64.wrap (y1 + 1)) else none else none else none else some (zaz.x2 y0) := by
 refine (zbf (Y := Y) (c := lim' Y) (fn := 68) (rid := 2) (b := zar 2 zaz.c) (by kernel_rfl) _).trans ?_
 delta zaz.L2 zan zaz.q2 zaz.x2 XX
 generalize lpL (Y.ctx (lim' Y)) 68 = lp
 generalize lim' Y = call
 kernel_rfl
theorem zaz.a2q2 (y0:LLD) (y1:Bool) : zaz.A2 (zaz.q2 y0 y1) = some ⟨[.v (.bool y1)], []⟩ := by
 delta zaz.A2 zaz.q2 XX
 generalize lpL (Y.ctx (lim' Y)) 68 = lp
 generalize lim' Y = call
 kernel_rfl
theorem zaz.a2x2 (y0:LLD) : zaz.A2 (zaz.x2 y0) = (sl1In [.one (.v (.int .i64 (↑y0.length : Int))), .one (.v (.int .i64 1)), .one (.v (.int .i64 4))] []).bind fun val => bif zag [.bool] val.1 && true then some ⟨[.v (.bool (val.1.getD 0 .d).bool)], []⟩ else none := by
 delta zaz.A2 zaz.x2 sl1In XX
 generalize lpL (Y.ctx (lim' Y)) 68 = lp
 generalize lim' Y = call
 kernel_rfl
noncomputable def zbk.P3 (y0:LLD) (y1 y2:Bool) (y3:Int) (y4:BAy) (y5 y6:LLD) (y7:Bool) (y8:Int) (y9:BAy) (y10 y11:LLD) (y12:Bool) (y13:Int) (y14:BAy) (y15 y16:LLD) (y17:Bool) (y18:Int) (y19:BAy) (y20 y21:LLD) : Option Res := evB XX 69 (lpL XX 69) 3 zbk.c (mkG 0 72 [(1, .one (.s y0)), (3, .one (.p true 3 [] 0)), (5, .one (.p true 5 [] 0)), (6, .one (.p true 6 [] 0)), (8, .one (.p true 8 [] 0)), (29, .one (.v (.bool y1)))] [(3, some ⟨.box, [.v (.bool y2), .v (.int .i64 y3), .v (.string y4), .s y5, .s y6], [.deep, .deep, .deep, .sh, .sh]⟩), (5, some ⟨.box, [.v (.bool y7), .v (.int .i64 y8), .v (.string y9), .s y10, .s y11], [.deep, .deep, .deep, .sh, .sh]⟩), (6, some ⟨.box, [.v (.bool y12), .v (.int .i64 y13), .v (.string y14), .s y15, .s y16], [.deep, .deep, .deep, .deep, .deep]⟩), (8, some ⟨.box, [.v (.bool y17), .v (.int .i64 y18), .v (.string y19), .s y20, .s y21], [.deep, .deep, .deep, .deep, .top]⟩)] GL) (outE XX 69 Tryz.f69)
noncomputable def zbk.P7 (y0:LLD) (y1:Int) (y2:Bool) (y3:Int) (y4:BAy) (y5 y6:LLD) (y7:Bool) (y8:Int) (y9:BAy) (y10 y11:LLD) (y12:Bool) (y13:Int) (y14:BAy) (y15 y16:LLD) (y17:Bool) (y18:Int) (y19:BAy) (y20 y21:LLD) : Option Res := evB XX 69 (lpL XX 69) 7 zbk.c (mkG 0 72 [(1, .one (.s y0)), (3, .one (.p true 3 [] 0)), (5, .one (.p true 5 [] 0)), (6, .one (.p true 6 [] 0)), (8, .one (.p true 8 [] 0)), (9, .one (.v (.int .i64 y1)))] [(3, some ⟨.box, [.v (.bool y2), .v (.int .i64 y3), .v (.string y4), .s y5, .s y6], [.deep, .deep, .deep, .sh, .sh]⟩), (5, some ⟨.box, [.v (.bool y7), .v (.int .i64 y8), .v (.string y9), .s y10, .s y11], [.deep, .deep, .deep, .sh, .sh]⟩), (6, some ⟨.box, [.v (.bool y12), .v (.int .i64 y13), .v (.string y14), .s y15, .s y16], [.deep, .deep, .deep, .deep, .deep]⟩), (8, some ⟨.box, [.v (.bool y17), .v (.int .i64 y18), .v (.string y19), .s y20, .s y21], [.deep, .deep, .deep, .deep, .top]⟩)] GL) (outE XX 69 Tryz.f69)
theorem zbk.e (a0:Bool) (a1:Int) (a2:BAy) (a3 a4 a5:LLD) (a6:Bool) (a7:Int) (a8:BAy) (a9 a10:LLD) : zbk [.g [.v (.bool a0), .v (.int .i64 a1), .v (.string a2), .s a3, .s a4], .one (.s a5), .g [.v (.bool a6), .v (.int .i64 a7), .v (.string a8), .s a9, .s a10]] [] = bif zaB 1 a3 && zaG false a3 && true && decide ((0 + a3.length) * 17 ≤ 70368744177664) then bif zaB 5 a4 && zaG true a4 && true && decide ((0 + a4.length) * 81 ≤ 70368744177664) then zbk.P3 a5 ((↑a5.length : Int) == 1) a0 a1 a2 a3 a4 a6 a7 a8 a9 a10 false 0 (ByteArray.mk #[]) [] [] a0 a1 a2 a3 a4 else none else none := by
 refine (zbk.run _ _ (by kernel_rfl)).trans ?_
 delta zbk zbk.P3 XX
 refine zbp [3, 7] (by kernel_rfl) fun J e1 => ?_
 try simp only [← e1]
 clear e1
 generalize lpL (Y.ctx (lim' Y)) 69 = lp
 generalize lim' Y = call
 kernel_rfl
theorem zbk.p3 (y0:LLD) (y1 y2:Bool) (y3:Int) (y4:BAy) (y5 y6:LLD) (y7:Bool) (y8:Int) (y9:BAy) (y10 y11:LLD) (y12:Bool) (y13:Int) (y14:BAy) (y15 y16:LLD) (y17:Bool) (y18:Int) (y19:BAy) (y20 y21:LLD) : zbk.P3 y0 y1 y2 y3 y4 y5 y6 y7 y8 y9 y10 y11 y12 y13 y14 y15 y16 y17 y18 y19 y20 y21 = bif y1 then bif decide (0 < (↑y0.length : Int)) && decide ((y0.getD 0 []).length = 1) then bif zau [.str] (y0.getD 0 []) 0 && decide (1 ≤ (y0.getD 0 []).length) then bif zaB 1 y20 && true && true && true && decide ((y20.length + 1) * 17 ≤ 70368744177664) then bif zaB 5 y21 && true && true && true && decide ((y21.length + 1) * 81 ≤ 70368744177664) then some ⟨[.v (.bool y17), .v (.int .i64 y18), .v (.string y19), .s (y20 ++ [[D.v (.string ((y0.getD 0 []).getD 0 D.h).str)]]), .s (y21 ++ [[D.v (.bool y7), D.v (.int .i64 y8), D.v (.string y9), D.s y10, D.s y11]]), .v (.bool true)], []⟩ else none else none else none else none else bif decide (0 < (↑y0.length : Int)) && decide ((y0.getD 0 []).length = 1) then bif zau [.str] (y0.getD 0 []) 0 && decide (1 ≤ (y0.getD 0 []).length) then (za0 [.g [.v (.bool y2), .v (.int .i64 y3), .v (.string y4), .s y5, .s y6], .one (.v (.string ((y0.getD 0 []).getD 0 D.h).str))] []).bind fun val => bif zag [.int .i64] val.1 && true then zbk.P7 y0 (val.1.getD 0 .d).int y2 y3 y4 y5 y6 y7 y8 y9 y10 y11 y12 y13 y14 y15 y16 y17 y18 y19 y20 y21 else none else none else none := by
 delta zbk.P3 za0 zbk.P7 XX
 refine zbb [3, 7] 3 (by kernel_rfl) fun J e1 => ?_
 try simp only [← e1]
 clear e1
 generalize lpL (Y.ctx (lim' Y)) 69 = lp
 generalize lim' Y = call
 kernel_rfl
theorem zbk.p7 (y0:LLD) (y1:Int) (y2:Bool) (y3:Int) (y4:BAy) (y5 y6:LLD) (y7:Bool) (y8:Int) (y9:BAy) (y10 y11:LLD) (y12:Bool) (y13:Int) (y14:BAy) (y15 y16:LLD) (y17:Bool) (y18:Int) (y19:BAy) (y20 y21:LLD) : zbk.P7 y0 y1 y2 y3 y4 y5 y6 y7 y8 y9 y10 y11 y12 y13 y14 y15 y16 y17 y18 y19 y20 y21 = bif decide (y1 < 0) then some ⟨[.v (.bool y17), .v (.int .i64 y18), .v (.string y19), .s y20, .s y21, .v (.bool false)], []⟩ else bif decide (0 ≤ y1) && decide (y1 < (↑y6.length : Int)) && decide ((y6.getD y1.toNat []).length = 5) then bif zau [.bool, .int .i64, .str, .sl, .sl] (y6.getD y1.toNat []) 0 && decide (5 ≤ (y6.getD y1.toNat []).length) then bif decide ((some 1).getD 0 ≤ (↑y0.length : Int)) && decide ((↑y0.length : Int) ≤ (↑y0.length : Int)) && (false || decide ((y0.getD 0 []).length = 1)) then (zbk [.g [.v (.bool ((y6.getD y1.toNat []).getD 0 .h).bool), .v (.int .i64 ((y6.getD y1.toNat []).getD 1 .h).int), .v (.string ((y6.getD y1.toNat []).getD 2 .h).str), .s ((y6.getD y1.toNat []).getD 3 .h).es, .s ((y6.getD y1.toNat []).getD 4 .h).es], .one (.s (List.drop 1 (List.take (↑y0.length : Int).toNat y0))), .g [.v (.bool y7), .v (.int .i64 y8), .v (.string y9), .s y10, .s y11]] []).bind fun val => bif zag [.bool, .int .i64, .str, .sh, .sh, .bool] val.1 && true then bif decide (0 ≤ y1) && decide (y1 < (↑y21.length : Int)) && decide ((y21.getD y1.toNat []).length = 5) then bif decide (5 ≤ (y21.getD y1.toNat []).length) && true then some ⟨[.v (.bool y17), .v (.int .i64 y18), .v (.string y19), .s y20, .s (y21.set y1.toNat (.v (.bool (val.1.getD 0 .d).bool) :: .v (.int .i64 (val.1.getD 1 .d).int) :: .v (.string (val.1.getD 2 .d).str) :: .s (val.1.getD 3 .d).es :: .s (val.1.getD 4 .d).es :: List.drop 5 (y21.getD y1.toNat []))), .v (.bool (val.1.getD 5 .d).bool)], []⟩ else none else none else none else none else none else none := by
 delta zbk.P7 zbk XX
 refine zbb [3, 7] 7 (by kernel_rfl) fun J e1 => ?_
 try simp only [← e1]
 clear e1
 generalize lpL (Y.ctx (lim' Y)) 69 = lp
 generalize lim' Y = call
 kernel_rfl
theorem zbs.e (a0:Bool) (a1:Int) (a2:BAy) (a3 a4:LLD) : zbs [.g [.v (.bool a0), .v (.int .i64 a1), .v (.string a2), .s a3, .s a4]] [] = (zcN [.g [.v (.bool a0), .v (.int .i64 a1), .v (.string a2), .s a3, .s a4]] []).bind fun val => bif zag [.bool] val.1 && true then bif !(val.1.getD 0 .d).bool then some ⟨[.o .deep []], []⟩ else (zaT [.one (.s []), .g [.v (.bool a0), .v (.int .i64 a1), .v (.string a2), .s a3, .s a4]] []).bind fun val => bif zag [.own .deep] val.1 && true then some ⟨[.o .deep (val.1.getD 0 .d).es], []⟩ else none else none := by
 refine (zbs.run _ _ (by kernel_rfl)).trans ?_
 delta zbs zcN zaT XX
 generalize lpL (Y.ctx (lim' Y)) 70 = lp
 generalize lim' Y = call
 kernel_rfl
theorem zbZ.e (a0:LLD) (a1:Bool) (a2:Int) (a3:BAy) (a4:Int) (a5:LLD) (a6:Bool) (a7:Int) (a8:BAy) (a9:Int) : zbZ [.g [.s a0, .v (.bool a1), .v (.int .i64 a2), .v (.string a3), .v (.int .i64 a4)], .g [.s a5, .v (.bool a6), .v (.int .i64 a7), .v (.string a8), .v (.int .i64 a9)]] [] = (zce [.one (.s a0), .one (.s a5)] []).bind fun val => bif zag [.bool] val.1 && true then bif (val.1.getD 0 .d).bool then bif a1 == a6 then bif a2 == a7 then bif a3.toList == a8.toList then some ⟨[.v (.bool (a4 == a9))], []⟩ else some ⟨[.v (.bool false)], []⟩ else some ⟨[.v (.bool false)], []⟩ else some ⟨[.v (.bool false)], []⟩ else some ⟨[.v (.bool false)], []⟩ else none := by
 refine (zbZ.run _ _ (by kernel_rfl)).trans ?_
 delta zbZ zce XX
 generalize lpL (Y.ctx (lim' Y)) 71 = lp
 generalize lim' Y = call
 kernel_rfl
noncomputable def za6.L3 (y0:Int) (y1:Bool) (y2:Int) (y3:BAy) (y4 y5:LLD) (y6:Bool) (y7:Int) (y8:BAy) (y9 y10:LLD) (y11:Bool) (y12:Int) (y13:BAy) (y14 y15:LLD) : Option (Ex × St) := lpL XX 72 (zar 3 za6.c) (mkG 0 35 [(1, .one (.p true 1 [] 0)), (2, .one (.p true 2 [] 0)), (3, .one (.p true 3 [] 0)), (4, .one (.v (.int .i64 y0)))] [(1, some ⟨.box, [.v (.bool y1), .v (.int .i64 y2), .v (.string y3), .s y4, .s y5], [.deep, .deep, .deep, .sh, .sh]⟩), (2, some ⟨.box, [.v (.bool y6), .v (.int .i64 y7), .v (.string y8), .s y9, .s y10], [.deep, .deep, .deep, .deep, .deep]⟩), (3, some ⟨.box, [.v (.bool y11), .v (.int .i64 y12), .v (.string y13), .s y14, .s y15], [.deep, .deep, .deep, .deep, .deep]⟩)] GL)
noncomputable def za6.A3 : Ex × St → Option Res := fun r => evA XX 72 (lpL XX 72) 3 za6.c r.fst r.snd (outE XX 72 Tryz.f72)
noncomputable def za6.x3 (y0:Bool) (y1:Int) (y2:BAy) (y3 y4:LLD) (y5:Bool) (y6:Int) (y7:BAy) (y8 y9:LLD) : Ex × St := (Ex.exit 0, mkG 0 35 [(2, .one (.p true 2 [] 0)), (3, .one (.p true 3 [] 0))] [(2, some ⟨.box, [.v (.bool y0), .v (.int .i64 y1), .v (.string y2), .s y3, .s y4], [.deep, .deep, .deep, .deep, .deep]⟩), (3, some ⟨.box, [.v (.bool y5), .v (.int .i64 y6), .v (.string y7), .s y8, .s y9], [.deep, .deep, .deep, .deep, .deep]⟩)] GL)
theorem za6.e (a0:Bool) (a1:Int) (a2:BAy) (a3 a4:LLD) : za6 [.g [.v (.bool a0), .v (.int .i64 a1), .v (.string a2), .s a3, .s a4]] [] = bif zaB 1 a3 && zaG false a3 && true && decide ((0 + a3.length) * 17 ≤ 70368744177664) then (za6.L3 0 a0 a1 a2 a3 a4 false 0 (ByteArray.mk #[]) [] [] a0 a1 a2 a3 []).bind za6.A3 else none := by
 refine (za6.run _ _ (by kernel_rfl)).trans ?_
 delta za6 za6.L3 za6.A3 XX
 generalize lpL (Y.ctx (lim' Y)) 72 = lp
 generalize lim' Y = call
 kernel_rfl
theorem za6.s3 (y0:Int) (y1:Bool) (y2:Int) (y3:BAy) (y4 y5:LLD) (y6:Bool) (y7:Int) (y8:BAy) (y9 y10:LLD) (y11:Bool) (y12:Int) (y13:BAy) (y14 y15:LLD) : za6.L3 y0 y1 y2 y3 y4 y5 y6 y7 y8 y9 y10 y11 y12 y13 y14 y15 = bif decide (y0 < (↑y5.length : Int)) then bif decide (0 ≤ y0) && decide (y0 < (↑y5.length : Int)) && decide ((y5.getD y0.toNat []).length = 5) then bif zau [.bool, .int .i64, .str, .sl, .sl] (y5.getD y0.toNat []) 0 && decide (5 ≤ (y5.getD y0.toNat []).length) then (za6 [.g [.v (.bool ((y5.getD y0.toNat []).getD 0 .h).bool), .v (.int .i64 ((y5.getD y0.toNat []).getD 1 .h).int), .v (.string ((y5.getD y0.toNat []).getD 2 .h).str), .s ((y5.getD y0.toNat []).getD 3 .h).es, .s ((y5.getD y0.toNat []).getD 4 .h).es]] []).bind fun val => bif zag [.bool, .int .i64, .str, .own .deep, .own .deep] val.1 && true then bif zaB 5 y15 && true && true && true && decide ((y15.length + 1) * 81 ≤ 70368744177664) then za6.L3 (IntKind.i64.wrap (y0 + 1)) y1 y2 y3 y4 y5 y6 y7 y8 y9 y10 y11 y12 y13 y14 (y15 ++ [[.v (.bool (val.1.getD 0 .d).bool), .v (.int .i64 (val.1.getD 1 .d).int), .v (.string (val.1.getD 2 .d).str), .s (val.1.getD 3 .d).es, .s (val.1.getD 4 .d).es]]) else none else none else none else none else some (za6.x3 y6 y7 y8 y9 y10 y11 y12 y13 y14 y15) := by
 refine (zbf (Y := Y) (c := lim' Y) (fn := 72) (rid := 3) (b := zar 3 za6.c) (by kernel_rfl) _).trans ?_
 delta za6.L3 za6 za6.x3 XX
 generalize lpL (Y.ctx (lim' Y)) 72 = lp
 generalize lim' Y = call
 kernel_rfl
theorem za6.a3x3 (y0:Bool) (y1:Int) (y2:BAy) (y3 y4:LLD) (y5:Bool) (y6:Int) (y7:BAy) (y8 y9:LLD) : za6.A3 (za6.x3 y0 y1 y2 y3 y4 y5 y6 y7 y8 y9) = some ⟨[.v (.bool y5), .v (.int .i64 y6), .v (.string y7), .o .deep y8, .o .deep y9], []⟩ := by
 delta za6.A3 za6.x3 XX
 generalize lpL (Y.ctx (lim' Y)) 72 = lp
 generalize lim' Y = call
 kernel_rfl
theorem zb3.e (a0 a1 a2:Int) : zb3 [.one (.v (.int .i64 a0)), .one (.v (.int .i64 a1)), .one (.v (.int .i64 a2))] [] = bif decide (a0 ≥ a1) then some ⟨[.v (.bool (decide (a0 ≤ a2)))], []⟩ else some ⟨[.v (.bool false)], []⟩ := by
 refine (zb3.run _ _ (by kernel_rfl)).trans ?_
 delta zb3 XX
 generalize lpL (Y.ctx (lim' Y)) 73 = lp
 generalize lim' Y = call
 kernel_rfl
noncomputable def zak.L2 (y0:LLD) (y1 y2:Int) (y3:Bool) (y4:Int) (y5:BAy) (y6 y7:LLD) : Option (Ex × St) := lpL XX 74 (zar 2 zak.c) (mkG 1 20 [(0, .one (.p true 0 [] 0)), (7, .one (.s y0)), (8, .one (.v (.int .i64 y1))), (9, .one (.v (.int .i64 y2)))] [(0, some ⟨.ro, [.v (.bool y3), .v (.int .i64 y4), .v (.string y5), .s y6, .s y7], [.sh, .sh, .sh, .sh, .sh]⟩)] GL)
noncomputable def zak.A2 : Ex × St → Option Res := fun r => evA XX 74 (lpL XX 74) 2 zak.c r.fst r.snd (outE XX 74 Tryz.f74)
noncomputable def zak.P5 (y0:Bool) (y1:LLD) (y2 y3:Int) (y4:Bool) (y5:Int) (y6:BAy) (y7 y8:LLD) : Option (Ex × St) := evB XX 74 (lpL XX 74) 5 (zar 2 zak.c) (mkG 1 20 [(0, .one (.p y0 0 [] 0)), (7, .one (.s y1)), (8, .one (.v (.int .i64 y2))), (9, .one (.v (.int .i64 y3)))] [(0, some ⟨.ro, [.v (.bool y4), .v (.int .i64 y5), .v (.string y6), .s y7, .s y8], [.sh, .sh, .sh, .sh, .sh]⟩)] GL) (backL (lpL XX 74) (zar 2 zak.c) (XX.live 74 2))
noncomputable def zak.P5b (y0:Bool) (y1:Nat) (y2:List (Nat × Nat)) (y3:LLD) (y4 y5:Int) (y6:Bool) (y7:Int) (y8:BAy) (y9 y10:LLD) : Option (Ex × St) := evB XX 74 (lpL XX 74) 5 (zar 2 zak.c) (mkG 1 20 [(0, .one (.p y0 0 ((4, y1) :: y2) 0)), (7, .one (.s y3)), (8, .one (.v (.int .i64 y4))), (9, .one (.v (.int .i64 y5)))] [(0, some ⟨.ro, [.v (.bool y6), .v (.int .i64 y7), .v (.string y8), .s y9, .s y10], [.sh, .sh, .sh, .sh, .sh]⟩)] GL) (backL (lpL XX 74) (zar 2 zak.c) (XX.live 74 2))
noncomputable def zak.x2 (y0:Bool) (y1:Int) (y2:BAy) (y3 y4:LLD) : Ex × St := (Ex.exit 0, mkG 1 20 [(0, .one (.p true 0 [] 0))] [(0, some ⟨.ro, [.v (.bool y0), .v (.int .i64 y1), .v (.string y2), .s y3, .s y4], [.sh, .sh, .sh, .sh, .sh]⟩)] GL)
noncomputable def zak.q2 (y0 y1:Bool) (y2:Int) (y3:BAy) (y4 y5:LLD) : Ex × St := (Ex.ret, mkG 1 20 [(0, .one (.p y0 0 [] 0)), (4, .one (.v (.pointer none)))] [(0, some ⟨.ro, [.v (.bool y1), .v (.int .i64 y2), .v (.string y3), .s y4, .s y5], [.sh, .sh, .sh, .sh, .sh]⟩)] GL)
noncomputable def zak.L2b (y0:Bool) (y1:LLD) (y2 y3:Int) (y4:Bool) (y5:Int) (y6:BAy) (y7 y8:LLD) : Option (Ex × St) := lpL XX 74 (zar 2 zak.c) (mkG 1 20 [(0, .one (.p y0 0 [] 0)), (7, .one (.s y1)), (8, .one (.v (.int .i64 y2))), (9, .one (.v (.int .i64 y3)))] [(0, some ⟨.ro, [.v (.bool y4), .v (.int .i64 y5), .v (.string y6), .s y7, .s y8], [.sh, .sh, .sh, .sh, .sh]⟩)] GL)
noncomputable def zak.q2b (y0:Bool) (y1:Nat) (y2:List (Nat × Nat)) (y3:Bool) (y4:Int) (y5:BAy) (y6 y7:LLD) : Ex × St := (Ex.ret, mkG 1 20 [(0, .one (.p y0 0 ((4, y1) :: y2) 0)), (4, .one (.v (.pointer none)))] [(0, some ⟨.ro, [.v (.bool y3), .v (.int .i64 y4), .v (.string y5), .s y6, .s y7], [.sh, .sh, .sh, .sh, .sh]⟩)] GL)
noncomputable def zak.L2c (y0:Bool) (y1:Nat) (y2:List (Nat × Nat)) (y3:LLD) (y4 y5:Int) (y6:Bool) (y7:Int) (y8:BAy) (y9 y10:LLD) : Option (Ex × St) := lpL XX 74 (zar 2 zak.c) (mkG 1 20 [(0, .one (.p y0 0 ((4, y1) :: y2) 0)), (7, .one (.s y3)), (8, .one (.v (.int .i64 y4))), (9, .one (.v (.int .i64 y5)))] [(0, some ⟨.ro, [.v (.bool y6), .v (.int .i64 y7), .v (.string y8), .s y9, .s y10], [.sh, .sh, .sh, .sh, .sh]⟩)] GL)
noncomputable def zak.x2c (y0:Bool) (y1:Nat) (y2:List (Nat × Nat)) (y3:Bool) (y4:Int) (y5:BAy) (y6 y7:LLD) : Ex × St := (Ex.exit 0, mkG 1 20 [(0, .one (.p y0 0 ((4, y1) :: y2) 0))] [(0, some ⟨.ro, [.v (.bool y3), .v (.int .i64 y4), .v (.string y5), .s y6, .s y7], [.sh, .sh, .sh, .sh, .sh]⟩)] GL)
theorem zak.e (a0:Bool) (a1:Int) (a2:BAy) (a3 a4 a5:LLD) : zak [.one (.p true 0 [] 0), .one (.s a5)] [⟨.ro, [.v (.bool a0), .v (.int .i64 a1), .v (.string a2), .s a3, .s a4], [.sh, .sh, .sh, .sh, .sh]⟩] = (zak.L2 a5 (↑a5.length : Int) 0 a0 a1 a2 a3 a4).bind zak.A2 := by
 refine (zak.run _ _ (by kernel_rfl)).trans ?_
 delta zak zak.L2 zak.A2 XX
 generalize lpL (Y.ctx (lim' Y)) 74 = lp
 generalize lim' Y = call
 kernel_rfl
theorem zak.s2 (y0:LLD) (y1 y2:Int) (y3:Bool) (y4:Int) (y5:BAy) (y6 y7:LLD) : zak.L2 y0 y1 y2 y3 y4 y5 y6 y7 = bif decide (y2 < y1) then bif decide (0 ≤ y2) && decide (y2 < (↑y0.length : Int)) && decide ((y0.getD y2.toNat []).length = 1) then bif zau [.str] (y0.getD y2.toNat []) 0 && decide (1 ≤ (y0.getD y2.toNat []).length) then (zaY [.one (.p true 0 [] 0), .one (.v (.string ((y0.getD y2.toNat []).getD 0 .h).str))] [⟨.ro, [.v (.bool y3), .v (.int .i64 y4), .v (.string y5), .s y6, .s y7], [.sh, .sh, .sh, .sh, .sh]⟩]).bind fun val => bif zag [.ptr 0] val.1 && true then bif List.isEmpty (val.1.getD 0 .d).path then zak.P5 (val.1.getD 0 .d).ok y0 y1 y2 y3 y4 y5 y6 y7 else zak.P5b (val.1.getD 0 .d).ok (List.headD (val.1.getD 0 .d).path (0, 0)).2 (List.tail (val.1.getD 0 .d).path) y0 y1 y2 y3 y4 y5 y6 y7 else none else none else none else some (zak.x2 y3 y4 y5 y6 y7) := by
 refine (zbf (Y := Y) (c := lim' Y) (fn := 74) (rid := 2) (b := zar 2 zak.c) (by kernel_rfl) _).trans ?_
 delta zak.L2 zaY zak.P5 zak.P5b zak.x2 XX
 refine zbp [5] (by kernel_rfl) fun J e1 => ?_
 try simp only [← e1]
 clear e1
 generalize lpL (Y.ctx (lim' Y)) 74 = lp
 generalize lim' Y = call
 kernel_rfl
theorem zak.p5 (y0:Bool) (y1:LLD) (y2 y3:Int) (y4:Bool) (y5:Int) (y6:BAy) (y7 y8:LLD) : zak.P5 y0 y1 y2 y3 y4 y5 y6 y7 y8 = bif !y0 then some (zak.q2 y0 y4 y5 y6 y7 y8) else zak.L2b y0 y1 y2 (IntKind.i64.wrap (y3 + 1)) y4 y5 y6 y7 y8 := by
 delta zak.P5 zak.q2 zak.L2b XX
 refine zbb [5] 5 (by kernel_rfl) fun J e1 => ?_
 try simp only [← e1]
 clear e1
 generalize lpL (Y.ctx (lim' Y)) 74 = lp
 generalize lim' Y = call
 kernel_rfl
theorem zak.p5b (y0:Bool) (y1:Nat) (y2:List (Nat × Nat)) (y3:LLD) (y4 y5:Int) (y6:Bool) (y7:Int) (y8:BAy) (y9 y10:LLD) : zak.P5b y0 y1 y2 y3 y4 y5 y6 y7 y8 y9 y10 = bif !y0 then some (zak.q2b y0 y1 y2 y6 y7 y8 y9 y10) else zak.L2c y0 y1 y2 y3 y4 (IntKind.i64.wrap (y5 + 1)) y6 y7 y8 y9 y10 := by
 delta zak.P5b zak.q2b zak.L2c XX
 refine zbb [5] 5 (by kernel_rfl) fun J e1 => ?_
 try simp only [← e1]
 clear e1
 generalize lpL (Y.ctx (lim' Y)) 74 = lp
 generalize lim' Y = call
 kernel_rfl
theorem zak.a2x2 (y0:Bool) (y1:Int) (y2:BAy) (y3 y4:LLD) : zak.A2 (zak.x2 y0 y1 y2 y3 y4) = some ⟨[.p true 0 [] 0], [⟨.ro, [.v (.bool y0), .v (.int .i64 y1), .v (.string y2), .s y3, .s y4], [.sh, .sh, .sh, .sh, .sh]⟩]⟩ := by
 delta zak.A2 zak.x2 XX
 generalize lpL (Y.ctx (lim' Y)) 74 = lp
 generalize lim' Y = call
 kernel_rfl
theorem zak.a2q2 (y0 y1:Bool) (y2:Int) (y3:BAy) (y4 y5:LLD) : zak.A2 (zak.q2 y0 y1 y2 y3 y4 y5) = some ⟨[.p false 0 [] 0], [⟨.ro, [.v (.bool y1), .v (.int .i64 y2), .v (.string y3), .s y4, .s y5], [.sh, .sh, .sh, .sh, .sh]⟩]⟩ := by
 delta zak.A2 zak.q2 XX
 generalize lpL (Y.ctx (lim' Y)) 74 = lp
 generalize lim' Y = call
 kernel_rfl
theorem zak.a2q2b (y0:Bool) (y1:Nat) (y2:List (Nat × Nat)) (y3:Bool) (y4:Int) (y5:BAy) (y6 y7:LLD) : zak.A2 (zak.q2b y0 y1 y2 y3 y4 y5 y6 y7) = some ⟨[.p false 0 [] 0], [⟨.ro, [.v (.bool y3), .v (.int .i64 y4), .v (.string y5), .s y6, .s y7], [.sh, .sh, .sh, .sh, .sh]⟩]⟩ := by
 delta zak.A2 zak.q2b XX
 generalize lpL (Y.ctx (lim' Y)) 74 = lp
 generalize lim' Y = call
 kernel_rfl
theorem zak.s2c (y0:Bool) (y1:Nat) (y2:List (Nat × Nat)) (y3:LLD) (y4 y5:Int) (y6:Bool) (y7:Int) (y8:BAy) (y9 y10:LLD) : zak.L2c y0 y1 y2 y3 y4 y5 y6 y7 y8 y9 y10 = bif decide (y5 < y4) then bif decide (0 ≤ y5) && decide (y5 < (↑y3.length : Int)) && decide ((y3.getD y5.toNat []).length = 1) then bif zau [.str] (y3.getD y5.toNat []) 0 && decide (1 ≤ (y3.getD y5.toNat []).length) then (zaY [.one (.p y0 0 [] 0), .one (.v (.string ((y3.getD y5.toNat []).getD 0 .h).str))] [⟨.ro, zaj (y10.getD y1 []) y2, List.map (fun x => .sh) (zaj (y10.getD y1 []) y2)⟩]).bind fun val => bif zag [.ptr 0] val.1 && true then bif List.isEmpty (val.1.getD 0 .d).path then zak.P5b (val.1.getD 0 .d).ok y1 (y2 ++ []) y3 y4 y5 y6 y7 y8 y9 y10 else zak.P5b (val.1.getD 0 .d).ok y1 (y2 ++ (4, (List.headD (val.1.getD 0 .d).path (0, 0)).2) :: List.tail (val.1.getD 0 .d).path) y3 y4 y5 y6 y7 y8 y9 y10 else none else none else none else some (zak.x2c y0 y1 y2 y6 y7 y8 y9 y10) := by
 refine (zbf (Y := Y) (c := lim' Y) (fn := 74) (rid := 2) (b := zar 2 zak.c) (by kernel_rfl) _).trans ?_
 delta zak.L2c zaY zak.P5b zak.x2c XX
 refine zbp [5] (by kernel_rfl) fun J e1 => ?_
 try simp only [← e1]
 clear e1
 generalize lpL (Y.ctx (lim' Y)) 74 = lp
 generalize lim' Y = call
 kernel_rfl
theorem zak.a2x2c (y0:Bool) (y1:Nat) (y2:List (Nat × Nat)) (y3:Bool) (y4:Int) (y5:BAy) (y6 y7:LLD) : zak.A2 (zak.x2c y0 y1 y2 y3 y4 y5 y6 y7) = some ⟨[.p y0 0 ((4, y1) :: y2) 0], [⟨.ro, [.v (.bool y3), .v (.int .i64 y4), .v (.string y5), .s y6, .s y7], [.sh, .sh, .sh, .sh, .sh]⟩]⟩ := by
 delta zak.A2 zak.x2c XX
 generalize lpL (Y.ctx (lim' Y)) 74 = lp
 generalize lim' Y = call
 kernel_rfl
noncomputable def iTree_putn.P5 (y0:Int) (y1:Bool) (y2:Int) (y3:BAy) (y4 y5:LLD) (y6:Bool) (y7:Int) (y8:BAy) (y9 y10:LLD) : Option Res := evB XX 75 (lpL XX 75) 5 zbP.c (mkG 1 47 [(0, .one (.p true 0 [] 0)), (5, .one (.p true 6 [] 0)), (6, .one (.v (.int .i64 y0)))] [(0, some ⟨.box, [.v (.bool y1), .v (.int .i64 y2), .v (.string y3), .s y4, .s y5], [.deep, .deep, .deep, .deep, .deep]⟩), (6, some ⟨.box, [.v (.bool y6), .v (.int .i64 y7), .v (.string y8), .s y9, .s y10], [.deep, .deep, .deep, .deep, .deep]⟩)] GL) (outE XX 75 Tryz.f75)
theorem iTree_putn.e (a0:Bool) (a1:Int) (a2:BAy) (a3 a4:LLD) (n:BAy) (b0:Bool) (b1:Int) (b2:BAy) : zbP [.one (.p true 0 [] 0), .one (.v (.string n)), .g [.v (.bool b0), .v (.int .i64 b1), .v (.string b2), .v (.slice none 0 0), .v (.slice none 0 0)]] [⟨.box, [.v (.bool a0), .v (.int .i64 a1), .v (.string a2), .s a3, .s a4], [.deep, .deep, .deep, .deep, .deep]⟩] = (zac [.one (.s a3), .one (.v (.string n))] []).bind fun val => bif zag [.int .i64, .bool] val.1 && true then bif (val.1.getD 1 .d).bool then bif decide (0 ≤ (val.1.getD 0 .d).int) && decide ((val.1.getD 0 .d).int < (↑a4.length : Int)) && decide ((a4.getD (val.1.getD 0 .d).int.toNat []).length = 5) then bif decide (5 ≤ (a4.getD (val.1.getD 0 .d).int.toNat []).length) && true then some ⟨[], [⟨.box, [.v (.bool a0), .v (.int .i64 a1), .v (.string a2), .s a3, .s (a4.set (val.1.getD 0 .d).int.toNat (.v (.bool b0) :: .v (.int .i64 b1) :: .v (.string b2) :: .s [] :: .s [] :: List.drop 5 (a4.getD (val.1.getD 0 .d).int.toNat [])))], [.deep, .deep, .deep, .deep, .deep]⟩]⟩ else none else none else (za7 [.one (.r 0 [] 0), .one (.v (.int .i64 (val.1.getD 0 .d).int)), .one (.r 1 [] 0)] [⟨.virt, [.s a3], [.deep]⟩, ⟨.virt, [.s [[.v (.string n)]]], [.deep]⟩]).bind fun val_1 => bif zag [.own .deep] val_1.1 && true then iTree_putn.P5 (val.1.getD 0 .d).int a0 a1 a2 (val_1.1.getD 0 .d).es a4 b0 b1 b2 [] [] else none else none := by
 refine (zbP.run _ _ (by kernel_rfl)).trans ?_
 delta zbP zac za7 iTree_putn.P5 XX
 refine zbp [5] (by kernel_rfl) fun J e1 => ?_
 try simp only [← e1]
 clear e1
 generalize lpL (Y.ctx (lim' Y)) 75 = lp
 generalize lim' Y = call
 kernel_rfl
theorem iTree_putn.p5 (y0:Int) (y1:Bool) (y2:Int) (y3:BAy) (y4 y5:LLD) (y6:Bool) (y7:Int) (y8:BAy) (y9 y10:LLD) : iTree_putn.P5 y0 y1 y2 y3 y4 y5 y6 y7 y8 y9 y10 = (za3 [.one (.r 0 [] 0), .one (.v (.int .i64 y0)), .one (.r 1 [] 0)] [⟨.virt, [.s y5], [.deep]⟩, ⟨.virt, [.s [[.v (.bool y6), .v (.int .i64 y7), .v (.string y8), .s y9, .s y10]]], [.deep]⟩]).bind fun val => bif zag [.own .deep] val.1 && true then some ⟨[], [⟨.box, [.v (.bool y1), .v (.int .i64 y2), .v (.string y3), .s y4, .s (val.1.getD 0 .d).es], [.deep, .deep, .deep, .deep, .deep]⟩]⟩ else none := by
 delta iTree_putn.P5 za3 XX
 refine zbb [5] 5 (by kernel_rfl) fun J e1 => ?_
 try simp only [← e1]
 clear e1
 generalize lpL (Y.ctx (lim' Y)) 75 = lp
 generalize lim' Y = call
 kernel_rfl
theorem zcM.e (a0:Bool) (a1:Int) (a2:BAy) (a3 a4:LLD) : zcM [.g [.v (.bool a0), .v (.int .i64 a1), .v (.string a2), .s a3, .s a4]] [] = bif a0 then (zai [.g [.v (.bool a0), .v (.int .i64 a1), .v (.string a2), .s a3, .s a4], .one (.v (.int .i64 0))] []).bind fun val => bif zag [.bool] val.1 && true then bif (val.1.getD 0 .d).bool then (zax [.g [.v (.bool a0), .v (.int .i64 a1), .v (.string a2), .s a3, .s a4]] []).bind fun val => bif zag [.int .i64] val.1 && true then some ⟨[.v (.bool (decide ((val.1.getD 0 .d).int ≤ 31)))], []⟩ else none else some ⟨[.v (.bool false)], []⟩ else none else some ⟨[.v (.bool false)], []⟩ := by
 refine (zcM.run _ _ (by kernel_rfl)).trans ?_
 delta zcM zai zax XX
 generalize lpL (Y.ctx (lim' Y)) 76 = lp
 generalize lim' Y = call
 kernel_rfl
noncomputable def zaa.L4 (y0 y1:LLD) (y2 y3:Int) : Option (Ex × St) := lpL XX 77 (zar 4 zaa.c) (mkG 0 32 [(1, .one (.s y0)), (2, .f zby.id []), (15, .one (.s y1)), (16, .one (.v (.int .i64 y2))), (17, .one (.v (.int .i64 y3)))] [] GL)
noncomputable def zaa.A4 : Ex × St → Option Res := fun r => evA XX 77 (lpL XX 77) 4 zaa.c r.fst r.snd (outE XX 77 Tryz.f77)
noncomputable def zaa.q4 (y0:Bool) : Ex × St := (Ex.ret, mkG 0 32 [(6, .one (.v (.bool y0)))] [] GL)
noncomputable def zaa.x4 : Ex × St := (Ex.exit 0, mkG 0 32 [] [] GL)
theorem zaa.e (a0 a1:LLD) : zaa [.one (.s a0), .one (.s a1), .f zby.id []] [] = bif (↑a0.length : Int) != (↑a1.length : Int) then some ⟨[.v (.bool false)], []⟩ else (zaa.L4 a1 a0 (↑a0.length : Int) 0).bind zaa.A4 := by
 refine (zaa.run _ _ (by kernel_rfl)).trans ?_
 delta zaa zaa.L4 zaa.A4 zby.id XX
 generalize lpL (Y.ctx (lim' Y)) 77 = lp
 generalize lim' Y = call
 kernel_rfl
theorem zaa.s4 (y0 y1:LLD) (y2 y3:Int) : zaa.L4 y0 y1 y2 y3 = bif decide (y3 < y2) then bif decide (0 ≤ y3) && decide (y3 < (↑y1.length : Int)) && decide ((y1.getD y3.toNat []).length = 5) then bif zau [.sl, .bool, .int .i64, .str, .int .i64] (y1.getD y3.toNat []) 0 && decide (5 ≤ (y1.getD y3.toNat []).length) then bif decide (0 ≤ y3) && decide (y3 < (↑y0.length : Int)) && decide ((y0.getD y3.toNat []).length = 5) then bif zau [.sl, .bool, .int .i64, .str, .int .i64] (y0.getD y3.toNat []) 0 && decide (5 ≤ (y0.getD y3.toNat []).length) then (zby [.g [.s ((y1.getD y3.toNat []).getD 0 .h).es, .v (.bool ((y1.getD y3.toNat []).getD 1 .h).bool), .v (.int .i64 ((y1.getD y3.toNat []).getD 2 .h).int), .v (.string ((y1.getD y3.toNat []).getD 3 .h).str), .v (.int .i64 ((y1.getD y3.toNat []).getD 4 .h).int)], .g [.s ((y0.getD y3.toNat []).getD 0 .h).es, .v (.bool ((y0.getD y3.toNat []).getD 1 .h).bool), .v (.int .i64 ((y0.getD y3.toNat []).getD 2 .h).int), .v (.string ((y0.getD y3.toNat []).getD 3 .h).str), .v (.int .i64 ((y0.getD y3.toNat []).getD 4 .h).int)]] []).bind fun val => bif zag [.bool] val.1 && true then bif !(val.1.getD 0 .d).bool then some (zaa.q4 false) else zaa.L4 y0 y1 y2 (IntKind.i64.wrap (y3 + 1)) else none else none else none else none else none else some zaa.x4 := by
 refine (zbf (Y := Y) (c := lim' Y) (fn := 77) (rid := 4) (b := zar 4 zaa.c) (by kernel_rfl) _).trans ?_
 delta zaa.L4 zby zaa.q4 zaa.x4 XX
 generalize lpL (Y.ctx (lim' Y)) 77 = lp
 generalize lim' Y = call
 kernel_rfl
theorem zaa.a4q4 (y0:Bool) : zaa.A4 (zaa.q4 y0) = some ⟨[.v (.bool y0)], []⟩ := by
 delta zaa.A4 zaa.q4 XX
 generalize lpL (Y.ctx (lim' Y)) 77 = lp
 generalize lim' Y = call
 kernel_rfl
theorem zaa.a4x4 : zaa.A4 zaa.x4 = some ⟨[.v (.bool true)], []⟩ := by
 delta zaa.A4 zaa.x4 XX
 generalize lpL (Y.ctx (lim' Y)) 77 = lp
 generalize lim' Y = call
 kernel_rfl
theorem zbt.e (a0:Bool) (a1:Int) (a2:BAy) (a3 a4:LLD) : zbt [.g [.v (.bool a0), .v (.int .i64 a1), .v (.string a2), .s a3, .s a4]] [] = (zaV [.g [.v (.bool a0), .v (.int .i64 a1), .v (.string a2), .s a3, .s a4], .one (.s []), .f zaL.id [.p true 0 [] 0]] [⟨.box, [.s []], [.deep]⟩]).bind fun val => bif zag [] val.1 && za4 [⟨⟨.box, [.s []], [.deep]⟩, .box 3⟩] val.2 then some ⟨[.o .deep ((val.2.getD 0 ⟨.ro, [], []⟩).2.getD 0 .h).es], []⟩ else none := by
 refine (zbt.run _ _ (by kernel_rfl)).trans ?_
 delta zbt zaV zaL.id XX
 generalize lpL (Y.ctx (lim' Y)) 78 = lp
 generalize lim' Y = call
 kernel_rfl
theorem zby.e (a0:LLD) (a1:Bool) (a2:Int) (a3:BAy) (a4:Int) (a5:LLD) (a6:Bool) (a7:Int) (a8:BAy) (a9:Int) : zby [.g [.s a0, .v (.bool a1), .v (.int .i64 a2), .v (.string a3), .v (.int .i64 a4)], .g [.s a5, .v (.bool a6), .v (.int .i64 a7), .v (.string a8), .v (.int .i64 a9)]] [] = (zad [.one (.s a0), .one (.s a5)] []).bind fun val => bif zag [.bool] val.1 && true then bif (val.1.getD 0 .d).bool then bif a1 == a6 then bif a2 == a7 then bif a3.toList == a8.toList then some ⟨[.v (.bool (a4 == a9))], []⟩ else some ⟨[.v (.bool false)], []⟩ else some ⟨[.v (.bool false)], []⟩ else some ⟨[.v (.bool false)], []⟩ else some ⟨[.v (.bool false)], []⟩ else none := by
 refine (zby.run _ _ (by kernel_rfl)).trans ?_
 delta zby zad XX
 generalize lpL (Y.ctx (lim' Y)) 79 = lp
 generalize lim' Y = call
 kernel_rfl
noncomputable def zay.L3 (y0:LLD) (y1 y2:Int) (y3:Bool) (y4:Int) (y5:BAy) (y6 y7:LLD) (y8:Bool) (y9:Int) (y10:BAy) (y11 y12 y13:LLD) : Option (Ex × St) := lpL XX 80 (zar 3 zay.c) (mkG 0 28 [(1, .one (.p true 1 [] 0)), (2, .one (.p true 2 [] 0)), (3, .one (.r 3 [] 0)), (8, .one (.s y0)), (9, .one (.v (.int .i64 y1))), (10, .one (.v (.int .i64 y2)))] [(1, some ⟨.box, [.v (.bool y3), .v (.int .i64 y4), .v (.string y5), .s y6, .s y7], [.deep, .deep, .deep, .sh, .sh]⟩), (2, some ⟨.box, [.v (.bool y8), .v (.int .i64 y9), .v (.string y10), .s y11, .s y12], [.deep, .deep, .deep, .deep, .deep]⟩), (3, some ⟨.virt, [.s y13], [.deep]⟩)] GL)
noncomputable def zay.A3 : Ex × St → Option Res := fun r => evA XX 80 (lpL XX 80) 3 zay.c r.fst r.snd (outE XX 80 Tryz.f80)
noncomputable def zay.x3 (y0:Bool) (y1:Int) (y2:BAy) (y3 y4:LLD) (y5:Bool) (y6:Int) (y7:BAy) (y8 y9 y10:LLD) : Ex × St := (Ex.exit 0, mkG 0 28 [(1, .one (.p true 1 [] 0)), (2, .one (.p true 2 [] 0)), (3, .one (.r 3 [] 0))] [(1, some ⟨.box, [.v (.bool y0), .v (.int .i64 y1), .v (.string y2), .s y3, .s y4], [.deep, .deep, .deep, .sh, .sh]⟩), (2, some ⟨.box, [.v (.bool y5), .v (.int .i64 y6), .v (.string y7), .s y8, .s y9], [.deep, .deep, .deep, .deep, .deep]⟩), (3, some ⟨.virt, [.s y10], [.deep]⟩)] GL)
theorem zay.e (a0:Bool) (a1:Int) (a2:BAy) (a3 a4:LLD) : zay [.g [.v (.bool a0), .v (.int .i64 a1), .v (.string a2), .s a3, .s a4]] [] = (zay.L3 a4 (↑a4.length : Int) 0 a0 a1 a2 a3 a4 false 0 (ByteArray.mk #[]) [] [] []).bind zay.A3 := by
 refine (zay.run _ _ (by kernel_rfl)).trans ?_
 delta zay zay.L3 zay.A3 XX
 generalize lpL (Y.ctx (lim' Y)) 80 = lp
 generalize lim' Y = call
 kernel_rfl
theorem zay.s3 (y0:LLD) (y1 y2:Int) (y3:Bool) (y4:Int) (y5:BAy) (y6 y7:LLD) (y8:Bool) (y9:Int) (y10:BAy) (y11 y12 y13:LLD) : zay.L3 y0 y1 y2 y3 y4 y5 y6 y7 y8 y9 y10 y11 y12 y13 = bif decide (y2 < y1) then bif decide (0 ≤ y2) && decide (y2 < (↑y0.length : Int)) && decide ((y0.getD y2.toNat []).length = 5) then bif zau [.bool, .int .i64, .str, .sl, .sl] (y0.getD y2.toNat []) 0 && decide (5 ≤ (y0.getD y2.toNat []).length) then (zay [.g [.v (.bool ((y0.getD y2.toNat []).getD 0 .h).bool), .v (.int .i64 ((y0.getD y2.toNat []).getD 1 .h).int), .v (.string ((y0.getD y2.toNat []).getD 2 .h).str), .s ((y0.getD y2.toNat []).getD 3 .h).es, .s ((y0.getD y2.toNat []).getD 4 .h).es]] []).bind fun val => bif zag [.bool, .int .i64, .str, .own .deep, .own .deep] val.1 && true then bif zaB 5 y13 && true && true && true && decide ((y13.length + 1) * 81 ≤ 70368744177664) then zay.L3 y0 y1 (IntKind.i64.wrap (y2 + 1)) y3 y4 y5 y6 y7 y8 y9 y10 y11 y12 (y13 ++ [[.v (.bool (val.1.getD 0 .d).bool), .v (.int .i64 (val.1.getD 1 .d).int), .v (.string (val.1.getD 2 .d).str), .s (val.1.getD 3 .d).es, .s (val.1.getD 4 .d).es]]) else none else none else none else none else some (zay.x3 y3 y4 y5 y6 y7 y8 y9 y10 y11 y12 y13) := by
 refine (zbf (Y := Y) (c := lim' Y) (fn := 80) (rid := 3) (b := zar 3 zay.c) (by kernel_rfl) _).trans ?_
 delta zay.L3 zay zay.x3 XX
 generalize lpL (Y.ctx (lim' Y)) 80 = lp
 generalize lim' Y = call
 kernel_rfl
theorem zay.a3x3 (y0:Bool) (y1:Int) (y2:BAy) (y3 y4:LLD) (y5:Bool) (y6:Int) (y7:BAy) (y8 y9 y10:LLD) : zay.A3 (zay.x3 y0 y1 y2 y3 y4 y5 y6 y7 y8 y9 y10) = bif zaB 1 y3 && zaG false y3 && true && decide ((0 + y3.length) * 17 ≤ 70368744177664) then some ⟨[.v (.bool y0), .v (.int .i64 y1), .v (.string y2), .o .deep y3, .o .deep y10], []⟩ else none := by
 delta zay.A3 zay.x3 XX
 generalize lpL (Y.ctx (lim' Y)) 80 = lp
 generalize lim' Y = call
 kernel_rfl
noncomputable def zaR.L4 (y0 y1:LLD) (y2:Int) : Option (Ex × St) := lpL XX 81 (zar 4 zaR.c) (mkG 0 27 [(0, .one (.s y0)), (1, .one (.s y1)), (5, .one (.v (.int .i64 y2)))] [] GL)
noncomputable def zaR.A4 : Ex × St → Option Res := fun r => evA XX 81 (lpL XX 81) 4 zaR.c r.fst r.snd (outE XX 81 Tryz.f81)
noncomputable def zaR.q4 (y0:Bool) : Ex × St := (Ex.ret, mkG 0 27 [(4, .one (.v (.bool y0)))] [] GL)
noncomputable def zaR.x4 : Ex × St := (Ex.exit 0, mkG 0 27 [] [] GL)
theorem zaR.e (a0 a1:LLD) : zaR [.one (.s a0), .one (.s a1)] [] = bif (↑a0.length : Int) != (↑a1.length : Int) then some ⟨[.v (.bool false)], []⟩ else (zaR.L4 a0 a1 0).bind zaR.A4 := by
 refine (zaR.run _ _ (by kernel_rfl)).trans ?_
 delta zaR zaR.L4 zaR.A4 XX
 generalize lpL (Y.ctx (lim' Y)) 81 = lp
 generalize lim' Y = call
 kernel_rfl
theorem zaR.s4 (y0 y1:LLD) (y2:Int) : zaR.L4 y0 y1 y2 = bif decide (y2 < (↑y0.length : Int)) then bif decide (0 ≤ y2) && decide (y2 < (↑y0.length : Int)) && decide ((y0.getD y2.toNat []).length = 5) then bif zau [.bool, .int .i64, .str, .sl, .sl] (y0.getD y2.toNat []) 0 && decide (5 ≤ (y0.getD y2.toNat []).length) then bif decide (0 ≤ y2) && decide (y2 < (↑y1.length : Int)) && decide ((y1.getD y2.toNat []).length = 5) then bif zau [.bool, .int .i64, .str, .sl, .sl] (y1.getD y2.toNat []) 0 && decide (5 ≤ (y1.getD y2.toNat []).length) then (zbr [.g [.v (.bool ((y0.getD y2.toNat []).getD 0 .h).bool), .v (.int .i64 ((y0.getD y2.toNat []).getD 1 .h).int), .v (.string ((y0.getD y2.toNat []).getD 2 .h).str), .s ((y0.getD y2.toNat []).getD 3 .h).es, .s ((y0.getD y2.toNat []).getD 4 .h).es], .g [.v (.bool ((y1.getD y2.toNat []).getD 0 .h).bool), .v (.int .i64 ((y1.getD y2.toNat []).getD 1 .h).int), .v (.string ((y1.getD y2.toNat []).getD 2 .h).str), .s ((y1.getD y2.toNat []).getD 3 .h).es, .s ((y1.getD y2.toNat []).getD 4 .h).es]] []).bind fun val => bif zag [.bool] val.1 && true then bif !(val.1.getD 0 .d).bool then some (zaR.q4 false) else zaR.L4 y0 y1 (IntKind.i64.wrap (y2 + 1)) else none else none else none else none else none else some zaR.x4 := by
 refine (zbf (Y := Y) (c := lim' Y) (fn := 81) (rid := 4) (b := zar 4 zaR.c) (by kernel_rfl) _).trans ?_
 delta zaR.L4 zbr zaR.q4 zaR.x4 XX
 generalize lpL (Y.ctx (lim' Y)) 81 = lp
 generalize lim' Y = call
 kernel_rfl
theorem zaR.a4x4 : zaR.A4 zaR.x4 = some ⟨[.v (.bool true)], []⟩ := by
 delta zaR.A4 zaR.x4 XX
 generalize lpL (Y.ctx (lim' Y)) 81 = lp
 generalize lim' Y = call
 kernel_rfl
noncomputable def zaC.L4 (y0:Int) (y1:BAy) : Option (Ex × St) := lpL XX 82 (zar 4 zaC.c) (mkG 0 20 [(0, .one (.v (.int .i64 y0))), (3, .one (.v (.string y1)))] [] GL)
noncomputable def zaC.A4 : Ex × St → Option Res := fun r => evA XX 82 (lpL XX 82) 4 zaC.c r.fst r.snd (outE XX 82 Tryz.f82)
noncomputable def zaC.x4 (y0:BAy) : Ex × St := (Ex.exit 0, mkG 0 20 [(3, .one (.v (.string y0)))] [] GL)
theorem zaC.e (a0:Int) : zaC [.one (.v (.int .i64 a0))] [] = bif decide (a0 ≤ 0) then some ⟨[.v (.string (ByteArray.mk #[109, 48]))], []⟩ else (zaC.L4 a0 (ByteArray.mk #[])).bind zaC.A4 := by
 refine (zaC.run _ _ (by kernel_rfl)).trans ?_
 delta zaC zaC.L4 zaC.A4 XX
 generalize lpL (Y.ctx (lim' Y)) 82 = lp
 generalize lim' Y = call
 kernel_rfl
theorem zaC.s4 (y0:Int) (y1:BAy) : zaC.L4 y0 y1 = bif decide (y0 > 0) then bif decide (1 + y1.size ≤ 70368744177664) then zaC.L4 (IntKind.i64.wrap (y0.tdiv 10)) (strOf [[.v (.int .u8 (IntKind.u8.wrap (IntKind.i64.wrap (48 + y0.tmod 10))))]] ++ y1) else none else some (zaC.x4 y1) := by
 refine (zbf (Y := Y) (c := lim' Y) (fn := 82) (rid := 4) (b := zar 4 zaC.c) (by kernel_rfl) _).trans ?_
 delta zaC.L4 zaC.x4 XX
 generalize lpL (Y.ctx (lim' Y)) 82 = lp
 generalize lim' Y = call
 kernel_rfl
theorem zaC.a4x4 (y0:BAy) : zaC.A4 (zaC.x4 y0) = bif decide (1 + y0.size ≤ 70368744177664) then some ⟨[.v (.string ((ByteArray.mk #[109]) ++ y0))], []⟩ else none := by
 delta zaC.A4 zaC.x4 XX
 generalize lpL (Y.ctx (lim' Y)) 82 = lp
 generalize lim' Y = call
 kernel_rfl
noncomputable def zaq.L2 (y0 y1:Int) (y2:LLD) : Option (Ex × St) := lpL XX 83 (zar 2 zaq.c) (mkG 1 51 [(0, .one (.r 0 [] 0)), (1, .one (.v (.int .i64 y0))), (5, .one (.v (.int .i64 y1)))] [(0, some ⟨.virt, [.s y2], [.deep]⟩)] GL)
noncomputable def zaq.A2 : Ex × St → Option Res := fun r => evA XX 83 (lpL XX 83) 2 zaq.c r.fst r.snd (outE XX 83 Tryz.f83)
noncomputable def zaq.P9 (y0 y1:Int) (y2:LLD) : Option (Ex × St) := evB XX 83 (lpL XX 83) 9 (zar 2 zaq.c) (mkG 1 51 [(0, .one (.r 0 [] 0)), (1, .one (.v (.int .i64 y0))), (5, .one (.v (.int .i64 y1)))] [(0, some ⟨.virt, [.s y2], [.deep]⟩)] GL) (backL (lpL XX 83) (zar 2 zaq.c) (XX.live 83 2))
noncomputable def zaq.x2 (y0:Int) (y1:LLD) : Ex × St := (Ex.exit 0, mkG 1 51 [(1, .one (.v (.int .i64 y0)))] [(0, some ⟨.virt, [.s y1], [.deep]⟩)] GL)
theorem zaq.e (a0:LLD) (a1:Int) : zaq [.one (.r 0 [] 0), .one (.v (.int .i64 a1))] [⟨.virt, [.s a0], [.deep]⟩] = (zaq.L2 a1 0 a0).bind zaq.A2 := by
 refine (zaq.run _ _ (by kernel_rfl)).trans ?_
 delta zaq zaq.L2 zaq.A2 XX
 generalize lpL (Y.ctx (lim' Y)) 83 = lp
 generalize lim' Y = call
 kernel_rfl
theorem zaq.s2 (y0 y1:Int) (y2:LLD) : zaq.L2 y0 y1 y2 = bif decide (y1 < (↑y2.length : Int)) then bif decide (0 ≤ y1) && decide (y1 < (↑y2.length : Int)) && decide ((y2.getD y1.toNat []).length = 5) then bif decide (1 ≤ (y2.getD y1.toNat []).length) && true then bif decide (0 ≤ y1) && decide (y1 < (↑(y2.set y1.toNat (.v (.bool (y0.tmod 3 == 0)) :: List.drop 1 (y2.getD y1.toNat []))).length : Int)) && decide (((y2.set y1.toNat (.v (.bool (y0.tmod 3 == 0)) :: List.drop 1 (y2.getD y1.toNat []))).getD y1.toNat []).length = 5) then bif decide (2 ≤ ((y2.set y1.toNat (.v (.bool (y0.tmod 3 == 0)) :: List.drop 1 (y2.getD y1.toNat []))).getD y1.toNat []).length) && true then (zaC [.one (.v (.int .i64 (IntKind.i64.wrap (IntKind.i64.wrap (y0 + 1) + 1))))] []).bind fun val => bif zag [.str] val.1 && true then bif decide (0 ≤ y1) && decide (y1 < (↑((y2.set y1.toNat (.v (.bool (y0.tmod 3 == 0)) :: List.drop 1 (y2.getD y1.toNat []))).set y1.toNat (List.take 1 ((y2.set y1.toNat (.v (.bool (y0.tmod 3 == 0)) :: List.drop 1 (y2.getD y1.toNat []))).getD y1.toNat []) ++ [.v (.int .i64 (IntKind.i64.wrap (y0 + 1)))] ++ List.drop 2 ((y2.set y1.toNat (.v (.bool (y0.tmod 3 == 0)) :: List.drop 1 (y2.getD y1.toNat []))).getD y1.toNat []))).length : Int)) && decide ((((y2.set y1.toNat (.v (.bool (y0.tmod 3 == 0)) :: List.drop 1 (y2.getD y1.toNat []))).set y1.toNat (List.take 1 ((y2.set y1.toNat (.v (.bool (y0.tmod 3 == 0)) :: List.drop 1 (y2.getD y1.toNat []))).getD y1.toNat []) ++ [.v (.int .i64 (IntKind.i64.wrap (y0 + 1)))] ++ List.drop 2 ((y2.set y1.toNat (.v (.bool (y0.tmod 3 == 0)) :: List.drop 1 (y2.getD y1.toNat []))).getD y1.toNat []))).getD y1.toNat []).length = 5) then bif decide (3 ≤ (((y2.set y1.toNat (.v (.bool (y0.tmod 3 == 0)) :: List.drop 1 (y2.getD y1.toNat []))).set y1.toNat (List.take 1 ((y2.set y1.toNat (.v (.bool (y0.tmod 3 == 0)) :: List.drop 1 (y2.getD y1.toNat []))).getD y1.toNat []) ++ [.v (.int .i64 (IntKind.i64.wrap (y0 + 1)))] ++ List.drop 2 ((y2.set y1.toNat (.v (.bool (y0.tmod 3 == 0)) :: List.drop 1 (y2.getD y1.toNat []))).getD y1.toNat []))).getD y1.toNat []).length) && true then zaq.P9 (IntKind.i64.wrap (IntKind.i64.wrap (y0 + 1) + 1)) y1 (((y2.set y1.toNat (.v (.bool (y0.tmod 3 == 0)) :: List.drop 1 (y2.getD y1.toNat []))).set y1.toNat (List.take 1 ((y2.set y1.toNat (.v (.bool (y0.tmod 3 == 0)) :: List.drop 1 (y2.getD y1.toNat []))).getD y1.toNat []) ++ [.v (.int .i64 (IntKind.i64.wrap (y0 + 1)))] ++ List.drop 2 ((y2.set y1.toNat (.v (.bool (y0.tmod 3 == 0)) :: List.drop 1 (y2.getD y1.toNat []))).getD y1.toNat []))).set y1.toNat (List.take 2 (((y2.set y1.toNat (.v (.bool (y0.tmod 3 == 0)) :: List.drop 1 (y2.getD y1.toNat []))).set y1.toNat (List.take 1 ((y2.set y1.toNat (.v (.bool (y0.tmod 3 == 0)) :: List.drop 1 (y2.getD y1.toNat []))).getD y1.toNat []) ++ [.v (.int .i64 (IntKind.i64.wrap (y0 + 1)))] ++ List.drop 2 ((y2.set y1.toNat (.v (.bool (y0.tmod 3 == 0)) :: List.drop 1 (y2.getD y1.toNat []))).getD y1.toNat []))).getD y1.toNat []) ++ [.v (.string (val.1.getD 0 .d).str)] ++ List.drop 3 (((y2.set y1.toNat (.v (.bool (y0.tmod 3 == 0)) :: List.drop 1 (y2.getD y1.toNat []))).set y1.toNat (List.take 1 ((y2.set y1.toNat (.v (.bool (y0.tmod 3 == 0)) :: List.drop 1 (y2.getD y1.toNat []))).getD y1.toNat []) ++ [.v (.int .i64 (IntKind.i64.wrap (y0 + 1)))] ++ List.drop 2 ((y2.set y1.toNat (.v (.bool (y0.tmod 3 == 0)) :: List.drop 1 (y2.getD y1.toNat []))).getD y1.toNat []))).getD y1.toNat []))) else none else none else none else none else none else none else none else some (zaq.x2 y0 y2) := by
 refine (zbf (Y := Y) (c := lim' Y) (fn := 83) (rid := 2) (b := zar 2 zaq.c) (by kernel_rfl) _).trans ?_
 delta zaq.L2 zaC zaq.P9 zaq.x2 XX
 refine zbp [9] (by kernel_rfl) fun J e1 => ?_
 try simp only [← e1]
 clear e1
 generalize lpL (Y.ctx (lim' Y)) 83 = lp
 generalize lim' Y = call
 kernel_rfl
theorem zaq.p9 (y0 y1:Int) (y2:LLD) : zaq.P9 y0 y1 y2 = bif decide (0 ≤ y1) && decide (y1 < (↑y2.length : Int)) && decide ((y2.getD y1.toNat []).length = 5) then bif zau [.sl] (y2.getD y1.toNat []) 3 && decide (4 ≤ (y2.getD y1.toNat []).length) then (zap [.one (.r 0 [] 0), .one (.v (.int .i64 (IntKind.i64.wrap (y0 + 1))))] [⟨.virt, [.s ((y2.getD y1.toNat []).getD 3 .h).es], [.deep]⟩]).bind fun val => bif zag [.int .i64] val.1 && za4 [⟨⟨.virt, [.s ((y2.getD y1.toNat []).getD 3 .h).es], [.deep]⟩, .sl 0 [(0, y1.toNat)] 3⟩] val.2 then bif decide (0 ≤ y1) && decide (y1 < (↑(y2.set y1.toNat ((y2.getD y1.toNat []).set 3 (.s ((val.2.getD 0 ⟨.ro, [], []⟩).2.getD 0 .h).es))).length : Int)) && decide (((y2.set y1.toNat ((y2.getD y1.toNat []).set 3 (.s ((val.2.getD 0 ⟨.ro, [], []⟩).2.getD 0 .h).es))).getD y1.toNat []).length = 5) then bif zau [.sl] ((y2.set y1.toNat ((y2.getD y1.toNat []).set 3 (.s ((val.2.getD 0 ⟨.ro, [], []⟩).2.getD 0 .h).es))).getD y1.toNat []) 4 && decide (5 ≤ ((y2.set y1.toNat ((y2.getD y1.toNat []).set 3 (.s ((val.2.getD 0 ⟨.ro, [], []⟩).2.getD 0 .h).es))).getD y1.toNat []).length) then (zaq [.one (.r 0 [] 0), .one (.v (.int .i64 (val.1.getD 0 .d).int))] [⟨.virt, [.s (((y2.set y1.toNat ((y2.getD y1.toNat []).set 3 (.s ((val.2.getD 0 ⟨.ro, [], []⟩).2.getD 0 .h).es))).getD y1.toNat []).getD 4 .h).es], [.deep]⟩]).bind fun val_1 => bif zag [.int .i64] val_1.1 && za4 [⟨⟨.virt, [.s (((y2.set y1.toNat ((y2.getD y1.toNat []).set 3 (.s ((val.2.getD 0 ⟨.ro, [], []⟩).2.getD 0 .h).es))).getD y1.toNat []).getD 4 .h).es], [.deep]⟩, .sl 0 [(0, y1.toNat)] 4⟩] val_1.2 then zaq.L2 (val_1.1.getD 0 .d).int (IntKind.i64.wrap (y1 + 1)) ((y2.set y1.toNat ((y2.getD y1.toNat []).set 3 (.s ((val.2.getD 0 ⟨.ro, [], []⟩).2.getD 0 .h).es))).set y1.toNat (((y2.set y1.toNat ((y2.getD y1.toNat []).set 3 (.s ((val.2.getD 0 ⟨.ro, [], []⟩).2.getD 0 .h).es))).getD y1.toNat []).set 4 (.s ((val_1.2.getD 0 ⟨.ro, [], []⟩).2.getD 0 .h).es))) else none else none else none else none else none else none := by
 delta zaq.P9 zap zaq zaq.L2 XX
 refine zbb [9] 9 (by kernel_rfl) fun J e1 => ?_
 try simp only [← e1]
 clear e1
 generalize lpL (Y.ctx (lim' Y)) 83 = lp
 generalize lim' Y = call
 kernel_rfl
theorem zaq.a2x2 (y0:Int) (y1:LLD) : zaq.A2 (zaq.x2 y0 y1) = some ⟨[.v (.int .i64 y0)], [⟨.virt, [.s y1], [.deep]⟩]⟩ := by
 delta zaq.A2 zaq.x2 XX
 generalize lpL (Y.ctx (lim' Y)) 83 = lp
 generalize lim' Y = call
 kernel_rfl
noncomputable def zal.L2 (y0:LLD) (y1 y2:Int) : Option (Ex × St) := lpL XX 84 (zar 2 zal.c) (mkG 0 61 [(0, .one (.s y0)), (1, .one (.v (.int .i64 y1))), (5, .one (.v (.int .i64 y2)))] [] GL)
noncomputable def zal.A2 : Ex × St → Option Res := fun r => evA XX 84 (lpL XX 84) 2 zal.c r.fst r.snd (outE XX 84 Tryz.f84)
noncomputable def zal.q2 (y0 y1:Int) : Ex × St := (Ex.ret, mkG 0 61 [(1, .one (.v (.int .i64 y0))), (4, .one (.v (.int .i64 y1)))] [] GL)
noncomputable def zal.P10 (y0:LLD) (y1 y2:Int) : Option (Ex × St) := evB XX 84 (lpL XX 84) 10 (zar 2 zal.c) (mkG 0 61 [(0, .one (.s y0)), (1, .one (.v (.int .i64 y1))), (5, .one (.v (.int .i64 y2)))] [] GL) (backL (lpL XX 84) (zar 2 zal.c) (XX.live 84 2))
noncomputable def zal.x2 (y0:Int) : Ex × St := (Ex.exit 0, mkG 0 61 [(1, .one (.v (.int .i64 y0)))] [] GL)
noncomputable def zal.P17 (y0:LLD) (y1 y2:Int) : Option (Ex × St) := evB XX 84 (lpL XX 84) 17 (zar 2 zal.c) (mkG 0 61 [(0, .one (.s y0)), (1, .one (.v (.int .i64 y1))), (5, .one (.v (.int .i64 y2)))] [] GL) (backL (lpL XX 84) (zar 2 zal.c) (XX.live 84 2))
theorem zal.e (a0:LLD) (a1:Int) : zal [.one (.s a0), .one (.v (.int .i64 a1))] [] = (zal.L2 a0 a1 0).bind zal.A2 := by
 refine (zal.run _ _ (by kernel_rfl)).trans ?_
 delta zal zal.L2 zal.A2 XX
 generalize lpL (Y.ctx (lim' Y)) 84 = lp
 generalize lim' Y = call
 kernel_rfl
theorem zal.s2 (y0:LLD) (y1 y2:Int) : zal.L2 y0 y1 y2 = bif decide (y2 < (↑y0.length : Int)) then bif decide (0 ≤ y2) && decide (y2 < (↑y0.length : Int)) && decide ((y0.getD y2.toNat []).length = 5) then bif zau [.bool] (y0.getD y2.toNat []) 0 && decide (1 ≤ (y0.getD y2.toNat []).length) then bif !((y0.getD y2.toNat []).getD 0 .h).bool == (y1.tmod 3 == 0) then some (zal.q2 y1 (-1)) else bif decide (0 ≤ y2) && decide (y2 < (↑y0.length : Int)) && decide ((y0.getD y2.toNat []).length = 5) then bif zau [.int .i64] (y0.getD y2.toNat []) 1 && decide (2 ≤ (y0.getD y2.toNat []).length) then bif ((y0.getD y2.toNat []).getD 1 .h).int != IntKind.i64.wrap (y1 + 1) then some (zal.q2 (IntKind.i64.wrap (y1 + 1)) (-1)) else zal.P10 y0 (IntKind.i64.wrap (IntKind.i64.wrap (y1 + 1) + 1)) y2 else none else none else none else none else some (zal.x2 y1) := by
 refine (zbf (Y := Y) (c := lim' Y) (fn := 84) (rid := 2) (b := zar 2 zal.c) (by kernel_rfl) _).trans ?_
 delta zal.L2 zal.q2 zal.P10 zal.x2 XX
 refine zbp [10, 17] (by kernel_rfl) fun J e1 => ?_
 try simp only [← e1]
 clear e1
 generalize lpL (Y.ctx (lim' Y)) 84 = lp
 generalize lim' Y = call
 kernel_rfl
theorem zal.p10 (y0:LLD) (y1 y2:Int) : zal.P10 y0 y1 y2 = bif decide (0 ≤ y2) && decide (y2 < (↑y0.length : Int)) && decide ((y0.getD y2.toNat []).length = 5) then bif zau [.str] (y0.getD y2.toNat []) 2 && decide (3 ≤ (y0.getD y2.toNat []).length) then (zaC [.one (.v (.int .i64 y1))] []).bind fun val => bif zag [.str] val.1 && true then bif !((y0.getD y2.toNat []).getD 2 .h).str.toList == (val.1.getD 0 .d).str.toList then some (zal.q2 y1 (-1)) else bif decide (0 ≤ y2) && decide (y2 < (↑y0.length : Int)) && decide ((y0.getD y2.toNat []).length = 5) then bif zau [.sl] (y0.getD y2.toNat []) 3 && decide (4 ≤ (y0.getD y2.toNat []).length) then (zao [.one (.s ((y0.getD y2.toNat []).getD 3 .h).es), .one (.v (.int .i64 (IntKind.i64.wrap (y1 + 1))))] []).bind fun val => bif zag [.int .i64] val.1 && true then bif decide ((val.1.getD 0 .d).int < 0) then some (zal.q2 (val.1.getD 0 .d).int (-1)) else bif decide (0 ≤ y2) && decide (y2 < (↑y0.length : Int)) && decide ((y0.getD y2.toNat []).length = 5) then bif zau [.sl] (y0.getD y2.toNat []) 4 && decide (5 ≤ (y0.getD y2.toNat []).length) then (zal [.one (.s ((y0.getD y2.toNat []).getD 4 .h).es), .one (.v (.int .i64 (val.1.getD 0 .d).int))] []).bind fun val => bif zag [.int .i64] val.1 && true then zal.P17 y0 (val.1.getD 0 .d).int y2 else none else none else none else none else none else none else none else none else none := by
 delta zal.P10 zaC zal.q2 zao zal zal.P17 XX
 refine zbb [10, 17] 10 (by kernel_rfl) fun J e1 => ?_
 try simp only [← e1]
 clear e1
 generalize lpL (Y.ctx (lim' Y)) 84 = lp
 generalize lim' Y = call
 kernel_rfl
theorem zal.a2x2 (y0:Int) : zal.A2 (zal.x2 y0) = some ⟨[.v (.int .i64 y0)], []⟩ := by
 delta zal.A2 zal.x2 XX
 generalize lpL (Y.ctx (lim' Y)) 84 = lp
 generalize lim' Y = call
 kernel_rfl
theorem zal.p17 (y0:LLD) (y1 y2:Int) : zal.P17 y0 y1 y2 = bif decide (y1 < 0) then some (zal.q2 y1 (-1)) else zal.L2 y0 y1 (IntKind.i64.wrap (y2 + 1)) := by
 delta zal.P17 zal.q2 zal.L2 XX
 refine zbb [10, 17] 17 (by kernel_rfl) fun J e1 => ?_
 try simp only [← e1]
 clear e1
 generalize lpL (Y.ctx (lim' Y)) 84 = lp
 generalize lim' Y = call
 kernel_rfl
theorem zcN.e (a0:Bool) (a1:Int) (a2:BAy) (a3 a4:LLD) : zcN [.g [.v (.bool a0), .v (.int .i64 a1), .v (.string a2), .s a3, .s a4]] [] = bif a0 then (zas [.g [.v (.bool a0), .v (.int .i64 a1), .v (.string a2), .s a3, .s a4], .one (.v (.int .i64 0))] []).bind fun val => bif zag [.bool] val.1 && true then bif (val.1.getD 0 .d).bool then (zaU [.g [.v (.bool a0), .v (.int .i64 a1), .v (.string a2), .s a3, .s a4]] []).bind fun val => bif zag [.int .i64] val.1 && true then some ⟨[.v (.bool (decide ((val.1.getD 0 .d).int ≤ 30)))], []⟩ else none else some ⟨[.v (.bool false)], []⟩ else none else some ⟨[.v (.bool false)], []⟩ := by
 refine (zcN.run _ _ (by kernel_rfl)).trans ?_
 delta zcN zas zaU XX
 generalize lpL (Y.ctx (lim' Y)) 86 = lp
 generalize lim' Y = call
 kernel_rfl
noncomputable def zan.L2 (y0:BAy) (y1:Int) : Option (Ex × St) := lpL XX 125 (zar 2 zan.c) (mkG 0 36 [(0, .one (.v (.string y0))), (3, .one (.v (.int .i64 y1)))] [] GL)
noncomputable def zan.A2 : Ex × St → Option Res := fun r => evA XX 125 (lpL XX 125) 2 zan.c r.fst r.snd (outE XX 125 Tryz.f125)
noncomputable def zan.P5 (y0:BAy) (y1:Int) (y2:Bool) : Option (Ex × St) := evB XX 125 (lpL XX 125) 5 (zar 2 zan.c) (mkG 0 36 [(0, .one (.v (.string y0))), (3, .one (.v (.int .i64 y1))), (32, .one (.v (.bool y2)))] [] GL) (backL (lpL XX 125) (zar 2 zan.c) (XX.live 125 2))
noncomputable def zan.x2 (y0:BAy) : Ex × St := (Ex.exit 0, mkG 0 36 [(0, .one (.v (.string y0)))] [] GL)
noncomputable def zan.q2 (y0:BAy) (y1:Bool) : Ex × St := (Ex.ret, mkG 0 36 [(0, .one (.v (.string y0))), (2, .one (.v (.bool y1)))] [] GL)
theorem zan.e (a0:BAy) : zan [.one (.v (.string a0))] [] = (zan.L2 a0 0).bind zan.A2 := by
 refine (zan.run _ _ (by kernel_rfl)).trans ?_
 delta zan zan.L2 zan.A2 XX
 generalize lpL (Y.ctx (lim' Y)) 125 = lp
 generalize lim' Y = call
 kernel_rfl
theorem zan.s2 (y0:BAy) (y1:Int) : zan.L2 y0 y1 = bif decide (y1 < (↑y0.size : Int)) then bif decide (0 ≤ y1) && decide (y1 < (↑y0.size : Int)) then bif decide (zbc y0 y1.toNat ≥ 97) then bif decide (0 ≤ y1) && decide (y1 < (↑y0.size : Int)) then bif decide (zbc y0 y1.toNat ≤ 122) then zan.P5 y0 y1 false else bif decide (0 ≤ y1) && decide (y1 < (↑y0.size : Int)) then bif decide (zbc y0 y1.toNat ≥ 48) then bif decide (0 ≤ y1) && decide (y1 < (↑y0.size : Int)) then zan.P5 y0 y1 !decide (zbc y0 y1.toNat ≤ 57) else none else zan.P5 y0 y1 true else none else none else bif decide (0 ≤ y1) && decide (y1 < (↑y0.size : Int)) then bif decide (zbc y0 y1.toNat ≥ 48) then bif decide (0 ≤ y1) && decide (y1 < (↑y0.size : Int)) then zan.P5 y0 y1 !decide (zbc y0 y1.toNat ≤ 57) else none else zan.P5 y0 y1 true else none else none else some (zan.x2 y0) := by
 refine (zbf (Y := Y) (c := lim' Y) (fn := 125) (rid := 2) (b := zar 2 zan.c) (by kernel_rfl) _).trans ?_
 delta zan.L2 zan.P5 zan.x2 XX
 refine zbp [5] (by kernel_rfl) fun J e1 => ?_
 try simp only [← e1]
 clear e1
 generalize lpL (Y.ctx (lim' Y)) 125 = lp
 generalize lim' Y = call
 kernel_rfl
theorem zan.p5 (y0:BAy) (y1:Int) (y2:Bool) : zan.P5 y0 y1 y2 = bif y2 then some (zan.q2 y0 false) else zan.L2 y0 (IntKind.i64.wrap (y1 + 1)) := by
 delta zan.P5 zan.q2 zan.L2 XX
 refine zbb [5] 5 (by kernel_rfl) fun J e1 => ?_
 try simp only [← e1]
 clear e1
 generalize lpL (Y.ctx (lim' Y)) 125 = lp
 generalize lim' Y = call
 kernel_rfl
theorem zan.a2x2 (y0:BAy) : zan.A2 (zan.x2 y0) = (sl1In [.one (.v (.int .i64 (↑y0.size : Int))), .one (.v (.int .i64 1)), .one (.v (.int .i64 5))] []).bind fun val => bif zag [.bool] val.1 && true then some ⟨[.v (.bool (val.1.getD 0 .d).bool)], []⟩ else none := by
 delta zan.A2 zan.x2 sl1In XX
 generalize lpL (Y.ctx (lim' Y)) 125 = lp
 generalize lim' Y = call
 kernel_rfl
theorem zan.a2q2 (y0:BAy) (y1:Bool) : zan.A2 (zan.q2 y0 y1) = some ⟨[.v (.bool y1)], []⟩ := by
 delta zan.A2 zan.q2 XX
 generalize lpL (Y.ctx (lim' Y)) 125 = lp
 generalize lim' Y = call
 kernel_rfl
theorem sl1In.e (a0 a1 a2:Int) : sl1In [.one (.v (.int .i64 a0)), .one (.v (.int .i64 a1)), .one (.v (.int .i64 a2))] [] = bif decide (a0 ≥ a1) then some ⟨[.v (.bool (decide (a0 ≤ a2)))], []⟩ else some ⟨[.v (.bool false)], []⟩ := by
 refine (sl1In.run _ _ (by kernel_rfl)).trans ?_
 delta sl1In XX
 generalize lpL (Y.ctx (lim' Y)) 126 = lp
 generalize lim' Y = call
 kernel_rfl
noncomputable def za0.L2 (y0:BAy) (y1:Int) (y2:Bool) (y3:Int) (y4:BAy) (y5 y6:LLD) : Option (Ex × St) := lpL XX 127 (zar 2 za0.c) (mkG 0 21 [(1, .one (.v (.string y0))), (2, .one (.p true 2 [] 0)), (5, .one (.v (.int .i64 y1)))] [(2, some ⟨.box, [.v (.bool y2), .v (.int .i64 y3), .v (.string y4), .s y5, .s y6], [.deep, .deep, .deep, .sh, .sh]⟩)] GL)
noncomputable def za0.A2 : Ex × St → Option Res := fun r => evA XX 127 (lpL XX 127) 2 za0.c r.fst r.snd (outE XX 127 Tryz.f127)
noncomputable def za0.q2 (y0:Int) : Ex × St := (Ex.ret, mkG 0 21 [(4, .one (.v (.int .i64 y0)))] [] GL)
noncomputable def za0.x2 : Ex × St := (Ex.exit 0, mkG 0 21 [] [] GL)
theorem za0.e (a0:Bool) (a1:Int) (a2:BAy) (a3 a4:LLD) (a5:BAy) : za0 [.g [.v (.bool a0), .v (.int .i64 a1), .v (.string a2), .s a3, .s a4], .one (.v (.string a5))] [] = (za0.L2 a5 0 a0 a1 a2 a3 a4).bind za0.A2 := by
 refine (za0.run _ _ (by kernel_rfl)).trans ?_
 delta za0 za0.L2 za0.A2 XX
 generalize lpL (Y.ctx (lim' Y)) 127 = lp
 generalize lim' Y = call
 kernel_rfl
theorem za0.s2 (y0:BAy) (y1:Int) (y2:Bool) (y3:Int) (y4:BAy) (y5 y6:LLD) : za0.L2 y0 y1 y2 y3 y4 y5 y6 = bif decide (y1 < (↑y5.length : Int)) then bif decide (0 ≤ y1) && decide (y1 < (↑y5.length : Int)) && decide ((y5.getD y1.toNat []).length = 1) then bif zau [.str] (y5.getD y1.toNat []) 0 && decide (1 ≤ (y5.getD y1.toNat []).length) then bif ((y5.getD y1.toNat []).getD 0 .h).str.toList == y0.toList then some (za0.q2 y1) else za0.L2 y0 (IntKind.i64.wrap (y1 + 1)) y2 y3 y4 y5 y6 else none else none else some za0.x2 := by
 refine (zbf (Y := Y) (c := lim' Y) (fn := 127) (rid := 2) (b := zar 2 za0.c) (by kernel_rfl) _).trans ?_
 delta za0.L2 za0.q2 za0.x2 XX
 generalize lpL (Y.ctx (lim' Y)) 127 = lp
 generalize lim' Y = call
 kernel_rfl
theorem za0.a2q2 (y0:Int) : za0.A2 (za0.q2 y0) = some ⟨[.v (.int .i64 y0)], []⟩ := by
 delta za0.A2 za0.q2 XX
 generalize lpL (Y.ctx (lim' Y)) 127 = lp
 generalize lim' Y = call
 kernel_rfl
theorem za0.a2x2 : za0.A2 za0.x2 = some ⟨[.v (.int .i64 (-1))], []⟩ := by
 delta za0.A2 za0.x2 XX
 generalize lpL (Y.ctx (lim' Y)) 127 = lp
 generalize lim' Y = call
 kernel_rfl
noncomputable def zaT.L3 (y0:LLD) (y1:Int) (y2:Bool) (y3:Int) (y4:BAy) (y5 y6 y7:LLD) : Option (Ex × St) := lpL XX 128 (zar 3 zaT.c) (mkG 0 43 [(0, .one (.s y0)), (3, .one (.p true 3 [] 0)), (5, .one (.r 5 [] 0)), (6, .one (.v (.int .i64 y1)))] [(3, some ⟨.box, [.v (.bool y2), .v (.int .i64 y3), .v (.string y4), .s y5, .s y6], [.deep, .deep, .deep, .sh, .sh]⟩), (5, some ⟨.virt, [.s y7], [.deep]⟩)] GL)
noncomputable def zaT.A3 : Ex × St → Option Res := fun r => evA XX 128 (lpL XX 128) 3 zaT.c r.fst r.snd (outE XX 128 Tryz.f128)
noncomputable def zaT.x3 (y0:LLD) : Ex × St := (Ex.exit 0, mkG 0 43 [(5, .one (.r 5 [] 0))] [(5, some ⟨.virt, [.s y0], [.deep]⟩)] GL)
theorem zaT.e (a0:LLD) (a1:Bool) (a2:Int) (a3:BAy) (a4 a5:LLD) : zaT [.one (.s a0), .g [.v (.bool a1), .v (.int .i64 a2), .v (.string a3), .s a4, .s a5]] [] = bif zaB 1 a0 && zaG false a0 && true && decide ((0 + a0.length) * 17 ≤ 70368744177664) then (zdG [.g [.v (.bool a1), .v (.int .i64 a2), .v (.string a3), .s a4, .s a5]] []).bind fun val => bif zag [.int .i64] val.1 && true then (zaT.L3 a0 0 a1 a2 a3 a4 a5 [[.s a0, .v (.bool a1), .v (.int .i64 a2), .v (.string a3), .v (.int .i64 (val.1.getD 0 .d).int)]]).bind zaT.A3 else none else none := by
 refine (zaT.run _ _ (by kernel_rfl)).trans ?_
 delta zaT zdG zaT.L3 zaT.A3 XX
 generalize lpL (Y.ctx (lim' Y)) 128 = lp
 generalize lim' Y = call
 kernel_rfl
theorem zaT.s3 (y0:LLD) (y1:Int) (y2:Bool) (y3:Int) (y4:BAy) (y5 y6 y7:LLD) : zaT.L3 y0 y1 y2 y3 y4 y5 y6 y7 = bif decide (y1 < (↑y5.length : Int)) then bif decide (0 ≤ y1) && decide (y1 < (↑y5.length : Int)) && decide ((y5.getD y1.toNat []).length = 1) then bif zau [.str] (y5.getD y1.toNat []) 0 && decide (1 ≤ (y5.getD y1.toNat []).length) then (zcP [.one (.s y0), .one (.v (.string ((y5.getD y1.toNat []).getD 0 .h).str))] []).bind fun val => bif zag [.sh] val.1 && true then bif decide (0 ≤ y1) && decide (y1 < (↑y6.length : Int)) && decide ((y6.getD y1.toNat []).length = 5) then bif zau [.bool, .int .i64, .str, .sl, .sl] (y6.getD y1.toNat []) 0 && decide (5 ≤ (y6.getD y1.toNat []).length) then (zaT [.one (.s (val.1.getD 0 .d).es), .g [.v (.bool ((y6.getD y1.toNat []).getD 0 .h).bool), .v (.int .i64 ((y6.getD y1.toNat []).getD 1 .h).int), .v (.string ((y6.getD y1.toNat []).getD 2 .h).str), .s ((y6.getD y1.toNat []).getD 3 .h).es, .s ((y6.getD y1.toNat []).getD 4 .h).es]] []).bind fun val => bif zag [.own .deep] val.1 && true then bif zaB 5 y7 && zaB 5 (val.1.getD 0 .d).es && zaG true (val.1.getD 0 .d).es && true && decide ((y7.length + (val.1.getD 0 .d).es.length) * 65 ≤ 70368744177664) then zaT.L3 y0 (IntKind.i64.wrap (y1 + 1)) y2 y3 y4 y5 y6 (y7 ++ (val.1.getD 0 .d).es) else none else none else none else none else none else none else none else some (zaT.x3 y7) := by
 refine (zbf (Y := Y) (c := lim' Y) (fn := 128) (rid := 3) (b := zar 3 zaT.c) (by kernel_rfl) _).trans ?_
 delta zaT.L3 zcP zaT zaT.x3 XX
 generalize lpL (Y.ctx (lim' Y)) 128 = lp
 generalize lim' Y = call
 kernel_rfl
theorem zaT.a3x3 (y0:LLD) : zaT.A3 (zaT.x3 y0) = some ⟨[.o .deep y0], []⟩ := by
 delta zaT.A3 zaT.x3 XX
 generalize lpL (Y.ctx (lim' Y)) 128 = lp
 generalize lim' Y = call
 kernel_rfl
noncomputable def zaY.P3 (y0:Int) (y1 y2:Bool) (y3:Int) (y4:BAy) (y5 y6:LLD) : Option Res := evB XX 129 (lpL XX 129) 3 zaY.c (mkG 1 29 [(0, .one (.p true 0 [] 0)), (5, .one (.v (.int .i64 y0))), (22, .one (.v (.bool y1)))] [(0, some ⟨.ro, [.v (.bool y2), .v (.int .i64 y3), .v (.string y4), .s y5, .s y6], [.sh, .sh, .sh, .sh, .sh]⟩)] GL) (outE XX 129 Tryz.f129)
noncomputable def zaY.P4 (y0:Int) (y1:Bool) (y2:Int) (y3:BAy) (y4 y5:LLD) : Option Res := evB XX 129 (lpL XX 129) 4 zaY.c (mkG 1 29 [(0, .one (.p true 0 [] 0)), (5, .one (.v (.int .i64 y0)))] [(0, some ⟨.ro, [.v (.bool y1), .v (.int .i64 y2), .v (.string y3), .s y4, .s y5], [.sh, .sh, .sh, .sh, .sh]⟩)] GL) (outE XX 129 Tryz.f129)
theorem zaY.e (a0:Bool) (a1:Int) (a2:BAy) (a3 a4:LLD) (a5:BAy) : zaY [.one (.p true 0 [] 0), .one (.v (.string a5))] [⟨.ro, [.v (.bool a0), .v (.int .i64 a1), .v (.string a2), .s a3, .s a4], [.sh, .sh, .sh, .sh, .sh]⟩] = (zae [.one (.s a3), .one (.v (.string a5))] []).bind fun val => bif zag [.int .i64] val.1 && true then bif decide ((val.1.getD 0 .d).int < 0) then zaY.P3 (val.1.getD 0 .d).int true a0 a1 a2 a3 a4 else zaY.P3 (val.1.getD 0 .d).int (decide ((val.1.getD 0 .d).int ≥ (↑a4.length : Int))) a0 a1 a2 a3 a4 else none := by
 refine (zaY.run _ _ (by kernel_rfl)).trans ?_
 delta zaY zae zaY.P3 XX
 refine zbp [3, 4] (by kernel_rfl) fun J e1 => ?_
 try simp only [← e1]
 clear e1
 generalize lpL (Y.ctx (lim' Y)) 129 = lp
 generalize lim' Y = call
 kernel_rfl
theorem zaY.p3 (y0:Int) (y1 y2:Bool) (y3:Int) (y4:BAy) (y5 y6:LLD) : zaY.P3 y0 y1 y2 y3 y4 y5 y6 = bif y1 then some ⟨[.p false 0 [] 0], [⟨.ro, [.v (.bool y2), .v (.int .i64 y3), .v (.string y4), .s y5, .s y6], [.sh, .sh, .sh, .sh, .sh]⟩]⟩ else zaY.P4 y0 y2 y3 y4 y5 y6 := by
 delta zaY.P3 zaY.P4 XX
 refine zbb [3, 4] 3 (by kernel_rfl) fun J e1 => ?_
 try simp only [← e1]
 clear e1
 generalize lpL (Y.ctx (lim' Y)) 129 = lp
 generalize lim' Y = call
 kernel_rfl
theorem zaY.p4 (y0:Int) (y1:Bool) (y2:Int) (y3:BAy) (y4 y5:LLD) : zaY.P4 y0 y1 y2 y3 y4 y5 = bif decide (0 ≤ y0) && decide (y0 < (↑y5.length : Int)) && decide ((y5.getD y0.toNat []).length = 5) then some ⟨[.p true 0 [(4, y0.toNat)] 0], [⟨.ro, [.v (.bool y1), .v (.int .i64 y2), .v (.string y3), .s y4, .s y5], [.sh, .sh, .sh, .sh, .sh]⟩]⟩ else none := by
 delta zaY.P4 XX
 refine zbb [3, 4] 4 (by kernel_rfl) fun J e1 => ?_
 try simp only [← e1]
 clear e1
 generalize lpL (Y.ctx (lim' Y)) 129 = lp
 generalize lim' Y = call
 kernel_rfl
noncomputable def zac.L3 (y0:LLD) (y1:BAy) (y2 y3 y4:Int) : Option (Ex × St) := lpL XX 130 (zar 3 zac.c) (mkG 0 54 [(0, .one (.s y0)), (1, .one (.v (.string y1))), (6, .one (.v (.int .i64 y2))), (7, .one (.v (.int .i64 y3))), (8, .one (.v (.int .i64 y4)))] [] GL)
noncomputable def zac.A3 : Ex × St → Option Res := fun r => evA XX 130 (lpL XX 130) 3 zac.c r.fst r.snd (outE XX 130 Tryz.f130)
noncomputable def zac.x3 (y0:LLD) (y1:BAy) (y2 y3:Int) : Ex × St := (Ex.exit 0, mkG 0 54 [(0, .one (.s y0)), (1, .one (.v (.string y1))), (6, .one (.v (.int .i64 y2))), (7, .one (.v (.int .i64 y3)))] [] GL)
theorem zac.e (a0:LLD) (a1:BAy) : zac [.one (.s a0), .one (.v (.string a1))] [] = (zac.L3 a0 a1 (↑a0.length : Int) 0 (↑a0.length : Int)).bind zac.A3 := by
 refine (zac.run _ _ (by kernel_rfl)).trans ?_
 delta zac zac.L3 zac.A3 XX
 generalize lpL (Y.ctx (lim' Y)) 130 = lp
 generalize lim' Y = call
 kernel_rfl
theorem zac.s3 (y0:LLD) (y1:BAy) (y2 y3 y4:Int) : zac.L3 y0 y1 y2 y3 y4 = bif decide (y3 < y4) then bif decide (0 ≤ IntKind.i64.wrap ((IntKind.u64.wrap (IntKind.i64.wrap (y3 + y4))).fdiv (2 ^ min (Int.toNat 1) IntKind.u64.bits))) && decide (IntKind.i64.wrap ((IntKind.u64.wrap (IntKind.i64.wrap (y3 + y4))).fdiv (2 ^ min (Int.toNat 1) IntKind.u64.bits)) < (↑y0.length : Int)) && decide ((y0.getD (IntKind.i64.wrap ((IntKind.u64.wrap (IntKind.i64.wrap (y3 + y4))).fdiv (2 ^ min (Int.toNat 1) IntKind.u64.bits))).toNat []).length = 1) then bif zau [.str] (y0.getD (IntKind.i64.wrap ((IntKind.u64.wrap (IntKind.i64.wrap (y3 + y4))).fdiv (2 ^ min (Int.toNat 1) IntKind.u64.bits))).toNat []) 0 && decide (1 ≤ (y0.getD (IntKind.i64.wrap ((IntKind.u64.wrap (IntKind.i64.wrap (y3 + y4))).fdiv (2 ^ min (Int.toNat 1) IntKind.u64.bits))).toNat []).length) then (zba [.one (.v (.string ((y0.getD (IntKind.i64.wrap ((IntKind.u64.wrap (IntKind.i64.wrap (y3 + y4))).fdiv (2 ^ min (Int.toNat 1) IntKind.u64.bits))).toNat []).getD 0 .h).str)), .one (.v (.string y1))] []).bind fun val => bif zag [.bool] val.1 && true then bif (val.1.getD 0 .d).bool then zac.L3 y0 y1 y2 (IntKind.i64.wrap (IntKind.i64.wrap ((IntKind.u64.wrap (IntKind.i64.wrap (y3 + y4))).fdiv (2 ^ min (Int.toNat 1) IntKind.u64.bits)) + 1)) y4 else zac.L3 y0 y1 y2 y3 (IntKind.i64.wrap ((IntKind.u64.wrap (IntKind.i64.wrap (y3 + y4))).fdiv (2 ^ min (Int.toNat 1) IntKind.u64.bits))) else none else none else none else some (zac.x3 y0 y1 y2 y3) := by
 refine (zbf (Y := Y) (c := lim' Y) (fn := 130) (rid := 3) (b := zar 3 zac.c) (by kernel_rfl) _).trans ?_
 delta zac.L3 zba zac.x3 XX
 generalize lpL (Y.ctx (lim' Y)) 130 = lp
 generalize lim' Y = call
 kernel_rfl
theorem zac.a3x3 (y0:LLD) (y1:BAy) (y2 y3:Int) : zac.A3 (zac.x3 y0 y1 y2 y3) = bif decide (y3 < y2) then bif decide (0 ≤ y3) && decide (y3 < (↑y0.length : Int)) && decide ((y0.getD y3.toNat []).length = 1) then bif zau [.str] (y0.getD y3.toNat []) 0 && decide (1 ≤ (y0.getD y3.toNat []).length) then bif ((y0.getD y3.toNat []).getD 0 .h).str.toList == y1.toList then some ⟨[.v (.int .i64 y3), .v (.bool true)], []⟩ else bif decide (0 ≤ y3) && decide (y3 < (↑y0.length : Int)) && decide ((y0.getD y3.toNat []).length = 1) then bif zau [.str] (y0.getD y3.toNat []) 0 && decide (1 ≤ (y0.getD y3.toNat []).length) then (zaM [.one (.v (.string ((y0.getD y3.toNat []).getD 0 .h).str))] []).bind fun val => bif zag [.bool] val.1 && true then bif (val.1.getD 0 .d).bool then (zaM [.one (.v (.string y1))] []).bind fun val => bif zag [.bool] val.1 && true then some ⟨[.v (.int .i64 y3), .v (.bool (val.1.getD 0 .d).bool)], []⟩ else none else some ⟨[.v (.int .i64 y3), .v (.bool false)], []⟩ else none else none else none else none else none else some ⟨[.v (.int .i64 y3), .v (.bool false)], []⟩ := by
 delta zac.A3 zac.x3 zaM XX
 generalize lpL (Y.ctx (lim' Y)) 130 = lp
 generalize lim' Y = call
 kernel_rfl
noncomputable def zai.P2 (y0:Int) (y1 y2:Bool) (y3:Int) (y4:BAy) (y5 y6:LLD) : Option Res := evB XX 133 (lpL XX 133) 2 zai.c (mkG 0 77 [(1, .one (.v (.int .i64 y0))), (2, .one (.p true 2 [] 0)), (23, .one (.v (.bool y1)))] [(2, some ⟨.box, [.v (.bool y2), .v (.int .i64 y3), .v (.string y4), .s y5, .s y6], [.deep, .deep, .deep, .sh, .sh]⟩)] GL) (outE XX 133 Tryz.f133)
noncomputable def zai.P3 (y0:Int) (y1:Bool) (y2:Int) (y3:BAy) (y4 y5:LLD) : Option Res := evB XX 133 (lpL XX 133) 3 zai.c (mkG 0 77 [(1, .one (.v (.int .i64 y0))), (2, .one (.p true 2 [] 0))] [(2, some ⟨.box, [.v (.bool y1), .v (.int .i64 y2), .v (.string y3), .s y4, .s y5], [.deep, .deep, .deep, .sh, .sh]⟩)] GL) (outE XX 133 Tryz.f133)
noncomputable def zai.L8 (y0:Int) (y1:LLD) (y2 y3:Int) (y4:Bool) (y5:Int) (y6:BAy) (y7 y8:LLD) : Option (Ex × St) := lpL XX 133 (zar 8 zai.c) (mkG 0 77 [(1, .one (.v (.int .i64 y0))), (2, .one (.p true 2 [] 0)), (41, .one (.s y1)), (42, .one (.v (.int .i64 y2))), (43, .one (.v (.int .i64 y3)))] [(2, some ⟨.box, [.v (.bool y4), .v (.int .i64 y5), .v (.string y6), .s y7, .s y8], [.deep, .deep, .deep, .sh, .sh]⟩)] GL)
noncomputable def zai.A8 : Ex × St → Option Res := fun r => evA XX 133 (lpL XX 133) 8 zai.c r.fst r.snd (outE XX 133 Tryz.f133)
noncomputable def zai.P11 (y0:Int) (y1:LLD) (y2 y3:Int) (y4 y5:Bool) (y6:Int) (y7:BAy) (y8 y9:LLD) : Option (Ex × St) := evB XX 133 (lpL XX 133) 11 (zar 8 zai.c) (mkG 0 77 [(1, .one (.v (.int .i64 y0))), (2, .one (.p true 2 [] 0)), (41, .one (.s y1)), (42, .one (.v (.int .i64 y2))), (43, .one (.v (.int .i64 y3))), (75, .one (.v (.bool y4)))] [(2, some ⟨.box, [.v (.bool y5), .v (.int .i64 y6), .v (.string y7), .s y8, .s y9], [.deep, .deep, .deep, .sh, .sh]⟩)] GL) (backL (lpL XX 133) (zar 8 zai.c) (XX.live 133 8))
noncomputable def zai.x8 : Ex × St := (Ex.exit 0, mkG 0 77 [] [] GL)
noncomputable def zai.q8 (y0:Bool) : Ex × St := (Ex.ret, mkG 0 77 [(4, .one (.v (.bool y0)))] [] GL)
theorem zai.e (a0:Bool) (a1:Int) (a2:BAy) (a3 a4:LLD) (a5:Int) : zai [.g [.v (.bool a0), .v (.int .i64 a1), .v (.string a2), .s a3, .s a4], .one (.v (.int .i64 a5))] [] = (zcO [.one (.v (.int .i64 a1))] []).bind fun val => bif zag [.bool] val.1 && true then bif !(val.1.getD 0 .d).bool then zai.P2 a5 true a0 a1 a2 a3 a4 else bif decide (a5 > 4) then zai.P2 a5 true a0 a1 a2 a3 a4 else zai.P2 a5 ((↑a3.length : Int) != (↑a4.length : Int)) a0 a1 a2 a3 a4 else none := by
 refine (zai.run _ _ (by kernel_rfl)).trans ?_
 delta zai zcO zai.P2 XX
 refine zbp [2, 3] (by kernel_rfl) fun J e1 => ?_
 try simp only [← e1]
 clear e1
 generalize lpL (Y.ctx (lim' Y)) 133 = lp
 generalize lim' Y = call
 kernel_rfl
theorem zai.p2 (y0:Int) (y1 y2:Bool) (y3:Int) (y4:BAy) (y5 y6:LLD) : zai.P2 y0 y1 y2 y3 y4 y5 y6 = bif y1 then some ⟨[.v (.bool false)], []⟩ else zai.P3 y0 y2 y3 y4 y5 y6 := by
 delta zai.P2 zai.P3 XX
 refine zbb [2, 3] 2 (by kernel_rfl) fun J e1 => ?_
 try simp only [← e1]
 clear e1
 generalize lpL (Y.ctx (lim' Y)) 133 = lp
 generalize lim' Y = call
 kernel_rfl
theorem zai.p3 (y0:Int) (y1:Bool) (y2:Int) (y3:BAy) (y4 y5:LLD) : zai.P3 y0 y1 y2 y3 y4 y5 = bif !y1 then bif decide ((↑y3.size : Int) ≤ 24) then some ⟨[.v (.bool ((↑y4.length : Int) == 0))], []⟩ else some ⟨[.v (.bool false)], []⟩ else bif !y3.toList == [] then some ⟨[.v (.bool false)], []⟩ else (zai.L8 y0 y4 (↑y4.length : Int) 0 y1 y2 y3 y4 y5).bind zai.A8 := by
 delta zai.P3 zai.L8 zai.A8 XX
 refine zbb [2, 3] 3 (by kernel_rfl) fun J e1 => ?_
 have eA := evA_J [2, 3] 8 (by kernel_rfl) e1
 try simp only [eA]
 clear eA
 try simp only [← e1]
 clear e1
 show _ = _
 generalize lpL (Y.ctx (lim' Y)) 133 = lp
 generalize lim' Y = call
 kernel_rfl
theorem zai.s8 (y0:Int) (y1:LLD) (y2 y3:Int) (y4:Bool) (y5:Int) (y6:BAy) (y7 y8:LLD) : zai.L8 y0 y1 y2 y3 y4 y5 y6 y7 y8 = bif decide (y3 < y2) then bif decide (0 ≤ y3) && decide (y3 < (↑y1.length : Int)) && decide ((y1.getD y3.toNat []).length = 1) then bif zau [.str] (y1.getD y3.toNat []) 0 && decide (1 ≤ (y1.getD y3.toNat []).length) then (zaK [.one (.v (.string ((y1.getD y3.toNat []).getD 0 .h).str))] []).bind fun val => bif zag [.bool] val.1 && true then bif !(val.1.getD 0 .d).bool then zai.P11 y0 y1 y2 y3 true y4 y5 y6 y7 y8 else bif decide (y3 > 0) then bif decide (0 ≤ IntKind.i64.wrap (y3 - 1)) && decide (IntKind.i64.wrap (y3 - 1) < (↑y7.length : Int)) && decide ((y7.getD (IntKind.i64.wrap (y3 - 1)).toNat []).length = 1) then bif zau [.str] (y7.getD (IntKind.i64.wrap (y3 - 1)).toNat []) 0 && decide (1 ≤ (y7.getD (IntKind.i64.wrap (y3 - 1)).toNat []).length) then bif !Op.bytesLess ((y7.getD (IntKind.i64.wrap (y3 - 1)).toNat []).getD 0 .h).str.toList ((y1.getD y3.toNat []).getD 0 .h).str.toList then zai.P11 y0 y1 y2 y3 true y4 y5 y6 y7 y8 else bif decide (0 ≤ y3) && decide (y3 < (↑y8.length : Int)) && decide ((y8.getD y3.toNat []).length = 5) then bif zau [.bool, .int .i64, .str, .sl, .sl] (y8.getD y3.toNat []) 0 && decide (5 ≤ (y8.getD y3.toNat []).length) then (zai [.g [.v (.bool ((y8.getD y3.toNat []).getD 0 .h).bool), .v (.int .i64 ((y8.getD y3.toNat []).getD 1 .h).int), .v (.string ((y8.getD y3.toNat []).getD 2 .h).str), .s ((y8.getD y3.toNat []).getD 3 .h).es, .s ((y8.getD y3.toNat []).getD 4 .h).es], .one (.v (.int .i64 (IntKind.i64.wrap (y0 + 1))))] []).bind fun val => bif zag [.bool] val.1 && true then zai.P11 y0 y1 y2 y3 (!(val.1.getD 0 .d).bool) y4 y5 y6 y7 y8 else none else none else none else none else none else bif decide (0 ≤ y3) && decide (y3 < (↑y8.length : Int)) && decide ((y8.getD y3.toNat []).length = 5) then bif zau [.bool, .int .i64, .str, .sl, .sl] (y8.getD y3.toNat []) 0 && decide (5 ≤ (y8.getD y3.toNat []).length) then (zai [.g [.v (.bool ((y8.getD y3.toNat []).getD 0 .h).bool), .v (.int .i64 ((y8.getD y3.toNat []).getD 1 .h).int), .v (.string ((y8.getD y3.toNat []).getD 2 .h).str), .s ((y8.getD y3.toNat []).getD 3 .h).es, .s ((y8.getD y3.toNat []).getD 4 .h).es], .one (.v (.int .i64 (IntKind.i64.wrap (y0 + 1))))] []).bind fun val => bif zag [.bool] val.1 && true then zai.P11 y0 y1 y2 y3 (!(val.1.getD 0 .d).bool) y4 y5 y6 y7 y8 else none else none else none else none else none else none else some zai.x8 := by
 refine (zbf (Y := Y) (c := lim' Y) (fn := 133) (rid := 8) (b := zar 8 zai.c) (by kernel_rfl) _).trans ?_
 delta zai.L8 zaK zai.P11 zai zai.x8 XX
 refine zbp [11] (by kernel_rfl) fun J e1 => ?_
 try simp only [← e1]
 clear e1
 generalize lpL (Y.ctx (lim' Y)) 133 = lp
 generalize lim' Y = call
 kernel_rfl
theorem zai.p11 (y0:Int) (y1:LLD) (y2 y3:Int) (y4 y5:Bool) (y6:Int) (y7:BAy) (y8 y9:LLD) : zai.P11 y0 y1 y2 y3 y4 y5 y6 y7 y8 y9 = bif y4 then some (zai.q8 false) else zai.L8 y0 y1 y2 (IntKind.i64.wrap (y3 + 1)) y5 y6 y7 y8 y9 := by
 delta zai.P11 zai.q8 zai.L8 XX
 refine zbb [11] 11 (by kernel_rfl) fun J e1 => ?_
 try simp only [← e1]
 clear e1
 generalize lpL (Y.ctx (lim' Y)) 133 = lp
 generalize lim' Y = call
 kernel_rfl
theorem zai.a8x8 : zai.A8 zai.x8 = some ⟨[.v (.bool true)], []⟩ := by
 delta zai.A8 zai.x8 XX
 refine zbd [2, 3] 8 (by kernel_rfl) fun J e1 => ?_
 have eA := evA_J [2, 3] 8 (by kernel_rfl) e1
 try simp only [eA]
 clear eA
 try simp only [← e1]
 clear e1
 show _ = _
 generalize lpL (Y.ctx (lim' Y)) 133 = lp
 generalize lim' Y = call
 kernel_rfl
theorem zai.a8q8 (y0:Bool) : zai.A8 (zai.q8 y0) = some ⟨[.v (.bool y0)], []⟩ := by
 delta zai.A8 zai.q8 XX
 refine zbd [2, 3] 8 (by kernel_rfl) fun J e1 => ?_
 have eA := evA_J [2, 3] 8 (by kernel_rfl) e1
 try simp only [eA]
 clear eA
 try simp only [← e1]
 clear e1
 show _ = _
 generalize lpL (Y.ctx (lim' Y)) 133 = lp
 generalize lim' Y = call
 kernel_rfl
noncomputable def zax.L3 (y0:Int) (y1:LLD) (y2 y3:Int) : Option (Ex × St) := lpL XX 134 (zar 3 zax.c) (mkG 0 19 [(3, .one (.v (.int .i64 y0))), (7, .one (.s y1)), (8, .one (.v (.int .i64 y2))), (9, .one (.v (.int .i64 y3)))] [] GL)
noncomputable def zax.A3 : Ex × St → Option Res := fun r => evA XX 134 (lpL XX 134) 3 zax.c r.fst r.snd (outE XX 134 Tryz.f134)
noncomputable def zax.x3 (y0:Int) : Ex × St := (Ex.exit 0, mkG 0 19 [(3, .one (.v (.int .i64 y0)))] [] GL)
theorem zax.e (a0:Bool) (a1:Int) (a2:BAy) (a3 a4:LLD) : zax [.g [.v (.bool a0), .v (.int .i64 a1), .v (.string a2), .s a3, .s a4]] [] = (zax.L3 1 a4 (↑a4.length : Int) 0).bind zax.A3 := by
 refine (zax.run _ _ (by kernel_rfl)).trans ?_
 delta zax zax.L3 zax.A3 XX
 generalize lpL (Y.ctx (lim' Y)) 134 = lp
 generalize lim' Y = call
 kernel_rfl
theorem zax.s3 (y0:Int) (y1:LLD) (y2 y3:Int) : zax.L3 y0 y1 y2 y3 = bif decide (y3 < y2) then bif decide (0 ≤ y3) && decide (y3 < (↑y1.length : Int)) && decide ((y1.getD y3.toNat []).length = 5) then bif zau [.bool, .int .i64, .str, .sl, .sl] (y1.getD y3.toNat []) 0 && decide (5 ≤ (y1.getD y3.toNat []).length) then (zax [.g [.v (.bool ((y1.getD y3.toNat []).getD 0 .h).bool), .v (.int .i64 ((y1.getD y3.toNat []).getD 1 .h).int), .v (.string ((y1.getD y3.toNat []).getD 2 .h).str), .s ((y1.getD y3.toNat []).getD 3 .h).es, .s ((y1.getD y3.toNat []).getD 4 .h).es]] []).bind fun val => bif zag [.int .i64] val.1 && true then zax.L3 (IntKind.i64.wrap (y0 + (val.1.getD 0 .d).int)) y1 y2 (IntKind.i64.wrap (y3 + 1)) else none else none else none else some (zax.x3 y0) := by
 refine (zbf (Y := Y) (c := lim' Y) (fn := 134) (rid := 3) (b := zar 3 zax.c) (by kernel_rfl) _).trans ?_
 delta zax.L3 zax zax.x3 XX
 generalize lpL (Y.ctx (lim' Y)) 134 = lp
 generalize lim' Y = call
 kernel_rfl
theorem zax.a3x3 (y0:Int) : zax.A3 (zax.x3 y0) = some ⟨[.v (.int .i64 y0)], []⟩ := by
 delta zax.A3 zax.x3 XX
 generalize lpL (Y.ctx (lim' Y)) 134 = lp
 generalize lim' Y = call
 kernel_rfl
noncomputable def iTree_each_show.L3 (y0 y1:LLD) (y2 y3:Int) (y4:BAy) (y5:Bool) (y6:Int) (y7:BAy) (y8 y9:LLD) : Option (Ex × St) := lpL XX 135 (zar 3 zaV.c) (mkG 1 31 [(1, .one (.s y0)), (2, .f zaS.id [.bx [A0.p true 0 [] 0] 0]), (3, .one (.p true 4 [] 0)), (13, .one (.s y1)), (14, .one (.v (.int .i64 y2))), (15, .one (.v (.int .i64 y3)))] [(0, some ⟨.bld 170 5, [.v (.string y4), .h], [.deep, .deep]⟩), (4, some ⟨.box, [.v (.bool y5), .v (.int .i64 y6), .v (.string y7), .s y8, .s y9], [.deep, .deep, .deep, .sh, .sh]⟩)] GL)
noncomputable def iTree_each_show.A3 : Ex × St → Option Res := fun r => evA XX 135 (lpL XX 135) 3 zaV.c r.fst r.snd (outE XX 135 Tryz.f135)
noncomputable def iTree_each_show.x3 (y0:BAy) : Ex × St := (Ex.exit 0, mkG 1 31 [] [(0, some ⟨.bld 170 5, [.v (.string y0), .h], [.deep, .deep]⟩)] GL)
theorem iTree_each_show.e (a0:Bool) (a1:Int) (a2:BAy) (a3 a4 a5:LLD) (b:BAy) : zaV [.g [.v (.bool a0), .v (.int .i64 a1), .v (.string a2), .s a3, .s a4], .one (.s a5), .f zaS.id [.bx [A0.p true 0 [] 0] 0]] [⟨.bld 170 5, [.v (.string b), .h], [.deep, .deep]⟩] = (zaS [.one (.s a5), .g [.v (.bool a0), .v (.int .i64 a1), .v (.string a2), .s a3, .s a4], .one (.bx [A0.p true 0 [] 0] 0)] [⟨.bld 170 5, [.v (.string b), .h], [.deep, .deep]⟩]).bind fun val => bif zag [] val.1 && za4 [⟨⟨.bld 170 5, [.v (.string b), .h], [.deep, .deep]⟩, .box 0⟩] val.2 then (iTree_each_show.L3 a5 a3 (↑a3.length : Int) 0 ((val.2.getD 0 ⟨.ro, [], []⟩).2.getD 0 .h).str a0 a1 a2 a3 a4).bind iTree_each_show.A3 else none := by
 refine (zaV.run _ _ (by kernel_rfl)).trans ?_
 delta zaV zaS iTree_each_show.L3 iTree_each_show.A3 zaS.id XX
 generalize lpL (Y.ctx (lim' Y)) 135 = lp
 generalize lim' Y = call
 kernel_rfl
theorem iTree_each_show.s3 (y0 y1:LLD) (y2 y3:Int) (y4:BAy) (y5:Bool) (y6:Int) (y7:BAy) (y8 y9:LLD) : iTree_each_show.L3 y0 y1 y2 y3 y4 y5 y6 y7 y8 y9 = bif decide (y3 < y2) then bif decide (0 ≤ y3) && decide (y3 < (↑y1.length : Int)) && decide ((y1.getD y3.toNat []).length = 1) then bif zau [.str] (y1.getD y3.toNat []) 0 && decide (1 ≤ (y1.getD y3.toNat []).length) then bif decide (0 ≤ y3) && decide (y3 < (↑y9.length : Int)) && decide ((y9.getD y3.toNat []).length = 5) then bif zau [.bool, .int .i64, .str, .sl, .sl] (y9.getD y3.toNat []) 0 && decide (5 ≤ (y9.getD y3.toNat []).length) then (zde [.one (.s y0), .one (.v (.string ((y1.getD y3.toNat []).getD 0 .h).str))] []).bind fun val => bif zag [.own .deep] val.1 && true then (zaV [.g [.v (.bool ((y9.getD y3.toNat []).getD 0 .h).bool), .v (.int .i64 ((y9.getD y3.toNat []).getD 1 .h).int), .v (.string ((y9.getD y3.toNat []).getD 2 .h).str), .s ((y9.getD y3.toNat []).getD 3 .h).es, .s ((y9.getD y3.toNat []).getD 4 .h).es], .one (.s (val.1.getD 0 .d).es), .f zaS.id [.bx [A0.p true 0 [] 0] 0]] [⟨.bld 170 5, [.v (.string y4), .h], [.deep, .deep]⟩]).bind fun val => bif zag [] val.1 && za4 [⟨⟨.bld 170 5, [.v (.string y4), .h], [.deep, .deep]⟩, .box 0⟩] val.2 then iTree_each_show.L3 y0 y1 y2 (IntKind.i64.wrap (y3 + 1)) ((val.2.getD 0 ⟨.ro, [], []⟩).2.getD 0 .h).str y5 y6 y7 y8 y9 else none else none else none else none else none else none else some (iTree_each_show.x3 y4) := by
 refine (zbf (Y := Y) (c := lim' Y) (fn := 135) (rid := 3) (b := zar 3 zaV.c) (by kernel_rfl) _).trans ?_
 delta iTree_each_show.L3 zde zaV iTree_each_show.x3 zaS.id XX
 generalize lpL (Y.ctx (lim' Y)) 135 = lp
 generalize lim' Y = call
 kernel_rfl
theorem iTree_each_show.a3x3 (y0:BAy) : iTree_each_show.A3 (iTree_each_show.x3 y0) = some ⟨[], [⟨.bld 170 5, [.v (.string y0), .h], [.deep, .deep]⟩]⟩ := by
 delta iTree_each_show.A3 iTree_each_show.x3 XX
 generalize lpL (Y.ctx (lim' Y)) 135 = lp
 generalize lim' Y = call
 kernel_rfl
noncomputable def iTree_each_table.L3 (y0 y1:LLD) (y2 y3:Int) (y4:LLD) (y5:Bool) (y6:Int) (y7:BAy) (y8 y9:LLD) : Option (Ex × St) := lpL XX 135 (zar 3 zaV.c) (mkG 1 31 [(1, .one (.s y0)), (2, .f zaL.id [.p true 0 [] 0]), (3, .one (.p true 4 [] 0)), (13, .one (.s y1)), (14, .one (.v (.int .i64 y2))), (15, .one (.v (.int .i64 y3)))] [(0, some ⟨.box, [.s y4], [.deep]⟩), (4, some ⟨.box, [.v (.bool y5), .v (.int .i64 y6), .v (.string y7), .s y8, .s y9], [.deep, .deep, .deep, .sh, .sh]⟩)] GL)
noncomputable def iTree_each_table.A3 : Ex × St → Option Res := fun r => evA XX 135 (lpL XX 135) 3 zaV.c r.fst r.snd (outE XX 135 Tryz.f135)
noncomputable def iTree_each_table.x3 (y0:LLD) : Ex × St := (Ex.exit 0, mkG 1 31 [] [(0, some ⟨.box, [.s y0], [.deep]⟩)] GL)
theorem iTree_each_table.e (a0:Bool) (a1:Int) (a2:BAy) (a3 a4 a5 a6:LLD) : zaV [.g [.v (.bool a0), .v (.int .i64 a1), .v (.string a2), .s a3, .s a4], .one (.s a5), .f zaL.id [.p true 0 [] 0]] [⟨.box, [.s a6], [.deep]⟩] = (zaL [.one (.s a5), .g [.v (.bool a0), .v (.int .i64 a1), .v (.string a2), .s a3, .s a4], .one (.p true 0 [] 0)] [⟨.box, [.s a6], [.deep]⟩]).bind fun val => bif zag [] val.1 && za4 [⟨⟨.box, [.s a6], [.deep]⟩, .box 0⟩] val.2 then (iTree_each_table.L3 a5 a3 (↑a3.length : Int) 0 ((val.2.getD 0 ⟨.ro, [], []⟩).2.getD 0 .h).es a0 a1 a2 a3 a4).bind iTree_each_table.A3 else none := by
 refine (zaV.run _ _ (by kernel_rfl)).trans ?_
 delta zaV zaL iTree_each_table.L3 iTree_each_table.A3 zaL.id XX
 generalize lpL (Y.ctx (lim' Y)) 135 = lp
 generalize lim' Y = call
 kernel_rfl
theorem iTree_each_table.s3 (y0 y1:LLD) (y2 y3:Int) (y4:LLD) (y5:Bool) (y6:Int) (y7:BAy) (y8 y9:LLD) : iTree_each_table.L3 y0 y1 y2 y3 y4 y5 y6 y7 y8 y9 = bif decide (y3 < y2) then bif decide (0 ≤ y3) && decide (y3 < (↑y1.length : Int)) && decide ((y1.getD y3.toNat []).length = 1) then bif zau [.str] (y1.getD y3.toNat []) 0 && decide (1 ≤ (y1.getD y3.toNat []).length) then bif decide (0 ≤ y3) && decide (y3 < (↑y9.length : Int)) && decide ((y9.getD y3.toNat []).length = 5) then bif zau [.bool, .int .i64, .str, .sl, .sl] (y9.getD y3.toNat []) 0 && decide (5 ≤ (y9.getD y3.toNat []).length) then (zde [.one (.s y0), .one (.v (.string ((y1.getD y3.toNat []).getD 0 .h).str))] []).bind fun val => bif zag [.own .deep] val.1 && true then (zaV [.g [.v (.bool ((y9.getD y3.toNat []).getD 0 .h).bool), .v (.int .i64 ((y9.getD y3.toNat []).getD 1 .h).int), .v (.string ((y9.getD y3.toNat []).getD 2 .h).str), .s ((y9.getD y3.toNat []).getD 3 .h).es, .s ((y9.getD y3.toNat []).getD 4 .h).es], .one (.s (val.1.getD 0 .d).es), .f zaL.id [.p true 0 [] 0]] [⟨.box, [.s y4], [.deep]⟩]).bind fun val => bif zag [] val.1 && za4 [⟨⟨.box, [.s y4], [.deep]⟩, .box 0⟩] val.2 then iTree_each_table.L3 y0 y1 y2 (IntKind.i64.wrap (y3 + 1)) ((val.2.getD 0 ⟨.ro, [], []⟩).2.getD 0 .h).es y5 y6 y7 y8 y9 else none else none else none else none else none else none else some (iTree_each_table.x3 y4) := by
 refine (zbf (Y := Y) (c := lim' Y) (fn := 135) (rid := 3) (b := zar 3 zaV.c) (by kernel_rfl) _).trans ?_
 delta iTree_each_table.L3 zde zaV iTree_each_table.x3 zaL.id XX
 generalize lpL (Y.ctx (lim' Y)) 135 = lp
 generalize lim' Y = call
 kernel_rfl
theorem iTree_each_table.a3x3 (y0:LLD) : iTree_each_table.A3 (iTree_each_table.x3 y0) = some ⟨[], [⟨.box, [.s y0], [.deep]⟩]⟩ := by
 delta iTree_each_table.A3 iTree_each_table.x3 XX
 generalize lpL (Y.ctx (lim' Y)) 135 = lp
 generalize lim' Y = call
 kernel_rfl
theorem zaL.e (a0:LLD) (b0:Bool) (b1:Int) (b2:BAy) (b3 b4 a6:LLD) : zaL [.one (.s a0), .g [.v (.bool b0), .v (.int .i64 b1), .v (.string b2), .s b3, .s b4], .one (.p true 0 [] 0)] [⟨.box, [D.s a6], [.deep]⟩] = bif zaB 1 a0 && zaG false a0 && true && decide ((0 + a0.length) * 17 ≤ 70368744177664) then (zaZ [.g [.v (.bool b0), .v (.int .i64 b1), .v (.string b2), .s b3, .s b4]] []).bind fun val => bif zag [.int .i64] val.1 && true then bif zaB 5 a6 && true && true && true && decide ((a6.length + 1) * 65 ≤ 70368744177664) then some ⟨[], [⟨.box, [D.s (a6 ++ [[D.s a0, D.v (.bool b0), D.v (.int .i64 b1), D.v (.string b2), D.v (.int .i64 (val.1.getD 0 .d).int)]])], [.deep]⟩]⟩ else none else none else none := by
 refine (zaL.run _ _ (by kernel_rfl)).trans ?_
 delta zaL zaZ XX
 generalize lpL (Y.ctx (lim' Y)) 136 = lp
 generalize lim' Y = call
 kernel_rfl
noncomputable def zaZ.L4 (y0:Int) (y1:BAy) (y2 y3:Int) : Option (Ex × St) := lpL XX 137 (zar 4 zaZ.c) (mkG 0 23 [(3, .one (.v (.int .i64 y0))), (4, .one (.v (.string y1))), (9, .one (.v (.int .i64 y2))), (10, .one (.v (.int .i64 y3)))] [] GL)
noncomputable def zaZ.A4 : Ex × St → Option Res := fun r => evA XX 137 (lpL XX 137) 4 zaZ.c r.fst r.snd (outE XX 137 Tryz.f137)
noncomputable def zaZ.x4 (y0:Int) : Ex × St := (Ex.exit 0, mkG 0 23 [(3, .one (.v (.int .i64 y0)))] [] GL)
theorem zaZ.e (a0:Bool) (a1:Int) (a2:BAy) (a3 a4:LLD) : zaZ [.g [.v (.bool a0), .v (.int .i64 a1), .v (.string a2), .s a3, .s a4]] [] = (zbE [.g [.v (.bool a0), .v (.int .i64 a1), .v (.string a2), .s a3, .s a4]] []).bind fun val => bif zag [.str] val.1 && true then (zaZ.L4 7 (val.1.getD 0 .d).str (↑(val.1.getD 0 .d).str.size : Int) 0).bind zaZ.A4 else none := by
 refine (zaZ.run _ _ (by kernel_rfl)).trans ?_
 delta zaZ zbE zaZ.L4 zaZ.A4 XX
 generalize lpL (Y.ctx (lim' Y)) 137 = lp
 generalize lim' Y = call
 kernel_rfl
theorem zaZ.s4 (y0:Int) (y1:BAy) (y2 y3:Int) : zaZ.L4 y0 y1 y2 y3 = bif decide (y3 < y2) then bif decide (0 ≤ y3) && decide (y3 < (↑y1.size : Int)) then zaZ.L4 ((IntKind.i64.wrap (IntKind.i64.wrap (131 * y0) + IntKind.i64.wrap (zbc y1 y3.toNat))).tmod 1000000007) y1 y2 (IntKind.i64.wrap (y3 + 1)) else none else some (zaZ.x4 y0) := by
 refine (zbf (Y := Y) (c := lim' Y) (fn := 137) (rid := 4) (b := zar 4 zaZ.c) (by kernel_rfl) _).trans ?_
 delta zaZ.L4 zaZ.x4 XX
 generalize lpL (Y.ctx (lim' Y)) 137 = lp
 generalize lim' Y = call
 kernel_rfl
theorem zaZ.a4x4 (y0:Int) : zaZ.A4 (zaZ.x4 y0) = some ⟨[.v (.int .i64 y0)], []⟩ := by
 delta zaZ.A4 zaZ.x4 XX
 generalize lpL (Y.ctx (lim' Y)) 137 = lp
 generalize lim' Y = call
 kernel_rfl
noncomputable def zas.P2 (y0:Int) (y1 y2:Bool) (y3:Int) (y4:BAy) (y5 y6:LLD) : Option Res := evB XX 138 (lpL XX 138) 2 zas.c (mkG 0 29 [(1, .one (.v (.int .i64 y0))), (2, .one (.p true 2 [] 0)), (12, .one (.v (.bool y1)))] [(2, some ⟨.box, [.v (.bool y2), .v (.int .i64 y3), .v (.string y4), .s y5, .s y6], [.deep, .deep, .deep, .sh, .sh]⟩)] GL) (outE XX 138 Tryz.f138)
noncomputable def zas.P3 (y0:Int) (y1:Bool) (y2:Int) (y3:BAy) (y4 y5:LLD) : Option Res := evB XX 138 (lpL XX 138) 3 zas.c (mkG 0 29 [(1, .one (.v (.int .i64 y0))), (2, .one (.p true 2 [] 0))] [(2, some ⟨.box, [.v (.bool y1), .v (.int .i64 y2), .v (.string y3), .s y4, .s y5], [.deep, .deep, .deep, .sh, .sh]⟩)] GL) (outE XX 138 Tryz.f138)
noncomputable def zas.L4 (y0 y1:Int) (y2:Bool) (y3:Int) (y4:BAy) (y5 y6:LLD) : Option (Ex × St) := lpL XX 138 (zar 4 zas.c) (mkG 0 29 [(1, .one (.v (.int .i64 y0))), (2, .one (.p true 2 [] 0)), (5, .one (.v (.int .i64 y1)))] [(2, some ⟨.box, [.v (.bool y2), .v (.int .i64 y3), .v (.string y4), .s y5, .s y6], [.deep, .deep, .deep, .sh, .sh]⟩)] GL)
noncomputable def zas.A4 : Ex × St → Option Res := fun r => evA XX 138 (lpL XX 138) 4 zas.c r.fst r.snd (outE XX 138 Tryz.f138)
noncomputable def zas.q4 (y0:Bool) : Ex × St := (Ex.ret, mkG 0 29 [(4, .one (.v (.bool y0)))] [] GL)
noncomputable def zas.x4 : Ex × St := (Ex.exit 0, mkG 0 29 [] [] GL)
theorem zas.e (a0:Bool) (a1:Int) (a2:BAy) (a3 a4:LLD) (a5:Int) : zas [.g [.v (.bool a0), .v (.int .i64 a1), .v (.string a2), .s a3, .s a4], .one (.v (.int .i64 a5))] [] = (zam [.g [.v (.bool a0), .v (.int .i64 a1), .v (.string a2), .s a3, .s a4]] []).bind fun val => bif zag [.bool] val.1 && true then bif !(val.1.getD 0 .d).bool then zas.P2 a5 true a0 a1 a2 a3 a4 else zas.P2 a5 (decide (a5 > 4)) a0 a1 a2 a3 a4 else none := by
 refine (zas.run _ _ (by kernel_rfl)).trans ?_
 delta zas zam zas.P2 XX
 refine zbp [2, 3] (by kernel_rfl) fun J e1 => ?_
 try simp only [← e1]
 clear e1
 generalize lpL (Y.ctx (lim' Y)) 138 = lp
 generalize lim' Y = call
 kernel_rfl
theorem zas.p2 (y0:Int) (y1 y2:Bool) (y3:Int) (y4:BAy) (y5 y6:LLD) : zas.P2 y0 y1 y2 y3 y4 y5 y6 = bif y1 then some ⟨[.v (.bool false)], []⟩ else zas.P3 y0 y2 y3 y4 y5 y6 := by
 delta zas.P2 zas.P3 XX
 refine zbb [2, 3] 2 (by kernel_rfl) fun J e1 => ?_
 try simp only [← e1]
 clear e1
 generalize lpL (Y.ctx (lim' Y)) 138 = lp
 generalize lim' Y = call
 kernel_rfl
theorem zas.p3 (y0:Int) (y1:Bool) (y2:Int) (y3:BAy) (y4 y5:LLD) : zas.P3 y0 y1 y2 y3 y4 y5 = (zas.L4 y0 0 y1 y2 y3 y4 y5).bind zas.A4 := by
 delta zas.P3 zas.L4 zas.A4 XX
 refine zbb [2, 3] 3 (by kernel_rfl) fun J e1 => ?_
 have eA := evA_J [2, 3] 4 (by kernel_rfl) e1
 try simp only [eA]
 clear eA
 try simp only [← e1]
 clear e1
 show _ = _
 generalize lpL (Y.ctx (lim' Y)) 138 = lp
 generalize lim' Y = call
 kernel_rfl
theorem zas.s4 (y0 y1:Int) (y2:Bool) (y3:Int) (y4:BAy) (y5 y6:LLD) : zas.L4 y0 y1 y2 y3 y4 y5 y6 = bif decide (y1 < (↑y6.length : Int)) then bif decide (0 ≤ y1) && decide (y1 < (↑y6.length : Int)) && decide ((y6.getD y1.toNat []).length = 5) then bif zau [.bool, .int .i64, .str, .sl, .sl] (y6.getD y1.toNat []) 0 && decide (5 ≤ (y6.getD y1.toNat []).length) then (zas [.g [.v (.bool ((y6.getD y1.toNat []).getD 0 .h).bool), .v (.int .i64 ((y6.getD y1.toNat []).getD 1 .h).int), .v (.string ((y6.getD y1.toNat []).getD 2 .h).str), .s ((y6.getD y1.toNat []).getD 3 .h).es, .s ((y6.getD y1.toNat []).getD 4 .h).es], .one (.v (.int .i64 (IntKind.i64.wrap (y0 + 1))))] []).bind fun val => bif zag [.bool] val.1 && true then bif !(val.1.getD 0 .d).bool then some (zas.q4 false) else zas.L4 y0 (IntKind.i64.wrap (y1 + 1)) y2 y3 y4 y5 y6 else none else none else none else some zas.x4 := by
 refine (zbf (Y := Y) (c := lim' Y) (fn := 138) (rid := 4) (b := zar 4 zas.c) (by kernel_rfl) _).trans ?_
 delta zas.L4 zas zas.q4 zas.x4 XX
 generalize lpL (Y.ctx (lim' Y)) 138 = lp
 generalize lim' Y = call
 kernel_rfl
theorem zas.a4q4 (y0:Bool) : zas.A4 (zas.q4 y0) = some ⟨[.v (.bool y0)], []⟩ := by
 delta zas.A4 zas.q4 XX
 refine zbd [2, 3] 4 (by kernel_rfl) fun J e1 => ?_
 have eA := evA_J [2, 3] 4 (by kernel_rfl) e1
 try simp only [eA]
 clear eA
 try simp only [← e1]
 clear e1
 show _ = _
 generalize lpL (Y.ctx (lim' Y)) 138 = lp
 generalize lim' Y = call
 kernel_rfl
theorem zas.a4x4 : zas.A4 zas.x4 = some ⟨[.v (.bool true)], []⟩ := by
 delta zas.A4 zas.x4 XX
 refine zbd [2, 3] 4 (by kernel_rfl) fun J e1 => ?_
 have eA := evA_J [2, 3] 4 (by kernel_rfl) e1
 try simp only [eA]
 clear eA
 try simp only [← e1]
 clear e1
 show _ = _
 generalize lpL (Y.ctx (lim' Y)) 138 = lp
 generalize lim' Y = call
 kernel_rfl
noncomputable def zaU.L3 (y0 y1:Int) (y2:Bool) (y3:Int) (y4:BAy) (y5 y6:LLD) : Option (Ex × St) := lpL XX 139 (zar 3 zaU.c) (mkG 0 24 [(1, .one (.p true 1 [] 0)), (3, .one (.v (.int .i64 y0))), (4, .one (.v (.int .i64 y1)))] [(1, some ⟨.box, [.v (.bool y2), .v (.int .i64 y3), .v (.string y4), .s y5, .s y6], [.deep, .deep, .deep, .sh, .sh]⟩)] GL)
noncomputable def zaU.A3 : Ex × St → Option Res := fun r => evA XX 139 (lpL XX 139) 3 zaU.c r.fst r.snd (outE XX 139 Tryz.f139)
noncomputable def zaU.x3 (y0:Int) : Ex × St := (Ex.exit 0, mkG 0 24 [(3, .one (.v (.int .i64 y0)))] [] GL)
theorem zaU.e (a0:Bool) (a1:Int) (a2:BAy) (a3 a4:LLD) : zaU [.g [.v (.bool a0), .v (.int .i64 a1), .v (.string a2), .s a3, .s a4]] [] = (zaU.L3 (↑a4.length : Int) 0 a0 a1 a2 a3 a4).bind zaU.A3 := by
 refine (zaU.run _ _ (by kernel_rfl)).trans ?_
 delta zaU zaU.L3 zaU.A3 XX
 generalize lpL (Y.ctx (lim' Y)) 139 = lp
 generalize lim' Y = call
 kernel_rfl
theorem zaU.s3 (y0 y1:Int) (y2:Bool) (y3:Int) (y4:BAy) (y5 y6:LLD) : zaU.L3 y0 y1 y2 y3 y4 y5 y6 = bif decide (y1 < (↑y6.length : Int)) then bif decide (0 ≤ y1) && decide (y1 < (↑y6.length : Int)) && decide ((y6.getD y1.toNat []).length = 5) then bif zau [.bool, .int .i64, .str, .sl, .sl] (y6.getD y1.toNat []) 0 && decide (5 ≤ (y6.getD y1.toNat []).length) then (zaU [.g [.v (.bool ((y6.getD y1.toNat []).getD 0 .h).bool), .v (.int .i64 ((y6.getD y1.toNat []).getD 1 .h).int), .v (.string ((y6.getD y1.toNat []).getD 2 .h).str), .s ((y6.getD y1.toNat []).getD 3 .h).es, .s ((y6.getD y1.toNat []).getD 4 .h).es]] []).bind fun val => bif zag [.int .i64] val.1 && true then zaU.L3 (IntKind.i64.wrap (y0 + (val.1.getD 0 .d).int)) (IntKind.i64.wrap (y1 + 1)) y2 y3 y4 y5 y6 else none else none else none else some (zaU.x3 y0) := by
 refine (zbf (Y := Y) (c := lim' Y) (fn := 139) (rid := 3) (b := zar 3 zaU.c) (by kernel_rfl) _).trans ?_
 delta zaU.L3 zaU zaU.x3 XX
 generalize lpL (Y.ctx (lim' Y)) 139 = lp
 generalize lim' Y = call
 kernel_rfl
theorem zaU.a3x3 (y0:Int) : zaU.A3 (zaU.x3 y0) = some ⟨[.v (.int .i64 y0)], []⟩ := by
 delta zaU.A3 zaU.x3 XX
 generalize lpL (Y.ctx (lim' Y)) 139 = lp
 generalize lim' Y = call
 kernel_rfl
theorem zct.e (a0:BAy) (a1:Bool) (a2:Int) (a3:BAy) (a4 a5:LLD) : zct [.one (.v (.string a0)), .g [.v (.bool a1), .v (.int .i64 a2), .v (.string a3), .s a4, .s a5]] [] = bif a1 then bif decide (4 + a0.size ≤ 70368744177664) then bif decide (((ByteArray.mk #[100, 105, 114, 32]) ++ a0).size + 1 ≤ 70368744177664) then (zcX [.one (.v (.int .i64 a2))] []).bind fun val => bif zag [.str] val.1 && true then bif decide (((ByteArray.mk #[100, 105, 114, 32]) ++ a0 ++ (ByteArray.mk #[32])).size + (val.1.getD 0 .d).str.size ≤ 70368744177664) then bif decide (((ByteArray.mk #[100, 105, 114, 32]) ++ a0 ++ (ByteArray.mk #[32]) ++ (val.1.getD 0 .d).str).size + 1 ≤ 70368744177664) then some ⟨[.v (.string ((ByteArray.mk #[100, 105, 114, 32]) ++ a0 ++ (ByteArray.mk #[32]) ++ (val.1.getD 0 .d).str ++ (ByteArray.mk #[10])))], []⟩ else none else none else none else none else none else bif decide (5 + a0.size ≤ 70368744177664) then bif decide (((ByteArray.mk #[102, 105, 108, 101, 32]) ++ a0).size + 1 ≤ 70368744177664) then (zcX [.one (.v (.int .i64 a2))] []).bind fun val => bif zag [.str] val.1 && true then bif decide (((ByteArray.mk #[102, 105, 108, 101, 32]) ++ a0 ++ (ByteArray.mk #[32])).size + (val.1.getD 0 .d).str.size ≤ 70368744177664) then bif decide (((ByteArray.mk #[102, 105, 108, 101, 32]) ++ a0 ++ (ByteArray.mk #[32]) ++ (val.1.getD 0 .d).str).size + 1 ≤ 70368744177664) then (zbl [.one (.v (.string a3))] []).bind fun val_1 => bif zag [.str] val_1.1 && true then bif decide (((ByteArray.mk #[102, 105, 108, 101, 32]) ++ a0 ++ (ByteArray.mk #[32]) ++ (val.1.getD 0 .d).str ++ (ByteArray.mk #[32])).size + (val_1.1.getD 0 .d).str.size ≤ 70368744177664) then bif decide (((ByteArray.mk #[102, 105, 108, 101, 32]) ++ a0 ++ (ByteArray.mk #[32]) ++ (val.1.getD 0 .d).str ++ (ByteArray.mk #[32]) ++ (val_1.1.getD 0 .d).str).size + 1 ≤ 70368744177664) then some ⟨[.v (.string ((ByteArray.mk #[102, 105, 108, 101, 32]) ++ a0 ++ (ByteArray.mk #[32]) ++ (val.1.getD 0 .d).str ++ (ByteArray.mk #[32]) ++ (val_1.1.getD 0 .d).str ++ (ByteArray.mk #[10])))], []⟩ else none else none else none else none else none else none else none else none := by
 refine (zct.run _ _ (by kernel_rfl)).trans ?_
 delta zct zcX zbl XX
 generalize lpL (Y.ctx (lim' Y)) 149 = lp
 generalize lim' Y = call
 kernel_rfl
theorem zbQ.e (a0:LLD) : zbQ [.one (.s a0)] [] = bif (↑a0.length : Int) == 0 then some ⟨[.v (.string (ByteArray.mk #[47]))], []⟩ else (strings_Join [.one (.s a0), .one (.v (.string (ByteArray.mk #[47])))] []).bind fun val => bif zag [.str] val.1 && true then bif decide (1 + (val.1.getD 0 .d).str.size ≤ 70368744177664) then some ⟨[.v (.string ((ByteArray.mk #[47]) ++ (val.1.getD 0 .d).str))], []⟩ else none else none := by
 refine (zbQ.run _ _ (by kernel_rfl)).trans ?_
 delta zbQ strings_Join XX
 generalize lpL (Y.ctx (lim' Y)) 157 = lp
 generalize lim' Y = call
 kernel_rfl
theorem zcO.e (a0:Int) : zcO [.one (.v (.int .i64 a0))] [] = (zb3 [.one (.v (.int .i64 a0)), .one (.v (.int .i64 0)), .one (.v (.int .i64 7))] []).bind fun val => bif zag [.bool] val.1 && true then some ⟨[.v (.bool (val.1.getD 0 .d).bool)], []⟩ else none := by
 refine (zcO.run _ _ (by kernel_rfl)).trans ?_
 delta zcO zb3 XX
 generalize lpL (Y.ctx (lim' Y)) 158 = lp
 generalize lim' Y = call
 kernel_rfl
theorem zbD.e (a0:Bool) (a1:Int) (a2:BAy) (a3 a4 a5:LLD) : zbD [.g [.v (.bool a0), .v (.int .i64 a1), .v (.string a2), .s a3, .s a4], .one (.s a5)] [] = bif a0 then (zbQ [.one (.s a5)] []).bind fun val => bif zag [.str] val.1 && true then bif decide (4 + (val.1.getD 0 .d).str.size ≤ 70368744177664) then bif decide (((ByteArray.mk #[100, 105, 114, 32]) ++ (val.1.getD 0 .d).str).size + 1 ≤ 70368744177664) then (strconv_Itoa [.one (.v (.int .i64 a1))] []).bind fun val_1 => bif zag [.str] val_1.1 && true then bif decide (((ByteArray.mk #[100, 105, 114, 32]) ++ (val.1.getD 0 .d).str ++ (ByteArray.mk #[32])).size + (val_1.1.getD 0 .d).str.size ≤ 70368744177664) then bif decide (((ByteArray.mk #[100, 105, 114, 32]) ++ (val.1.getD 0 .d).str ++ (ByteArray.mk #[32]) ++ (val_1.1.getD 0 .d).str).size + 1 ≤ 70368744177664) then some ⟨[.v (.string ((ByteArray.mk #[100, 105, 114, 32]) ++ (val.1.getD 0 .d).str ++ (ByteArray.mk #[32]) ++ (val_1.1.getD 0 .d).str ++ (ByteArray.mk #[10])))], []⟩ else none else none else none else none else none else none else (zbQ [.one (.s a5)] []).bind fun val => bif zag [.str] val.1 && true then bif decide (5 + (val.1.getD 0 .d).str.size ≤ 70368744177664) then bif decide (((ByteArray.mk #[102, 105, 108, 101, 32]) ++ (val.1.getD 0 .d).str).size + 1 ≤ 70368744177664) then (strconv_Itoa [.one (.v (.int .i64 a1))] []).bind fun val_1 => bif zag [.str] val_1.1 && true then bif decide (((ByteArray.mk #[102, 105, 108, 101, 32]) ++ (val.1.getD 0 .d).str ++ (ByteArray.mk #[32])).size + (val_1.1.getD 0 .d).str.size ≤ 70368744177664) then bif decide (((ByteArray.mk #[102, 105, 108, 101, 32]) ++ (val.1.getD 0 .d).str ++ (ByteArray.mk #[32]) ++ (val_1.1.getD 0 .d).str).size + 1 ≤ 70368744177664) then (zbV [.one (.v (.string a2))] []).bind fun val_2 => bif zag [.str] val_2.1 && true then bif decide (((ByteArray.mk #[102, 105, 108, 101, 32]) ++ (val.1.getD 0 .d).str ++ (ByteArray.mk #[32]) ++ (val_1.1.getD 0 .d).str ++ (ByteArray.mk #[32])).size + (val_2.1.getD 0 .d).str.size ≤ 70368744177664) then bif decide (((ByteArray.mk #[102, 105, 108, 101, 32]) ++ (val.1.getD 0 .d).str ++ (ByteArray.mk #[32]) ++ (val_1.1.getD 0 .d).str ++ (ByteArray.mk #[32]) ++ (val_2.1.getD 0 .d).str).size + 1 ≤ 70368744177664) then some ⟨[.v (.string ((ByteArray.mk #[102, 105, 108, 101, 32]) ++ (val.1.getD 0 .d).str ++ (ByteArray.mk #[32]) ++ (val_1.1.getD 0 .d).str ++ (ByteArray.mk #[32]) ++ (val_2.1.getD 0 .d).str ++ (ByteArray.mk #[10])))], []⟩ else none else none else none else none else none else none else none else none else none := by
 refine (zbD.run _ _ (by kernel_rfl)).trans ?_
 delta zbD zbQ strconv_Itoa zbV XX
 generalize lpL (Y.ctx (lim' Y)) 160 = lp
 generalize lim' Y = call
 kernel_rfl
noncomputable def za9.L3 (y0 y1:BAy) (y2:Int) (y3:Bool) (y4:Int) (y5:BAy) (y6 y7:LLD) : Option (Ex × St) := lpL XX 164 (zar 3 za9.c) (mkG 0 41 [(0, .one (.v (.string y0))), (3, .one (.p true 3 [] 0)), (5, .one (.v (.string y1))), (6, .one (.v (.int .i64 y2)))] [(3, some ⟨.box, [.v (.bool y3), .v (.int .i64 y4), .v (.string y5), .s y6, .s y7], [.deep, .deep, .deep, .sh, .sh]⟩)] GL)
noncomputable def za9.A3 : Ex × St → Option Res := fun r => evA XX 164 (lpL XX 164) 3 za9.c r.fst r.snd (outE XX 164 Tryz.f164)
noncomputable def za9.x3 (y0:BAy) : Ex × St := (Ex.exit 0, mkG 0 41 [(5, .one (.v (.string y0)))] [] GL)
theorem za9.e (a0:BAy) (a1:Bool) (a2:Int) (a3:BAy) (a4 a5:LLD) : za9 [.one (.v (.string a0)), .g [.v (.bool a1), .v (.int .i64 a2), .v (.string a3), .s a4, .s a5]] [] = (za9.L3 a0 (ByteArray.mk #[]) 0 a1 a2 a3 a4 a5).bind za9.A3 := by
 refine (za9.run _ _ (by kernel_rfl)).trans ?_
 delta za9 za9.L3 za9.A3 XX
 generalize lpL (Y.ctx (lim' Y)) 164 = lp
 generalize lim' Y = call
 kernel_rfl
theorem za9.s3 (y0 y1:BAy) (y2:Int) (y3:Bool) (y4:Int) (y5:BAy) (y6 y7:LLD) : za9.L3 y0 y1 y2 y3 y4 y5 y6 y7 = bif decide (y2 < (↑y6.length : Int)) then bif decide (y0.size + 1 ≤ 70368744177664) then bif decide (0 ≤ y2) && decide (y2 < (↑y6.length : Int)) && decide ((y6.getD y2.toNat []).length = 1) then bif zau [.str] (y6.getD y2.toNat []) 0 && decide (1 ≤ (y6.getD y2.toNat []).length) then bif decide ((y0 ++ (ByteArray.mk #[47])).size + ((y6.getD y2.toNat []).getD 0 .h).str.size ≤ 70368744177664) then bif decide (0 ≤ y2) && decide (y2 < (↑y7.length : Int)) && decide ((y7.getD y2.toNat []).length = 5) then bif zau [.bool, .int .i64, .str, .sl, .sl] (y7.getD y2.toNat []) 0 && decide (5 ≤ (y7.getD y2.toNat []).length) then (zct [.one (.v (.string (y0 ++ (ByteArray.mk #[47]) ++ ((y6.getD y2.toNat []).getD 0 .h).str))), .g [.v (.bool ((y7.getD y2.toNat []).getD 0 .h).bool), .v (.int .i64 ((y7.getD y2.toNat []).getD 1 .h).int), .v (.string ((y7.getD y2.toNat []).getD 2 .h).str), .s ((y7.getD y2.toNat []).getD 3 .h).es, .s ((y7.getD y2.toNat []).getD 4 .h).es]] []).bind fun val => bif zag [.str] val.1 && true then bif decide (y1.size + (val.1.getD 0 .d).str.size ≤ 70368744177664) then bif decide (0 ≤ y2) && decide (y2 < (↑y7.length : Int)) && decide ((y7.getD y2.toNat []).length = 5) then bif zau [.bool, .int .i64, .str, .sl, .sl] (y7.getD y2.toNat []) 0 && decide (5 ≤ (y7.getD y2.toNat []).length) then (za9 [.one (.v (.string (y0 ++ (ByteArray.mk #[47]) ++ ((y6.getD y2.toNat []).getD 0 .h).str))), .g [.v (.bool ((y7.getD y2.toNat []).getD 0 .h).bool), .v (.int .i64 ((y7.getD y2.toNat []).getD 1 .h).int), .v (.string ((y7.getD y2.toNat []).getD 2 .h).str), .s ((y7.getD y2.toNat []).getD 3 .h).es, .s ((y7.getD y2.toNat []).getD 4 .h).es]] []).bind fun val_1 => bif zag [.str] val_1.1 && true then bif decide ((y1 ++ (val.1.getD 0 .d).str).size + (val_1.1.getD 0 .d).str.size ≤ 70368744177664) then za9.L3 y0 (y1 ++ (val.1.getD 0 .d).str ++ (val_1.1.getD 0 .d).str) (IntKind.i64.wrap (y2 + 1)) y3 y4 y5 y6 y7 else none else none else none else none else none else none else none else none else none else none else none else none else some (za9.x3 y1) := by
 refine (zbf (Y := Y) (c := lim' Y) (fn := 164) (rid := 3) (b := zar 3 za9.c) (by kernel_rfl) _).trans ?_
 delta za9.L3 zct za9 za9.x3 XX
 generalize lpL (Y.ctx (lim' Y)) 164 = lp
 generalize lim' Y = call
 kernel_rfl
theorem za9.a3x3 (y0:BAy) : za9.A3 (za9.x3 y0) = some ⟨[.v (.string y0)], []⟩ := by
 delta za9.A3 za9.x3 XX
 generalize lpL (Y.ctx (lim' Y)) 164 = lp
 generalize lim' Y = call
 kernel_rfl
theorem zbE.e (a0:Bool) (a1:Int) (a2:BAy) (a3 a4:LLD) : zbE [.g [.v (.bool a0), .v (.int .i64 a1), .v (.string a2), .s a3, .s a4]] [] = (zaV [.g [.v (.bool a0), .v (.int .i64 a1), .v (.string a2), .s a3, .s a4], .one (.s []), .f zaS.id [.bx [A0.p true 0 [] 0] 0]] [⟨.bld 170 5, [.v (.string (ByteArray.mk #[])), .h], [.deep, .deep]⟩]).bind fun val => bif zag [] val.1 && za4 [⟨⟨.bld 170 5, [.v (.string (ByteArray.mk #[])), .h], [.deep, .deep]⟩, .box 5⟩] val.2 then (zbg [.one (.p true 0 [] 0)] [⟨.bld 170 5, [.v (.string ((val.2.getD 0 ⟨.ro, [], []⟩).2.getD 0 .h).str), .h], [.deep, .deep]⟩]).bind fun val_1 => bif zag [.str] val_1.1 && za4 [⟨⟨.bld 170 5, [.v (.string ((val.2.getD 0 ⟨.ro, [], []⟩).2.getD 0 .h).str), .h], [.deep, .deep]⟩, .box 5⟩] val_1.2 then some ⟨[.v (.string (val_1.1.getD 0 .d).str)], []⟩ else none else none := by
 refine (zbE.run _ _ (by kernel_rfl)).trans ?_
 delta zbE zaV zbg zaS.id XX
 generalize lpL (Y.ctx (lim' Y)) 165 = lp
 generalize lim' Y = call
 kernel_rfl
theorem zcP.e (a0:LLD) (a1:BAy) : zcP [.one (.s a0), .one (.v (.string a1))] [] = bif zaB 1 a0 && zaG false a0 && true && decide ((0 + a0.length) * 17 ≤ 70368744177664) then bif zaB 1 a0 && true && true && true && decide ((a0.length + 1) * 17 ≤ 70368744177664) then some ⟨[.s (a0 ++ [[D.v (.string a1)]])], []⟩ else none else none := by
 refine (zcP.run _ _ (by kernel_rfl)).trans ?_
 delta zcP XX
 generalize lpL (Y.ctx (lim' Y)) 173 = lp
 generalize lim' Y = call
 kernel_rfl
theorem zdG.e (a0:Bool) (a1:Int) (a2:BAy) (a3 a4:LLD) : zdG [.g [.v (.bool a0), .v (.int .i64 a1), .v (.string a2), .s a3, .s a4]] [] = (zct [.one (.v (.string (ByteArray.mk #[47]))), .g [.v (.bool a0), .v (.int .i64 a1), .v (.string a2), .s a3, .s a4]] []).bind fun val => bif zag [.str] val.1 && true then (za9 [.one (.v (.string (ByteArray.mk #[]))), .g [.v (.bool a0), .v (.int .i64 a1), .v (.string a2), .s a3, .s a4]] []).bind fun val_1 => bif zag [.str] val_1.1 && true then bif decide ((val.1.getD 0 .d).str.size + (val_1.1.getD 0 .d).str.size ≤ 70368744177664) then (zbq [.one (.v (.string ((val.1.getD 0 .d).str ++ (val_1.1.getD 0 .d).str)))] []).bind fun val => bif zag [.int .i64] val.1 && true then some ⟨[.v (.int .i64 (val.1.getD 0 .d).int)], []⟩ else none else none else none else none := by
 refine (zdG.run _ _ (by kernel_rfl)).trans ?_
 delta zdG zct za9 zbq XX
 generalize lpL (Y.ctx (lim' Y)) 179 = lp
 generalize lim' Y = call
 kernel_rfl
noncomputable def zae.L2 (y0:LLD) (y1:BAy) (y2 y3:Int) : Option (Ex × St) := lpL XX 180 (zar 2 zae.c) (mkG 0 19 [(0, .one (.s y0)), (1, .one (.v (.string y1))), (7, .one (.v (.int .i64 y2))), (8, .one (.v (.int .i64 y3)))] [] GL)
noncomputable def zae.A2 : Ex × St → Option Res := fun r => evA XX 180 (lpL XX 180) 2 zae.c r.fst r.snd (outE XX 180 Tryz.f180)
noncomputable def zae.q2 (y0:Int) : Ex × St := (Ex.ret, mkG 0 19 [(4, .one (.v (.int .i64 y0)))] [] GL)
noncomputable def zae.x2 : Ex × St := (Ex.exit 0, mkG 0 19 [] [] GL)
theorem zae.e (a0:LLD) (a1:BAy) : zae [.one (.s a0), .one (.v (.string a1))] [] = (zae.L2 a0 a1 (↑a0.length : Int) 0).bind zae.A2 := by
 refine (zae.run _ _ (by kernel_rfl)).trans ?_
 delta zae zae.L2 zae.A2 XX
 generalize lpL (Y.ctx (lim' Y)) 180 = lp
 generalize lim' Y = call
 kernel_rfl
theorem zae.s2 (y0:LLD) (y1:BAy) (y2 y3:Int) : zae.L2 y0 y1 y2 y3 = bif decide (y3 < y2) then bif decide (0 ≤ y3) && decide (y3 < (↑y0.length : Int)) && decide ((y0.getD y3.toNat []).length = 1) then bif zau [.str] (y0.getD y3.toNat []) 0 && decide (1 ≤ (y0.getD y3.toNat []).length) then bif y1.toList == ((y0.getD y3.toNat []).getD 0 .h).str.toList then some (zae.q2 y3) else zae.L2 y0 y1 y2 (IntKind.i64.wrap (y3 + 1)) else none else none else some zae.x2 := by
 refine (zbf (Y := Y) (c := lim' Y) (fn := 180) (rid := 2) (b := zar 2 zae.c) (by kernel_rfl) _).trans ?_
 delta zae.L2 zae.q2 zae.x2 XX
 generalize lpL (Y.ctx (lim' Y)) 180 = lp
 generalize lim' Y = call
 kernel_rfl
theorem zae.a2q2 (y0:Int) : zae.A2 (zae.q2 y0) = some ⟨[.v (.int .i64 y0)], []⟩ := by
 delta zae.A2 zae.q2 XX
 generalize lpL (Y.ctx (lim' Y)) 180 = lp
 generalize lim' Y = call
 kernel_rfl
theorem zae.a2x2 : zae.A2 zae.x2 = some ⟨[.v (.int .i64 (-1))], []⟩ := by
 delta zae.A2 zae.x2 XX
 generalize lpL (Y.ctx (lim' Y)) 180 = lp
 generalize lim' Y = call
 kernel_rfl
theorem zba.e (a0 a1:BAy) : zba [.one (.v (.string a0)), .one (.v (.string a1))] [] = (za1 [.one (.v (.string a0))] []).bind fun val => bif zag [.bool] val.1 && true then bif (val.1.getD 0 .d).bool then (za1 [.one (.v (.string a1))] []).bind fun val => bif zag [.bool] val.1 && true then bif !(val.1.getD 0 .d).bool then some ⟨[.v (.bool true)], []⟩ else some ⟨[.v (.bool (Op.bytesLess a0.toList a1.toList))], []⟩ else none else some ⟨[.v (.bool (Op.bytesLess a0.toList a1.toList))], []⟩ else none := by
 refine (zba.run _ _ (by kernel_rfl)).trans ?_
 delta zba za1 XX
 generalize lpL (Y.ctx (lim' Y)) 181 = lp
 generalize lim' Y = call
 kernel_rfl
theorem zaM.e (a0:BAy) : zaM [.one (.v (.string a0))] [] = some ⟨[.v (.bool !a0.toList == a0.toList)], []⟩ := by
 refine (zaM.run _ _ (by kernel_rfl)).trans ?_
 delta zaM XX
 generalize lpL (Y.ctx (lim' Y)) 182 = lp
 generalize lim' Y = call
 kernel_rfl
noncomputable def zaK.L2 (y0:BAy) (y1 y2:Int) : Option (Ex × St) := lpL XX 187 (zar 2 zaK.c) (mkG 0 35 [(0, .one (.v (.string y0))), (5, .one (.v (.int .i64 y1))), (6, .one (.v (.int .i64 y2)))] [] GL)
noncomputable def zaK.A2 : Ex × St → Option Res := fun r => evA XX 187 (lpL XX 187) 2 zaK.c r.fst r.snd (outE XX 187 Tryz.f187)
noncomputable def zaK.P5 (y0:BAy) (y1 y2:Int) (y3:Bool) : Option (Ex × St) := evB XX 187 (lpL XX 187) 5 (zar 2 zaK.c) (mkG 0 35 [(0, .one (.v (.string y0))), (5, .one (.v (.int .i64 y1))), (6, .one (.v (.int .i64 y2))), (30, .one (.v (.bool y3)))] [] GL) (backL (lpL XX 187) (zar 2 zaK.c) (XX.live 187 2))
noncomputable def zaK.x2 (y0:BAy) : Ex × St := (Ex.exit 0, mkG 0 35 [(0, .one (.v (.string y0)))] [] GL)
noncomputable def zaK.q2 (y0:BAy) (y1:Bool) : Ex × St := (Ex.ret, mkG 0 35 [(0, .one (.v (.string y0))), (2, .one (.v (.bool y1)))] [] GL)
theorem zaK.e (a0:BAy) : zaK [.one (.v (.string a0))] [] = (zaK.L2 a0 (↑a0.size : Int) 0).bind zaK.A2 := by
 refine (zaK.run _ _ (by kernel_rfl)).trans ?_
 delta zaK zaK.L2 zaK.A2 XX
 generalize lpL (Y.ctx (lim' Y)) 187 = lp
 generalize lim' Y = call
 kernel_rfl
theorem zaK.s2 (y0:BAy) (y1 y2:Int) : zaK.L2 y0 y1 y2 = bif decide (y2 < y1) then bif decide (0 ≤ y2) && decide (y2 < (↑y0.size : Int)) then bif decide (zbc y0 y2.toNat < 97) then bif decide (0 ≤ y2) && decide (y2 < (↑y0.size : Int)) then bif decide (zbc y0 y2.toNat < 48) then zaK.P5 y0 y1 y2 true else bif decide (0 ≤ y2) && decide (y2 < (↑y0.size : Int)) then zaK.P5 y0 y1 y2 (decide (zbc y0 y2.toNat > 57)) else none else none else bif decide (0 ≤ y2) && decide (y2 < (↑y0.size : Int)) then bif decide (zbc y0 y2.toNat > 122) then bif decide (0 ≤ y2) && decide (y2 < (↑y0.size : Int)) then bif decide (zbc y0 y2.toNat < 48) then zaK.P5 y0 y1 y2 true else bif decide (0 ≤ y2) && decide (y2 < (↑y0.size : Int)) then zaK.P5 y0 y1 y2 (decide (zbc y0 y2.toNat > 57)) else none else none else zaK.P5 y0 y1 y2 false else none else none else some (zaK.x2 y0) := by
 refine (zbf (Y := Y) (c := lim' Y) (fn := 187) (rid := 2) (b := zar 2 zaK.c) (by kernel_rfl) _).trans ?_
 delta zaK.L2 zaK.P5 zaK.x2 XX
 refine zbp [5] (by kernel_rfl) fun J e1 => ?_
 try simp only [← e1]
 clear e1
 generalize lpL (Y.ctx (lim' Y)) 187 = lp
 generalize lim' Y = call
 kernel_rfl
theorem zaK.p5 (y0:BAy) (y1 y2:Int) (y3:Bool) : zaK.P5 y0 y1 y2 y3 = bif y3 then some (zaK.q2 y0 false) else zaK.L2 y0 y1 (IntKind.i64.wrap (y2 + 1)) := by
 delta zaK.P5 zaK.q2 zaK.L2 XX
 refine zbb [5] 5 (by kernel_rfl) fun J e1 => ?_
 try simp only [← e1]
 clear e1
 generalize lpL (Y.ctx (lim' Y)) 187 = lp
 generalize lim' Y = call
 kernel_rfl
theorem zaK.a2x2 (y0:BAy) : zaK.A2 (zaK.x2 y0) = (zb3 [.one (.v (.int .i64 (↑y0.size : Int))), .one (.v (.int .i64 1)), .one (.v (.int .i64 5))] []).bind fun val => bif zag [.bool] val.1 && true then some ⟨[.v (.bool (val.1.getD 0 .d).bool)], []⟩ else none := by
 delta zaK.A2 zaK.x2 zb3 XX
 generalize lpL (Y.ctx (lim' Y)) 187 = lp
 generalize lim' Y = call
 kernel_rfl
theorem zaK.a2q2 (y0:BAy) (y1:Bool) : zaK.A2 (zaK.q2 y0 y1) = some ⟨[.v (.bool y1)], []⟩ := by
 delta zaK.A2 zaK.q2 XX
 generalize lpL (Y.ctx (lim' Y)) 187 = lp
 generalize lim' Y = call
 kernel_rfl
theorem zde.e (a0:LLD) (a1:BAy) : zde [.one (.s a0), .one (.v (.string a1))] [] = bif zaB 1 a0 && zaG false a0 && true && decide ((0 + a0.length) * 17 ≤ 70368744177664) then bif zaB 1 a0 && true && true && true && decide ((a0.length + 1) * 17 ≤ 70368744177664) then some ⟨[.o .deep (a0 ++ [[D.v (.string a1)]])], []⟩ else none else none := by
 refine (zde.run _ _ (by kernel_rfl)).trans ?_
 delta zde XX
 generalize lpL (Y.ctx (lim' Y)) 188 = lp
 generalize lim' Y = call
 kernel_rfl
noncomputable def zam.P2 (y0 y1:Bool) (y2:Int) (y3:BAy) (y4 y5:LLD) : Option Res := evB XX 189 (lpL XX 189) 2 zam.c (mkG 0 65 [(1, .one (.p true 1 [] 0)), (16, .one (.v (.bool y0)))] [(1, some ⟨.box, [.v (.bool y1), .v (.int .i64 y2), .v (.string y3), .s y4, .s y5], [.deep, .deep, .deep, .sh, .sh]⟩)] GL) (outE XX 189 Tryz.f189)
noncomputable def zam.P3 (y0:Bool) (y1:Int) (y2:BAy) (y3 y4:LLD) : Option Res := evB XX 189 (lpL XX 189) 3 zam.c (mkG 0 65 [(1, .one (.p true 1 [] 0))] [(1, some ⟨.box, [.v (.bool y0), .v (.int .i64 y1), .v (.string y2), .s y3, .s y4], [.deep, .deep, .deep, .sh, .sh]⟩)] GL) (outE XX 189 Tryz.f189)
noncomputable def zam.L6 (y0:Int) (y1:Bool) (y2:Int) (y3:BAy) (y4 y5:LLD) : Option (Ex × St) := lpL XX 189 (zar 6 zam.c) (mkG 0 65 [(1, .one (.p true 1 [] 0)), (3, .one (.v (.int .i64 y0)))] [(1, some ⟨.box, [.v (.bool y1), .v (.int .i64 y2), .v (.string y3), .s y4, .s y5], [.deep, .deep, .deep, .sh, .sh]⟩)] GL)
noncomputable def zam.A6 : Ex × St → Option Res := fun r => evA XX 189 (lpL XX 189) 6 zam.c r.fst r.snd (outE XX 189 Tryz.f189)
noncomputable def zam.P9 (y0:Int) (y1 y2:Bool) (y3:Int) (y4:BAy) (y5 y6:LLD) : Option (Ex × St) := evB XX 189 (lpL XX 189) 9 (zar 6 zam.c) (mkG 0 65 [(1, .one (.p true 1 [] 0)), (3, .one (.v (.int .i64 y0))), (61, .one (.v (.bool y1)))] [(1, some ⟨.box, [.v (.bool y2), .v (.int .i64 y3), .v (.string y4), .s y5, .s y6], [.deep, .deep, .deep, .sh, .sh]⟩)] GL) (backL (lpL XX 189) (zar 6 zam.c) (XX.live 189 6))
noncomputable def zam.x6 (y0:Bool) (y1:Int) (y2:BAy) (y3 y4:LLD) : Ex × St := (Ex.exit 0, mkG 0 65 [(1, .one (.p true 1 [] 0))] [(1, some ⟨.box, [.v (.bool y0), .v (.int .i64 y1), .v (.string y2), .s y3, .s y4], [.deep, .deep, .deep, .sh, .sh]⟩)] GL)
noncomputable def zam.q6 (y0 y1:Bool) (y2:Int) (y3:BAy) (y4 y5:LLD) : Ex × St := (Ex.ret, mkG 0 65 [(1, .one (.p true 1 [] 0)), (2, .one (.v (.bool y0)))] [(1, some ⟨.box, [.v (.bool y1), .v (.int .i64 y2), .v (.string y3), .s y4, .s y5], [.deep, .deep, .deep, .sh, .sh]⟩)] GL)
theorem zam.e (a0:Bool) (a1:Int) (a2:BAy) (a3 a4:LLD) : zam [.g [.v (.bool a0), .v (.int .i64 a1), .v (.string a2), .s a3, .s a4]] [] = (sl1In [.one (.v (.int .i64 a1)), .one (.v (.int .i64 0)), .one (.v (.int .i64 7))] []).bind fun val => bif zag [.bool] val.1 && true then bif !(val.1.getD 0 .d).bool then zam.P2 true a0 a1 a2 a3 a4 else zam.P2 ((↑a3.length : Int) != (↑a4.length : Int)) a0 a1 a2 a3 a4 else none := by
 refine (zam.run _ _ (by kernel_rfl)).trans ?_
 delta zam sl1In zam.P2 XX
 refine zbp [2, 3] (by kernel_rfl) fun J e1 => ?_
 try simp only [← e1]
 clear e1
 generalize lpL (Y.ctx (lim' Y)) 189 = lp
 generalize lim' Y = call
 kernel_rfl
theorem zam.p2 (y0 y1:Bool) (y2:Int) (y3:BAy) (y4 y5:LLD) : zam.P2 y0 y1 y2 y3 y4 y5 = bif y0 then some ⟨[.v (.bool false)], []⟩ else zam.P3 y1 y2 y3 y4 y5 := by
 delta zam.P2 zam.P3 XX
 refine zbb [2, 3] 2 (by kernel_rfl) fun J e1 => ?_
 try simp only [← e1]
 clear e1
 generalize lpL (Y.ctx (lim' Y)) 189 = lp
 generalize lim' Y = call
 kernel_rfl
theorem zam.p3 (y0:Bool) (y1:Int) (y2:BAy) (y3 y4:LLD) : zam.P3 y0 y1 y2 y3 y4 = bif !y0 then bif decide ((↑y2.size : Int) ≤ 24) then some ⟨[.v (.bool ((↑y3.length : Int) == 0))], []⟩ else some ⟨[.v (.bool false)], []⟩ else (zam.L6 0 y0 y1 y2 y3 y4).bind zam.A6 := by
 delta zam.P3 zam.L6 zam.A6 XX
 refine zbb [2, 3] 3 (by kernel_rfl) fun J e1 => ?_
 have eA := evA_J [2, 3] 6 (by kernel_rfl) e1
 try simp only [eA]
 clear eA
 try simp only [← e1]
 clear e1
 show _ = _
 generalize lpL (Y.ctx (lim' Y)) 189 = lp
 generalize lim' Y = call
 kernel_rfl
theorem zam.s6 (y0:Int) (y1:Bool) (y2:Int) (y3:BAy) (y4 y5:LLD) : zam.L6 y0 y1 y2 y3 y4 y5 = bif decide (y0 < (↑y4.length : Int)) then bif decide (0 ≤ y0) && decide (y0 < (↑y4.length : Int)) && decide ((y4.getD y0.toNat []).length = 1) then bif zau [.str] (y4.getD y0.toNat []) 0 && decide (1 ≤ (y4.getD y0.toNat []).length) then (zan [.one (.v (.string ((y4.getD y0.toNat []).getD 0 .h).str))] []).bind fun val => bif zag [.bool] val.1 && true then bif !(val.1.getD 0 .d).bool then zam.P9 y0 true y1 y2 y3 y4 y5 else bif decide (y0 > 0) then bif decide (0 ≤ IntKind.i64.wrap (y0 - 1)) && decide (IntKind.i64.wrap (y0 - 1) < (↑y4.length : Int)) && decide ((y4.getD (IntKind.i64.wrap (y0 - 1)).toNat []).length = 1) then bif zau [.str] (y4.getD (IntKind.i64.wrap (y0 - 1)).toNat []) 0 && decide (1 ≤ (y4.getD (IntKind.i64.wrap (y0 - 1)).toNat []).length) then bif decide (0 ≤ y0) && decide (y0 < (↑y4.length : Int)) && decide ((y4.getD y0.toNat []).length = 1) then bif zau [.str] (y4.getD y0.toNat []) 0 && decide (1 ≤ (y4.getD y0.toNat []).length) then zam.P9 y0 (!Op.bytesLess ((y4.getD (IntKind.i64.wrap (y0 - 1)).toNat []).getD 0 .h).str.toList ((y4.getD y0.toNat []).getD 0 .h).str.toList) y1 y2 y3 y4 y5 else none else none else none else none else zam.P9 y0 false y1 y2 y3 y4 y5 else none else none else none else some (zam.x6 y1 y2 y3 y4 y5) := by
 refine (zbf (Y := Y) (c := lim' Y) (fn := 189) (rid := 6) (b := zar 6 zam.c) (by kernel_rfl) _).trans ?_
 delta zam.L6 zan zam.P9 zam.x6 XX
 refine zbp [9] (by kernel_rfl) fun J e1 => ?_
 try simp only [← e1]
 clear e1
 generalize lpL (Y.ctx (lim' Y)) 189 = lp
 generalize lim' Y = call
 kernel_rfl
theorem zam.p9 (y0:Int) (y1 y2:Bool) (y3:Int) (y4:BAy) (y5 y6:LLD) : zam.P9 y0 y1 y2 y3 y4 y5 y6 = bif y1 then some (zam.q6 false y2 y3 y4 y5 y6) else zam.L6 (IntKind.i64.wrap (y0 + 1)) y2 y3 y4 y5 y6 := by
 delta zam.P9 zam.q6 zam.L6 XX
 refine zbb [9] 9 (by kernel_rfl) fun J e1 => ?_
 try simp only [← e1]
 clear e1
 generalize lpL (Y.ctx (lim' Y)) 189 = lp
 generalize lim' Y = call
 kernel_rfl
theorem zam.a6x6 (y0:Bool) (y1:Int) (y2:BAy) (y3 y4:LLD) : zam.A6 (zam.x6 y0 y1 y2 y3 y4) = some ⟨[.v (.bool (y2.toList == []))], []⟩ := by
 delta zam.A6 zam.x6 XX
 refine zbd [2, 3] 6 (by kernel_rfl) fun J e1 => ?_
 have eA := evA_J [2, 3] 6 (by kernel_rfl) e1
 try simp only [eA]
 clear eA
 try simp only [← e1]
 clear e1
 show _ = _
 generalize lpL (Y.ctx (lim' Y)) 189 = lp
 generalize lim' Y = call
 kernel_rfl
theorem zam.a6q6 (y0 y1:Bool) (y2:Int) (y3:BAy) (y4 y5:LLD) : zam.A6 (zam.q6 y0 y1 y2 y3 y4 y5) = some ⟨[.v (.bool y0)], []⟩ := by
 delta zam.A6 zam.q6 XX
 refine zbd [2, 3] 6 (by kernel_rfl) fun J e1 => ?_
 have eA := evA_J [2, 3] 6 (by kernel_rfl) e1
 try simp only [eA]
 clear eA
 try simp only [← e1]
 clear e1
 show _ = _
 generalize lpL (Y.ctx (lim' Y)) 189 = lp
 generalize lim' Y = call
 kernel_rfl
theorem zcX.e (a0:Int) : zcX [.one (.v (.int .i64 a0))] [] = bif decide (a0 < -9223372036854775807) then some ⟨[.v (.string (ByteArray.mk #[45, 57, 50, 50, 51, 51, 55, 50, 48, 51, 54, 56, 53, 52, 55, 55, 53, 56, 48, 56]))], []⟩ else bif decide (a0 < 0) then (zcX [.one (.v (.int .i64 (IntKind.i64.wrap (0 - a0))))] []).bind fun val => bif zag [.str] val.1 && true then bif decide (1 + (val.1.getD 0 .d).str.size ≤ 70368744177664) then some ⟨[.v (.string ((ByteArray.mk #[45]) ++ (val.1.getD 0 .d).str))], []⟩ else none else none else bif decide (a0 < 10) then some ⟨[.v (.string (strOf [[.v (.int .u8 (IntKind.u8.wrap (IntKind.i64.wrap (48 + a0))))]]))], []⟩ else (zcX [.one (.v (.int .i64 (IntKind.i64.wrap (a0.tdiv 10))))] []).bind fun val => bif zag [.str] val.1 && true then bif decide ((val.1.getD 0 .d).str.size + 1 ≤ 70368744177664) then some ⟨[.v (.string ((val.1.getD 0 .d).str ++ strOf [[.v (.int .u8 (IntKind.u8.wrap (IntKind.i64.wrap (48 + a0.tmod 10))))]]))], []⟩ else none else none := by
 refine (zcX.run _ _ (by kernel_rfl)).trans ?_
 delta zcX XX
 generalize lpL (Y.ctx (lim' Y)) 193 = lp
 generalize lim' Y = call
 kernel_rfl
noncomputable def zbl.L3 (y0 y1:BAy) (y2:Int) : Option (Ex × St) := lpL XX 194 (zar 3 zbl.c) (mkG 0 37 [(0, .one (.v (.string y0))), (3, .one (.v (.string y1))), (4, .one (.v (.int .i64 y2)))] [] GL)
noncomputable def zbl.A3 : Ex × St → Option Res := fun r => evA XX 194 (lpL XX 194) 3 zbl.c r.fst r.snd (outE XX 194 Tryz.f194)
noncomputable def zbl.x3 (y0:BAy) : Ex × St := (Ex.exit 0, mkG 0 37 [(3, .one (.v (.string y0)))] [] GL)
theorem zbl.e (a0:BAy) : zbl [.one (.v (.string a0))] [] = (zbl.L3 a0 (ByteArray.mk #[]) 0).bind zbl.A3 := by
 refine (zbl.run _ _ (by kernel_rfl)).trans ?_
 delta zbl zbl.L3 zbl.A3 XX
 generalize lpL (Y.ctx (lim' Y)) 194 = lp
 generalize lim' Y = call
 kernel_rfl
theorem zbl.s3 (y0 y1:BAy) (y2:Int) : zbl.L3 y0 y1 y2 = bif decide (y2 < (↑y0.size : Int)) then bif decide (0 ≤ y2) && decide (y2 < (↑y0.size : Int)) then bif decide (0 ≤ y2) && decide (y2 < (↑y0.size : Int)) then bif decide (IntKind.u8.wrap ((zbc y0 y2.toNat).tdiv 16) ≤ IntKind.u8.wrap (IntKind.u8.wrap ((zbc y0 y2.toNat).tdiv 16) + 1)) && decide (IntKind.u8.wrap (IntKind.u8.wrap ((zbc y0 y2.toNat).tdiv 16) + 1) ≤ (↑(ByteArray.mk #[48, 49, 50, 51, 52, 53, 54, 55, 56, 57, 97, 98, 99, 100, 101, 102]).size : Int)) then bif decide (y1.size + ((ByteArray.mk #[48, 49, 50, 51, 52, 53, 54, 55, 56, 57, 97, 98, 99, 100, 101, 102]).extract (IntKind.u8.wrap ((zbc y0 y2.toNat).tdiv 16)).toNat (IntKind.u8.wrap (IntKind.u8.wrap ((zbc y0 y2.toNat).tdiv 16) + 1)).toNat).size ≤ 70368744177664) then bif decide (0 ≤ y2) && decide (y2 < (↑y0.size : Int)) then bif decide (0 ≤ y2) && decide (y2 < (↑y0.size : Int)) then bif decide ((zbc y0 y2.toNat).tmod 16 ≤ IntKind.u8.wrap ((zbc y0 y2.toNat).tmod 16 + 1)) && decide (IntKind.u8.wrap ((zbc y0 y2.toNat).tmod 16 + 1) ≤ (↑(ByteArray.mk #[48, 49, 50, 51, 52, 53, 54, 55, 56, 57, 97, 98, 99, 100, 101, 102]).size : Int)) then bif decide ((y1 ++ (ByteArray.mk #[48, 49, 50, 51, 52, 53, 54, 55, 56, 57, 97, 98, 99, 100, 101, 102]).extract (IntKind.u8.wrap ((zbc y0 y2.toNat).tdiv 16)).toNat (IntKind.u8.wrap (IntKind.u8.wrap ((zbc y0 y2.toNat).tdiv 16) + 1)).toNat).size + ((ByteArray.mk #[48, 49, 50, 51, 52, 53, 54, 55, 56, 57, 97, 98, 99, 100, 101, 102]).extract ((zbc y0 y2.toNat).tmod 16).toNat (IntKind.u8.wrap ((zbc y0 y2.toNat).tmod 16 + 1)).toNat).size ≤ 70368744177664) then zbl.L3 y0 (y1 ++ (ByteArray.mk #[48, 49, 50, 51, 52, 53, 54, 55, 56, 57, 97, 98, 99, 100, 101, 102]).extract (IntKind.u8.wrap ((zbc y0 y2.toNat).tdiv 16)).toNat (IntKind.u8.wrap (IntKind.u8.wrap ((zbc y0 y2.toNat).tdiv 16) + 1)).toNat ++ (ByteArray.mk #[48, 49, 50, 51, 52, 53, 54, 55, 56, 57, 97, 98, 99, 100, 101, 102]).extract ((zbc y0 y2.toNat).tmod 16).toNat (IntKind.u8.wrap ((zbc y0 y2.toNat).tmod 16 + 1)).toNat) (IntKind.i64.wrap (y2 + 1)) else none else none else none else none else none else none else none else none else some (zbl.x3 y1) := by
 refine (zbf (Y := Y) (c := lim' Y) (fn := 194) (rid := 3) (b := zar 3 zbl.c) (by kernel_rfl) _).trans ?_
 delta zbl.L3 zbl.x3 XX
 generalize lpL (Y.ctx (lim' Y)) 194 = lp
 generalize lim' Y = call
 kernel_rfl
theorem zbl.a3x3 (y0:BAy) : zbl.A3 (zbl.x3 y0) = bif y0.toList == [] then some ⟨[.v (.string (ByteArray.mk #[45]))], []⟩ else some ⟨[.v (.string y0)], []⟩ := by
 delta zbl.A3 zbl.x3 XX
 generalize lpL (Y.ctx (lim' Y)) 194 = lp
 generalize lim' Y = call
 kernel_rfl
theorem zbV.e (a0:BAy) : zbV [.one (.v (.string a0))] [] = bif a0.toList == [] then some ⟨[.v (.string (ByteArray.mk #[45]))], []⟩ else (zbm [.one (.v (.string a0))] []).bind fun val => bif zag [.str] val.1 && true then some ⟨[.v (.string (val.1.getD 0 .d).str)], []⟩ else none := by
 refine (zbV.run _ _ (by kernel_rfl)).trans ?_
 delta zbV zbm XX
 generalize lpL (Y.ctx (lim' Y)) 203 = lp
 generalize lim' Y = call
 kernel_rfl
theorem zaS.e (a0:LLD) (b0:Bool) (b1:Int) (b2:BAy) (b3 b4:LLD) (b:BAy) : zaS [.one (.s a0), .g [.v (.bool b0), .v (.int .i64 b1), .v (.string b2), .s b3, .s b4], .one (.bx [A0.p true 0 [] 0] 0)] [⟨.bld 170 5, [.v (.string b), .h], [.deep, .deep]⟩] = (zbD [.g [.v (.bool b0), .v (.int .i64 b1), .v (.string b2), .s b3, .s b4], .one (.s a0)] []).bind fun val => bif zag [.str] val.1 && true then (za8 [.one (.p true 0 [] 0), .one (.v (.string (val.1.getD 0 .d).str))] [⟨.bld 170 5, [.v (.string b), .h], [.deep, .deep]⟩]).bind fun val => bif zag [.int .i64, .any] val.1 && za4 [⟨⟨.bld 170 5, [.v (.string b), .h], [.deep, .deep]⟩, .box 0⟩] val.2 then some ⟨[], [⟨.bld 170 5, [.v (.string ((val.2.getD 0 ⟨.ro, [], []⟩).2.getD 0 .h).str), .h], [.deep, .deep]⟩]⟩ else none else none := by
 refine (zaS.run _ _ (by kernel_rfl)).trans ?_
 delta zaS zbD za8 XX
 generalize lpL (Y.ctx (lim' Y)) 204 = lp
 generalize lim' Y = call
 kernel_rfl
noncomputable def zbq.L3 (y0:BAy) (y1 y2:Int) : Option (Ex × St) := lpL XX 223 (zar 3 zbq.c) (mkG 0 20 [(0, .one (.v (.string y0))), (3, .one (.v (.int .i64 y1))), (4, .one (.v (.int .i64 y2)))] [] GL)
noncomputable def zbq.A3 : Ex × St → Option Res := fun r => evA XX 223 (lpL XX 223) 3 zbq.c r.fst r.snd (outE XX 223 Tryz.f223)
noncomputable def zbq.x3 (y0:Int) : Ex × St := (Ex.exit 0, mkG 0 20 [(3, .one (.v (.int .i64 y0)))] [] GL)
theorem zbq.e (a0:BAy) : zbq [.one (.v (.string a0))] [] = (zbq.L3 a0 7 0).bind zbq.A3 := by
 refine (zbq.run _ _ (by kernel_rfl)).trans ?_
 delta zbq zbq.L3 zbq.A3 XX
 generalize lpL (Y.ctx (lim' Y)) 223 = lp
 generalize lim' Y = call
 kernel_rfl
theorem zbq.s3 (y0:BAy) (y1 y2:Int) : zbq.L3 y0 y1 y2 = bif decide (y2 < (↑y0.size : Int)) then bif decide (0 ≤ y2) && decide (y2 < (↑y0.size : Int)) then zbq.L3 y0 ((IntKind.i64.wrap (IntKind.i64.wrap (y1 * 131) + IntKind.i64.wrap (zbc y0 y2.toNat))).tmod 1000000007) (IntKind.i64.wrap (y2 + 1)) else none else some (zbq.x3 y1) := by
 refine (zbf (Y := Y) (c := lim' Y) (fn := 223) (rid := 3) (b := zar 3 zbq.c) (by kernel_rfl) _).trans ?_
 delta zbq.L3 zbq.x3 XX
 generalize lpL (Y.ctx (lim' Y)) 223 = lp
 generalize lim' Y = call
 kernel_rfl
theorem zbq.a3x3 (y0:Int) : zbq.A3 (zbq.x3 y0) = some ⟨[.v (.int .i64 y0)], []⟩ := by
 delta zbq.A3 zbq.x3 XX
 generalize lpL (Y.ctx (lim' Y)) 223 = lp
 generalize lim' Y = call
 kernel_rfl
theorem za1.e (a0:BAy) : za1 [.one (.v (.string a0))] [] = some ⟨[.v (.bool !a0.toList == a0.toList)], []⟩ := by
 refine (za1.run _ _ (by kernel_rfl)).trans ?_
 delta za1 XX
 generalize lpL (Y.ctx (lim' Y)) 224 = lp
 generalize lim' Y = call
 kernel_rfl
noncomputable def zbm.L3 (y0:BAy) (y1:Int) (y2:LLD) : Option (Ex × St) := lpL XX 236 (zar 3 zbm.c) (mkG 0 27 [(0, .one (.v (.string y0))), (3, .one (.r 3 [] 0)), (4, .one (.v (.int .i64 y1)))] [(3, some ⟨.virt, [.s y2], [.deep]⟩)] GL)
noncomputable def zbm.A3 : Ex × St → Option Res := fun r => evA XX 236 (lpL XX 236) 3 zbm.c r.fst r.snd (outE XX 236 Tryz.f236)
noncomputable def zbm.x3 (y0:LLD) : Ex × St := (Ex.exit 0, mkG 0 27 [(3, .one (.r 3 [] 0))] [(3, some ⟨.virt, [.s y0], [.deep]⟩)] GL)
theorem zbm.e (a0:BAy) : zbm [.one (.v (.string a0))] [] = (zbm.L3 a0 0 []).bind zbm.A3 := by
 refine (zbm.run _ _ (by kernel_rfl)).trans ?_
 delta zbm zbm.L3 zbm.A3 XX
 generalize lpL (Y.ctx (lim' Y)) 236 = lp
 generalize lim' Y = call
 kernel_rfl
theorem zbm.s3 (y0:BAy) (y1:Int) (y2:LLD) : zbm.L3 y0 y1 y2 = bif decide (y1 < (↑y0.size : Int)) then bif decide (0 ≤ y1) && decide (y1 < (↑y0.size : Int)) then bif decide (IntKind.u8.wrap ((zbc y0 y1.toNat).tdiv 16) < (↑(ByteArray.mk #[48, 49, 50, 51, 52, 53, 54, 55, 56, 57, 97, 98, 99, 100, 101, 102]).size : Int)) then bif decide (0 ≤ y1) && decide (y1 < (↑y0.size : Int)) then bif decide ((zbc y0 y1.toNat).tmod 16 < (↑(ByteArray.mk #[48, 49, 50, 51, 52, 53, 54, 55, 56, 57, 97, 98, 99, 100, 101, 102]).size : Int)) then bif zaB 1 y2 && true && true && true && decide ((y2.length + 2) * 2 ≤ 70368744177664) then zbm.L3 y0 (IntKind.i64.wrap (y1 + 1)) (y2 ++ [[.v (.int .u8 (zbc (ByteArray.mk #[48, 49, 50, 51, 52, 53, 54, 55, 56, 57, 97, 98, 99, 100, 101, 102]) (IntKind.u8.wrap ((zbc y0 y1.toNat).tdiv 16)).toNat))], [.v (.int .u8 (zbc (ByteArray.mk #[48, 49, 50, 51, 52, 53, 54, 55, 56, 57, 97, 98, 99, 100, 101, 102]) ((zbc y0 y1.toNat).tmod 16).toNat))]]) else none else none else none else none else none else some (zbm.x3 y2) := by
 refine (zbf (Y := Y) (c := lim' Y) (fn := 236) (rid := 3) (b := zar 3 zbm.c) (by kernel_rfl) _).trans ?_
 delta zbm.L3 zbm.x3 XX
 generalize lpL (Y.ctx (lim' Y)) 236 = lp
 generalize lim' Y = call
 kernel_rfl
theorem zbm.a3x3 (y0:LLD) : zbm.A3 (zbm.x3 y0) = bif zfT y0 then some ⟨[.v (.string (strOf y0))], []⟩ else none := by
 delta zbm.A3 zbm.x3 XX
 generalize lpL (Y.ctx (lim' Y)) 236 = lp
 generalize lim' Y = call
 kernel_rfl
end Go.PVx
