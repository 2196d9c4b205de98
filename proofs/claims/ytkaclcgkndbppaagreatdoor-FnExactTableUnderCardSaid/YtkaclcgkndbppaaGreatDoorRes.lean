/- A part of the proof: PvTtRes. -/
import Derived.Test.YtkaclcgkndbppaaGreatDoorTab
import Derived.KernelRfl
set_option linter.unusedSimpArgs false
set_option linter.unusedVariables false
namespace Go.PVx
open Go.PV Go.Proofs
set_option maxRecDepth 100000
set_option linter.unusedVariables false
abbrev LLD := List (List D)
abbrev BAy := ByteArray
noncomputable def zak.P9 (y0 y1:LLD) (y2 y3:Int) : Option Res := evB XX 4 (lpL XX 4) 9 zak.c (mkG 0 58 [(0, .one (.s y0)), (1, .one (.s y1)), (6, .one (.v (.int .i64 y2))), (7, .one (.v (.int .i64 y3)))] [] GL) (outE XX 4 Tryz.f4)
noncomputable def zak.P13 (y0 y1:LLD) (y2:Bool) (y3 y4:LLD) : Option Res := evB XX 4 (lpL XX 4) 13 zak.c (mkG 0 58 [(0, .one (.s y0)), (1, .one (.s y1)), (8, .one (.r 8 [] 0)), (9, .one (.r 9 [] 0)), (47, .one (.v (.bool y2)))] [(8, some ⟨.virt, [.s y3], [.deep]⟩), (9, some ⟨.virt, [.s y4], [.deep]⟩)] GL) (outE XX 4 Tryz.f4)
noncomputable def zak.P14 (y0 y1 y2 y3:LLD) : Option Res := evB XX 4 (lpL XX 4) 14 zak.c (mkG 0 58 [(0, .one (.s y0)), (1, .one (.s y1)), (8, .one (.r 8 [] 0)), (9, .one (.r 9 [] 0))] [(8, some ⟨.virt, [.s y2], [.deep]⟩), (9, some ⟨.virt, [.s y3], [.deep]⟩)] GL) (outE XX 4 Tryz.f4)
theorem zak.e (a0 a1:LLD) : zak [.one (.s a0), .one (.s a1)] [] = (zaV [.one (.s a0), .one (.v (.int .i64 1048576))] []).bind fun val => bif zag [.int .i64] val.1 && true then bif decide ((val.1.getD 0 .d).int < 0) then some ⟨[.v (.bool true)], []⟩ else (zap [.one (.s a1), .one (.v (.int .i64 (val.1.getD 0 .d).int))] []).bind fun val => bif zag [.int .i64] val.1 && true then bif decide ((val.1.getD 0 .d).int < 0) then some ⟨[.v (.bool true)], []⟩ else (za3 [.one (.s a0)] []).bind fun val => bif zag [.own .deep] val.1 && true then (zaB [.one (.s a1)] []).bind fun val_1 => bif zag [.own .deep] val_1.1 && true then (zaw [.one (.s (val.1.getD 0 .d).es), .one (.s (val_1.1.getD 0 .d).es)] []).bind fun val => bif zag [.int .i64, .int .i64] val.1 && true then zak.P9 a0 a1 (val.1.getD 0 .d).int (val.1.getD 1 .d).int else none else none else none else none else none := by
 refine (zak.run _ _ (by kernel_rfl)).trans ?_
 delta zak zaV zap za3 zaB zaw zak.P9 XX
 refine zbt [9, 13, 14] (by kernel_rfl) fun J e1 => ?_
 try simp only [← e1]
 clear e1
 generalize lpL (Y.ctx (lim' Y)) 4 = lp
 generalize lim' Y = call
 kernel_rfl
theorem zak.p9 (y0 y1:LLD) (y2 y3:Int) : zak.P9 y0 y1 y2 y3 = (za3 [.one (.s y0)] []).bind fun val => bif zag [.own .deep] val.1 && true then (zaB [.one (.s y1)] []).bind fun val_1 => bif zag [.own .deep] val_1.1 && true then (zax [.one (.s (val.1.getD 0 .d).es), .one (.s (val_1.1.getD 0 .d).es)] []).bind fun val_2 => bif zag [.int .i64, .int .i64] val_2.1 && true then bif (val_2.1.getD 0 .d).int != y2 then zak.P13 y0 y1 true (val.1.getD 0 .d).es (val_1.1.getD 0 .d).es else zak.P13 y0 y1 ((val_2.1.getD 1 .d).int != y3) (val.1.getD 0 .d).es (val_1.1.getD 0 .d).es else none else none else none := by
 delta zak.P9 za3 zaB zax zak.P13 XX
 refine zbg [9, 13, 14] 9 (by kernel_rfl) fun J e1 => ?_
 try simp only [← e1]
 clear e1
 generalize lpL (Y.ctx (lim' Y)) 4 = lp
 generalize lim' Y = call
 kernel_rfl
theorem zak.p13 (y0 y1:LLD) (y2:Bool) (y3 y4:LLD) : zak.P13 y0 y1 y2 y3 y4 = bif y2 then some ⟨[.v (.bool false)], []⟩ else zak.P14 y0 y1 y3 y4 := by
 delta zak.P13 zak.P14 XX
 refine zbg [9, 13, 14] 13 (by kernel_rfl) fun J e1 => ?_
 try simp only [← e1]
 clear e1
 generalize lpL (Y.ctx (lim' Y)) 4 = lp
 generalize lim' Y = call
 kernel_rfl
theorem zak.p14 (y0 y1 y2 y3:LLD) : zak.P14 y0 y1 y2 y3 = (za3 [.one (.s y0)] []).bind fun val => bif zag [.own .deep] val.1 && true then (za4 [.one (.s y2), .one (.s (val.1.getD 0 .d).es)] []).bind fun val => bif zag [.bool] val.1 && true then bif !(val.1.getD 0 .d).bool then some ⟨[.v (.bool false)], []⟩ else (zaB [.one (.s y1)] []).bind fun val => bif zag [.own .deep] val.1 && true then (zaC [.one (.s y3), .one (.s (val.1.getD 0 .d).es)] []).bind fun val => bif zag [.bool] val.1 && true then bif !(val.1.getD 0 .d).bool then some ⟨[.v (.bool false)], []⟩ else some ⟨[.v (.bool true)], []⟩ else none else none else none else none := by
 delta zak.P14 za3 za4 zaB zaC XX
 refine zbg [9, 13, 14] 14 (by kernel_rfl) fun J e1 => ?_
 try simp only [← e1]
 clear e1
 generalize lpL (Y.ctx (lim' Y)) 4 = lp
 generalize lim' Y = call
 kernel_rfl
noncomputable def zaV.L5 (y0:LLD) (y1 y2:Int) : Option (Ex × St) := lpL XX 14 (zat 5 zaV.c) (mkG 0 27 [(0, .one (.s y0)), (1, .one (.v (.int .i64 y1))), (5, .one (.v (.int .i64 y2)))] [] GL)
noncomputable def zaV.A5 : Ex × St → Option Res := fun r => evA XX 14 (lpL XX 14) 5 zaV.c r.fst r.snd (outE XX 14 Tryz.f14)
noncomputable def zaV.q5 (y0 y1:Int) : Ex × St := (Ex.ret, mkG 0 27 [(1, .one (.v (.int .i64 y0))), (4, .one (.v (.int .i64 y1)))] [] GL)
noncomputable def zaV.x5 (y0:Int) : Ex × St := (Ex.exit 0, mkG 0 27 [(1, .one (.v (.int .i64 y0)))] [] GL)
theorem zaV.e (a0:LLD) (a1:Int) : zaV [.one (.s a0), .one (.v (.int .i64 a1))] [] = bif decide (IntKind.i64.wrap (a1 - (↑a0.length : Int)) < 0) then some ⟨[.v (.int .i64 (-1))], []⟩ else (zaV.L5 a0 (IntKind.i64.wrap (a1 - (↑a0.length : Int))) 0).bind zaV.A5 := by
 refine (zaV.run _ _ (by kernel_rfl)).trans ?_
 delta zaV zaV.L5 zaV.A5 XX
 generalize lpL (Y.ctx (lim' Y)) 14 = lp
 generalize lim' Y = call
 kernel_rfl
theorem zaV.s5 (y0:LLD) (y1 y2:Int) : zaV.L5 y0 y1 y2 = bif decide (y2 < (↑y0.length : Int)) then bif decide (0 ≤ y2) && decide (y2 < (↑y0.length : Int)) && decide ((y0.getD y2.toNat []).length = 5) then bif zas [.sl, .bool, .int .i64, .str, .int .i64] (y0.getD y2.toNat []) 0 && decide (5 ≤ (y0.getD y2.toNat []).length) then (zc9 [.g [.s ((y0.getD y2.toNat []).getD 0 .h).es, .v (.bool ((y0.getD y2.toNat []).getD 1 .h).bool), .v (.int .i64 ((y0.getD y2.toNat []).getD 2 .h).int), .v (.string ((y0.getD y2.toNat []).getD 3 .h).str), .v (.int .i64 ((y0.getD y2.toNat []).getD 4 .h).int)], .one (.v (.int .i64 y1))] []).bind fun val => bif zag [.int .i64] val.1 && true then bif decide ((val.1.getD 0 .d).int < 0) then some (zaV.q5 (val.1.getD 0 .d).int (-1)) else zaV.L5 y0 (val.1.getD 0 .d).int (IntKind.i64.wrap (y2 + 1)) else none else none else none else some (zaV.x5 y1) := by
 refine (zbf (Y := Y) (c := lim' Y) (fn := 14) (rid := 5) (b := zat 5 zaV.c) (by kernel_rfl) _).trans ?_
 delta zaV.L5 zc9 zaV.q5 zaV.x5 XX
 generalize lpL (Y.ctx (lim' Y)) 14 = lp
 generalize lim' Y = call
 kernel_rfl
theorem zaV.a5q5 (y0 y1:Int) : zaV.A5 (zaV.q5 y0 y1) = some ⟨[.v (.int .i64 y1)], []⟩ := by
 delta zaV.A5 zaV.q5 XX
 generalize lpL (Y.ctx (lim' Y)) 14 = lp
 generalize lim' Y = call
 kernel_rfl
theorem zaV.a5x5 (y0:Int) : zaV.A5 (zaV.x5 y0) = some ⟨[.v (.int .i64 y0)], []⟩ := by
 delta zaV.A5 zaV.x5 XX
 generalize lpL (Y.ctx (lim' Y)) 14 = lp
 generalize lim' Y = call
 kernel_rfl
noncomputable def zap.L5 (y0:LLD) (y1 y2:Int) : Option (Ex × St) := lpL XX 15 (zat 5 zap.c) (mkG 0 28 [(0, .one (.s y0)), (1, .one (.v (.int .i64 y1))), (5, .one (.v (.int .i64 y2)))] [] GL)
noncomputable def zap.A5 : Ex × St → Option Res := fun r => evA XX 15 (lpL XX 15) 5 zap.c r.fst r.snd (outE XX 15 Tryz.f15)
noncomputable def zap.q5 (y0 y1:Int) : Ex × St := (Ex.ret, mkG 0 28 [(1, .one (.v (.int .i64 y0))), (4, .one (.v (.int .i64 y1)))] [] GL)
noncomputable def zap.x5 (y0:Int) : Ex × St := (Ex.exit 0, mkG 0 28 [(1, .one (.v (.int .i64 y0)))] [] GL)
theorem zap.e (a0:LLD) (a1:Int) : zap [.one (.s a0), .one (.v (.int .i64 a1))] [] = bif decide (IntKind.i64.wrap (a1 - (↑a0.length : Int)) < 0) then some ⟨[.v (.int .i64 (-1))], []⟩ else (zap.L5 a0 (IntKind.i64.wrap (a1 - (↑a0.length : Int))) 0).bind zap.A5 := by
 refine (zap.run _ _ (by kernel_rfl)).trans ?_
 delta zap zap.L5 zap.A5 XX
 generalize lpL (Y.ctx (lim' Y)) 15 = lp
 generalize lim' Y = call
 kernel_rfl
theorem zap.s5 (y0:LLD) (y1 y2:Int) : zap.L5 y0 y1 y2 = bif decide (y2 < (↑y0.length : Int)) then bif decide (0 ≤ y2) && decide (y2 < (↑y0.length : Int)) && decide ((y0.getD y2.toNat []).length = 1) then bif zas [.str] (y0.getD y2.toNat []) 0 && decide (1 ≤ (y0.getD y2.toNat []).length) then bif decide (IntKind.i64.wrap (y1 - (↑((y0.getD y2.toNat []).getD 0 .h).str.size : Int)) < 0) then some (zap.q5 (IntKind.i64.wrap (y1 - (↑((y0.getD y2.toNat []).getD 0 .h).str.size : Int))) (-1)) else zap.L5 y0 (IntKind.i64.wrap (y1 - (↑((y0.getD y2.toNat []).getD 0 .h).str.size : Int))) (IntKind.i64.wrap (y2 + 1)) else none else none else some (zap.x5 y1) := by
 refine (zbf (Y := Y) (c := lim' Y) (fn := 15) (rid := 5) (b := zat 5 zap.c) (by kernel_rfl) _).trans ?_
 delta zap.L5 zap.q5 zap.x5 XX
 generalize lpL (Y.ctx (lim' Y)) 15 = lp
 generalize lim' Y = call
 kernel_rfl
theorem zap.a5q5 (y0 y1:Int) : zap.A5 (zap.q5 y0 y1) = some ⟨[.v (.int .i64 y1)], []⟩ := by
 delta zap.A5 zap.q5 XX
 generalize lpL (Y.ctx (lim' Y)) 15 = lp
 generalize lim' Y = call
 kernel_rfl
theorem zap.a5x5 (y0:Int) : zap.A5 (zap.x5 y0) = some ⟨[.v (.int .i64 y0)], []⟩ := by
 delta zap.A5 zap.x5 XX
 generalize lpL (Y.ctx (lim' Y)) 15 = lp
 generalize lim' Y = call
 kernel_rfl
noncomputable def zao.L6 (y0 y1:LLD) (y2 y3:Int) : Option (Ex × St) := lpL XX 16 (zat 6 zao.c) (mkG 0 50 [(0, .one (.s y0)), (1, .one (.s y1)), (7, .one (.v (.int .i64 y2))), (8, .one (.v (.int .i64 y3)))] [] GL)
noncomputable def zao.A6 : Ex × St → Option Res := fun r => evA XX 16 (lpL XX 16) 6 zao.c r.fst r.snd (outE XX 16 Tryz.f16)
noncomputable def zao.x6 (y0 y1:LLD) (y2:Int) : Ex × St := (Ex.exit 0, mkG 0 50 [(0, .one (.s y0)), (1, .one (.s y1)), (7, .one (.v (.int .i64 y2)))] [] GL)
noncomputable def zao.P12 (y0:Int) (y1:Bool) : Option Res := evB XX 16 (lpL XX 16) 12 zao.c (mkG 0 50 [(7, .one (.v (.int .i64 y0))), (48, .one (.v (.bool y1)))] [] GL) (outE XX 16 Tryz.f16)
theorem zao.e (a0 a1:LLD) : zao [.one (.s a0), .one (.s a1)] [] = (zab [.one (.s a0)] []).bind fun val => bif zag [.bool, .int .i64, .str, .own .deep, .own .deep, .bool] val.1 && true then bif !(val.1.getD 5 .d).bool then some ⟨[.v (.int .i64 (-1))], []⟩ else (zao.L6 a0 a1 0 (↑a0.length : Int)).bind zao.A6 else none := by
 refine (zao.run _ _ (by kernel_rfl)).trans ?_
 delta zao zab zao.L6 zao.A6 XX
 refine zbt [12] (by kernel_rfl) fun J e1 => ?_
 have eA := evA_J [12] 6 (by kernel_rfl) e1
 try simp only [eA]
 clear eA
 try simp only [← e1]
 clear e1
 show _ = _
 generalize lpL (Y.ctx (lim' Y)) 16 = lp
 generalize lim' Y = call
 kernel_rfl
theorem zao.s6 (y0 y1:LLD) (y2 y3:Int) : zao.L6 y0 y1 y2 y3 = bif decide (y2 < y3) then bif decide (0 ≤ IntKind.i64.wrap ((IntKind.i64.wrap (y2 + y3)).tdiv 2)) && decide (IntKind.i64.wrap ((IntKind.i64.wrap (y2 + y3)).tdiv 2) < (↑y0.length : Int)) && decide ((y0.getD (IntKind.i64.wrap ((IntKind.i64.wrap (y2 + y3)).tdiv 2)).toNat []).length = 5) then bif zas [.sl] (y0.getD (IntKind.i64.wrap ((IntKind.i64.wrap (y2 + y3)).tdiv 2)).toNat []) 0 && decide (1 ≤ (y0.getD (IntKind.i64.wrap ((IntKind.i64.wrap (y2 + y3)).tdiv 2)).toNat []).length) then (zaE [.one (.s ((y0.getD (IntKind.i64.wrap ((IntKind.i64.wrap (y2 + y3)).tdiv 2)).toNat []).getD 0 .h).es), .one (.s y1)] []).bind fun val => bif zag [.bool] val.1 && true then bif (val.1.getD 0 .d).bool then zao.L6 y0 y1 (IntKind.i64.wrap (IntKind.i64.wrap ((IntKind.i64.wrap (y2 + y3)).tdiv 2) + 1)) y3 else zao.L6 y0 y1 y2 (IntKind.i64.wrap ((IntKind.i64.wrap (y2 + y3)).tdiv 2)) else none else none else none else some (zao.x6 y0 y1 y2) := by
 refine (zbf (Y := Y) (c := lim' Y) (fn := 16) (rid := 6) (b := zat 6 zao.c) (by kernel_rfl) _).trans ?_
 delta zao.L6 zaE zao.x6 XX
 generalize lpL (Y.ctx (lim' Y)) 16 = lp
 generalize lim' Y = call
 kernel_rfl
theorem zao.a6x6 (y0 y1:LLD) (y2:Int) : zao.A6 (zao.x6 y0 y1 y2) = bif decide (y2 < (↑y0.length : Int)) then bif decide (0 ≤ y2) && decide (y2 < (↑y0.length : Int)) && decide ((y0.getD y2.toNat []).length = 5) then bif zas [.sl] (y0.getD y2.toNat []) 0 && decide (1 ≤ (y0.getD y2.toNat []).length) then (zbY [.one (.s ((y0.getD y2.toNat []).getD 0 .h).es), .one (.s y1)] []).bind fun val => bif zag [.bool] val.1 && true then zao.P12 y2 (val.1.getD 0 .d).bool else none else none else none else zao.P12 y2 false := by
 delta zao.A6 zao.x6 zbY zao.P12 XX
 refine zbb [12] 6 (by kernel_rfl) fun J e1 => ?_
 have eA := evA_J [12] 6 (by kernel_rfl) e1
 try simp only [eA]
 clear eA
 try simp only [← e1]
 clear e1
 show _ = _
 generalize lpL (Y.ctx (lim' Y)) 16 = lp
 generalize lim' Y = call
 kernel_rfl
theorem zao.p12 (y0:Int) (y1:Bool) : zao.P12 y0 y1 = bif y1 then some ⟨[.v (.int .i64 y0)], []⟩ else some ⟨[.v (.int .i64 (-1))], []⟩ := by
 delta zao.P12 XX
 refine zbg [12] 12 (by kernel_rfl) fun J e1 => ?_
 try simp only [← e1]
 clear e1
 generalize lpL (Y.ctx (lim' Y)) 16 = lp
 generalize lim' Y = call
 kernel_rfl
noncomputable def za3.L3 (y0:LLD) (y1:Int) (y2:LLD) : Option (Ex × St) := lpL XX 17 (zat 3 za3.c) (mkG 0 23 [(0, .one (.s y0)), (3, .one (.r 3 [] 0)), (4, .one (.v (.int .i64 y1)))] [(3, some ⟨.virt, [.s y2], [.deep]⟩)] GL)
noncomputable def za3.A3 : Ex × St → Option Res := fun r => evA XX 17 (lpL XX 17) 3 za3.c r.fst r.snd (outE XX 17 Tryz.f17)
noncomputable def za3.x3 (y0:LLD) : Ex × St := (Ex.exit 0, mkG 0 23 [(3, .one (.r 3 [] 0))] [(3, some ⟨.virt, [.s y0], [.deep]⟩)] GL)
theorem za3.e (a0:LLD) : za3 [.one (.s a0)] [] = bif decide ((↑a0.length : Int) * ((↑64 : Int) + 1) ≤ 2 ^ 46) && true && true then (za3.L3 a0 0 (List.replicate (↑a0.length : Int).toNat [.s [], .v (.bool false), .v (.int .i64 0), .v (.string (ByteArray.mk #[])), .v (.int .i64 0)])).bind za3.A3 else none := by
 refine (za3.run _ _ (by kernel_rfl)).trans ?_
 delta za3 za3.L3 za3.A3 XX
 generalize lpL (Y.ctx (lim' Y)) 17 = lp
 generalize lim' Y = call
 kernel_rfl
theorem za3.s3 (y0:LLD) (y1:Int) (y2:LLD) : za3.L3 y0 y1 y2 = bif decide (y1 < (↑y0.length : Int)) then bif decide (0 ≤ y1) && decide (y1 < (↑y0.length : Int)) && decide ((y0.getD y1.toNat []).length = 5) then bif zas [.sl, .bool, .int .i64, .str, .int .i64] (y0.getD y1.toNat []) 0 && decide (5 ≤ (y0.getD y1.toNat []).length) then (zdl [.g [.s ((y0.getD y1.toNat []).getD 0 .h).es, .v (.bool ((y0.getD y1.toNat []).getD 1 .h).bool), .v (.int .i64 ((y0.getD y1.toNat []).getD 2 .h).int), .v (.string ((y0.getD y1.toNat []).getD 3 .h).str), .v (.int .i64 ((y0.getD y1.toNat []).getD 4 .h).int)]] []).bind fun val => bif zag [.own .deep, .bool, .int .i64, .str, .int .i64] val.1 && true then bif decide (0 ≤ y1) && decide (y1 < (↑y2.length : Int)) && decide ((y2.getD y1.toNat []).length = 5) then bif decide (5 ≤ (y2.getD y1.toNat []).length) && true then za3.L3 y0 (IntKind.i64.wrap (y1 + 1)) (y2.set y1.toNat (.s (val.1.getD 0 .d).es :: .v (.bool (val.1.getD 1 .d).bool) :: .v (.int .i64 (val.1.getD 2 .d).int) :: .v (.string (val.1.getD 3 .d).str) :: .v (.int .i64 (val.1.getD 4 .d).int) :: List.drop 5 (y2.getD y1.toNat []))) else none else none else none else none else none else some (za3.x3 y2) := by
 refine (zbf (Y := Y) (c := lim' Y) (fn := 17) (rid := 3) (b := zat 3 za3.c) (by kernel_rfl) _).trans ?_
 delta za3.L3 zdl za3.x3 XX
 generalize lpL (Y.ctx (lim' Y)) 17 = lp
 generalize lim' Y = call
 kernel_rfl
theorem za3.a3x3 (y0:LLD) : za3.A3 (za3.x3 y0) = some ⟨[.o .deep y0], []⟩ := by
 delta za3.A3 za3.x3 XX
 generalize lpL (Y.ctx (lim' Y)) 17 = lp
 generalize lim' Y = call
 kernel_rfl
noncomputable def zaB.L3 (y0:LLD) (y1:Int) (y2:LLD) : Option (Ex × St) := lpL XX 18 (zat 3 zaB.c) (mkG 0 22 [(0, .one (.s y0)), (3, .one (.r 3 [] 0)), (4, .one (.v (.int .i64 y1)))] [(3, some ⟨.virt, [.s y2], [.deep]⟩)] GL)
noncomputable def zaB.A3 : Ex × St → Option Res := fun r => evA XX 18 (lpL XX 18) 3 zaB.c r.fst r.snd (outE XX 18 Tryz.f18)
noncomputable def zaB.x3 (y0:LLD) : Ex × St := (Ex.exit 0, mkG 0 22 [(3, .one (.r 3 [] 0))] [(3, some ⟨.virt, [.s y0], [.deep]⟩)] GL)
theorem zaB.e (a0:LLD) : zaB [.one (.s a0)] [] = bif decide ((↑a0.length : Int) * ((↑16 : Int) + 1) ≤ 2 ^ 46) && true && true then (zaB.L3 a0 0 (List.replicate (↑a0.length : Int).toNat [.v (.string (ByteArray.mk #[]))])).bind zaB.A3 else none := by
 refine (zaB.run _ _ (by kernel_rfl)).trans ?_
 delta zaB zaB.L3 zaB.A3 XX
 generalize lpL (Y.ctx (lim' Y)) 18 = lp
 generalize lim' Y = call
 kernel_rfl
theorem zaB.s3 (y0:LLD) (y1:Int) (y2:LLD) : zaB.L3 y0 y1 y2 = bif decide (y1 < (↑y0.length : Int)) then bif decide (0 ≤ y1) && decide (y1 < (↑y0.length : Int)) && decide ((y0.getD y1.toNat []).length = 1) then bif zas [.str] (y0.getD y1.toNat []) 0 && decide (1 ≤ (y0.getD y1.toNat []).length) then bif decide (0 ≤ y1) && decide (y1 < (↑y2.length : Int)) && decide ((y2.getD y1.toNat []).length = 1) then bif decide (1 ≤ (y2.getD y1.toNat []).length) && true then zaB.L3 y0 (IntKind.i64.wrap (y1 + 1)) (y2.set y1.toNat (.v (.string ((y0.getD y1.toNat []).getD 0 .h).str) :: List.drop 1 (y2.getD y1.toNat []))) else none else none else none else none else some (zaB.x3 y2) := by
 refine (zbf (Y := Y) (c := lim' Y) (fn := 18) (rid := 3) (b := zat 3 zaB.c) (by kernel_rfl) _).trans ?_
 delta zaB.L3 zaB.x3 XX
 generalize lpL (Y.ctx (lim' Y)) 18 = lp
 generalize lim' Y = call
 kernel_rfl
theorem zaB.a3x3 (y0:LLD) : zaB.A3 (zaB.x3 y0) = some ⟨[.o .deep y0], []⟩ := by
 delta zaB.A3 zaB.x3 XX
 generalize lpL (Y.ctx (lim' Y)) 18 = lp
 generalize lim' Y = call
 kernel_rfl
theorem zbC.e (a0 a1:LLD) : zbC [.one (.s a0), .one (.s a1)] [] = (zah [.one (.s a0)] []).bind fun val => bif zag [.bool, .int .i64, .str, .own .deep, .own .deep, .bool] val.1 && true then bif !(val.1.getD 5 .d).bool then some ⟨[.v (.int .i64 (-1))], []⟩ else (zae [.one (.s a0), .f za1.id [.p true 0 [] 0]] [⟨.box, [.s a1], [.sh]⟩]).bind fun val => bif zag [.int .i64] val.1 && zba [⟨⟨.box, [.s a1], [.sh]⟩, .box 3⟩] val.2 then some ⟨[.v (.int .i64 (val.1.getD 0 .d).int)], []⟩ else none else none := by
 refine (zbC.run _ _ (by kernel_rfl)).trans ?_
 delta zbC zah zae za1.id XX
 generalize lpL (Y.ctx (lim' Y)) 19 = lp
 generalize lim' Y = call
 kernel_rfl
noncomputable def za4.L4 (y0 y1:LLD) (y2:Int) : Option (Ex × St) := lpL XX 20 (zat 4 za4.c) (mkG 0 27 [(0, .one (.s y0)), (1, .one (.s y1)), (5, .one (.v (.int .i64 y2)))] [] GL)
noncomputable def za4.A4 : Ex × St → Option Res := fun r => evA XX 20 (lpL XX 20) 4 za4.c r.fst r.snd (outE XX 20 Tryz.f20)
noncomputable def za4.q4 (y0:Bool) : Ex × St := (Ex.ret, mkG 0 27 [(4, .one (.v (.bool y0)))] [] GL)
noncomputable def za4.x4 : Ex × St := (Ex.exit 0, mkG 0 27 [] [] GL)
theorem za4.e (a0 a1:LLD) : za4 [.one (.s a0), .one (.s a1)] [] = bif (↑a0.length : Int) != (↑a1.length : Int) then some ⟨[.v (.bool false)], []⟩ else (za4.L4 a0 a1 0).bind za4.A4 := by
 refine (za4.run _ _ (by kernel_rfl)).trans ?_
 delta za4 za4.L4 za4.A4 XX
 generalize lpL (Y.ctx (lim' Y)) 20 = lp
 generalize lim' Y = call
 kernel_rfl
theorem za4.s4 (y0 y1:LLD) (y2:Int) : za4.L4 y0 y1 y2 = bif decide (y2 < (↑y0.length : Int)) then bif decide (0 ≤ y2) && decide (y2 < (↑y0.length : Int)) && decide ((y0.getD y2.toNat []).length = 5) then bif zas [.sl, .bool, .int .i64, .str, .int .i64] (y0.getD y2.toNat []) 0 && decide (5 ≤ (y0.getD y2.toNat []).length) then bif decide (0 ≤ y2) && decide (y2 < (↑y1.length : Int)) && decide ((y1.getD y2.toNat []).length = 5) then bif zas [.sl, .bool, .int .i64, .str, .int .i64] (y1.getD y2.toNat []) 0 && decide (5 ≤ (y1.getD y2.toNat []).length) then (zch [.g [.s ((y0.getD y2.toNat []).getD 0 .h).es, .v (.bool ((y0.getD y2.toNat []).getD 1 .h).bool), .v (.int .i64 ((y0.getD y2.toNat []).getD 2 .h).int), .v (.string ((y0.getD y2.toNat []).getD 3 .h).str), .v (.int .i64 ((y0.getD y2.toNat []).getD 4 .h).int)], .g [.s ((y1.getD y2.toNat []).getD 0 .h).es, .v (.bool ((y1.getD y2.toNat []).getD 1 .h).bool), .v (.int .i64 ((y1.getD y2.toNat []).getD 2 .h).int), .v (.string ((y1.getD y2.toNat []).getD 3 .h).str), .v (.int .i64 ((y1.getD y2.toNat []).getD 4 .h).int)]] []).bind fun val => bif zag [.bool] val.1 && true then bif !(val.1.getD 0 .d).bool then some (za4.q4 false) else za4.L4 y0 y1 (IntKind.i64.wrap (y2 + 1)) else none else none else none else none else none else some za4.x4 := by
 refine (zbf (Y := Y) (c := lim' Y) (fn := 20) (rid := 4) (b := zat 4 za4.c) (by kernel_rfl) _).trans ?_
 delta za4.L4 zch za4.q4 za4.x4 XX
 generalize lpL (Y.ctx (lim' Y)) 20 = lp
 generalize lim' Y = call
 kernel_rfl
theorem za4.a4x4 : za4.A4 za4.x4 = some ⟨[.v (.bool true)], []⟩ := by
 delta za4.A4 za4.x4 XX
 generalize lpL (Y.ctx (lim' Y)) 20 = lp
 generalize lim' Y = call
 kernel_rfl
noncomputable def zaC.L4 (y0 y1:LLD) (y2:Int) : Option (Ex × St) := lpL XX 21 (zat 4 zaC.c) (mkG 0 26 [(0, .one (.s y0)), (1, .one (.s y1)), (5, .one (.v (.int .i64 y2)))] [] GL)
noncomputable def zaC.A4 : Ex × St → Option Res := fun r => evA XX 21 (lpL XX 21) 4 zaC.c r.fst r.snd (outE XX 21 Tryz.f21)
noncomputable def zaC.q4 (y0:Bool) : Ex × St := (Ex.ret, mkG 0 26 [(4, .one (.v (.bool y0)))] [] GL)
noncomputable def zaC.x4 : Ex × St := (Ex.exit 0, mkG 0 26 [] [] GL)
theorem zaC.e (a0 a1:LLD) : zaC [.one (.s a0), .one (.s a1)] [] = bif (↑a0.length : Int) != (↑a1.length : Int) then some ⟨[.v (.bool false)], []⟩ else (zaC.L4 a0 a1 0).bind zaC.A4 := by
 refine (zaC.run _ _ (by kernel_rfl)).trans ?_
 delta zaC zaC.L4 zaC.A4 XX
 generalize lpL (Y.ctx (lim' Y)) 21 = lp
 generalize lim' Y = call
 kernel_rfl
theorem zaC.s4 (y0 y1:LLD) (y2:Int) : zaC.L4 y0 y1 y2 = bif decide (y2 < (↑y0.length : Int)) then bif decide (0 ≤ y2) && decide (y2 < (↑y0.length : Int)) && decide ((y0.getD y2.toNat []).length = 1) then bif zas [.str] (y0.getD y2.toNat []) 0 && decide (1 ≤ (y0.getD y2.toNat []).length) then bif decide (0 ≤ y2) && decide (y2 < (↑y1.length : Int)) && decide ((y1.getD y2.toNat []).length = 1) then bif zas [.str] (y1.getD y2.toNat []) 0 && decide (1 ≤ (y1.getD y2.toNat []).length) then bif !((y0.getD y2.toNat []).getD 0 .h).str.toList == ((y1.getD y2.toNat []).getD 0 .h).str.toList then some (zaC.q4 false) else zaC.L4 y0 y1 (IntKind.i64.wrap (y2 + 1)) else none else none else none else none else some zaC.x4 := by
 refine (zbf (Y := Y) (c := lim' Y) (fn := 21) (rid := 4) (b := zat 4 zaC.c) (by kernel_rfl) _).trans ?_
 delta zaC.L4 zaC.q4 zaC.x4 XX
 generalize lpL (Y.ctx (lim' Y)) 21 = lp
 generalize lim' Y = call
 kernel_rfl
theorem zaC.a4x4 : zaC.A4 zaC.x4 = some ⟨[.v (.bool true)], []⟩ := by
 delta zaC.A4 zaC.x4 XX
 generalize lpL (Y.ctx (lim' Y)) 21 = lp
 generalize lim' Y = call
 kernel_rfl
noncomputable def zaw.L5 (y0 y1:LLD) (y2 y3:Int) : Option (Ex × St) := lpL XX 22 (zat 5 zaw.c) (mkG 0 31 [(0, .one (.s y0)), (1, .one (.s y1)), (6, .one (.v (.int .i64 y2))), (7, .one (.v (.int .i64 y3)))] [] GL)
noncomputable def zaw.A5 : Ex × St → Option Res := fun r => evA XX 22 (lpL XX 22) 5 zaw.c r.fst r.snd (outE XX 22 Tryz.f22)
noncomputable def zaw.x5 (y0 y1:Int) : Ex × St := (Ex.exit 0, mkG 0 31 [(6, .one (.v (.int .i64 y0))), (7, .one (.v (.int .i64 y1)))] [] GL)
theorem zaw.e (a0 a1:LLD) : zaw [.one (.s a0), .one (.s a1)] [] = (zao [.one (.s a0), .one (.s a1)] []).bind fun val => bif zag [.int .i64] val.1 && true then bif decide ((val.1.getD 0 .d).int < 0) then some ⟨[.v (.int .i64 0), .v (.int .i64 0)], []⟩ else (zaw.L5 a0 a1 (val.1.getD 0 .d).int (val.1.getD 0 .d).int).bind zaw.A5 else none := by
 refine (zaw.run _ _ (by kernel_rfl)).trans ?_
 delta zaw zao zaw.L5 zaw.A5 XX
 generalize lpL (Y.ctx (lim' Y)) 22 = lp
 generalize lim' Y = call
 kernel_rfl
theorem zaw.s5 (y0 y1:LLD) (y2 y3:Int) : zaw.L5 y0 y1 y2 y3 = bif decide (y3 < (↑y0.length : Int)) then bif decide (0 ≤ y3) && decide (y3 < (↑y0.length : Int)) && decide ((y0.getD y3.toNat []).length = 5) then bif zas [.sl] (y0.getD y3.toNat []) 0 && decide (1 ≤ (y0.getD y3.toNat []).length) then (zaz [.one (.s ((y0.getD y3.toNat []).getD 0 .h).es), .one (.s y1)] []).bind fun val => bif zag [.bool] val.1 && true then bif (val.1.getD 0 .d).bool then zaw.L5 y0 y1 y2 (IntKind.i64.wrap (y3 + 1)) else some (zaw.x5 y2 y3) else none else none else none else some (zaw.x5 y2 y3) := by
 refine (zbf (Y := Y) (c := lim' Y) (fn := 22) (rid := 5) (b := zat 5 zaw.c) (by kernel_rfl) _).trans ?_
 delta zaw.L5 zaz zaw.x5 XX
 generalize lpL (Y.ctx (lim' Y)) 22 = lp
 generalize lim' Y = call
 kernel_rfl
theorem zaw.a5x5 (y0 y1:Int) : zaw.A5 (zaw.x5 y0 y1) = some ⟨[.v (.int .i64 y0), .v (.int .i64 y1)], []⟩ := by
 delta zaw.A5 zaw.x5 XX
 generalize lpL (Y.ctx (lim' Y)) 22 = lp
 generalize lim' Y = call
 kernel_rfl
noncomputable def zax.L5 (y0 y1:LLD) (y2 y3:Int) : Option (Ex × St) := lpL XX 23 (zat 5 zax.c) (mkG 0 31 [(0, .one (.s y0)), (1, .one (.s y1)), (6, .one (.v (.int .i64 y2))), (7, .one (.v (.int .i64 y3)))] [] GL)
noncomputable def zax.A5 : Ex × St → Option Res := fun r => evA XX 23 (lpL XX 23) 5 zax.c r.fst r.snd (outE XX 23 Tryz.f23)
noncomputable def zax.x5 (y0 y1:Int) : Ex × St := (Ex.exit 0, mkG 0 31 [(6, .one (.v (.int .i64 y0))), (7, .one (.v (.int .i64 y1)))] [] GL)
theorem zax.e (a0 a1:LLD) : zax [.one (.s a0), .one (.s a1)] [] = (zbC [.one (.s a0), .one (.s a1)] []).bind fun val => bif zag [.int .i64] val.1 && true then bif decide ((val.1.getD 0 .d).int < 0) then some ⟨[.v (.int .i64 0), .v (.int .i64 0)], []⟩ else (zax.L5 a0 a1 (val.1.getD 0 .d).int (val.1.getD 0 .d).int).bind zax.A5 else none := by
 refine (zax.run _ _ (by kernel_rfl)).trans ?_
 delta zax zbC zax.L5 zax.A5 XX
 generalize lpL (Y.ctx (lim' Y)) 23 = lp
 generalize lim' Y = call
 kernel_rfl
theorem zax.s5 (y0 y1:LLD) (y2 y3:Int) : zax.L5 y0 y1 y2 y3 = bif decide (y3 < (↑y0.length : Int)) then bif decide (0 ≤ y3) && decide (y3 < (↑y0.length : Int)) && decide ((y0.getD y3.toNat []).length = 5) then bif zas [.sl] (y0.getD y3.toNat []) 0 && decide (1 ≤ (y0.getD y3.toNat []).length) then (zaY [.one (.s ((y0.getD y3.toNat []).getD 0 .h).es), .one (.s y1)] []).bind fun val => bif zag [.bool] val.1 && true then bif (val.1.getD 0 .d).bool then zax.L5 y0 y1 y2 (IntKind.i64.wrap (y3 + 1)) else some (zax.x5 y2 y3) else none else none else none else some (zax.x5 y2 y3) := by
 refine (zbf (Y := Y) (c := lim' Y) (fn := 23) (rid := 5) (b := zat 5 zax.c) (by kernel_rfl) _).trans ?_
 delta zax.L5 zaY zax.x5 XX
 generalize lpL (Y.ctx (lim' Y)) 23 = lp
 generalize lim' Y = call
 kernel_rfl
theorem zax.a5x5 (y0 y1:Int) : zax.A5 (zax.x5 y0 y1) = some ⟨[.v (.int .i64 y0), .v (.int .i64 y1)], []⟩ := by
 delta zax.A5 zax.x5 XX
 generalize lpL (Y.ctx (lim' Y)) 23 = lp
 generalize lim' Y = call
 kernel_rfl
noncomputable def zab.P2 (y0:LLD) (y1 y2:Bool) (y3:Int) (y4:BAy) (y5 y6:LLD) : Option Res := evB XX 24 (lpL XX 24) 2 zab.c (mkG 0 101 [(0, .one (.s y0)), (2, .one (.p true 2 [] 0)), (26, .one (.v (.bool y1)))] [(2, some ⟨.box, [.v (.bool y2), .v (.int .i64 y3), .v (.string y4), .s y5, .s y6], [.deep, .deep, .deep, .deep, .deep]⟩)] GL) (outE XX 24 Tryz.f24)
noncomputable def zab.P3 (y0:LLD) (y1:Bool) (y2:Int) (y3:BAy) (y4 y5:LLD) : Option Res := evB XX 24 (lpL XX 24) 3 zab.c (mkG 0 101 [(0, .one (.s y0)), (2, .one (.p true 2 [] 0))] [(2, some ⟨.box, [.v (.bool y1), .v (.int .i64 y2), .v (.string y3), .s y4, .s y5], [.deep, .deep, .deep, .deep, .deep]⟩)] GL) (outE XX 24 Tryz.f24)
noncomputable def zab.L5 (y0:LLD) (y1:Int) (y2:Bool) (y3:Int) (y4:BAy) (y5 y6:LLD) (y7:Bool) (y8:Int) (y9:BAy) (y10 y11:LLD) : Option (Ex × St) := lpL XX 24 (zat 5 zab.c) (mkG 0 101 [(0, .one (.s y0)), (2, .one (.p true 2 [] 0)), (4, .one (.p true 4 [] 0)), (5, .one (.v (.int .i64 y1)))] [(2, some ⟨.box, [.v (.bool y2), .v (.int .i64 y3), .v (.string y4), .s y5, .s y6], [.deep, .deep, .deep, .deep, .deep]⟩), (4, some ⟨.box, [.v (.bool y7), .v (.int .i64 y8), .v (.string y9), .s y10, .s y11], [.deep, .deep, .deep, .deep, .deep]⟩)] GL)
noncomputable def zab.A5 : Ex × St → Option Res := fun r => evA XX 24 (lpL XX 24) 5 zab.c r.fst r.snd (outE XX 24 Tryz.f24)
noncomputable def zab.q5 (y0:LLD) (y1 y2:Bool) (y3:Int) (y4:BAy) (y5 y6:LLD) (y7:Bool) (y8:Int) (y9:BAy) (y10 y11:LLD) : Ex × St := (Ex.ret, mkG 0 101 [(0, .one (.s y0)), (2, .one (.p true 2 [] 0)), (3, .one (.v (.bool y1))), (4, .one (.p true 4 [] 0))] [(2, some ⟨.box, [.v (.bool y2), .v (.int .i64 y3), .v (.string y4), .s y5, .s y6], [.deep, .deep, .deep, .deep, .deep]⟩), (4, some ⟨.box, [.v (.bool y7), .v (.int .i64 y8), .v (.string y9), .s y10, .s y11], [.deep, .deep, .deep, .deep, .deep]⟩)] GL)
noncomputable def zab.P11 (y0:LLD) (y1:Int) (y2 y3:Bool) (y4:Int) (y5:BAy) (y6 y7:LLD) (y8:Bool) (y9:Int) (y10:BAy) (y11 y12:LLD) (y13:Bool) (y14:Int) (y15:BAy) (y16 y17:LLD) : Option (Ex × St) := evB XX 24 (lpL XX 24) 11 (zat 5 zab.c) (mkG 0 101 [(0, .one (.s y0)), (2, .one (.p true 2 [] 0)), (4, .one (.p true 4 [] 0)), (5, .one (.v (.int .i64 y1))), (7, .one (.p true 7 [] 0)), (8, .one (.v (.bool y2)))] [(2, some ⟨.box, [.v (.bool y3), .v (.int .i64 y4), .v (.string y5), .s y6, .s y7], [.deep, .deep, .deep, .deep, .deep]⟩), (4, some ⟨.box, [.v (.bool y8), .v (.int .i64 y9), .v (.string y10), .s y11, .s y12], [.sh, .sh, .sh, .sh, .sh]⟩), (7, some ⟨.box, [.v (.bool y13), .v (.int .i64 y14), .v (.string y15), .s y16, .s y17], [.deep, .deep, .deep, .sh, .sh]⟩)] GL) (backL (lpL XX 24) (zat 5 zab.c) (XX.live 24 5))
noncomputable def zab.x5 (y0:LLD) (y1:Bool) (y2:Int) (y3:BAy) (y4 y5:LLD) (y6:Bool) (y7:Int) (y8:BAy) (y9 y10:LLD) : Ex × St := (Ex.exit 0, mkG 0 101 [(0, .one (.s y0)), (2, .one (.p true 2 [] 0)), (4, .one (.p true 4 [] 0))] [(2, some ⟨.box, [.v (.bool y1), .v (.int .i64 y2), .v (.string y3), .s y4, .s y5], [.deep, .deep, .deep, .deep, .deep]⟩), (4, some ⟨.box, [.v (.bool y6), .v (.int .i64 y7), .v (.string y8), .s y9, .s y10], [.deep, .deep, .deep, .deep, .deep]⟩)] GL)
noncomputable def zab.q5b (y0:LLD) (y1 y2:Bool) (y3:Int) (y4:BAy) (y5 y6:LLD) (y7:Bool) (y8:Int) (y9:BAy) (y10 y11:LLD) : Ex × St := (Ex.ret, mkG 0 101 [(0, .one (.s y0)), (2, .one (.p true 2 [] 0)), (3, .one (.v (.bool y1))), (4, .one (.p true 4 [] 0))] [(2, some ⟨.box, [.v (.bool y2), .v (.int .i64 y3), .v (.string y4), .s y5, .s y6], [.deep, .deep, .deep, .deep, .deep]⟩), (4, some ⟨.box, [.v (.bool y7), .v (.int .i64 y8), .v (.string y9), .s y10, .s y11], [.sh, .sh, .sh, .sh, .sh]⟩)] GL)
noncomputable def zab.L5b (y0:LLD) (y1:Int) (y2:Bool) (y3:Int) (y4:BAy) (y5 y6:LLD) (y7:Bool) (y8:Int) (y9:BAy) (y10 y11:LLD) : Option (Ex × St) := lpL XX 24 (zat 5 zab.c) (mkG 0 101 [(0, .one (.s y0)), (2, .one (.p true 2 [] 0)), (4, .one (.p true 4 [] 0)), (5, .one (.v (.int .i64 y1)))] [(2, some ⟨.box, [.v (.bool y2), .v (.int .i64 y3), .v (.string y4), .s y5, .s y6], [.deep, .deep, .deep, .deep, .deep]⟩), (4, some ⟨.box, [.v (.bool y7), .v (.int .i64 y8), .v (.string y9), .s y10, .s y11], [.deep, .deep, .deep, .sh, .sh]⟩)] GL)
noncomputable def zab.L18 (y0:LLD) (y1:Int) (y2:Bool) (y3:Int) (y4:BAy) (y5 y6:LLD) (y7:Bool) (y8:Int) (y9:BAy) (y10 y11 y12:LLD) : Option (Ex × St) := lpL XX 24 (zat 18 zab.c) (mkG 0 101 [(0, .one (.s y0)), (2, .one (.p true 2 [] 0)), (4, .one (.p true 4 [] 0)), (9, .one (.r 9 [] 0)), (10, .one (.v (.int .i64 y1)))] [(2, some ⟨.box, [.v (.bool y2), .v (.int .i64 y3), .v (.string y4), .s y5, .s y6], [.deep, .deep, .deep, .deep, .deep]⟩), (4, some ⟨.box, [.v (.bool y7), .v (.int .i64 y8), .v (.string y9), .s y10, .s y11], [.deep, .deep, .deep, .deep, .deep]⟩), (9, some ⟨.virt, [.s y12], [.deep]⟩)] GL)
noncomputable def zab.A18 : Ex × St → Option Res := fun r => evA XX 24 (lpL XX 24) 18 zab.c r.fst r.snd (outE XX 24 Tryz.f24)
noncomputable def zab.q5c (y0:LLD) (y1 y2:Bool) (y3:Int) (y4:BAy) (y5 y6:LLD) (y7:Bool) (y8:Int) (y9:BAy) (y10 y11:LLD) : Ex × St := (Ex.ret, mkG 0 101 [(0, .one (.s y0)), (2, .one (.p true 2 [] 0)), (3, .one (.v (.bool y1))), (4, .one (.p true 4 [] 0))] [(2, some ⟨.box, [.v (.bool y2), .v (.int .i64 y3), .v (.string y4), .s y5, .s y6], [.deep, .deep, .deep, .deep, .deep]⟩), (4, some ⟨.box, [.v (.bool y7), .v (.int .i64 y8), .v (.string y9), .s y10, .s y11], [.deep, .deep, .deep, .sh, .sh]⟩)] GL)
noncomputable def zab.P11b (y0:LLD) (y1:Int) (y2 y3:Bool) (y4:Int) (y5:BAy) (y6 y7:LLD) (y8:Bool) (y9:Int) (y10:BAy) (y11 y12:LLD) (y13:Bool) (y14:Int) (y15:BAy) (y16 y17:LLD) : Option (Ex × St) := evB XX 24 (lpL XX 24) 11 (zat 5 zab.c) (mkG 0 101 [(0, .one (.s y0)), (2, .one (.p true 2 [] 0)), (4, .one (.p true 4 [] 0)), (5, .one (.v (.int .i64 y1))), (7, .one (.p true 7 [] 0)), (8, .one (.v (.bool y2)))] [(2, some ⟨.box, [.v (.bool y3), .v (.int .i64 y4), .v (.string y5), .s y6, .s y7], [.deep, .deep, .deep, .deep, .deep]⟩), (4, some ⟨.box, [.v (.bool y8), .v (.int .i64 y9), .v (.string y10), .s y11, .s y12], [.deep, .deep, .deep, .sh, .sh]⟩), (7, some ⟨.box, [.v (.bool y13), .v (.int .i64 y14), .v (.string y15), .s y16, .s y17], [.deep, .deep, .deep, .sh, .sh]⟩)] GL) (backL (lpL XX 24) (zat 5 zab.c) (XX.live 24 5))
noncomputable def zab.x5b (y0:LLD) (y1:Bool) (y2:Int) (y3:BAy) (y4 y5:LLD) (y6:Bool) (y7:Int) (y8:BAy) (y9 y10:LLD) : Ex × St := (Ex.exit 0, mkG 0 101 [(0, .one (.s y0)), (2, .one (.p true 2 [] 0)), (4, .one (.p true 4 [] 0))] [(2, some ⟨.box, [.v (.bool y1), .v (.int .i64 y2), .v (.string y3), .s y4, .s y5], [.deep, .deep, .deep, .deep, .deep]⟩), (4, some ⟨.box, [.v (.bool y6), .v (.int .i64 y7), .v (.string y8), .s y9, .s y10], [.deep, .deep, .deep, .sh, .sh]⟩)] GL)
noncomputable def zab.q18 (y0 y1:Bool) (y2:Int) (y3:BAy) (y4 y5:LLD) (y6:Bool) (y7:Int) (y8:BAy) (y9 y10:LLD) : Ex × St := (Ex.ret, mkG 0 101 [(2, .one (.p true 2 [] 0)), (3, .one (.v (.bool y0))), (4, .one (.p true 4 [] 0))] [(2, some ⟨.box, [.v (.bool y1), .v (.int .i64 y2), .v (.string y3), .s y4, .s y5], [.deep, .deep, .deep, .deep, .deep]⟩), (4, some ⟨.box, [.v (.bool y6), .v (.int .i64 y7), .v (.string y8), .s y9, .s y10], [.deep, .deep, .deep, .deep, .deep]⟩)] GL)
noncomputable def zab.x18 (y0:Bool) (y1:Int) (y2:BAy) (y3 y4:LLD) (y5:Bool) (y6:Int) (y7:BAy) (y8 y9:LLD) : Ex × St := (Ex.exit 2, mkG 0 101 [(2, .one (.p true 2 [] 0)), (4, .one (.p true 4 [] 0))] [(2, some ⟨.box, [.v (.bool y0), .v (.int .i64 y1), .v (.string y2), .s y3, .s y4], [.deep, .deep, .deep, .deep, .deep]⟩), (4, some ⟨.box, [.v (.bool y5), .v (.int .i64 y6), .v (.string y7), .s y8, .s y9], [.deep, .deep, .deep, .deep, .deep]⟩)] GL)
noncomputable def zab.L18b (y0:LLD) (y1:Int) (y2:Bool) (y3:Int) (y4:BAy) (y5 y6:LLD) (y7:Bool) (y8:Int) (y9:BAy) (y10 y11 y12:LLD) : Option (Ex × St) := lpL XX 24 (zat 18 zab.c) (mkG 0 101 [(0, .one (.s y0)), (2, .one (.p true 2 [] 0)), (4, .one (.p true 4 [] 0)), (9, .one (.r 9 [] 0)), (10, .one (.v (.int .i64 y1)))] [(2, some ⟨.box, [.v (.bool y2), .v (.int .i64 y3), .v (.string y4), .s y5, .s y6], [.deep, .deep, .deep, .deep, .deep]⟩), (4, some ⟨.box, [.v (.bool y7), .v (.int .i64 y8), .v (.string y9), .s y10, .s y11], [.deep, .deep, .deep, .sh, .sh]⟩), (9, some ⟨.virt, [.s y12], [.deep]⟩)] GL)
noncomputable def zab.q18b (y0 y1:Bool) (y2:Int) (y3:BAy) (y4 y5:LLD) (y6:Bool) (y7:Int) (y8:BAy) (y9 y10:LLD) : Ex × St := (Ex.ret, mkG 0 101 [(2, .one (.p true 2 [] 0)), (3, .one (.v (.bool y0))), (4, .one (.p true 4 [] 0))] [(2, some ⟨.box, [.v (.bool y1), .v (.int .i64 y2), .v (.string y3), .s y4, .s y5], [.deep, .deep, .deep, .deep, .deep]⟩), (4, some ⟨.box, [.v (.bool y6), .v (.int .i64 y7), .v (.string y8), .s y9, .s y10], [.deep, .deep, .deep, .sh, .sh]⟩)] GL)
noncomputable def zab.x18b (y0:Bool) (y1:Int) (y2:BAy) (y3 y4:LLD) (y5:Bool) (y6:Int) (y7:BAy) (y8 y9:LLD) : Ex × St := (Ex.exit 2, mkG 0 101 [(2, .one (.p true 2 [] 0)), (4, .one (.p true 4 [] 0))] [(2, some ⟨.box, [.v (.bool y0), .v (.int .i64 y1), .v (.string y2), .s y3, .s y4], [.deep, .deep, .deep, .deep, .deep]⟩), (4, some ⟨.box, [.v (.bool y5), .v (.int .i64 y6), .v (.string y7), .s y8, .s y9], [.deep, .deep, .deep, .sh, .sh]⟩)] GL)
theorem zab.e (a0:LLD) : zab [.one (.s a0)] [] = bif (↑a0.length : Int) == 0 then zab.P2 a0 true false 0 (ByteArray.mk #[]) [] [] else bif decide ((↑a0.length : Int) > 31) then zab.P2 a0 true false 0 (ByteArray.mk #[]) [] [] else bif decide (0 < (↑a0.length : Int)) && decide ((a0.getD 0 []).length = 5) then bif zas [.sl] (a0.getD 0 []) 0 && decide (1 ≤ (a0.getD 0 []).length) then zab.P2 a0 ((↑((a0.getD 0 []).getD 0 .h).es.length : Int) != 0) false 0 (ByteArray.mk #[]) [] [] else none else none := by
 refine (zab.run _ _ (by kernel_rfl)).trans ?_
 delta zab zab.P2 XX
 refine zbt [2, 3] (by kernel_rfl) fun J e1 => ?_
 try simp only [← e1]
 clear e1
 generalize lpL (Y.ctx (lim' Y)) 24 = lp
 generalize lim' Y = call
 kernel_rfl
theorem zab.p2 (y0:LLD) (y1 y2:Bool) (y3:Int) (y4:BAy) (y5 y6:LLD) : zab.P2 y0 y1 y2 y3 y4 y5 y6 = bif y1 then some ⟨[.v (.bool false), .v (.int .i64 0), .v (.string (ByteArray.mk #[])), .o .deep [], .o .deep [], .v (.bool false)], []⟩ else zab.P3 y0 y2 y3 y4 y5 y6 := by
 delta zab.P2 zab.P3 XX
 refine zbg [2, 3] 2 (by kernel_rfl) fun J e1 => ?_
 try simp only [← e1]
 clear e1
 generalize lpL (Y.ctx (lim' Y)) 24 = lp
 generalize lim' Y = call
 kernel_rfl
theorem zab.p3 (y0:LLD) (y1:Bool) (y2:Int) (y3:BAy) (y4 y5:LLD) : zab.P3 y0 y1 y2 y3 y4 y5 = bif decide (0 < (↑y0.length : Int)) && decide ((y0.getD 0 []).length = 5) then bif zas [.bool] (y0.getD 0 []) 1 && decide (2 ≤ (y0.getD 0 []).length) then bif decide (0 < (↑y0.length : Int)) && decide ((y0.getD 0 []).length = 5) then bif zas [.int .i64] (y0.getD 0 []) 2 && decide (3 ≤ (y0.getD 0 []).length) then bif decide (0 < (↑y0.length : Int)) && decide ((y0.getD 0 []).length = 5) then bif zas [.str] (y0.getD 0 []) 3 && decide (4 ≤ (y0.getD 0 []).length) then (zab.L5 y0 1 y1 y2 y3 y4 y5 ((y0.getD 0 []).getD 1 .h).bool ((y0.getD 0 []).getD 2 .h).int ((y0.getD 0 []).getD 3 .h).str [] []).bind zab.A5 else none else none else none else none else none else none := by
 delta zab.P3 zab.L5 zab.A5 XX
 refine zbg [2, 3] 3 (by kernel_rfl) fun J e1 => ?_
 have eA := evA_J [2, 3] 5 (by kernel_rfl) e1
 try simp only [eA]
 clear eA
 try simp only [← e1]
 clear e1
 show _ = _
 generalize lpL (Y.ctx (lim' Y)) 24 = lp
 generalize lim' Y = call
 kernel_rfl
theorem zab.s5 (y0:LLD) (y1:Int) (y2:Bool) (y3:Int) (y4:BAy) (y5 y6:LLD) (y7:Bool) (y8:Int) (y9:BAy) (y10 y11:LLD) : zab.L5 y0 y1 y2 y3 y4 y5 y6 y7 y8 y9 y10 y11 = bif decide (y1 < (↑y0.length : Int)) then bif decide (0 ≤ y1) && decide (y1 < (↑y0.length : Int)) && decide ((y0.getD y1.toNat []).length = 5) then bif zas [.sl, .bool, .int .i64, .str, .int .i64] (y0.getD y1.toNat []) 0 && decide (5 ≤ (y0.getD y1.toNat []).length) then (zaA [.one (.s ((y0.getD y1.toNat []).getD 0 .h).es)] []).bind fun val => bif zag [.bool] val.1 && true then bif !(val.1.getD 0 .d).bool then some (zab.q5 y0 false false 0 (ByteArray.mk #[]) [] [] y7 y8 y9 y10 y11) else (zbk [.g [.v (.bool y7), .v (.int .i64 y8), .v (.string y9), .s y10, .s y11], .one (.s ((y0.getD y1.toNat []).getD 0 .h).es), .g [.v (.bool ((y0.getD y1.toNat []).getD 1 .h).bool), .v (.int .i64 ((y0.getD y1.toNat []).getD 2 .h).int), .v (.string ((y0.getD y1.toNat []).getD 3 .h).str), .s [], .s []]] []).bind fun val => bif zag [.bool, .int .i64, .str, .sh, .sh, .bool] val.1 && true then zab.P11 y0 y1 (val.1.getD 5 .d).bool y2 y3 y4 y5 y6 y7 y8 y9 y10 y11 (val.1.getD 0 .d).bool (val.1.getD 1 .d).int (val.1.getD 2 .d).str (val.1.getD 3 .d).es (val.1.getD 4 .d).es else none else none else none else none else some (zab.x5 y0 y2 y3 y4 y5 y6 y7 y8 y9 y10 y11) := by
 refine (zbf (Y := Y) (c := lim' Y) (fn := 24) (rid := 5) (b := zat 5 zab.c) (by kernel_rfl) _).trans ?_
 delta zab.L5 zaA zab.q5 zbk zab.P11 zab.x5 XX
 refine zbt [11] (by kernel_rfl) fun J e1 => ?_
 try simp only [← e1]
 clear e1
 generalize lpL (Y.ctx (lim' Y)) 24 = lp
 generalize lim' Y = call
 kernel_rfl
theorem zab.a5q5 (y0:LLD) (y1 y2:Bool) (y3:Int) (y4:BAy) (y5 y6:LLD) (y7:Bool) (y8:Int) (y9:BAy) (y10 y11:LLD) : zab.A5 (zab.q5 y0 y1 y2 y3 y4 y5 y6 y7 y8 y9 y10 y11) = some ⟨[.v (.bool y2), .v (.int .i64 y3), .v (.string y4), .o .deep y5, .o .deep y6, .v (.bool y1)], []⟩ := by
 delta zab.A5 zab.q5 XX
 refine zbb [2, 3] 5 (by kernel_rfl) fun J e1 => ?_
 have eA := evA_J [2, 3] 5 (by kernel_rfl) e1
 try simp only [eA]
 clear eA
 try simp only [← e1]
 clear e1
 show _ = _
 generalize lpL (Y.ctx (lim' Y)) 24 = lp
 generalize lim' Y = call
 kernel_rfl
theorem zab.p11 (y0:LLD) (y1:Int) (y2 y3:Bool) (y4:Int) (y5:BAy) (y6 y7:LLD) (y8:Bool) (y9:Int) (y10:BAy) (y11 y12:LLD) (y13:Bool) (y14:Int) (y15:BAy) (y16 y17:LLD) : zab.P11 y0 y1 y2 y3 y4 y5 y6 y7 y8 y9 y10 y11 y12 y13 y14 y15 y16 y17 = bif !y2 then some (zab.q5b y0 false false 0 (ByteArray.mk #[]) [] [] y8 y9 y10 y11 y12) else zab.L5b y0 (IntKind.i64.wrap (y1 + 1)) y3 y4 y5 y6 y7 y13 y14 y15 y16 y17 := by
 delta zab.P11 zab.q5b zab.L5b XX
 refine zbg [11] 11 (by kernel_rfl) fun J e1 => ?_
 try simp only [← e1]
 clear e1
 generalize lpL (Y.ctx (lim' Y)) 24 = lp
 generalize lim' Y = call
 kernel_rfl
theorem zab.a5x5 (y0:LLD) (y1:Bool) (y2:Int) (y3:BAy) (y4 y5:LLD) (y6:Bool) (y7:Int) (y8:BAy) (y9 y10:LLD) : zab.A5 (zab.x5 y0 y1 y2 y3 y4 y5 y6 y7 y8 y9 y10) = (zbq [.g [.v (.bool y6), .v (.int .i64 y7), .v (.string y8), .s y9, .s y10]] []).bind fun val => bif zag [.own .deep] val.1 && true then bif (↑(val.1.getD 0 .d).es.length : Int) != (↑y0.length : Int) then some ⟨[.v (.bool false), .v (.int .i64 0), .v (.string (ByteArray.mk #[])), .o .deep [], .o .deep [], .v (.bool false)], []⟩ else (zab.L18 y0 0 y1 y2 y3 y4 y5 y6 y7 y8 y9 y10 (val.1.getD 0 .d).es).bind zab.A18 else none := by
 delta zab.A5 zab.x5 zbq zab.L18 zab.A18 XX
 refine zbb [2, 3] 5 (by kernel_rfl) fun J e1 => ?_
 have eA := evA_J [2, 3] 5 (by kernel_rfl) e1
 try simp only [eA]
 clear eA
 have eA := evA_J [2, 3] 18 (by kernel_rfl) e1
 try simp only [eA]
 clear eA
 try simp only [← e1]
 clear e1
 show _ = _
 generalize lpL (Y.ctx (lim' Y)) 24 = lp
 generalize lim' Y = call
 kernel_rfl
theorem zab.a5q5b (y0:LLD) (y1 y2:Bool) (y3:Int) (y4:BAy) (y5 y6:LLD) (y7:Bool) (y8:Int) (y9:BAy) (y10 y11:LLD) : zab.A5 (zab.q5b y0 y1 y2 y3 y4 y5 y6 y7 y8 y9 y10 y11) = some ⟨[.v (.bool y2), .v (.int .i64 y3), .v (.string y4), .o .deep y5, .o .deep y6, .v (.bool y1)], []⟩ := by
 delta zab.A5 zab.q5b XX
 refine zbb [2, 3] 5 (by kernel_rfl) fun J e1 => ?_
 have eA := evA_J [2, 3] 5 (by kernel_rfl) e1
 try simp only [eA]
 clear eA
 try simp only [← e1]
 clear e1
 show _ = _
 generalize lpL (Y.ctx (lim' Y)) 24 = lp
 generalize lim' Y = call
 kernel_rfl
theorem zab.s5b (y0:LLD) (y1:Int) (y2:Bool) (y3:Int) (y4:BAy) (y5 y6:LLD) (y7:Bool) (y8:Int) (y9:BAy) (y10 y11:LLD) : zab.L5b y0 y1 y2 y3 y4 y5 y6 y7 y8 y9 y10 y11 = bif decide (y1 < (↑y0.length : Int)) then bif decide (0 ≤ y1) && decide (y1 < (↑y0.length : Int)) && decide ((y0.getD y1.toNat []).length = 5) then bif zas [.sl, .bool, .int .i64, .str, .int .i64] (y0.getD y1.toNat []) 0 && decide (5 ≤ (y0.getD y1.toNat []).length) then (zaA [.one (.s ((y0.getD y1.toNat []).getD 0 .h).es)] []).bind fun val => bif zag [.bool] val.1 && true then bif !(val.1.getD 0 .d).bool then some (zab.q5c y0 false false 0 (ByteArray.mk #[]) [] [] y7 y8 y9 y10 y11) else (zbk [.g [.v (.bool y7), .v (.int .i64 y8), .v (.string y9), .s y10, .s y11], .one (.s ((y0.getD y1.toNat []).getD 0 .h).es), .g [.v (.bool ((y0.getD y1.toNat []).getD 1 .h).bool), .v (.int .i64 ((y0.getD y1.toNat []).getD 2 .h).int), .v (.string ((y0.getD y1.toNat []).getD 3 .h).str), .s [], .s []]] []).bind fun val => bif zag [.bool, .int .i64, .str, .sh, .sh, .bool] val.1 && true then zab.P11b y0 y1 (val.1.getD 5 .d).bool y2 y3 y4 y5 y6 y7 y8 y9 y10 y11 (val.1.getD 0 .d).bool (val.1.getD 1 .d).int (val.1.getD 2 .d).str (val.1.getD 3 .d).es (val.1.getD 4 .d).es else none else none else none else none else some (zab.x5b y0 y2 y3 y4 y5 y6 y7 y8 y9 y10 y11) := by
 refine (zbf (Y := Y) (c := lim' Y) (fn := 24) (rid := 5) (b := zat 5 zab.c) (by kernel_rfl) _).trans ?_
 delta zab.L5b zaA zab.q5c zbk zab.P11b zab.x5b XX
 refine zbt [11] (by kernel_rfl) fun J e1 => ?_
 try simp only [← e1]
 clear e1
 generalize lpL (Y.ctx (lim' Y)) 24 = lp
 generalize lim' Y = call
 kernel_rfl
theorem zab.s18 (y0:LLD) (y1:Int) (y2:Bool) (y3:Int) (y4:BAy) (y5 y6:LLD) (y7:Bool) (y8:Int) (y9:BAy) (y10 y11 y12:LLD) : zab.L18 y0 y1 y2 y3 y4 y5 y6 y7 y8 y9 y10 y11 y12 = bif decide (y1 < (↑y0.length : Int)) then bif decide (0 ≤ y1) && decide (y1 < (↑y12.length : Int)) && decide ((y12.getD y1.toNat []).length = 5) then bif zas [.sl, .bool, .int .i64, .str, .int .i64] (y12.getD y1.toNat []) 0 && decide (5 ≤ (y12.getD y1.toNat []).length) then bif decide (0 ≤ y1) && decide (y1 < (↑y0.length : Int)) && decide ((y0.getD y1.toNat []).length = 5) then bif zas [.sl, .bool, .int .i64, .str, .int .i64] (y0.getD y1.toNat []) 0 && decide (5 ≤ (y0.getD y1.toNat []).length) then (zbZ [.g [.s ((y12.getD y1.toNat []).getD 0 .h).es, .v (.bool ((y12.getD y1.toNat []).getD 1 .h).bool), .v (.int .i64 ((y12.getD y1.toNat []).getD 2 .h).int), .v (.string ((y12.getD y1.toNat []).getD 3 .h).str), .v (.int .i64 ((y12.getD y1.toNat []).getD 4 .h).int)], .g [.s ((y0.getD y1.toNat []).getD 0 .h).es, .v (.bool ((y0.getD y1.toNat []).getD 1 .h).bool), .v (.int .i64 ((y0.getD y1.toNat []).getD 2 .h).int), .v (.string ((y0.getD y1.toNat []).getD 3 .h).str), .v (.int .i64 ((y0.getD y1.toNat []).getD 4 .h).int)]] []).bind fun val => bif zag [.bool] val.1 && true then bif !(val.1.getD 0 .d).bool then some (zab.q18 false false 0 (ByteArray.mk #[]) [] [] y7 y8 y9 y10 y11) else zab.L18 y0 (IntKind.i64.wrap (y1 + 1)) y2 y3 y4 y5 y6 y7 y8 y9 y10 y11 y12 else none else none else none else none else none else some (zab.x18 y2 y3 y4 y5 y6 y7 y8 y9 y10 y11) := by
 refine (zbf (Y := Y) (c := lim' Y) (fn := 24) (rid := 18) (b := zat 18 zab.c) (by kernel_rfl) _).trans ?_
 delta zab.L18 zbZ zab.q18 zab.x18 XX
 generalize lpL (Y.ctx (lim' Y)) 24 = lp
 generalize lim' Y = call
 kernel_rfl
theorem zab.a5q5c (y0:LLD) (y1 y2:Bool) (y3:Int) (y4:BAy) (y5 y6:LLD) (y7:Bool) (y8:Int) (y9:BAy) (y10 y11:LLD) : zab.A5 (zab.q5c y0 y1 y2 y3 y4 y5 y6 y7 y8 y9 y10 y11) = some ⟨[.v (.bool y2), .v (.int .i64 y3), .v (.string y4), .o .deep y5, .o .deep y6, .v (.bool y1)], []⟩ := by
 delta zab.A5 zab.q5c XX
 refine zbb [2, 3] 5 (by kernel_rfl) fun J e1 => ?_
 have eA := evA_J [2, 3] 5 (by kernel_rfl) e1
 try simp only [eA]
 clear eA
 try simp only [← e1]
 clear e1
 show _ = _
 generalize lpL (Y.ctx (lim' Y)) 24 = lp
 generalize lim' Y = call
 kernel_rfl
theorem zab.p11b (y0:LLD) (y1:Int) (y2 y3:Bool) (y4:Int) (y5:BAy) (y6 y7:LLD) (y8:Bool) (y9:Int) (y10:BAy) (y11 y12:LLD) (y13:Bool) (y14:Int) (y15:BAy) (y16 y17:LLD) : zab.P11b y0 y1 y2 y3 y4 y5 y6 y7 y8 y9 y10 y11 y12 y13 y14 y15 y16 y17 = bif !y2 then some (zab.q5c y0 false false 0 (ByteArray.mk #[]) [] [] y8 y9 y10 y11 y12) else zab.L5b y0 (IntKind.i64.wrap (y1 + 1)) y3 y4 y5 y6 y7 y13 y14 y15 y16 y17 := by
 delta zab.P11b zab.q5c zab.L5b XX
 refine zbg [11] 11 (by kernel_rfl) fun J e1 => ?_
 try simp only [← e1]
 clear e1
 generalize lpL (Y.ctx (lim' Y)) 24 = lp
 generalize lim' Y = call
 kernel_rfl
theorem zab.a5x5b (y0:LLD) (y1:Bool) (y2:Int) (y3:BAy) (y4 y5:LLD) (y6:Bool) (y7:Int) (y8:BAy) (y9 y10:LLD) : zab.A5 (zab.x5b y0 y1 y2 y3 y4 y5 y6 y7 y8 y9 y10) = (zbq [.g [.v (.bool y6), .v (.int .i64 y7), .v (.string y8), .s y9, .s y10]] []).bind fun val => bif zag [.own .deep] val.1 && true then bif (↑(val.1.getD 0 .d).es.length : Int) != (↑y0.length : Int) then some ⟨[.v (.bool false), .v (.int .i64 0), .v (.string (ByteArray.mk #[])), .o .deep [], .o .deep [], .v (.bool false)], []⟩ else (zab.L18b y0 0 y1 y2 y3 y4 y5 y6 y7 y8 y9 y10 (val.1.getD 0 .d).es).bind zab.A18 else none := by
 delta zab.A5 zab.x5b zbq zab.L18b zab.A18 XX
 refine zbb [2, 3] 5 (by kernel_rfl) fun J e1 => ?_
 have eA := evA_J [2, 3] 5 (by kernel_rfl) e1
 try simp only [eA]
 clear eA
 have eA := evA_J [2, 3] 18 (by kernel_rfl) e1
 try simp only [eA]
 clear eA
 try simp only [← e1]
 clear e1
 show _ = _
 generalize lpL (Y.ctx (lim' Y)) 24 = lp
 generalize lim' Y = call
 kernel_rfl
theorem zab.a18q18 (y0 y1:Bool) (y2:Int) (y3:BAy) (y4 y5:LLD) (y6:Bool) (y7:Int) (y8:BAy) (y9 y10:LLD) : zab.A18 (zab.q18 y0 y1 y2 y3 y4 y5 y6 y7 y8 y9 y10) = some ⟨[.v (.bool y1), .v (.int .i64 y2), .v (.string y3), .o .deep y4, .o .deep y5, .v (.bool y0)], []⟩ := by
 delta zab.A18 zab.q18 XX
 refine zbb [2, 3] 18 (by kernel_rfl) fun J e1 => ?_
 have eA := evA_J [2, 3] 18 (by kernel_rfl) e1
 try simp only [eA]
 clear eA
 try simp only [← e1]
 clear e1
 show _ = _
 generalize lpL (Y.ctx (lim' Y)) 24 = lp
 generalize lim' Y = call
 kernel_rfl
theorem zab.a18x18 (y0:Bool) (y1:Int) (y2:BAy) (y3 y4:LLD) (y5:Bool) (y6:Int) (y7:BAy) (y8 y9:LLD) : zab.A18 (zab.x18 y0 y1 y2 y3 y4 y5 y6 y7 y8 y9) = (za5 [.g [.v (.bool y5), .v (.int .i64 y6), .v (.string y7), .s y8, .s y9]] []).bind fun val => bif zag [.bool, .int .i64, .str, .own .deep, .own .deep] val.1 && true then some ⟨[.v (.bool (val.1.getD 0 .d).bool), .v (.int .i64 (val.1.getD 1 .d).int), .v (.string (val.1.getD 2 .d).str), .o .deep (val.1.getD 3 .d).es, .o .deep (val.1.getD 4 .d).es, .v (.bool true)], []⟩ else none := by
 delta zab.A18 zab.x18 za5 XX
 refine zbb [2, 3] 18 (by kernel_rfl) fun J e1 => ?_
 have eA := evA_J [2, 3] 18 (by kernel_rfl) e1
 try simp only [eA]
 clear eA
 try simp only [← e1]
 clear e1
 show _ = _
 generalize lpL (Y.ctx (lim' Y)) 24 = lp
 generalize lim' Y = call
 kernel_rfl
theorem zab.s18b (y0:LLD) (y1:Int) (y2:Bool) (y3:Int) (y4:BAy) (y5 y6:LLD) (y7:Bool) (y8:Int) (y9:BAy) (y10 y11 y12:LLD) : zab.L18b y0 y1 y2 y3 y4 y5 y6 y7 y8 y9 y10 y11 y12 = bif decide (y1 < (↑y0.length : Int)) then bif decide (0 ≤ y1) && decide (y1 < (↑y12.length : Int)) && decide ((y12.getD y1.toNat []).length = 5) then bif zas [.sl, .bool, .int .i64, .str, .int .i64] (y12.getD y1.toNat []) 0 && decide (5 ≤ (y12.getD y1.toNat []).length) then bif decide (0 ≤ y1) && decide (y1 < (↑y0.length : Int)) && decide ((y0.getD y1.toNat []).length = 5) then bif zas [.sl, .bool, .int .i64, .str, .int .i64] (y0.getD y1.toNat []) 0 && decide (5 ≤ (y0.getD y1.toNat []).length) then (zbZ [.g [.s ((y12.getD y1.toNat []).getD 0 .h).es, .v (.bool ((y12.getD y1.toNat []).getD 1 .h).bool), .v (.int .i64 ((y12.getD y1.toNat []).getD 2 .h).int), .v (.string ((y12.getD y1.toNat []).getD 3 .h).str), .v (.int .i64 ((y12.getD y1.toNat []).getD 4 .h).int)], .g [.s ((y0.getD y1.toNat []).getD 0 .h).es, .v (.bool ((y0.getD y1.toNat []).getD 1 .h).bool), .v (.int .i64 ((y0.getD y1.toNat []).getD 2 .h).int), .v (.string ((y0.getD y1.toNat []).getD 3 .h).str), .v (.int .i64 ((y0.getD y1.toNat []).getD 4 .h).int)]] []).bind fun val => bif zag [.bool] val.1 && true then bif !(val.1.getD 0 .d).bool then some (zab.q18b false false 0 (ByteArray.mk #[]) [] [] y7 y8 y9 y10 y11) else zab.L18b y0 (IntKind.i64.wrap (y1 + 1)) y2 y3 y4 y5 y6 y7 y8 y9 y10 y11 y12 else none else none else none else none else none else some (zab.x18b y2 y3 y4 y5 y6 y7 y8 y9 y10 y11) := by
 refine (zbf (Y := Y) (c := lim' Y) (fn := 24) (rid := 18) (b := zat 18 zab.c) (by kernel_rfl) _).trans ?_
 delta zab.L18b zbZ zab.q18b zab.x18b XX
 generalize lpL (Y.ctx (lim' Y)) 24 = lp
 generalize lim' Y = call
 kernel_rfl
theorem zab.a18q18b (y0 y1:Bool) (y2:Int) (y3:BAy) (y4 y5:LLD) (y6:Bool) (y7:Int) (y8:BAy) (y9 y10:LLD) : zab.A18 (zab.q18b y0 y1 y2 y3 y4 y5 y6 y7 y8 y9 y10) = some ⟨[.v (.bool y1), .v (.int .i64 y2), .v (.string y3), .o .deep y4, .o .deep y5, .v (.bool y0)], []⟩ := by
 delta zab.A18 zab.q18b XX
 refine zbb [2, 3] 18 (by kernel_rfl) fun J e1 => ?_
 have eA := evA_J [2, 3] 18 (by kernel_rfl) e1
 try simp only [eA]
 clear eA
 try simp only [← e1]
 clear e1
 show _ = _
 generalize lpL (Y.ctx (lim' Y)) 24 = lp
 generalize lim' Y = call
 kernel_rfl
theorem zab.a18x18b (y0:Bool) (y1:Int) (y2:BAy) (y3 y4:LLD) (y5:Bool) (y6:Int) (y7:BAy) (y8 y9:LLD) : zab.A18 (zab.x18b y0 y1 y2 y3 y4 y5 y6 y7 y8 y9) = (za5 [.g [.v (.bool y5), .v (.int .i64 y6), .v (.string y7), .s y8, .s y9]] []).bind fun val => bif zag [.bool, .int .i64, .str, .own .deep, .own .deep] val.1 && true then some ⟨[.v (.bool (val.1.getD 0 .d).bool), .v (.int .i64 (val.1.getD 1 .d).int), .v (.string (val.1.getD 2 .d).str), .o .deep (val.1.getD 3 .d).es, .o .deep (val.1.getD 4 .d).es, .v (.bool true)], []⟩ else none := by
 delta zab.A18 zab.x18b za5 XX
 refine zbb [2, 3] 18 (by kernel_rfl) fun J e1 => ?_
 have eA := evA_J [2, 3] 18 (by kernel_rfl) e1
 try simp only [eA]
 clear eA
 try simp only [← e1]
 clear e1
 show _ = _
 generalize lpL (Y.ctx (lim' Y)) 24 = lp
 generalize lim' Y = call
 kernel_rfl
noncomputable def zah.P5 (y0 y1:LLD) (y2 y3:Int) (y4:Bool) (y5:Int) (y6:BAy) (y7 y8:LLD) (y9:Bool) (y10:Int) (y11:BAy) (y12 y13:LLD) : Option Res := evB XX 25 (lpL XX 25) 5 zah.c (mkG 0 79 [(0, .one (.s y0)), (2, .one (.p true 2 [] 0)), (4, .one (.p true 4 [] 0)), (28, .one (.s y1)), (29, .one (.v (.int .i64 y2))), (30, .one (.v (.int .i64 y3)))] [(2, some ⟨.box, [.v (.bool y4), .v (.int .i64 y5), .v (.string y6), .s y7, .s y8], [.deep, .deep, .deep, .deep, .deep]⟩), (4, some ⟨.box, [.v (.bool y9), .v (.int .i64 y10), .v (.string y11), .s y12, .s y13], [.deep, .deep, .deep, .deep, .deep]⟩)] GL) (outE XX 25 Tryz.f25)
noncomputable def zah.L5 (y0 y1:LLD) (y2 y3:Int) (y4:Bool) (y5:Int) (y6:BAy) (y7 y8:LLD) (y9:Bool) (y10:Int) (y11:BAy) (y12 y13:LLD) : Option (Ex × St) := lpL XX 25 (zat 5 zah.c) (mkG 0 79 [(0, .one (.s y0)), (2, .one (.p true 2 [] 0)), (4, .one (.p true 4 [] 0)), (28, .one (.s y1)), (29, .one (.v (.int .i64 y2))), (30, .one (.v (.int .i64 y3)))] [(2, some ⟨.box, [.v (.bool y4), .v (.int .i64 y5), .v (.string y6), .s y7, .s y8], [.deep, .deep, .deep, .deep, .deep]⟩), (4, some ⟨.box, [.v (.bool y9), .v (.int .i64 y10), .v (.string y11), .s y12, .s y13], [.deep, .deep, .deep, .deep, .deep]⟩)] GL)
noncomputable def zah.A5 : Ex × St → Option Res := fun r => evA XX 25 (lpL XX 25) 5 zah.c r.fst r.snd (outE XX 25 Tryz.f25)
noncomputable def zah.q5 (y0:LLD) (y1 y2:Bool) (y3:Int) (y4:BAy) (y5 y6:LLD) (y7:Bool) (y8:Int) (y9:BAy) (y10 y11:LLD) : Ex × St := (Ex.ret, mkG 0 79 [(0, .one (.s y0)), (2, .one (.p true 2 [] 0)), (3, .one (.v (.bool y1))), (4, .one (.p true 4 [] 0))] [(2, some ⟨.box, [.v (.bool y2), .v (.int .i64 y3), .v (.string y4), .s y5, .s y6], [.deep, .deep, .deep, .deep, .deep]⟩), (4, some ⟨.box, [.v (.bool y7), .v (.int .i64 y8), .v (.string y9), .s y10, .s y11], [.deep, .deep, .deep, .deep, .deep]⟩)] GL)
noncomputable def zah.P11 (y0:LLD) (y1:Int) (y2:Bool) (y3:LLD) (y4 y5:Int) (y6:Bool) (y7:Int) (y8:BAy) (y9 y10:LLD) (y11:Bool) (y12:Int) (y13:BAy) (y14 y15 y16:LLD) (y17:Bool) (y18:Int) (y19:BAy) (y20:Int) : Option (Ex × St) := evB XX 25 (lpL XX 25) 11 (zat 5 zah.c) (mkG 0 79 [(0, .one (.s y0)), (2, .one (.p true 2 [] 0)), (4, .one (.p true 4 [] 0)), (6, .one (.p true 6 [] 0)), (7, .one (.v (.int .i64 y1))), (8, .one (.p y2 4 [] 0)), (28, .one (.s y3)), (29, .one (.v (.int .i64 y4))), (30, .one (.v (.int .i64 y5)))] [(2, some ⟨.box, [.v (.bool y6), .v (.int .i64 y7), .v (.string y8), .s y9, .s y10], [.deep, .deep, .deep, .deep, .deep]⟩), (4, some ⟨.box, [.v (.bool y11), .v (.int .i64 y12), .v (.string y13), .s y14, .s y15], [.deep, .deep, .deep, .deep, .deep]⟩), (6, some ⟨.box, [.s y16, .v (.bool y17), .v (.int .i64 y18), .v (.string y19), .v (.int .i64 y20)], [.sh, .deep, .deep, .deep, .deep]⟩)] GL) (backL (lpL XX 25) (zat 5 zah.c) (XX.live 25 5))
noncomputable def zah.P11b (y0:LLD) (y1:Int) (y2:Bool) (y3:Nat) (y4:List (Nat × Nat)) (y5:LLD) (y6 y7:Int) (y8:Bool) (y9:Int) (y10:BAy) (y11 y12:LLD) (y13:Bool) (y14:Int) (y15:BAy) (y16 y17 y18:LLD) (y19:Bool) (y20:Int) (y21:BAy) (y22:Int) : Option (Ex × St) := evB XX 25 (lpL XX 25) 11 (zat 5 zah.c) (mkG 0 79 [(0, .one (.s y0)), (2, .one (.p true 2 [] 0)), (4, .one (.p true 4 [] 0)), (6, .one (.p true 6 [] 0)), (7, .one (.v (.int .i64 y1))), (8, .one (.p y2 4 ((4, y3) :: y4) 0)), (28, .one (.s y5)), (29, .one (.v (.int .i64 y6))), (30, .one (.v (.int .i64 y7)))] [(2, some ⟨.box, [.v (.bool y8), .v (.int .i64 y9), .v (.string y10), .s y11, .s y12], [.deep, .deep, .deep, .deep, .deep]⟩), (4, some ⟨.box, [.v (.bool y13), .v (.int .i64 y14), .v (.string y15), .s y16, .s y17], [.deep, .deep, .deep, .deep, .deep]⟩), (6, some ⟨.box, [.s y18, .v (.bool y19), .v (.int .i64 y20), .v (.string y21), .v (.int .i64 y22)], [.sh, .deep, .deep, .deep, .deep]⟩)] GL) (backL (lpL XX 25) (zat 5 zah.c) (XX.live 25 5))
noncomputable def zah.x5 (y0:LLD) (y1:Bool) (y2:Int) (y3:BAy) (y4 y5:LLD) (y6:Bool) (y7:Int) (y8:BAy) (y9 y10:LLD) : Ex × St := (Ex.exit 0, mkG 0 79 [(0, .one (.s y0)), (2, .one (.p true 2 [] 0)), (4, .one (.p true 4 [] 0))] [(2, some ⟨.box, [.v (.bool y1), .v (.int .i64 y2), .v (.string y3), .s y4, .s y5], [.deep, .deep, .deep, .deep, .deep]⟩), (4, some ⟨.box, [.v (.bool y6), .v (.int .i64 y7), .v (.string y8), .s y9, .s y10], [.deep, .deep, .deep, .deep, .deep]⟩)] GL)
noncomputable def zah.P16 (y0 y1:Bool) (y2:Int) (y3:BAy) (y4 y5:LLD) (y6:Bool) (y7:Int) (y8:BAy) (y9 y10:LLD) : Option Res := evB XX 25 (lpL XX 25) 16 zah.c (mkG 0 79 [(2, .one (.p true 2 [] 0)), (4, .one (.p true 4 [] 0)), (75, .one (.v (.bool y0)))] [(2, some ⟨.box, [.v (.bool y1), .v (.int .i64 y2), .v (.string y3), .s y4, .s y5], [.deep, .deep, .deep, .deep, .deep]⟩), (4, some ⟨.box, [.v (.bool y6), .v (.int .i64 y7), .v (.string y8), .s y9, .s y10], [.deep, .deep, .deep, .deep, .deep]⟩)] GL) (outE XX 25 Tryz.f25)
noncomputable def zah.P17 (y0:Bool) (y1:Int) (y2:BAy) (y3 y4:LLD) (y5:Bool) (y6:Int) (y7:BAy) (y8 y9:LLD) : Option Res := evB XX 25 (lpL XX 25) 17 zah.c (mkG 0 79 [(2, .one (.p true 2 [] 0)), (4, .one (.p true 4 [] 0))] [(2, some ⟨.box, [.v (.bool y0), .v (.int .i64 y1), .v (.string y2), .s y3, .s y4], [.deep, .deep, .deep, .deep, .deep]⟩), (4, some ⟨.box, [.v (.bool y5), .v (.int .i64 y6), .v (.string y7), .s y8, .s y9], [.deep, .deep, .deep, .deep, .deep]⟩)] GL) (outE XX 25 Tryz.f25)
theorem zah.e (a0:LLD) : zah [.one (.s a0)] [] = (zb2 [.one (.v (.int .i64 (↑a0.length : Int))), .one (.v (.int .i64 1)), .one (.v (.int .i64 31))] []).bind fun val => bif zag [.bool] val.1 && true then bif !(val.1.getD 0 .d).bool then some ⟨[.v (.bool false), .v (.int .i64 0), .v (.string (ByteArray.mk #[])), .o .deep [], .o .deep [], .v (.bool false)], []⟩ else bif decide (0 < (↑a0.length : Int)) && decide ((a0.getD 0 []).length = 5) then bif zas [.bool] (a0.getD 0 []) 1 && decide (2 ≤ (a0.getD 0 []).length) then bif decide (0 < (↑a0.length : Int)) && decide ((a0.getD 0 []).length = 5) then bif zas [.int .i64] (a0.getD 0 []) 2 && decide (3 ≤ (a0.getD 0 []).length) then bif decide (0 < (↑a0.length : Int)) && decide ((a0.getD 0 []).length = 5) then bif zas [.str] (a0.getD 0 []) 3 && decide (4 ≤ (a0.getD 0 []).length) then bif decide ((some 1).getD 0 ≤ (↑a0.length : Int)) && decide ((↑a0.length : Int) ≤ (↑a0.length : Int)) && (false || decide ((a0.getD 0 []).length = 5)) then zah.P5 a0 (List.drop 1 (List.take (↑a0.length : Int).toNat a0)) (↑(List.drop 1 (List.take (↑a0.length : Int).toNat a0)).length : Int) 0 false 0 (ByteArray.mk #[]) [] [] ((a0.getD 0 []).getD 1 .h).bool ((a0.getD 0 []).getD 2 .h).int ((a0.getD 0 []).getD 3 .h).str [] [] else none else none else none else none else none else none else none else none := by
 refine (zah.run _ _ (by kernel_rfl)).trans ?_
 delta zah zb2 zah.P5 XX
 refine zbt [5, 16, 17] (by kernel_rfl) fun J e1 => ?_
 try simp only [← e1]
 clear e1
 generalize lpL (Y.ctx (lim' Y)) 25 = lp
 generalize lim' Y = call
 kernel_rfl
theorem zah.p5 (y0 y1:LLD) (y2 y3:Int) (y4:Bool) (y5:Int) (y6:BAy) (y7 y8:LLD) (y9:Bool) (y10:Int) (y11:BAy) (y12 y13:LLD) : zah.P5 y0 y1 y2 y3 y4 y5 y6 y7 y8 y9 y10 y11 y12 y13 = (zah.L5 y0 y1 y2 y3 y4 y5 y6 y7 y8 y9 y10 y11 y12 y13).bind zah.A5 := by
 delta zah.P5 zah.L5 zah.A5 XX
 refine zbg [5, 16, 17] 5 (by kernel_rfl) fun J e1 => ?_
 have eA := evA_J [5, 16, 17] 5 (by kernel_rfl) e1
 try simp only [eA]
 clear eA
 try simp only [← e1]
 clear e1
 show _ = _
 generalize lpL (Y.ctx (lim' Y)) 25 = lp
 generalize lim' Y = call
 kernel_rfl
theorem zah.s5 (y0 y1:LLD) (y2 y3:Int) (y4:Bool) (y5:Int) (y6:BAy) (y7 y8:LLD) (y9:Bool) (y10:Int) (y11:BAy) (y12 y13:LLD) : zah.L5 y0 y1 y2 y3 y4 y5 y6 y7 y8 y9 y10 y11 y12 y13 = bif decide (y3 < y2) then bif decide (0 ≤ y3) && decide (y3 < (↑y1.length : Int)) && decide ((y1.getD y3.toNat []).length = 5) then bif zas [.sl, .bool, .int .i64, .str, .int .i64] (y1.getD y3.toNat []) 0 && decide (5 ≤ (y1.getD y3.toNat []).length) then bif (↑((y1.getD y3.toNat []).getD 0 .h).es.length : Int) == 0 then some (zah.q5 y0 false false 0 (ByteArray.mk #[]) [] [] y9 y10 y11 y12 y13) else bif decide (none.getD 0 ≤ IntKind.i64.wrap ((↑((y1.getD y3.toNat []).getD 0 .h).es.length : Int) - 1)) && decide (IntKind.i64.wrap ((↑((y1.getD y3.toNat []).getD 0 .h).es.length : Int) - 1) ≤ (↑((y1.getD y3.toNat []).getD 0 .h).es.length : Int)) && true then (zal [.one (.p true 0 [] 0), .one (.s (List.drop 0 (List.take (IntKind.i64.wrap ((↑((y1.getD y3.toNat []).getD 0 .h).es.length : Int) - 1)).toNat ((y1.getD y3.toNat []).getD 0 .h).es)))] [⟨.ro, [.v (.bool y9), .v (.int .i64 y10), .v (.string y11), .s y12, .s y13], [.sh, .sh, .sh, .sh, .sh]⟩]).bind fun val => bif zag [.ptr 0] val.1 && true then bif List.isEmpty (val.1.getD 0 .d).path then zah.P11 y0 (IntKind.i64.wrap ((↑((y1.getD y3.toNat []).getD 0 .h).es.length : Int) - 1)) (val.1.getD 0 .d).ok y1 y2 y3 y4 y5 y6 y7 y8 y9 y10 y11 y12 y13 ((y1.getD y3.toNat []).getD 0 .h).es ((y1.getD y3.toNat []).getD 1 .h).bool ((y1.getD y3.toNat []).getD 2 .h).int ((y1.getD y3.toNat []).getD 3 .h).str ((y1.getD y3.toNat []).getD 4 .h).int else zah.P11b y0 (IntKind.i64.wrap ((↑((y1.getD y3.toNat []).getD 0 .h).es.length : Int) - 1)) (val.1.getD 0 .d).ok (List.headD (val.1.getD 0 .d).path (0, 0)).2 (List.tail (val.1.getD 0 .d).path) y1 y2 y3 y4 y5 y6 y7 y8 y9 y10 y11 y12 y13 ((y1.getD y3.toNat []).getD 0 .h).es ((y1.getD y3.toNat []).getD 1 .h).bool ((y1.getD y3.toNat []).getD 2 .h).int ((y1.getD y3.toNat []).getD 3 .h).str ((y1.getD y3.toNat []).getD 4 .h).int else none else none else none else none else some (zah.x5 y0 y4 y5 y6 y7 y8 y9 y10 y11 y12 y13) := by
 refine (zbf (Y := Y) (c := lim' Y) (fn := 25) (rid := 5) (b := zat 5 zah.c) (by kernel_rfl) _).trans ?_
 delta zah.L5 zah.q5 zal zah.P11 zah.P11b zah.x5 XX
 refine zbt [11] (by kernel_rfl) fun J e1 => ?_
 try simp only [← e1]
 clear e1
 generalize lpL (Y.ctx (lim' Y)) 25 = lp
 generalize lim' Y = call
 kernel_rfl
theorem zah.a5q5 (y0:LLD) (y1 y2:Bool) (y3:Int) (y4:BAy) (y5 y6:LLD) (y7:Bool) (y8:Int) (y9:BAy) (y10 y11:LLD) : zah.A5 (zah.q5 y0 y1 y2 y3 y4 y5 y6 y7 y8 y9 y10 y11) = some ⟨[.v (.bool y2), .v (.int .i64 y3), .v (.string y4), .o .deep y5, .o .deep y6, .v (.bool y1)], []⟩ := by
 delta zah.A5 zah.q5 XX
 refine zbb [5, 16, 17] 5 (by kernel_rfl) fun J e1 => ?_
 have eA := evA_J [5, 16, 17] 5 (by kernel_rfl) e1
 try simp only [eA]
 clear eA
 try simp only [← e1]
 clear e1
 show _ = _
 generalize lpL (Y.ctx (lim' Y)) 25 = lp
 generalize lim' Y = call
 kernel_rfl
theorem zah.p11 (y0:LLD) (y1:Int) (y2:Bool) (y3:LLD) (y4 y5:Int) (y6:Bool) (y7:Int) (y8:BAy) (y9 y10:LLD) (y11:Bool) (y12:Int) (y13:BAy) (y14 y15 y16:LLD) (y17:Bool) (y18:Int) (y19:BAy) (y20:Int) : zah.P11 y0 y1 y2 y3 y4 y5 y6 y7 y8 y9 y10 y11 y12 y13 y14 y15 y16 y17 y18 y19 y20 = bif !y2 then some (zah.q5 y0 false false 0 (ByteArray.mk #[]) [] [] y11 y12 y13 y14 y15) else bif decide (0 ≤ y1) && decide (y1 < (↑y16.length : Int)) && decide ((y16.getD y1.toNat []).length = 1) then bif zas [.str] (y16.getD y1.toNat []) 0 && decide (1 ≤ (y16.getD y1.toNat []).length) then (zbO [.one (.p y2 0 [] 0), .one (.v (.string ((y16.getD y1.toNat []).getD 0 .h).str)), .g [.v (.bool y17), .v (.int .i64 y18), .v (.string y19), .v (.slice none 0 0), .v (.slice none 0 0)]] [⟨.box, [.v (.bool y11), .v (.int .i64 y12), .v (.string y13), .s y14, .s y15], [.deep, .deep, .deep, .deep, .deep]⟩]).bind fun val => bif zag [] val.1 && zba [⟨⟨.box, [.v (.bool y11), .v (.int .i64 y12), .v (.string y13), .s y14, .s y15], [.deep, .deep, .deep, .deep, .deep]⟩, .box 4⟩] val.2 then zah.L5 y0 y3 y4 (IntKind.i64.wrap (y5 + 1)) y6 y7 y8 y9 y10 ((val.2.getD 0 ⟨.ro, [], []⟩).2.getD 0 .h).bool ((val.2.getD 0 ⟨.ro, [], []⟩).2.getD 1 .h).int ((val.2.getD 0 ⟨.ro, [], []⟩).2.getD 2 .h).str ((val.2.getD 0 ⟨.ro, [], []⟩).2.getD 3 .h).es ((val.2.getD 0 ⟨.ro, [], []⟩).2.getD 4 .h).es else none else none else none := by
 delta zah.P11 zah.q5 zbO zah.L5 XX
 refine zbg [11] 11 (by kernel_rfl) fun J e1 => ?_
 try simp only [← e1]
 clear e1
 generalize lpL (Y.ctx (lim' Y)) 25 = lp
 generalize lim' Y = call
 kernel_rfl
theorem zah.p11b (y0:LLD) (y1:Int) (y2:Bool) (y3:Nat) (y4:List (Nat × Nat)) (y5:LLD) (y6 y7:Int) (y8:Bool) (y9:Int) (y10:BAy) (y11 y12:LLD) (y13:Bool) (y14:Int) (y15:BAy) (y16 y17 y18:LLD) (y19:Bool) (y20:Int) (y21:BAy) (y22:Int) : zah.P11b y0 y1 y2 y3 y4 y5 y6 y7 y8 y9 y10 y11 y12 y13 y14 y15 y16 y17 y18 y19 y20 y21 y22 = bif !y2 then some (zah.q5 y0 false false 0 (ByteArray.mk #[]) [] [] y13 y14 y15 y16 y17) else bif decide (0 ≤ y1) && decide (y1 < (↑y18.length : Int)) && decide ((y18.getD y1.toNat []).length = 1) then bif zas [.str] (y18.getD y1.toNat []) 0 && decide (1 ≤ (y18.getD y1.toNat []).length) then bif y2 && true && !(zaj (y17.getD y3 []) y4).isEmpty then (zbO [.one (.p true 0 [] 0), .one (.v (.string ((y18.getD y1.toNat []).getD 0 .h).str)), .g [.v (.bool y19), .v (.int .i64 y20), .v (.string y21), .v (.slice none 0 0), .v (.slice none 0 0)]] [⟨.box, zaj (y17.getD y3 []) y4, List.map (fun x => .deep) (zaj (y17.getD y3 []) y4)⟩]).bind fun val => bif zag [] val.1 && zba [⟨⟨.box, zaj (y17.getD y3 []) y4, List.map (fun x => .deep) (zaj (y17.getD y3 []) y4)⟩, .row 4 ((4, y3) :: y4)⟩] val.2 then zah.L5 y0 y5 y6 (IntKind.i64.wrap (y7 + 1)) y8 y9 y10 y11 y12 y13 y14 y15 y16 (y17.set y3 (zar (y17.getD y3 []) y4 (List.map (fun x => zku x.1 ((val.2.getD 0 ⟨.ro, [], []⟩).2.getD x.2 .h)) (zaj (y17.getD y3 []) y4).zipIdx))) else none else none else none else none := by
 delta zah.P11b zah.q5 zbO zah.L5 XX
 refine zbg [11] 11 (by kernel_rfl) fun J e1 => ?_
 try simp only [← e1]
 clear e1
 generalize lpL (Y.ctx (lim' Y)) 25 = lp
 generalize lim' Y = call
 kernel_rfl
theorem zah.a5x5 (y0:LLD) (y1:Bool) (y2:Int) (y3:BAy) (y4 y5:LLD) (y6:Bool) (y7:Int) (y8:BAy) (y9 y10:LLD) : zah.A5 (zah.x5 y0 y1 y2 y3 y4 y5 y6 y7 y8 y9 y10) = (zcJ [.g [.v (.bool y6), .v (.int .i64 y7), .v (.string y8), .s y9, .s y10]] []).bind fun val => bif zag [.bool] val.1 && true then bif !(val.1.getD 0 .d).bool then zah.P16 true y1 y2 y3 y4 y5 y6 y7 y8 y9 y10 else (zbr [.g [.v (.bool y6), .v (.int .i64 y7), .v (.string y8), .s y9, .s y10]] []).bind fun val => bif zag [.own .deep] val.1 && true then (zaa [.one (.s (val.1.getD 0 .d).es), .one (.s y0), .f zbw.id []] []).bind fun val => bif zag [.bool] val.1 && true then zah.P16 (!(val.1.getD 0 .d).bool) y1 y2 y3 y4 y5 y6 y7 y8 y9 y10 else none else none else none := by
 delta zah.A5 zah.x5 zcJ zah.P16 zbr zaa zbw.id XX
 refine zbb [5, 16, 17] 5 (by kernel_rfl) fun J e1 => ?_
 have eA := evA_J [5, 16, 17] 5 (by kernel_rfl) e1
 try simp only [eA]
 clear eA
 try simp only [← e1]
 clear e1
 show _ = _
 generalize lpL (Y.ctx (lim' Y)) 25 = lp
 generalize lim' Y = call
 kernel_rfl
theorem zah.p16 (y0 y1:Bool) (y2:Int) (y3:BAy) (y4 y5:LLD) (y6:Bool) (y7:Int) (y8:BAy) (y9 y10:LLD) : zah.P16 y0 y1 y2 y3 y4 y5 y6 y7 y8 y9 y10 = bif y0 then some ⟨[.v (.bool false), .v (.int .i64 0), .v (.string (ByteArray.mk #[])), .o .deep [], .o .deep [], .v (.bool false)], []⟩ else zah.P17 y1 y2 y3 y4 y5 y6 y7 y8 y9 y10 := by
 delta zah.P16 zah.P17 XX
 refine zbg [5, 16, 17] 16 (by kernel_rfl) fun J e1 => ?_
 try simp only [← e1]
 clear e1
 generalize lpL (Y.ctx (lim' Y)) 25 = lp
 generalize lim' Y = call
 kernel_rfl
theorem zah.p17 (y0:Bool) (y1:Int) (y2:BAy) (y3 y4:LLD) (y5:Bool) (y6:Int) (y7:BAy) (y8 y9:LLD) : zah.P17 y0 y1 y2 y3 y4 y5 y6 y7 y8 y9 = (zay [.g [.v (.bool y5), .v (.int .i64 y6), .v (.string y7), .s y8, .s y9]] []).bind fun val => bif zag [.bool, .int .i64, .str, .own .deep, .own .deep] val.1 && true then some ⟨[.v (.bool (val.1.getD 0 .d).bool), .v (.int .i64 (val.1.getD 1 .d).int), .v (.string (val.1.getD 2 .d).str), .o .deep (val.1.getD 3 .d).es, .o .deep (val.1.getD 4 .d).es, .v (.bool true)], []⟩ else none := by
 delta zah.P17 zay XX
 refine zbg [5, 16, 17] 17 (by kernel_rfl) fun J e1 => ?_
 try simp only [← e1]
 clear e1
 generalize lpL (Y.ctx (lim' Y)) 25 = lp
 generalize lim' Y = call
 kernel_rfl
theorem zc9.e (a0:LLD) (a1:Bool) (a2:Int) (a3:BAy) (a4 a5:Int) : zc9 [.g [.s a0, .v (.bool a1), .v (.int .i64 a2), .v (.string a3), .v (.int .i64 a4)], .one (.v (.int .i64 a5))] [] = (zap [.one (.s a0), .one (.v (.int .i64 a5))] []).bind fun val => bif zag [.int .i64] val.1 && true then bif decide ((val.1.getD 0 .d).int < 0) then some ⟨[.v (.int .i64 (-1))], []⟩ else bif decide (IntKind.i64.wrap ((val.1.getD 0 .d).int - (↑a3.size : Int)) < 0) then some ⟨[.v (.int .i64 (-1))], []⟩ else some ⟨[.v (.int .i64 (IntKind.i64.wrap ((val.1.getD 0 .d).int - (↑a3.size : Int))))], []⟩ else none := by
 refine (zc9.run _ _ (by kernel_rfl)).trans ?_
 delta zc9 zap XX
 generalize lpL (Y.ctx (lim' Y)) 58 = lp
 generalize lim' Y = call
 kernel_rfl
noncomputable def zaE.L2 (y0 y1:LLD) (y2:Int) : Option (Ex × St) := lpL XX 59 (zat 2 zaE.c) (mkG 0 41 [(0, .one (.s y0)), (1, .one (.s y1)), (5, .one (.v (.int .i64 y2)))] [] GL)
noncomputable def zaE.A2 : Ex × St → Option Res := fun r => evA XX 59 (lpL XX 59) 2 zaE.c r.fst r.snd (outE XX 59 Tryz.f59)
noncomputable def zaE.P4 (y0 y1:LLD) (y2:Int) : Option (Ex × St) := evB XX 59 (lpL XX 59) 4 (zat 2 zaE.c) (mkG 0 41 [(0, .one (.s y0)), (1, .one (.s y1)), (5, .one (.v (.int .i64 y2)))] [] GL) (backL (lpL XX 59) (zat 2 zaE.c) (XX.live 59 2))
noncomputable def zaE.x2 (y0 y1:LLD) : Ex × St := (Ex.exit 0, mkG 0 41 [(0, .one (.s y0)), (1, .one (.s y1))] [] GL)
noncomputable def zaE.q2 (y0 y1:LLD) (y2:Bool) : Ex × St := (Ex.ret, mkG 0 41 [(0, .one (.s y0)), (1, .one (.s y1)), (4, .one (.v (.bool y2)))] [] GL)
theorem zaE.e (a0 a1:LLD) : zaE [.one (.s a0), .one (.s a1)] [] = (zaE.L2 a0 a1 0).bind zaE.A2 := by
 refine (zaE.run _ _ (by kernel_rfl)).trans ?_
 delta zaE zaE.L2 zaE.A2 XX
 generalize lpL (Y.ctx (lim' Y)) 59 = lp
 generalize lim' Y = call
 kernel_rfl
theorem zaE.s2 (y0 y1:LLD) (y2:Int) : zaE.L2 y0 y1 y2 = bif decide (y2 < (↑y0.length : Int)) then bif decide (y2 < (↑y1.length : Int)) then zaE.P4 y0 y1 y2 else some (zaE.x2 y0 y1) else some (zaE.x2 y0 y1) := by
 refine (zbf (Y := Y) (c := lim' Y) (fn := 59) (rid := 2) (b := zat 2 zaE.c) (by kernel_rfl) _).trans ?_
 delta zaE.L2 zaE.P4 zaE.x2 XX
 refine zbt [4] (by kernel_rfl) fun J e1 => ?_
 try simp only [← e1]
 clear e1
 generalize lpL (Y.ctx (lim' Y)) 59 = lp
 generalize lim' Y = call
 kernel_rfl
theorem zaE.p4 (y0 y1:LLD) (y2:Int) : zaE.P4 y0 y1 y2 = bif decide (0 ≤ y2) && decide (y2 < (↑y0.length : Int)) && decide ((y0.getD y2.toNat []).length = 1) then bif zas [.str] (y0.getD y2.toNat []) 0 && decide (1 ≤ (y0.getD y2.toNat []).length) then bif decide (0 ≤ y2) && decide (y2 < (↑y1.length : Int)) && decide ((y1.getD y2.toNat []).length = 1) then bif zas [.str] (y1.getD y2.toNat []) 0 && decide (1 ≤ (y1.getD y2.toNat []).length) then bif !((y0.getD y2.toNat []).getD 0 .h).str.toList == ((y1.getD y2.toNat []).getD 0 .h).str.toList then bif decide (0 ≤ y2) && decide (y2 < (↑y0.length : Int)) && decide ((y0.getD y2.toNat []).length = 1) then bif zas [.str] (y0.getD y2.toNat []) 0 && decide (1 ≤ (y0.getD y2.toNat []).length) then bif decide (0 ≤ y2) && decide (y2 < (↑y1.length : Int)) && decide ((y1.getD y2.toNat []).length = 1) then bif zas [.str] (y1.getD y2.toNat []) 0 && decide (1 ≤ (y1.getD y2.toNat []).length) then some (zaE.q2 y0 y1 (Op.bytesLess ((y0.getD y2.toNat []).getD 0 .h).str.toList ((y1.getD y2.toNat []).getD 0 .h).str.toList)) else none else none else none else none else zaE.L2 y0 y1 (IntKind.i64.wrap (y2 + 1)) else none else none else none else none := by
 delta zaE.P4 zaE.q2 zaE.L2 XX
 refine zbg [4] 4 (by kernel_rfl) fun J e1 => ?_
 try simp only [← e1]
 clear e1
 generalize lpL (Y.ctx (lim' Y)) 59 = lp
 generalize lim' Y = call
 kernel_rfl
theorem zaE.a2x2 (y0 y1:LLD) : zaE.A2 (zaE.x2 y0 y1) = some ⟨[.v (.bool (decide ((↑y0.length : Int) < (↑y1.length : Int))))], []⟩ := by
 delta zaE.A2 zaE.x2 XX
 generalize lpL (Y.ctx (lim' Y)) 59 = lp
 generalize lim' Y = call
 kernel_rfl
theorem zaE.a2q2 (y0 y1:LLD) (y2:Bool) : zaE.A2 (zaE.q2 y0 y1 y2) = some ⟨[.v (.bool y2)], []⟩ := by
 delta zaE.A2 zaE.q2 XX
 generalize lpL (Y.ctx (lim' Y)) 59 = lp
 generalize lim' Y = call
 kernel_rfl
theorem zbY.e (a0 a1:LLD) : zbY [.one (.s a0), .one (.s a1)] [] = bif (↑a0.length : Int) == (↑a1.length : Int) then (zaz [.one (.s a0), .one (.s a1)] []).bind fun val => bif zag [.bool] val.1 && true then some ⟨[.v (.bool (val.1.getD 0 .d).bool)], []⟩ else none else some ⟨[.v (.bool false)], []⟩ := by
 refine (zbY.run _ _ (by kernel_rfl)).trans ?_
 delta zbY zaz XX
 generalize lpL (Y.ctx (lim' Y)) 60 = lp
 generalize lim' Y = call
 kernel_rfl
theorem zdl.e (a0:LLD) (a1:Bool) (a2:Int) (a3:BAy) (a4:Int) : zdl [.g [.s a0, .v (.bool a1), .v (.int .i64 a2), .v (.string a3), .v (.int .i64 a4)]] [] = (zaB [.one (.s a0)] []).bind fun val => bif zag [.own .deep] val.1 && true then some ⟨[.o .deep (val.1.getD 0 .d).es, .v (.bool a1), .v (.int .i64 a2), .v (.string a3), .v (.int .i64 a4)], []⟩ else none := by
 refine (zdl.run _ _ (by kernel_rfl)).trans ?_
 delta zdl zaB XX
 generalize lpL (Y.ctx (lim' Y)) 61 = lp
 generalize lim' Y = call
 kernel_rfl
noncomputable def zae.L2 (y0:LLD) (y1 y2:Int) (y3:LLD) : Option (Ex × St) := lpL XX 62 (zat 2 zae.c) (mkG 1 19 [(0, .one (.s y0)), (1, .f za1.id [.p true 0 [] 0]), (7, .one (.v (.int .i64 y1))), (8, .one (.v (.int .i64 y2)))] [(0, some ⟨.box, [.s y3], [.sh]⟩)] GL)
noncomputable def zae.A2 : Ex × St → Option Res := fun r => evA XX 62 (lpL XX 62) 2 zae.c r.fst r.snd (outE XX 62 Tryz.f62)
noncomputable def zae.q2 (y0:Int) (y1:LLD) : Ex × St := (Ex.ret, mkG 1 19 [(4, .one (.v (.int .i64 y0)))] [(0, some ⟨.box, [.s y1], [.sh]⟩)] GL)
noncomputable def zae.x2 (y0:LLD) : Ex × St := (Ex.exit 0, mkG 1 19 [] [(0, some ⟨.box, [.s y0], [.sh]⟩)] GL)
theorem zae.e (l : List (List D)) (c0 : List (List D)) : zae [.one (.s l), .f za1.id [.p true 0 [] 0]] [⟨.box, [.s c0], [.sh]⟩] = (zae.L2 l (↑l.length : Int) 0 c0).bind zae.A2 := by
 refine (zae.run _ _ (by kernel_rfl)).trans ?_
 delta zae zae.L2 zae.A2 za1.id XX
 generalize lpL (Y.ctx (lim' Y)) 62 = lp
 generalize lim' Y = call
 kernel_rfl
theorem zae.s2 (y0:LLD) (y1 y2:Int) (y3:LLD) : zae.L2 y0 y1 y2 y3 = bif decide (y2 < y1) then bif decide (0 ≤ y2) && decide (y2 < (↑y0.length : Int)) && decide ((y0.getD y2.toNat []).length = 5) then bif zas [.sl, .bool, .int .i64, .str, .int .i64] (y0.getD y2.toNat []) 0 && decide (5 ≤ (y0.getD y2.toNat []).length) then (za1 [.g [.s ((y0.getD y2.toNat []).getD 0 .h).es, .v (.bool ((y0.getD y2.toNat []).getD 1 .h).bool), .v (.int .i64 ((y0.getD y2.toNat []).getD 2 .h).int), .v (.string ((y0.getD y2.toNat []).getD 3 .h).str), .v (.int .i64 ((y0.getD y2.toNat []).getD 4 .h).int)], .one (.p true 0 [] 0)] [⟨.ro, [.s y3], [.sh]⟩]).bind fun val => bif zag [.bool] val.1 && true then bif (val.1.getD 0 .d).bool then some (zae.q2 y2 y3) else zae.L2 y0 y1 (IntKind.i64.wrap (y2 + 1)) y3 else none else none else none else some (zae.x2 y3) := by
 refine (zbf (Y := Y) (c := lim' Y) (fn := 62) (rid := 2) (b := zat 2 zae.c) (by kernel_rfl) _).trans ?_
 delta zae.L2 za1 zae.q2 zae.x2 XX
 generalize lpL (Y.ctx (lim' Y)) 62 = lp
 generalize lim' Y = call
 kernel_rfl
theorem zae.a2q2 (y0:Int) (y1:LLD) : zae.A2 (zae.q2 y0 y1) = some ⟨[.v (.int .i64 y0)], [⟨.box, [.s y1], [.sh]⟩]⟩ := by
 delta zae.A2 zae.q2 XX
 generalize lpL (Y.ctx (lim' Y)) 62 = lp
 generalize lim' Y = call
 kernel_rfl
theorem zae.a2x2 (y0:LLD) : zae.A2 (zae.x2 y0) = some ⟨[.v (.int .i64 (-1))], [⟨.box, [.s y0], [.sh]⟩]⟩ := by
 delta zae.A2 zae.x2 XX
 generalize lpL (Y.ctx (lim' Y)) 62 = lp
 generalize lim' Y = call
 kernel_rfl
theorem za1.e (a0 : List (List D)) (a1 : Bool) (a2 : Int) (a3 : ByteArray) (a4 : Int) (c0 : List (List D)) : za1 [.g [.s a0, .v (.bool a1), .v (.int .i64 a2), .v (.string a3), .v (.int .i64 a4)], .one (.p true 0 [] 0)] [⟨.ro, [.s c0], [.sh]⟩] = (zad [.one (.s a0), .one (.s c0)] []).bind fun val => bif zag [.bool] val.1 && true then some ⟨[.v (.bool (val.1.getD 0 .d).bool)], [⟨.ro, [.s c0], [.sh]⟩]⟩ else none := by
 refine (za1.run _ _ (by kernel_rfl)).trans ?_
 delta za1 zad XX
 generalize lpL (Y.ctx (lim' Y)) 63 = lp
 generalize lim' Y = call
 kernel_rfl
noncomputable def zad.L4 (y0 y1:LLD) (y2 y3:Int) : Option (Ex × St) := lpL XX 64 (zat 4 zad.c) (mkG 0 26 [(0, .one (.s y0)), (1, .one (.s y1)), (12, .one (.v (.int .i64 y2))), (13, .one (.v (.int .i64 y3)))] [] GL)
noncomputable def zad.A4 : Ex × St → Option Res := fun r => evA XX 64 (lpL XX 64) 4 zad.c r.fst r.snd (outE XX 64 Tryz.f64)
noncomputable def zad.q4 (y0:Bool) : Ex × St := (Ex.ret, mkG 0 26 [(4, .one (.v (.bool y0)))] [] GL)
noncomputable def zad.x4 : Ex × St := (Ex.exit 0, mkG 0 26 [] [] GL)
theorem zad.e (a0 a1:LLD) : zad [.one (.s a0), .one (.s a1)] [] = bif (↑a0.length : Int) != (↑a1.length : Int) then some ⟨[.v (.bool false)], []⟩ else (zad.L4 a0 a1 (↑a0.length : Int) 0).bind zad.A4 := by
 refine (zad.run _ _ (by kernel_rfl)).trans ?_
 delta zad zad.L4 zad.A4 XX
 generalize lpL (Y.ctx (lim' Y)) 64 = lp
 generalize lim' Y = call
 kernel_rfl
theorem zad.s4 (y0 y1:LLD) (y2 y3:Int) : zad.L4 y0 y1 y2 y3 = bif decide (y3 < y2) then bif decide (0 ≤ y3) && decide (y3 < (↑y0.length : Int)) && decide ((y0.getD y3.toNat []).length = 1) then bif zas [.str] (y0.getD y3.toNat []) 0 && decide (1 ≤ (y0.getD y3.toNat []).length) then bif decide (0 ≤ y3) && decide (y3 < (↑y1.length : Int)) && decide ((y1.getD y3.toNat []).length = 1) then bif zas [.str] (y1.getD y3.toNat []) 0 && decide (1 ≤ (y1.getD y3.toNat []).length) then bif !((y0.getD y3.toNat []).getD 0 .h).str.toList == ((y1.getD y3.toNat []).getD 0 .h).str.toList then some (zad.q4 false) else zad.L4 y0 y1 y2 (IntKind.i64.wrap (y3 + 1)) else none else none else none else none else some zad.x4 := by
 refine (zbf (Y := Y) (c := lim' Y) (fn := 64) (rid := 4) (b := zat 4 zad.c) (by kernel_rfl) _).trans ?_
 delta zad.L4 zad.q4 zad.x4 XX
 generalize lpL (Y.ctx (lim' Y)) 64 = lp
 generalize lim' Y = call
 kernel_rfl
theorem zad.a4q4 (y0:Bool) : zad.A4 (zad.q4 y0) = some ⟨[.v (.bool y0)], []⟩ := by
 delta zad.A4 zad.q4 XX
 generalize lpL (Y.ctx (lim' Y)) 64 = lp
 generalize lim' Y = call
 kernel_rfl
theorem zad.a4x4 : zad.A4 zad.x4 = some ⟨[.v (.bool true)], []⟩ := by
 delta zad.A4 zad.x4 XX
 generalize lpL (Y.ctx (lim' Y)) 64 = lp
 generalize lim' Y = call
 kernel_rfl
noncomputable def zch.P9 (y0:LLD) (y1:Bool) (y2:Int) (y3:BAy) (y4:Int) (y5:LLD) (y6:Bool) (y7:Int) (y8:BAy) (y9:Int) : Option Res := evB XX 65 (lpL XX 65) 9 zch.c (mkG 0 31 [(2, .one (.p true 2 [] 0)), (3, .one (.p true 3 [] 0))] [(2, some ⟨.box, [.s y0, .v (.bool y1), .v (.int .i64 y2), .v (.string y3), .v (.int .i64 y4)], [.sh, .deep, .deep, .deep, .deep]⟩), (3, some ⟨.box, [.s y5, .v (.bool y6), .v (.int .i64 y7), .v (.string y8), .v (.int .i64 y9)], [.sh, .deep, .deep, .deep, .deep]⟩)] GL) (outE XX 65 Tryz.f65)
theorem zch.e (a0:LLD) (a1:Bool) (a2:Int) (a3:BAy) (a4:Int) (a5:LLD) (a6:Bool) (a7:Int) (a8:BAy) (a9:Int) : zch [.g [.s a0, .v (.bool a1), .v (.int .i64 a2), .v (.string a3), .v (.int .i64 a4)], .g [.s a5, .v (.bool a6), .v (.int .i64 a7), .v (.string a8), .v (.int .i64 a9)]] [] = (zaC [.one (.s a0), .one (.s a5)] []).bind fun val => bif zag [.bool] val.1 && true then bif !(val.1.getD 0 .d).bool then some ⟨[.v (.bool false)], []⟩ else bif !a1 == a6 then some ⟨[.v (.bool false)], []⟩ else bif a2 != a7 then some ⟨[.v (.bool false)], []⟩ else bif !a3.toList == a8.toList then some ⟨[.v (.bool false)], []⟩ else zch.P9 a0 a1 a2 a3 a4 a5 a6 a7 a8 a9 else none := by
 refine (zch.run _ _ (by kernel_rfl)).trans ?_
 delta zch zaC zch.P9 XX
 refine zbt [9] (by kernel_rfl) fun J e1 => ?_
 try simp only [← e1]
 clear e1
 generalize lpL (Y.ctx (lim' Y)) 65 = lp
 generalize lim' Y = call
 kernel_rfl
theorem zch.p9 (y0:LLD) (y1:Bool) (y2:Int) (y3:BAy) (y4:Int) (y5:LLD) (y6:Bool) (y7:Int) (y8:BAy) (y9:Int) : zch.P9 y0 y1 y2 y3 y4 y5 y6 y7 y8 y9 = bif y4 != y9 then some ⟨[.v (.bool false)], []⟩ else some ⟨[.v (.bool true)], []⟩ := by
 delta zch.P9 XX
 refine zbg [9] 9 (by kernel_rfl) fun J e1 => ?_
 try simp only [← e1]
 clear e1
 generalize lpL (Y.ctx (lim' Y)) 65 = lp
 generalize lim' Y = call
 kernel_rfl
noncomputable def zaz.L4 (y0 y1:LLD) (y2:Int) : Option (Ex × St) := lpL XX 66 (zat 4 zaz.c) (mkG 0 26 [(0, .one (.s y0)), (1, .one (.s y1)), (5, .one (.v (.int .i64 y2)))] [] GL)
noncomputable def zaz.A4 : Ex × St → Option Res := fun r => evA XX 66 (lpL XX 66) 4 zaz.c r.fst r.snd (outE XX 66 Tryz.f66)
noncomputable def zaz.q4 (y0:Bool) : Ex × St := (Ex.ret, mkG 0 26 [(4, .one (.v (.bool y0)))] [] GL)
noncomputable def zaz.x4 : Ex × St := (Ex.exit 0, mkG 0 26 [] [] GL)
theorem zaz.e (a0 a1:LLD) : zaz [.one (.s a0), .one (.s a1)] [] = bif decide ((↑a0.length : Int) < (↑a1.length : Int)) then some ⟨[.v (.bool false)], []⟩ else (zaz.L4 a0 a1 0).bind zaz.A4 := by
 refine (zaz.run _ _ (by kernel_rfl)).trans ?_
 delta zaz zaz.L4 zaz.A4 XX
 generalize lpL (Y.ctx (lim' Y)) 66 = lp
 generalize lim' Y = call
 kernel_rfl
theorem zaz.s4 (y0 y1:LLD) (y2:Int) : zaz.L4 y0 y1 y2 = bif decide (y2 < (↑y1.length : Int)) then bif decide (0 ≤ y2) && decide (y2 < (↑y0.length : Int)) && decide ((y0.getD y2.toNat []).length = 1) then bif zas [.str] (y0.getD y2.toNat []) 0 && decide (1 ≤ (y0.getD y2.toNat []).length) then bif decide (0 ≤ y2) && decide (y2 < (↑y1.length : Int)) && decide ((y1.getD y2.toNat []).length = 1) then bif zas [.str] (y1.getD y2.toNat []) 0 && decide (1 ≤ (y1.getD y2.toNat []).length) then bif !((y0.getD y2.toNat []).getD 0 .h).str.toList == ((y1.getD y2.toNat []).getD 0 .h).str.toList then some (zaz.q4 false) else zaz.L4 y0 y1 (IntKind.i64.wrap (y2 + 1)) else none else none else none else none else some zaz.x4 := by
 refine (zbf (Y := Y) (c := lim' Y) (fn := 66) (rid := 4) (b := zat 4 zaz.c) (by kernel_rfl) _).trans ?_
 delta zaz.L4 zaz.q4 zaz.x4 XX
 generalize lpL (Y.ctx (lim' Y)) 66 = lp
 generalize lim' Y = call
 kernel_rfl
theorem zaz.a4q4 (y0:Bool) : zaz.A4 (zaz.q4 y0) = some ⟨[.v (.bool y0)], []⟩ := by
 delta zaz.A4 zaz.q4 XX
 generalize lpL (Y.ctx (lim' Y)) 66 = lp
 generalize lim' Y = call
 kernel_rfl
theorem zaz.a4x4 : zaz.A4 zaz.x4 = some ⟨[.v (.bool true)], []⟩ := by
 delta zaz.A4 zaz.x4 XX
 generalize lpL (Y.ctx (lim' Y)) 66 = lp
 generalize lim' Y = call
 kernel_rfl
noncomputable def zaY.L4 (y0 y1:LLD) (y2 y3:Int) : Option (Ex × St) := lpL XX 67 (zat 4 zaY.c) (mkG 0 26 [(0, .one (.s y0)), (1, .one (.s y1)), (12, .one (.v (.int .i64 y2))), (13, .one (.v (.int .i64 y3)))] [] GL)
noncomputable def zaY.A4 : Ex × St → Option Res := fun r => evA XX 67 (lpL XX 67) 4 zaY.c r.fst r.snd (outE XX 67 Tryz.f67)
noncomputable def zaY.q4 (y0:Bool) : Ex × St := (Ex.ret, mkG 0 26 [(4, .one (.v (.bool y0)))] [] GL)
noncomputable def zaY.x4 : Ex × St := (Ex.exit 0, mkG 0 26 [] [] GL)
theorem zaY.e (a0 a1:LLD) : zaY [.one (.s a0), .one (.s a1)] [] = bif decide ((↑a0.length : Int) < (↑a1.length : Int)) then some ⟨[.v (.bool false)], []⟩ else (zaY.L4 a0 a1 (↑a1.length : Int) 0).bind zaY.A4 := by
 refine (zaY.run _ _ (by kernel_rfl)).trans ?_
 delta zaY zaY.L4 zaY.A4 XX
 generalize lpL (Y.ctx (lim' Y)) 67 = lp
 generalize lim' Y = call
 kernel_rfl
theorem zaY.s4 (y0 y1:LLD) (y2 y3:Int) : zaY.L4 y0 y1 y2 y3 = bif decide (y3 < y2) then bif decide (0 ≤ y3) && decide (y3 < (↑y0.length : Int)) && decide ((y0.getD y3.toNat []).length = 1) then bif zas [.str] (y0.getD y3.toNat []) 0 && decide (1 ≤ (y0.getD y3.toNat []).length) then bif decide (0 ≤ y3) && decide (y3 < (↑y1.length : Int)) && decide ((y1.getD y3.toNat []).length = 1) then bif zas [.str] (y1.getD y3.toNat []) 0 && decide (1 ≤ (y1.getD y3.toNat []).length) then bif !((y0.getD y3.toNat []).getD 0 .h).str.toList == ((y1.getD y3.toNat []).getD 0 .h).str.toList then some (zaY.q4 false) else zaY.L4 y0 y1 y2 (IntKind.i64.wrap (y3 + 1)) else none else none else none else none else some zaY.x4 := by
 refine (zbf (Y := Y) (c := lim' Y) (fn := 67) (rid := 4) (b := zat 4 zaY.c) (by kernel_rfl) _).trans ?_
 delta zaY.L4 zaY.q4 zaY.x4 XX
 generalize lpL (Y.ctx (lim' Y)) 67 = lp
 generalize lim' Y = call
 kernel_rfl
theorem zaY.a4q4 (y0:Bool) : zaY.A4 (zaY.q4 y0) = some ⟨[.v (.bool y0)], []⟩ := by
 delta zaY.A4 zaY.q4 XX
 generalize lpL (Y.ctx (lim' Y)) 67 = lp
 generalize lim' Y = call
 kernel_rfl
theorem zaY.a4x4 : zaY.A4 zaY.x4 = some ⟨[.v (.bool true)], []⟩ := by
 delta zaY.A4 zaY.x4 XX
 generalize lpL (Y.ctx (lim' Y)) 67 = lp
 generalize lim' Y = call
 kernel_rfl
noncomputable def zaA.L2 (y0:LLD) (y1:Int) : Option (Ex × St) := lpL XX 68 (zat 2 zaA.c) (mkG 0 19 [(0, .one (.s y0)), (3, .one (.v (.int .i64 y1)))] [] GL)
noncomputable def zaA.A2 : Ex × St → Option Res := fun r => evA XX 68 (lpL XX 68) 2 zaA.c r.fst r.snd (outE XX 68 Tryz.f68)
noncomputable def zaA.q2 (y0:LLD) (y1:Bool) : Ex × St := (Ex.ret, mkG 0 19 [(0, .one (.s y0)), (2, .one (.v (.bool y1)))] [] GL)
noncomputable def zaA.x2 (y0:LLD) : Ex × St := (Ex.exit 0, mkG 0 19 [(0, .one (.s y0))] [] GL)
theorem zaA.e (a0:LLD) : zaA [.one (.s a0)] [] = (zaA.L2 a0 0).bind zaA.A2 := by
 refine (zaA.run _ _ (by kernel_rfl)).trans ?_
 delta zaA zaA.L2 zaA.A2 XX
 generalize lpL (Y.ctx (lim' Y)) 68 = lp
 generalize lim' Y = call
 kernel_rfl
theorem zaA.s2 (y0:LLD) (y1:Int) : zaA.L2 y0 y1 = bif decide (y1 < (↑y0.length : Int)) then bif decide (0 ≤ y1) && decide (y1 < (↑y0.length : Int)) && decide ((y0.getD y1.toNat []).length = 1) then bif zas [.str] (y0.getD y1.toNat []) 0 && decide (1 ≤ (y0.getD y1.toNat []).length) then (zan [.one (.v (.string ((y0.getD y1.toNat []).getD 0 .h).str))] []).bind fun val => bif zag [.bool] val.1 && true then bif !(val.1.getD 0 .d).bool then some (zaA.q2 y0 false) else zaA.L2 y0 (IntKind.i64.wrap (y1 + 1)) else none else none else none else some (zaA.x2 y0) := by
 refine (zbf (Y := Y) (c := lim' Y) (fn := 68) (rid := 2) (b := zat 2 zaA.c) (by kernel_rfl) _).trans ?_
 delta zaA.L2 zan zaA.q2 zaA.x2 XX
 generalize lpL (Y.ctx (lim' Y)) 68 = lp
 generalize lim' Y = call
 kernel_rfl
theorem zaA.a2q2 (y0:LLD) (y1:Bool) : zaA.A2 (zaA.q2 y0 y1) = some ⟨[.v (.bool y1)], []⟩ := by
 delta zaA.A2 zaA.q2 XX
 generalize lpL (Y.ctx (lim' Y)) 68 = lp
 generalize lim' Y = call
 kernel_rfl
theorem zaA.a2x2 (y0:LLD) : zaA.A2 (zaA.x2 y0) = (sl1In [.one (.v (.int .i64 (↑y0.length : Int))), .one (.v (.int .i64 1)), .one (.v (.int .i64 4))] []).bind fun val => bif zag [.bool] val.1 && true then some ⟨[.v (.bool (val.1.getD 0 .d).bool)], []⟩ else none := by
 delta zaA.A2 zaA.x2 sl1In XX
 generalize lpL (Y.ctx (lim' Y)) 68 = lp
 generalize lim' Y = call
 kernel_rfl
noncomputable def zbk.P3 (y0:LLD) (y1 y2:Bool) (y3:Int) (y4:BAy) (y5 y6:LLD) (y7:Bool) (y8:Int) (y9:BAy) (y10 y11:LLD) (y12:Bool) (y13:Int) (y14:BAy) (y15 y16:LLD) (y17:Bool) (y18:Int) (y19:BAy) (y20 y21:LLD) : Option Res := evB XX 69 (lpL XX 69) 3 zbk.c (mkG 0 72 [(1, .one (.s y0)), (3, .one (.p true 3 [] 0)), (5, .one (.p true 5 [] 0)), (6, .one (.p true 6 [] 0)), (8, .one (.p true 8 [] 0)), (29, .one (.v (.bool y1)))] [(3, some ⟨.box, [.v (.bool y2), .v (.int .i64 y3), .v (.string y4), .s y5, .s y6], [.deep, .deep, .deep, .sh, .sh]⟩), (5, some ⟨.box, [.v (.bool y7), .v (.int .i64 y8), .v (.string y9), .s y10, .s y11], [.deep, .deep, .deep, .sh, .sh]⟩), (6, some ⟨.box, [.v (.bool y12), .v (.int .i64 y13), .v (.string y14), .s y15, .s y16], [.deep, .deep, .deep, .deep, .deep]⟩), (8, some ⟨.box, [.v (.bool y17), .v (.int .i64 y18), .v (.string y19), .s y20, .s y21], [.deep, .deep, .deep, .deep, .top]⟩)] GL) (outE XX 69 Tryz.f69)
noncomputable def zbk.P7 (y0:LLD) (y1:Int) (y2:Bool) (y3:Int) (y4:BAy) (y5 y6:LLD) (y7:Bool) (y8:Int) (y9:BAy) (y10 y11:LLD) (y12:Bool) (y13:Int) (y14:BAy) (y15 y16:LLD) (y17:Bool) (y18:Int) (y19:BAy) (y20 y21:LLD) : Option Res := evB XX 69 (lpL XX 69) 7 zbk.c (mkG 0 72 [(1, .one (.s y0)), (3, .one (.p true 3 [] 0)), (5, .one (.p true 5 [] 0)), (6, .one (.p true 6 [] 0)), (8, .one (.p true 8 [] 0)), (9, .one (.v (.int .i64 y1)))] [(3, some ⟨.box, [.v (.bool y2), .v (.int .i64 y3), .v (.string y4), .s y5, .s y6], [.deep, .deep, .deep, .sh, .sh]⟩), (5, some ⟨.box, [.v (.bool y7), .v (.int .i64 y8), .v (.string y9), .s y10, .s y11], [.deep, .deep, .deep, .sh, .sh]⟩), (6, some ⟨.box, [.v (.bool y12), .v (.int .i64 y13), .v (.string y14), .s y15, .s y16], [.deep, .deep, .deep, .deep, .deep]⟩), (8, some ⟨.box, [.v (.bool y17), .v (.int .i64 y18), .v (.string y19), .s y20, .s y21], [.deep, .deep, .deep, .deep, .top]⟩)] GL) (outE XX 69 Tryz.f69)
theorem zbk.e (a0:Bool) (a1:Int) (a2:BAy) (a3 a4 a5:LLD) (a6:Bool) (a7:Int) (a8:BAy) (a9 a10:LLD) : zbk [.g [.v (.bool a0), .v (.int .i64 a1), .v (.string a2), .s a3, .s a4], .one (.s a5), .g [.v (.bool a6), .v (.int .i64 a7), .v (.string a8), .s a9, .s a10]] [] = bif zaD 1 a3 && zaG false a3 && true && decide ((0 + a3.length) * 17 ≤ 70368744177664) then bif zaD 5 a4 && zaG true a4 && true && decide ((0 + a4.length) * 81 ≤ 70368744177664) then zbk.P3 a5 ((↑a5.length : Int) == 1) a0 a1 a2 a3 a4 a6 a7 a8 a9 a10 false 0 (ByteArray.mk #[]) [] [] a0 a1 a2 a3 a4 else none else none := by
 refine (zbk.run _ _ (by kernel_rfl)).trans ?_
 delta zbk zbk.P3 XX
 refine zbt [3, 7] (by kernel_rfl) fun J e1 => ?_
 try simp only [← e1]
 clear e1
 generalize lpL (Y.ctx (lim' Y)) 69 = lp
 generalize lim' Y = call
 kernel_rfl
theorem zbk.p3 (y0:LLD) (y1 y2:Bool) (y3:Int) (y4:BAy) (y5 y6:LLD) (y7:Bool) (y8:Int) (y9:BAy) (y10 y11:LLD) (y12:Bool) (y13:Int) (y14:BAy) (y15 y16:LLD) (y17:Bool) (y18:Int) (y19:BAy) (y20 y21:LLD) : zbk.P3 y0 y1 y2 y3 y4 y5 y6 y7 y8 y9 y10 y11 y12 y13 y14 y15 y16 y17 y18 y19 y20 y21 = bif y1 then bif decide (0 < (↑y0.length : Int)) && decide ((y0.getD 0 []).length = 1) then bif zas [.str] (y0.getD 0 []) 0 && decide (1 ≤ (y0.getD 0 []).length) then bif zaD 1 y20 && true && true && true && decide ((y20.length + 1) * 17 ≤ 70368744177664) then bif zaD 5 y21 && true && true && true && decide ((y21.length + 1) * 81 ≤ 70368744177664) then some ⟨[.v (.bool y17), .v (.int .i64 y18), .v (.string y19), .s (y20 ++ [[D.v (.string ((y0.getD 0 []).getD 0 D.h).str)]]), .s (y21 ++ [[D.v (.bool y7), D.v (.int .i64 y8), D.v (.string y9), D.s y10, D.s y11]]), .v (.bool true)], []⟩ else none else none else none else none else bif decide (0 < (↑y0.length : Int)) && decide ((y0.getD 0 []).length = 1) then bif zas [.str] (y0.getD 0 []) 0 && decide (1 ≤ (y0.getD 0 []).length) then (zaZ [.g [.v (.bool y2), .v (.int .i64 y3), .v (.string y4), .s y5, .s y6], .one (.v (.string ((y0.getD 0 []).getD 0 D.h).str))] []).bind fun val => bif zag [.int .i64] val.1 && true then zbk.P7 y0 (val.1.getD 0 .d).int y2 y3 y4 y5 y6 y7 y8 y9 y10 y11 y12 y13 y14 y15 y16 y17 y18 y19 y20 y21 else none else none else none := by
 delta zbk.P3 zaZ zbk.P7 XX
 refine zbg [3, 7] 3 (by kernel_rfl) fun J e1 => ?_
 try simp only [← e1]
 clear e1
 generalize lpL (Y.ctx (lim' Y)) 69 = lp
 generalize lim' Y = call
 kernel_rfl
theorem zbk.p7 (y0:LLD) (y1:Int) (y2:Bool) (y3:Int) (y4:BAy) (y5 y6:LLD) (y7:Bool) (y8:Int) (y9:BAy) (y10 y11:LLD) (y12:Bool) (y13:Int) (y14:BAy) (y15 y16:LLD) (y17:Bool) (y18:Int) (y19:BAy) (y20 y21:LLD) : zbk.P7 y0 y1 y2 y3 y4 y5 y6 y7 y8 y9 y10 y11 y12 y13 y14 y15 y16 y17 y18 y19 y20 y21 = bif decide (y1 < 0) then some ⟨[.v (.bool y17), .v (.int .i64 y18), .v (.string y19), .s y20, .s y21, .v (.bool false)], []⟩ else bif decide (0 ≤ y1) && decide (y1 < (↑y6.length : Int)) && decide ((y6.getD y1.toNat []).length = 5) then bif zas [.bool, .int .i64, .str, .sl, .sl] (y6.getD y1.toNat []) 0 && decide (5 ≤ (y6.getD y1.toNat []).length) then bif decide ((some 1).getD 0 ≤ (↑y0.length : Int)) && decide ((↑y0.length : Int) ≤ (↑y0.length : Int)) && (false || decide ((y0.getD 0 []).length = 1)) then (zbk [.g [.v (.bool ((y6.getD y1.toNat []).getD 0 .h).bool), .v (.int .i64 ((y6.getD y1.toNat []).getD 1 .h).int), .v (.string ((y6.getD y1.toNat []).getD 2 .h).str), .s ((y6.getD y1.toNat []).getD 3 .h).es, .s ((y6.getD y1.toNat []).getD 4 .h).es], .one (.s (List.drop 1 (List.take (↑y0.length : Int).toNat y0))), .g [.v (.bool y7), .v (.int .i64 y8), .v (.string y9), .s y10, .s y11]] []).bind fun val => bif zag [.bool, .int .i64, .str, .sh, .sh, .bool] val.1 && true then bif decide (0 ≤ y1) && decide (y1 < (↑y21.length : Int)) && decide ((y21.getD y1.toNat []).length = 5) then bif decide (5 ≤ (y21.getD y1.toNat []).length) && true then some ⟨[.v (.bool y17), .v (.int .i64 y18), .v (.string y19), .s y20, .s (y21.set y1.toNat (.v (.bool (val.1.getD 0 .d).bool) :: .v (.int .i64 (val.1.getD 1 .d).int) :: .v (.string (val.1.getD 2 .d).str) :: .s (val.1.getD 3 .d).es :: .s (val.1.getD 4 .d).es :: List.drop 5 (y21.getD y1.toNat []))), .v (.bool (val.1.getD 5 .d).bool)], []⟩ else none else none else none else none else none else none := by
 delta zbk.P7 zbk XX
 refine zbg [3, 7] 7 (by kernel_rfl) fun J e1 => ?_
 try simp only [← e1]
 clear e1
 generalize lpL (Y.ctx (lim' Y)) 69 = lp
 generalize lim' Y = call
 kernel_rfl
theorem zbq.e (a0:Bool) (a1:Int) (a2:BAy) (a3 a4:LLD) : zbq [.g [.v (.bool a0), .v (.int .i64 a1), .v (.string a2), .s a3, .s a4]] [] = (zcK [.g [.v (.bool a0), .v (.int .i64 a1), .v (.string a2), .s a3, .s a4]] []).bind fun val => bif zag [.bool] val.1 && true then bif !(val.1.getD 0 .d).bool then some ⟨[.o .deep []], []⟩ else (zaR [.one (.s []), .g [.v (.bool a0), .v (.int .i64 a1), .v (.string a2), .s a3, .s a4]] []).bind fun val => bif zag [.own .deep] val.1 && true then some ⟨[.o .deep (val.1.getD 0 .d).es], []⟩ else none else none := by
 refine (zbq.run _ _ (by kernel_rfl)).trans ?_
 delta zbq zcK zaR XX
 generalize lpL (Y.ctx (lim' Y)) 70 = lp
 generalize lim' Y = call
 kernel_rfl
theorem zbZ.e (a0:LLD) (a1:Bool) (a2:Int) (a3:BAy) (a4:Int) (a5:LLD) (a6:Bool) (a7:Int) (a8:BAy) (a9:Int) : zbZ [.g [.s a0, .v (.bool a1), .v (.int .i64 a2), .v (.string a3), .v (.int .i64 a4)], .g [.s a5, .v (.bool a6), .v (.int .i64 a7), .v (.string a8), .v (.int .i64 a9)]] [] = (zbY [.one (.s a0), .one (.s a5)] []).bind fun val => bif zag [.bool] val.1 && true then bif (val.1.getD 0 .d).bool then bif a1 == a6 then bif a2 == a7 then bif a3.toList == a8.toList then some ⟨[.v (.bool (a4 == a9))], []⟩ else some ⟨[.v (.bool false)], []⟩ else some ⟨[.v (.bool false)], []⟩ else some ⟨[.v (.bool false)], []⟩ else some ⟨[.v (.bool false)], []⟩ else none := by
 refine (zbZ.run _ _ (by kernel_rfl)).trans ?_
 delta zbZ zbY XX
 generalize lpL (Y.ctx (lim' Y)) 71 = lp
 generalize lim' Y = call
 kernel_rfl
noncomputable def za5.L3 (y0:Int) (y1:Bool) (y2:Int) (y3:BAy) (y4 y5:LLD) (y6:Bool) (y7:Int) (y8:BAy) (y9 y10:LLD) (y11:Bool) (y12:Int) (y13:BAy) (y14 y15:LLD) : Option (Ex × St) := lpL XX 72 (zat 3 za5.c) (mkG 0 35 [(1, .one (.p true 1 [] 0)), (2, .one (.p true 2 [] 0)), (3, .one (.p true 3 [] 0)), (4, .one (.v (.int .i64 y0)))] [(1, some ⟨.box, [.v (.bool y1), .v (.int .i64 y2), .v (.string y3), .s y4, .s y5], [.deep, .deep, .deep, .sh, .sh]⟩), (2, some ⟨.box, [.v (.bool y6), .v (.int .i64 y7), .v (.string y8), .s y9, .s y10], [.deep, .deep, .deep, .deep, .deep]⟩), (3, some ⟨.box, [.v (.bool y11), .v (.int .i64 y12), .v (.string y13), .s y14, .s y15], [.deep, .deep, .deep, .deep, .deep]⟩)] GL)
noncomputable def za5.A3 : Ex × St → Option Res := fun r => evA XX 72 (lpL XX 72) 3 za5.c r.fst r.snd (outE XX 72 Tryz.f72)
noncomputable def za5.x3 (y0:Bool) (y1:Int) (y2:BAy) (y3 y4:LLD) (y5:Bool) (y6:Int) (y7:BAy) (y8 y9:LLD) : Ex × St := (Ex.exit 0, mkG 0 35 [(2, .one (.p true 2 [] 0)), (3, .one (.p true 3 [] 0))] [(2, some ⟨.box, [.v (.bool y0), .v (.int .i64 y1), .v (.string y2), .s y3, .s y4], [.deep, .deep, .deep, .deep, .deep]⟩), (3, some ⟨.box, [.v (.bool y5), .v (.int .i64 y6), .v (.string y7), .s y8, .s y9], [.deep, .deep, .deep, .deep, .deep]⟩)] GL)
theorem za5.e (a0:Bool) (a1:Int) (a2:BAy) (a3 a4:LLD) : za5 [.g [.v (.bool a0), .v (.int .i64 a1), .v (.string a2), .s a3, .s a4]] [] = bif zaD 1 a3 && zaG false a3 && true && decide ((0 + a3.length) * 17 ≤ 70368744177664) then (za5.L3 0 a0 a1 a2 a3 a4 false 0 (ByteArray.mk #[]) [] [] a0 a1 a2 a3 []).bind za5.A3 else none := by
 refine (za5.run _ _ (by kernel_rfl)).trans ?_
 delta za5 za5.L3 za5.A3 XX
 generalize lpL (Y.ctx (lim' Y)) 72 = lp
 generalize lim' Y = call
 kernel_rfl
theorem za5.s3 (y0:Int) (y1:Bool) (y2:Int) (y3:BAy) (y4 y5:LLD) (y6:Bool) (y7:Int) (y8:BAy) (y9 y10:LLD) (y11:Bool) (y12:Int) (y13:BAy) (y14 y15:LLD) : za5.L3 y0 y1 y2 y3 y4 y5 y6 y7 y8 y9 y10 y11 y12 y13 y14 y15 = bif decide (y0 < (↑y5.length : Int)) then bif decide (0 ≤ y0) && decide (y0 < (↑y5.length : Int)) && decide ((y5.getD y0.toNat []).length = 5) then bif zas [.bool, .int .i64, .str, .sl, .sl] (y5.getD y0.toNat []) 0 && decide (5 ≤ (y5.getD y0.toNat []).length) then (za5 [.g [.v (.bool ((y5.getD y0.toNat []).getD 0 .h).bool), .v (.int .i64 ((y5.getD y0.toNat []).getD 1 .h).int), .v (.string ((y5.getD y0.toNat []).getD 2 .h).str), .s ((y5.getD y0.toNat []).getD 3 .h).es, .s ((y5.getD y0.toNat []).getD 4 .h).es]] []).bind fun val => bif zag [.bool, .int .i64, .str, .own .deep, .own .deep] val.1 && true then bif zaD 5 y15 && true && true && true && decide ((y15.length + 1) * 81 ≤ 70368744177664) then za5.L3 (IntKind.i64.wrap (y0 + 1)) y1 y2 y3 y4 y5 y6 y7 y8 y9 y10 y11 y12 y13 y14 (y15 ++ [[.v (.bool (val.1.getD 0 .d).bool), .v (.int .i64 (val.1.getD 1 .d).int), .v (.string (val.1.getD 2 .d).str), .s (val.1.getD 3 .d).es, .s (val.1.getD 4 .d).es]]) else none else none else none else none else some (za5.x3 y6 y7 y8 y9 y10 y11 y12 y13 y14 y15) := by
 refine (zbf (Y := Y) (c := lim' Y) (fn := 72) (rid := 3) (b := zat 3 za5.c) (by kernel_rfl) _).trans ?_
 delta za5.L3 za5 za5.x3 XX
 generalize lpL (Y.ctx (lim' Y)) 72 = lp
 generalize lim' Y = call
 kernel_rfl
theorem za5.a3x3 (y0:Bool) (y1:Int) (y2:BAy) (y3 y4:LLD) (y5:Bool) (y6:Int) (y7:BAy) (y8 y9:LLD) : za5.A3 (za5.x3 y0 y1 y2 y3 y4 y5 y6 y7 y8 y9) = some ⟨[.v (.bool y5), .v (.int .i64 y6), .v (.string y7), .o .deep y8, .o .deep y9], []⟩ := by
 delta za5.A3 za5.x3 XX
 generalize lpL (Y.ctx (lim' Y)) 72 = lp
 generalize lim' Y = call
 kernel_rfl
theorem zb2.e (a0 a1 a2:Int) : zb2 [.one (.v (.int .i64 a0)), .one (.v (.int .i64 a1)), .one (.v (.int .i64 a2))] [] = bif decide (a0 ≥ a1) then some ⟨[.v (.bool (decide (a0 ≤ a2)))], []⟩ else some ⟨[.v (.bool false)], []⟩ := by
 refine (zb2.run _ _ (by kernel_rfl)).trans ?_
 delta zb2 XX
 generalize lpL (Y.ctx (lim' Y)) 73 = lp
 generalize lim' Y = call
 kernel_rfl
noncomputable def zal.L2 (y0:LLD) (y1 y2:Int) (y3:Bool) (y4:Int) (y5:BAy) (y6 y7:LLD) : Option (Ex × St) := lpL XX 74 (zat 2 zal.c) (mkG 1 20 [(0, .one (.p true 0 [] 0)), (7, .one (.s y0)), (8, .one (.v (.int .i64 y1))), (9, .one (.v (.int .i64 y2)))] [(0, some ⟨.ro, [.v (.bool y3), .v (.int .i64 y4), .v (.string y5), .s y6, .s y7], [.sh, .sh, .sh, .sh, .sh]⟩)] GL)
noncomputable def zal.A2 : Ex × St → Option Res := fun r => evA XX 74 (lpL XX 74) 2 zal.c r.fst r.snd (outE XX 74 Tryz.f74)
noncomputable def zal.P5 (y0:Bool) (y1:LLD) (y2 y3:Int) (y4:Bool) (y5:Int) (y6:BAy) (y7 y8:LLD) : Option (Ex × St) := evB XX 74 (lpL XX 74) 5 (zat 2 zal.c) (mkG 1 20 [(0, .one (.p y0 0 [] 0)), (7, .one (.s y1)), (8, .one (.v (.int .i64 y2))), (9, .one (.v (.int .i64 y3)))] [(0, some ⟨.ro, [.v (.bool y4), .v (.int .i64 y5), .v (.string y6), .s y7, .s y8], [.sh, .sh, .sh, .sh, .sh]⟩)] GL) (backL (lpL XX 74) (zat 2 zal.c) (XX.live 74 2))
noncomputable def zal.P5b (y0:Bool) (y1:Nat) (y2:List (Nat × Nat)) (y3:LLD) (y4 y5:Int) (y6:Bool) (y7:Int) (y8:BAy) (y9 y10:LLD) : Option (Ex × St) := evB XX 74 (lpL XX 74) 5 (zat 2 zal.c) (mkG 1 20 [(0, .one (.p y0 0 ((4, y1) :: y2) 0)), (7, .one (.s y3)), (8, .one (.v (.int .i64 y4))), (9, .one (.v (.int .i64 y5)))] [(0, some ⟨.ro, [.v (.bool y6), .v (.int .i64 y7), .v (.string y8), .s y9, .s y10], [.sh, .sh, .sh, .sh, .sh]⟩)] GL) (backL (lpL XX 74) (zat 2 zal.c) (XX.live 74 2))
noncomputable def zal.x2 (y0:Bool) (y1:Int) (y2:BAy) (y3 y4:LLD) : Ex × St := (Ex.exit 0, mkG 1 20 [(0, .one (.p true 0 [] 0))] [(0, some ⟨.ro, [.v (.bool y0), .v (.int .i64 y1), .v (.string y2), .s y3, .s y4], [.sh, .sh, .sh, .sh, .sh]⟩)] GL)
noncomputable def zal.q2 (y0 y1:Bool) (y2:Int) (y3:BAy) (y4 y5:LLD) : Ex × St := (Ex.ret, mkG 1 20 [(0, .one (.p y0 0 [] 0)), (4, .one (.v (.pointer none)))] [(0, some ⟨.ro, [.v (.bool y1), .v (.int .i64 y2), .v (.string y3), .s y4, .s y5], [.sh, .sh, .sh, .sh, .sh]⟩)] GL)
noncomputable def zal.L2b (y0:Bool) (y1:LLD) (y2 y3:Int) (y4:Bool) (y5:Int) (y6:BAy) (y7 y8:LLD) : Option (Ex × St) := lpL XX 74 (zat 2 zal.c) (mkG 1 20 [(0, .one (.p y0 0 [] 0)), (7, .one (.s y1)), (8, .one (.v (.int .i64 y2))), (9, .one (.v (.int .i64 y3)))] [(0, some ⟨.ro, [.v (.bool y4), .v (.int .i64 y5), .v (.string y6), .s y7, .s y8], [.sh, .sh, .sh, .sh, .sh]⟩)] GL)
noncomputable def zal.q2b (y0:Bool) (y1:Nat) (y2:List (Nat × Nat)) (y3:Bool) (y4:Int) (y5:BAy) (y6 y7:LLD) : Ex × St := (Ex.ret, mkG 1 20 [(0, .one (.p y0 0 ((4, y1) :: y2) 0)), (4, .one (.v (.pointer none)))] [(0, some ⟨.ro, [.v (.bool y3), .v (.int .i64 y4), .v (.string y5), .s y6, .s y7], [.sh, .sh, .sh, .sh, .sh]⟩)] GL)
noncomputable def zal.L2c (y0:Bool) (y1:Nat) (y2:List (Nat × Nat)) (y3:LLD) (y4 y5:Int) (y6:Bool) (y7:Int) (y8:BAy) (y9 y10:LLD) : Option (Ex × St) := lpL XX 74 (zat 2 zal.c) (mkG 1 20 [(0, .one (.p y0 0 ((4, y1) :: y2) 0)), (7, .one (.s y3)), (8, .one (.v (.int .i64 y4))), (9, .one (.v (.int .i64 y5)))] [(0, some ⟨.ro, [.v (.bool y6), .v (.int .i64 y7), .v (.string y8), .s y9, .s y10], [.sh, .sh, .sh, .sh, .sh]⟩)] GL)
noncomputable def zal.x2c (y0:Bool) (y1:Nat) (y2:List (Nat × Nat)) (y3:Bool) (y4:Int) (y5:BAy) (y6 y7:LLD) : Ex × St := (Ex.exit 0, mkG 1 20 [(0, .one (.p y0 0 ((4, y1) :: y2) 0))] [(0, some ⟨.ro, [.v (.bool y3), .v (.int .i64 y4), .v (.string y5), .s y6, .s y7], [.sh, .sh, .sh, .sh, .sh]⟩)] GL)
theorem zal.e (a0:Bool) (a1:Int) (a2:BAy) (a3 a4 a5:LLD) : zal [.one (.p true 0 [] 0), .one (.s a5)] [⟨.ro, [.v (.bool a0), .v (.int .i64 a1), .v (.string a2), .s a3, .s a4], [.sh, .sh, .sh, .sh, .sh]⟩] = (zal.L2 a5 (↑a5.length : Int) 0 a0 a1 a2 a3 a4).bind zal.A2 := by
 refine (zal.run _ _ (by kernel_rfl)).trans ?_
 delta zal zal.L2 zal.A2 XX
 generalize lpL (Y.ctx (lim' Y)) 74 = lp
 generalize lim' Y = call
 kernel_rfl
theorem zal.s2 (y0:LLD) (y1 y2:Int) (y3:Bool) (y4:Int) (y5:BAy) (y6 y7:LLD) : zal.L2 y0 y1 y2 y3 y4 y5 y6 y7 = bif decide (y2 < y1) then bif decide (0 ≤ y2) && decide (y2 < (↑y0.length : Int)) && decide ((y0.getD y2.toNat []).length = 1) then bif zas [.str] (y0.getD y2.toNat []) 0 && decide (1 ≤ (y0.getD y2.toNat []).length) then (zaW [.one (.p true 0 [] 0), .one (.v (.string ((y0.getD y2.toNat []).getD 0 .h).str))] [⟨.ro, [.v (.bool y3), .v (.int .i64 y4), .v (.string y5), .s y6, .s y7], [.sh, .sh, .sh, .sh, .sh]⟩]).bind fun val => bif zag [.ptr 0] val.1 && true then bif List.isEmpty (val.1.getD 0 .d).path then zal.P5 (val.1.getD 0 .d).ok y0 y1 y2 y3 y4 y5 y6 y7 else zal.P5b (val.1.getD 0 .d).ok (List.headD (val.1.getD 0 .d).path (0, 0)).2 (List.tail (val.1.getD 0 .d).path) y0 y1 y2 y3 y4 y5 y6 y7 else none else none else none else some (zal.x2 y3 y4 y5 y6 y7) := by
 refine (zbf (Y := Y) (c := lim' Y) (fn := 74) (rid := 2) (b := zat 2 zal.c) (by kernel_rfl) _).trans ?_
 delta zal.L2 zaW zal.P5 zal.P5b zal.x2 XX
 refine zbt [5] (by kernel_rfl) fun J e1 => ?_
 try simp only [← e1]
 clear e1
 generalize lpL (Y.ctx (lim' Y)) 74 = lp
 generalize lim' Y = call
 kernel_rfl
theorem zal.p5 (y0:Bool) (y1:LLD) (y2 y3:Int) (y4:Bool) (y5:Int) (y6:BAy) (y7 y8:LLD) : zal.P5 y0 y1 y2 y3 y4 y5 y6 y7 y8 = bif !y0 then some (zal.q2 y0 y4 y5 y6 y7 y8) else zal.L2b y0 y1 y2 (IntKind.i64.wrap (y3 + 1)) y4 y5 y6 y7 y8 := by
 delta zal.P5 zal.q2 zal.L2b XX
 refine zbg [5] 5 (by kernel_rfl) fun J e1 => ?_
 try simp only [← e1]
 clear e1
 generalize lpL (Y.ctx (lim' Y)) 74 = lp
 generalize lim' Y = call
 kernel_rfl
theorem zal.p5b (y0:Bool) (y1:Nat) (y2:List (Nat × Nat)) (y3:LLD) (y4 y5:Int) (y6:Bool) (y7:Int) (y8:BAy) (y9 y10:LLD) : zal.P5b y0 y1 y2 y3 y4 y5 y6 y7 y8 y9 y10 = bif !y0 then some (zal.q2b y0 y1 y2 y6 y7 y8 y9 y10) else zal.L2c y0 y1 y2 y3 y4 (IntKind.i64.wrap (y5 + 1)) y6 y7 y8 y9 y10 := by
 delta zal.P5b zal.q2b zal.L2c XX
 refine zbg [5] 5 (by kernel_rfl) fun J e1 => ?_
 try simp only [← e1]
 clear e1
 generalize lpL (Y.ctx (lim' Y)) 74 = lp
 generalize lim' Y = call
 kernel_rfl
theorem zal.a2x2 (y0:Bool) (y1:Int) (y2:BAy) (y3 y4:LLD) : zal.A2 (zal.x2 y0 y1 y2 y3 y4) = some ⟨[.p true 0 [] 0], [⟨.ro, [.v (.bool y0), .v (.int .i64 y1), .v (.string y2), .s y3, .s y4], [.sh, .sh, .sh, .sh, .sh]⟩]⟩ := by
 delta zal.A2 zal.x2 XX
 generalize lpL (Y.ctx (lim' Y)) 74 = lp
 generalize lim' Y = call
 kernel_rfl
theorem zal.a2q2 (y0 y1:Bool) (y2:Int) (y3:BAy) (y4 y5:LLD) : zal.A2 (zal.q2 y0 y1 y2 y3 y4 y5) = some ⟨[.p false 0 [] 0], [⟨.ro, [.v (.bool y1), .v (.int .i64 y2), .v (.string y3), .s y4, .s y5], [.sh, .sh, .sh, .sh, .sh]⟩]⟩ := by
 delta zal.A2 zal.q2 XX
 generalize lpL (Y.ctx (lim' Y)) 74 = lp
 generalize lim' Y = call
 kernel_rfl
theorem zal.a2q2b (y0:Bool) (y1:Nat) (y2:List (Nat × Nat)) (y3:Bool) (y4:Int) (y5:BAy) (y6 y7:LLD) : zal.A2 (zal.q2b y0 y1 y2 y3 y4 y5 y6 y7) = some ⟨[.p false 0 [] 0], [⟨.ro, [.v (.bool y3), .v (.int .i64 y4), .v (.string y5), .s y6, .s y7], [.sh, .sh, .sh, .sh, .sh]⟩]⟩ := by
 delta zal.A2 zal.q2b XX
 generalize lpL (Y.ctx (lim' Y)) 74 = lp
 generalize lim' Y = call
 kernel_rfl
theorem zal.s2c (y0:Bool) (y1:Nat) (y2:List (Nat × Nat)) (y3:LLD) (y4 y5:Int) (y6:Bool) (y7:Int) (y8:BAy) (y9 y10:LLD) : zal.L2c y0 y1 y2 y3 y4 y5 y6 y7 y8 y9 y10 = bif decide (y5 < y4) then bif decide (0 ≤ y5) && decide (y5 < (↑y3.length : Int)) && decide ((y3.getD y5.toNat []).length = 1) then bif zas [.str] (y3.getD y5.toNat []) 0 && decide (1 ≤ (y3.getD y5.toNat []).length) then (zaW [.one (.p y0 0 [] 0), .one (.v (.string ((y3.getD y5.toNat []).getD 0 .h).str))] [⟨.ro, zaj (y10.getD y1 []) y2, List.map (fun x => .sh) (zaj (y10.getD y1 []) y2)⟩]).bind fun val => bif zag [.ptr 0] val.1 && true then bif List.isEmpty (val.1.getD 0 .d).path then zal.P5b (val.1.getD 0 .d).ok y1 (y2 ++ []) y3 y4 y5 y6 y7 y8 y9 y10 else zal.P5b (val.1.getD 0 .d).ok y1 (y2 ++ (4, (List.headD (val.1.getD 0 .d).path (0, 0)).2) :: List.tail (val.1.getD 0 .d).path) y3 y4 y5 y6 y7 y8 y9 y10 else none else none else none else some (zal.x2c y0 y1 y2 y6 y7 y8 y9 y10) := by
 refine (zbf (Y := Y) (c := lim' Y) (fn := 74) (rid := 2) (b := zat 2 zal.c) (by kernel_rfl) _).trans ?_
 delta zal.L2c zaW zal.P5b zal.x2c XX
 refine zbt [5] (by kernel_rfl) fun J e1 => ?_
 try simp only [← e1]
 clear e1
 generalize lpL (Y.ctx (lim' Y)) 74 = lp
 generalize lim' Y = call
 kernel_rfl
theorem zal.a2x2c (y0:Bool) (y1:Nat) (y2:List (Nat × Nat)) (y3:Bool) (y4:Int) (y5:BAy) (y6 y7:LLD) : zal.A2 (zal.x2c y0 y1 y2 y3 y4 y5 y6 y7) = some ⟨[.p y0 0 ((4, y1) :: y2) 0], [⟨.ro, [.v (.bool y3), .v (.int .i64 y4), .v (.string y5), .s y6, .s y7], [.sh, .sh, .sh, .sh, .sh]⟩]⟩ := by
 delta zal.A2 zal.x2c XX
 generalize lpL (Y.ctx (lim' Y)) 74 = lp
 generalize lim' Y = call
 kernel_rfl
noncomputable def iTree_putn.P5 (y0:Int) (y1:Bool) (y2:Int) (y3:BAy) (y4 y5:LLD) (y6:Bool) (y7:Int) (y8:BAy) (y9 y10:LLD) : Option Res := evB XX 75 (lpL XX 75) 5 zbO.c (mkG 1 47 [(0, .one (.p true 0 [] 0)), (5, .one (.p true 6 [] 0)), (6, .one (.v (.int .i64 y0)))] [(0, some ⟨.box, [.v (.bool y1), .v (.int .i64 y2), .v (.string y3), .s y4, .s y5], [.deep, .deep, .deep, .deep, .deep]⟩), (6, some ⟨.box, [.v (.bool y6), .v (.int .i64 y7), .v (.string y8), .s y9, .s y10], [.deep, .deep, .deep, .deep, .deep]⟩)] GL) (outE XX 75 Tryz.f75)
theorem iTree_putn.e (a0:Bool) (a1:Int) (a2:BAy) (a3 a4:LLD) (n:BAy) (b0:Bool) (b1:Int) (b2:BAy) : zbO [.one (.p true 0 [] 0), .one (.v (.string n)), .g [.v (.bool b0), .v (.int .i64 b1), .v (.string b2), .v (.slice none 0 0), .v (.slice none 0 0)]] [⟨.box, [.v (.bool a0), .v (.int .i64 a1), .v (.string a2), .s a3, .s a4], [.deep, .deep, .deep, .deep, .deep]⟩] = (zac [.one (.s a3), .one (.v (.string n))] []).bind fun val => bif zag [.int .i64, .bool] val.1 && true then bif (val.1.getD 1 .d).bool then bif decide (0 ≤ (val.1.getD 0 .d).int) && decide ((val.1.getD 0 .d).int < (↑a4.length : Int)) && decide ((a4.getD (val.1.getD 0 .d).int.toNat []).length = 5) then bif decide (5 ≤ (a4.getD (val.1.getD 0 .d).int.toNat []).length) && true then some ⟨[], [⟨.box, [.v (.bool a0), .v (.int .i64 a1), .v (.string a2), .s a3, .s (a4.set (val.1.getD 0 .d).int.toNat (.v (.bool b0) :: .v (.int .i64 b1) :: .v (.string b2) :: .s [] :: .s [] :: List.drop 5 (a4.getD (val.1.getD 0 .d).int.toNat [])))], [.deep, .deep, .deep, .deep, .deep]⟩]⟩ else none else none else (za6 [.one (.r 0 [] 0), .one (.v (.int .i64 (val.1.getD 0 .d).int)), .one (.r 1 [] 0)] [⟨.virt, [.s a3], [.deep]⟩, ⟨.virt, [.s [[.v (.string n)]]], [.deep]⟩]).bind fun val_1 => bif zag [.own .deep] val_1.1 && true then iTree_putn.P5 (val.1.getD 0 .d).int a0 a1 a2 (val_1.1.getD 0 .d).es a4 b0 b1 b2 [] [] else none else none := by
 refine (zbO.run _ _ (by kernel_rfl)).trans ?_
 delta zbO zac za6 iTree_putn.P5 XX
 refine zbt [5] (by kernel_rfl) fun J e1 => ?_
 try simp only [← e1]
 clear e1
 generalize lpL (Y.ctx (lim' Y)) 75 = lp
 generalize lim' Y = call
 kernel_rfl
theorem iTree_putn.p5 (y0:Int) (y1:Bool) (y2:Int) (y3:BAy) (y4 y5:LLD) (y6:Bool) (y7:Int) (y8:BAy) (y9 y10:LLD) : iTree_putn.P5 y0 y1 y2 y3 y4 y5 y6 y7 y8 y9 y10 = (za2 [.one (.r 0 [] 0), .one (.v (.int .i64 y0)), .one (.r 1 [] 0)] [⟨.virt, [.s y5], [.deep]⟩, ⟨.virt, [.s [[.v (.bool y6), .v (.int .i64 y7), .v (.string y8), .s y9, .s y10]]], [.deep]⟩]).bind fun val => bif zag [.own .deep] val.1 && true then some ⟨[], [⟨.box, [.v (.bool y1), .v (.int .i64 y2), .v (.string y3), .s y4, .s (val.1.getD 0 .d).es], [.deep, .deep, .deep, .deep, .deep]⟩]⟩ else none := by
 delta iTree_putn.P5 za2 XX
 refine zbg [5] 5 (by kernel_rfl) fun J e1 => ?_
 try simp only [← e1]
 clear e1
 generalize lpL (Y.ctx (lim' Y)) 75 = lp
 generalize lim' Y = call
 kernel_rfl
theorem zcJ.e (a0:Bool) (a1:Int) (a2:BAy) (a3 a4:LLD) : zcJ [.g [.v (.bool a0), .v (.int .i64 a1), .v (.string a2), .s a3, .s a4]] [] = bif a0 then (zai [.g [.v (.bool a0), .v (.int .i64 a1), .v (.string a2), .s a3, .s a4], .one (.v (.int .i64 0))] []).bind fun val => bif zag [.bool] val.1 && true then bif (val.1.getD 0 .d).bool then (zav [.g [.v (.bool a0), .v (.int .i64 a1), .v (.string a2), .s a3, .s a4]] []).bind fun val => bif zag [.int .i64] val.1 && true then some ⟨[.v (.bool (decide ((val.1.getD 0 .d).int ≤ 31)))], []⟩ else none else some ⟨[.v (.bool false)], []⟩ else none else some ⟨[.v (.bool false)], []⟩ := by
 refine (zcJ.run _ _ (by kernel_rfl)).trans ?_
 delta zcJ zai zav XX
 generalize lpL (Y.ctx (lim' Y)) 76 = lp
 generalize lim' Y = call
 kernel_rfl
noncomputable def zaa.L4 (y0 y1:LLD) (y2 y3:Int) : Option (Ex × St) := lpL XX 77 (zat 4 zaa.c) (mkG 0 32 [(1, .one (.s y0)), (2, .f zbw.id []), (15, .one (.s y1)), (16, .one (.v (.int .i64 y2))), (17, .one (.v (.int .i64 y3)))] [] GL)
noncomputable def zaa.A4 : Ex × St → Option Res := fun r => evA XX 77 (lpL XX 77) 4 zaa.c r.fst r.snd (outE XX 77 Tryz.f77)
noncomputable def zaa.q4 (y0:Bool) : Ex × St := (Ex.ret, mkG 0 32 [(6, .one (.v (.bool y0)))] [] GL)
noncomputable def zaa.x4 : Ex × St := (Ex.exit 0, mkG 0 32 [] [] GL)
theorem zaa.e (a0 a1:LLD) : zaa [.one (.s a0), .one (.s a1), .f zbw.id []] [] = bif (↑a0.length : Int) != (↑a1.length : Int) then some ⟨[.v (.bool false)], []⟩ else (zaa.L4 a1 a0 (↑a0.length : Int) 0).bind zaa.A4 := by
 refine (zaa.run _ _ (by kernel_rfl)).trans ?_
 delta zaa zaa.L4 zaa.A4 zbw.id XX
 generalize lpL (Y.ctx (lim' Y)) 77 = lp
 generalize lim' Y = call
 kernel_rfl
theorem zaa.s4 (y0 y1:LLD) (y2 y3:Int) : zaa.L4 y0 y1 y2 y3 = bif decide (y3 < y2) then bif decide (0 ≤ y3) && decide (y3 < (↑y1.length : Int)) && decide ((y1.getD y3.toNat []).length = 5) then bif zas [.sl, .bool, .int .i64, .str, .int .i64] (y1.getD y3.toNat []) 0 && decide (5 ≤ (y1.getD y3.toNat []).length) then bif decide (0 ≤ y3) && decide (y3 < (↑y0.length : Int)) && decide ((y0.getD y3.toNat []).length = 5) then bif zas [.sl, .bool, .int .i64, .str, .int .i64] (y0.getD y3.toNat []) 0 && decide (5 ≤ (y0.getD y3.toNat []).length) then (zbw [.g [.s ((y1.getD y3.toNat []).getD 0 .h).es, .v (.bool ((y1.getD y3.toNat []).getD 1 .h).bool), .v (.int .i64 ((y1.getD y3.toNat []).getD 2 .h).int), .v (.string ((y1.getD y3.toNat []).getD 3 .h).str), .v (.int .i64 ((y1.getD y3.toNat []).getD 4 .h).int)], .g [.s ((y0.getD y3.toNat []).getD 0 .h).es, .v (.bool ((y0.getD y3.toNat []).getD 1 .h).bool), .v (.int .i64 ((y0.getD y3.toNat []).getD 2 .h).int), .v (.string ((y0.getD y3.toNat []).getD 3 .h).str), .v (.int .i64 ((y0.getD y3.toNat []).getD 4 .h).int)]] []).bind fun val => bif zag [.bool] val.1 && true then bif !(val.1.getD 0 .d).bool then some (zaa.q4 false) else zaa.L4 y0 y1 y2 (IntKind.i64.wrap (y3 + 1)) else none else none else none else none else none else some zaa.x4 := by
 refine (zbf (Y := Y) (c := lim' Y) (fn := 77) (rid := 4) (b := zat 4 zaa.c) (by kernel_rfl) _).trans ?_
 delta zaa.L4 zbw zaa.q4 zaa.x4 XX
 generalize lpL (Y.ctx (lim' Y)) 77 = lp
 generalize lim' Y = call
 kernel_rfl
theorem zaa.a4q4 (y0:Bool) : zaa.A4 (zaa.q4 y0) = some ⟨[.v (.bool y0)], []⟩ := by
 delta zaa.A4 zaa.q4 XX
 generalize lpL (Y.ctx (lim' Y)) 77 = lp
 generalize lim' Y = call
 kernel_rfl
theorem zaa.a4x4 : zaa.A4 zaa.x4 = some ⟨[.v (.bool true)], []⟩ := by
 delta zaa.A4 zaa.x4 XX
 generalize lpL (Y.ctx (lim' Y)) 77 = lp
 generalize lim' Y = call
 kernel_rfl
theorem zbr.e (a0:Bool) (a1:Int) (a2:BAy) (a3 a4:LLD) : zbr [.g [.v (.bool a0), .v (.int .i64 a1), .v (.string a2), .s a3, .s a4]] [] = (zaT [.g [.v (.bool a0), .v (.int .i64 a1), .v (.string a2), .s a3, .s a4], .one (.s []), .f zaL.id [.p true 0 [] 0]] [⟨.box, [.s []], [.deep]⟩]).bind fun val => bif zag [] val.1 && zba [⟨⟨.box, [.s []], [.deep]⟩, .box 3⟩] val.2 then some ⟨[.o .deep ((val.2.getD 0 ⟨.ro, [], []⟩).2.getD 0 .h).es], []⟩ else none := by
 refine (zbr.run _ _ (by kernel_rfl)).trans ?_
 delta zbr zaT zaL.id XX
 generalize lpL (Y.ctx (lim' Y)) 78 = lp
 generalize lim' Y = call
 kernel_rfl
theorem zbw.e (a0:LLD) (a1:Bool) (a2:Int) (a3:BAy) (a4:Int) (a5:LLD) (a6:Bool) (a7:Int) (a8:BAy) (a9:Int) : zbw [.g [.s a0, .v (.bool a1), .v (.int .i64 a2), .v (.string a3), .v (.int .i64 a4)], .g [.s a5, .v (.bool a6), .v (.int .i64 a7), .v (.string a8), .v (.int .i64 a9)]] [] = (zad [.one (.s a0), .one (.s a5)] []).bind fun val => bif zag [.bool] val.1 && true then bif (val.1.getD 0 .d).bool then bif a1 == a6 then bif a2 == a7 then bif a3.toList == a8.toList then some ⟨[.v (.bool (a4 == a9))], []⟩ else some ⟨[.v (.bool false)], []⟩ else some ⟨[.v (.bool false)], []⟩ else some ⟨[.v (.bool false)], []⟩ else some ⟨[.v (.bool false)], []⟩ else none := by
 refine (zbw.run _ _ (by kernel_rfl)).trans ?_
 delta zbw zad XX
 generalize lpL (Y.ctx (lim' Y)) 79 = lp
 generalize lim' Y = call
 kernel_rfl
noncomputable def zay.L3 (y0:LLD) (y1 y2:Int) (y3:Bool) (y4:Int) (y5:BAy) (y6 y7:LLD) (y8:Bool) (y9:Int) (y10:BAy) (y11 y12 y13:LLD) : Option (Ex × St) := lpL XX 80 (zat 3 zay.c) (mkG 0 28 [(1, .one (.p true 1 [] 0)), (2, .one (.p true 2 [] 0)), (3, .one (.r 3 [] 0)), (8, .one (.s y0)), (9, .one (.v (.int .i64 y1))), (10, .one (.v (.int .i64 y2)))] [(1, some ⟨.box, [.v (.bool y3), .v (.int .i64 y4), .v (.string y5), .s y6, .s y7], [.deep, .deep, .deep, .sh, .sh]⟩), (2, some ⟨.box, [.v (.bool y8), .v (.int .i64 y9), .v (.string y10), .s y11, .s y12], [.deep, .deep, .deep, .deep, .deep]⟩), (3, some ⟨.virt, [.s y13], [.deep]⟩)] GL)
noncomputable def zay.A3 : Ex × St → Option Res := fun r => evA XX 80 (lpL XX 80) 3 zay.c r.fst r.snd (outE XX 80 Tryz.f80)
noncomputable def zay.x3 (y0:Bool) (y1:Int) (y2:BAy) (y3 y4:LLD) (y5:Bool) (y6:Int) (y7:BAy) (y8 y9 y10:LLD) : Ex × St := (Ex.exit 0, mkG 0 28 [(1, .one (.p true 1 [] 0)), (2, .one (.p true 2 [] 0)), (3, .one (.r 3 [] 0))] [(1, some ⟨.box, [.v (.bool y0), .v (.int .i64 y1), .v (.string y2), .s y3, .s y4], [.deep, .deep, .deep, .sh, .sh]⟩), (2, some ⟨.box, [.v (.bool y5), .v (.int .i64 y6), .v (.string y7), .s y8, .s y9], [.deep, .deep, .deep, .deep, .deep]⟩), (3, some ⟨.virt, [.s y10], [.deep]⟩)] GL)
theorem zay.e (a0:Bool) (a1:Int) (a2:BAy) (a3 a4:LLD) : zay [.g [.v (.bool a0), .v (.int .i64 a1), .v (.string a2), .s a3, .s a4]] [] = (zay.L3 a4 (↑a4.length : Int) 0 a0 a1 a2 a3 a4 false 0 (ByteArray.mk #[]) [] [] []).bind zay.A3 := by
 refine (zay.run _ _ (by kernel_rfl)).trans ?_
 delta zay zay.L3 zay.A3 XX
 generalize lpL (Y.ctx (lim' Y)) 80 = lp
 generalize lim' Y = call
 kernel_rfl
theorem zay.s3 (y0:LLD) (y1 y2:Int) (y3:Bool) (y4:Int) (y5:BAy) (y6 y7:LLD) (y8:Bool) (y9:Int) (y10:BAy) (y11 y12 y13:LLD) : zay.L3 y0 y1 y2 y3 y4 y5 y6 y7 y8 y9 y10 y11 y12 y13 = bif decide (y2 < y1) then bif decide (0 ≤ y2) && decide (y2 < (↑y0.length : Int)) && decide ((y0.getD y2.toNat []).length = 5) then bif zas [.bool, .int .i64, .str, .sl, .sl] (y0.getD y2.toNat []) 0 && decide (5 ≤ (y0.getD y2.toNat []).length) then (zay [.g [.v (.bool ((y0.getD y2.toNat []).getD 0 .h).bool), .v (.int .i64 ((y0.getD y2.toNat []).getD 1 .h).int), .v (.string ((y0.getD y2.toNat []).getD 2 .h).str), .s ((y0.getD y2.toNat []).getD 3 .h).es, .s ((y0.getD y2.toNat []).getD 4 .h).es]] []).bind fun val => bif zag [.bool, .int .i64, .str, .own .deep, .own .deep] val.1 && true then bif zaD 5 y13 && true && true && true && decide ((y13.length + 1) * 81 ≤ 70368744177664) then zay.L3 y0 y1 (IntKind.i64.wrap (y2 + 1)) y3 y4 y5 y6 y7 y8 y9 y10 y11 y12 (y13 ++ [[.v (.bool (val.1.getD 0 .d).bool), .v (.int .i64 (val.1.getD 1 .d).int), .v (.string (val.1.getD 2 .d).str), .s (val.1.getD 3 .d).es, .s (val.1.getD 4 .d).es]]) else none else none else none else none else some (zay.x3 y3 y4 y5 y6 y7 y8 y9 y10 y11 y12 y13) := by
 refine (zbf (Y := Y) (c := lim' Y) (fn := 80) (rid := 3) (b := zat 3 zay.c) (by kernel_rfl) _).trans ?_
 delta zay.L3 zay zay.x3 XX
 generalize lpL (Y.ctx (lim' Y)) 80 = lp
 generalize lim' Y = call
 kernel_rfl
theorem zay.a3x3 (y0:Bool) (y1:Int) (y2:BAy) (y3 y4:LLD) (y5:Bool) (y6:Int) (y7:BAy) (y8 y9 y10:LLD) : zay.A3 (zay.x3 y0 y1 y2 y3 y4 y5 y6 y7 y8 y9 y10) = bif zaD 1 y3 && zaG false y3 && true && decide ((0 + y3.length) * 17 ≤ 70368744177664) then some ⟨[.v (.bool y0), .v (.int .i64 y1), .v (.string y2), .o .deep y3, .o .deep y10], []⟩ else none := by
 delta zay.A3 zay.x3 XX
 generalize lpL (Y.ctx (lim' Y)) 80 = lp
 generalize lim' Y = call
 kernel_rfl
theorem zcK.e (a0:Bool) (a1:Int) (a2:BAy) (a3 a4:LLD) : zcK [.g [.v (.bool a0), .v (.int .i64 a1), .v (.string a2), .s a3, .s a4]] [] = bif a0 then (zaq [.g [.v (.bool a0), .v (.int .i64 a1), .v (.string a2), .s a3, .s a4], .one (.v (.int .i64 0))] []).bind fun val => bif zag [.bool] val.1 && true then bif (val.1.getD 0 .d).bool then (zaS [.g [.v (.bool a0), .v (.int .i64 a1), .v (.string a2), .s a3, .s a4]] []).bind fun val => bif zag [.int .i64] val.1 && true then some ⟨[.v (.bool (decide ((val.1.getD 0 .d).int ≤ 30)))], []⟩ else none else some ⟨[.v (.bool false)], []⟩ else none else some ⟨[.v (.bool false)], []⟩ := by
 refine (zcK.run _ _ (by kernel_rfl)).trans ?_
 delta zcK zaq zaS XX
 generalize lpL (Y.ctx (lim' Y)) 86 = lp
 generalize lim' Y = call
 kernel_rfl
noncomputable def zan.L2 (y0:BAy) (y1:Int) : Option (Ex × St) := lpL XX 125 (zat 2 zan.c) (mkG 0 36 [(0, .one (.v (.string y0))), (3, .one (.v (.int .i64 y1)))] [] GL)
noncomputable def zan.A2 : Ex × St → Option Res := fun r => evA XX 125 (lpL XX 125) 2 zan.c r.fst r.snd (outE XX 125 Tryz.f125)
noncomputable def zan.P5 (y0:BAy) (y1:Int) (y2:Bool) : Option (Ex × St) := evB XX 125 (lpL XX 125) 5 (zat 2 zan.c) (mkG 0 36 [(0, .one (.v (.string y0))), (3, .one (.v (.int .i64 y1))), (32, .one (.v (.bool y2)))] [] GL) (backL (lpL XX 125) (zat 2 zan.c) (XX.live 125 2))
noncomputable def zan.x2 (y0:BAy) : Ex × St := (Ex.exit 0, mkG 0 36 [(0, .one (.v (.string y0)))] [] GL)
noncomputable def zan.q2 (y0:BAy) (y1:Bool) : Ex × St := (Ex.ret, mkG 0 36 [(0, .one (.v (.string y0))), (2, .one (.v (.bool y1)))] [] GL)
theorem zan.e (a0:BAy) : zan [.one (.v (.string a0))] [] = (zan.L2 a0 0).bind zan.A2 := by
 refine (zan.run _ _ (by kernel_rfl)).trans ?_
 delta zan zan.L2 zan.A2 XX
 generalize lpL (Y.ctx (lim' Y)) 125 = lp
 generalize lim' Y = call
 kernel_rfl
theorem zan.s2 (y0:BAy) (y1:Int) : zan.L2 y0 y1 = bif decide (y1 < (↑y0.size : Int)) then bif decide (0 ≤ y1) && decide (y1 < (↑y0.size : Int)) then bif decide (zbc y0 y1.toNat ≥ 97) then bif decide (0 ≤ y1) && decide (y1 < (↑y0.size : Int)) then bif decide (zbc y0 y1.toNat ≤ 122) then zan.P5 y0 y1 false else bif decide (0 ≤ y1) && decide (y1 < (↑y0.size : Int)) then bif decide (zbc y0 y1.toNat ≥ 48) then bif decide (0 ≤ y1) && decide (y1 < (↑y0.size : Int)) then zan.P5 y0 y1 !decide (zbc y0 y1.toNat ≤ 57) else none else zan.P5 y0 y1 true else none else none else bif decide (0 ≤ y1) && decide (y1 < (↑y0.size : Int)) then bif decide (zbc y0 y1.toNat ≥ 48) then bif decide (0 ≤ y1) && decide (y1 < (↑y0.size : Int)) then zan.P5 y0 y1 !decide (zbc y0 y1.toNat ≤ 57) else none else zan.P5 y0 y1 true else none else none else some (zan.x2 y0) := by
 refine (zbf (Y := Y) (c := lim' Y) (fn := 125) (rid := 2) (b := zat 2 zan.c) (by kernel_rfl) _).trans ?_
 delta zan.L2 zan.P5 zan.x2 XX
 refine zbt [5] (by kernel_rfl) fun J e1 => ?_
 try simp only [← e1]
 clear e1
 generalize lpL (Y.ctx (lim' Y)) 125 = lp
 generalize lim' Y = call
 kernel_rfl
theorem zan.p5 (y0:BAy) (y1:Int) (y2:Bool) : zan.P5 y0 y1 y2 = bif y2 then some (zan.q2 y0 false) else zan.L2 y0 (IntKind.i64.wrap (y1 + 1)) := by
 delta zan.P5 zan.q2 zan.L2 XX
 refine zbg [5] 5 (by kernel_rfl) fun J e1 => ?_
 try simp only [← e1]
 clear e1
 generalize lpL (Y.ctx (lim' Y)) 125 = lp
 generalize lim' Y = call
 kernel_rfl
theorem zan.a2x2 (y0:BAy) : zan.A2 (zan.x2 y0) = (sl1In [.one (.v (.int .i64 (↑y0.size : Int))), .one (.v (.int .i64 1)), .one (.v (.int .i64 5))] []).bind fun val => bif zag [.bool] val.1 && true then some ⟨[.v (.bool (val.1.getD 0 .d).bool)], []⟩ else none := by
 delta zan.A2 zan.x2 sl1In XX
 generalize lpL (Y.ctx (lim' Y)) 125 = lp
 generalize lim' Y = call
 kernel_rfl
theorem zan.a2q2 (y0:BAy) (y1:Bool) : zan.A2 (zan.q2 y0 y1) = some ⟨[.v (.bool y1)], []⟩ := by
 delta zan.A2 zan.q2 XX
 generalize lpL (Y.ctx (lim' Y)) 125 = lp
 generalize lim' Y = call
 kernel_rfl
theorem sl1In.e (a0 a1 a2:Int) : sl1In [.one (.v (.int .i64 a0)), .one (.v (.int .i64 a1)), .one (.v (.int .i64 a2))] [] = bif decide (a0 ≥ a1) then some ⟨[.v (.bool (decide (a0 ≤ a2)))], []⟩ else some ⟨[.v (.bool false)], []⟩ := by
 refine (sl1In.run _ _ (by kernel_rfl)).trans ?_
 delta sl1In XX
 generalize lpL (Y.ctx (lim' Y)) 126 = lp
 generalize lim' Y = call
 kernel_rfl
noncomputable def zaZ.L2 (y0:BAy) (y1:Int) (y2:Bool) (y3:Int) (y4:BAy) (y5 y6:LLD) : Option (Ex × St) := lpL XX 127 (zat 2 zaZ.c) (mkG 0 21 [(1, .one (.v (.string y0))), (2, .one (.p true 2 [] 0)), (5, .one (.v (.int .i64 y1)))] [(2, some ⟨.box, [.v (.bool y2), .v (.int .i64 y3), .v (.string y4), .s y5, .s y6], [.deep, .deep, .deep, .sh, .sh]⟩)] GL)
noncomputable def zaZ.A2 : Ex × St → Option Res := fun r => evA XX 127 (lpL XX 127) 2 zaZ.c r.fst r.snd (outE XX 127 Tryz.f127)
noncomputable def zaZ.q2 (y0:Int) : Ex × St := (Ex.ret, mkG 0 21 [(4, .one (.v (.int .i64 y0)))] [] GL)
noncomputable def zaZ.x2 : Ex × St := (Ex.exit 0, mkG 0 21 [] [] GL)
theorem zaZ.e (a0:Bool) (a1:Int) (a2:BAy) (a3 a4:LLD) (a5:BAy) : zaZ [.g [.v (.bool a0), .v (.int .i64 a1), .v (.string a2), .s a3, .s a4], .one (.v (.string a5))] [] = (zaZ.L2 a5 0 a0 a1 a2 a3 a4).bind zaZ.A2 := by
 refine (zaZ.run _ _ (by kernel_rfl)).trans ?_
 delta zaZ zaZ.L2 zaZ.A2 XX
 generalize lpL (Y.ctx (lim' Y)) 127 = lp
 generalize lim' Y = call
 kernel_rfl
theorem zaZ.s2 (y0:BAy) (y1:Int) (y2:Bool) (y3:Int) (y4:BAy) (y5 y6:LLD) : zaZ.L2 y0 y1 y2 y3 y4 y5 y6 = bif decide (y1 < (↑y5.length : Int)) then bif decide (0 ≤ y1) && decide (y1 < (↑y5.length : Int)) && decide ((y5.getD y1.toNat []).length = 1) then bif zas [.str] (y5.getD y1.toNat []) 0 && decide (1 ≤ (y5.getD y1.toNat []).length) then bif ((y5.getD y1.toNat []).getD 0 .h).str.toList == y0.toList then some (zaZ.q2 y1) else zaZ.L2 y0 (IntKind.i64.wrap (y1 + 1)) y2 y3 y4 y5 y6 else none else none else some zaZ.x2 := by
 refine (zbf (Y := Y) (c := lim' Y) (fn := 127) (rid := 2) (b := zat 2 zaZ.c) (by kernel_rfl) _).trans ?_
 delta zaZ.L2 zaZ.q2 zaZ.x2 XX
 generalize lpL (Y.ctx (lim' Y)) 127 = lp
 generalize lim' Y = call
 kernel_rfl
theorem zaZ.a2q2 (y0:Int) : zaZ.A2 (zaZ.q2 y0) = some ⟨[.v (.int .i64 y0)], []⟩ := by
 delta zaZ.A2 zaZ.q2 XX
 generalize lpL (Y.ctx (lim' Y)) 127 = lp
 generalize lim' Y = call
 kernel_rfl
theorem zaZ.a2x2 : zaZ.A2 zaZ.x2 = some ⟨[.v (.int .i64 (-1))], []⟩ := by
 delta zaZ.A2 zaZ.x2 XX
 generalize lpL (Y.ctx (lim' Y)) 127 = lp
 generalize lim' Y = call
 kernel_rfl
noncomputable def zaR.L3 (y0:LLD) (y1:Int) (y2:Bool) (y3:Int) (y4:BAy) (y5 y6 y7:LLD) : Option (Ex × St) := lpL XX 128 (zat 3 zaR.c) (mkG 0 43 [(0, .one (.s y0)), (3, .one (.p true 3 [] 0)), (5, .one (.r 5 [] 0)), (6, .one (.v (.int .i64 y1)))] [(3, some ⟨.box, [.v (.bool y2), .v (.int .i64 y3), .v (.string y4), .s y5, .s y6], [.deep, .deep, .deep, .sh, .sh]⟩), (5, some ⟨.virt, [.s y7], [.deep]⟩)] GL)
noncomputable def zaR.A3 : Ex × St → Option Res := fun r => evA XX 128 (lpL XX 128) 3 zaR.c r.fst r.snd (outE XX 128 Tryz.f128)
noncomputable def zaR.x3 (y0:LLD) : Ex × St := (Ex.exit 0, mkG 0 43 [(5, .one (.r 5 [] 0))] [(5, some ⟨.virt, [.s y0], [.deep]⟩)] GL)
theorem zaR.e (a0:LLD) (a1:Bool) (a2:Int) (a3:BAy) (a4 a5:LLD) : zaR [.one (.s a0), .g [.v (.bool a1), .v (.int .i64 a2), .v (.string a3), .s a4, .s a5]] [] = bif zaD 1 a0 && zaG false a0 && true && decide ((0 + a0.length) * 17 ≤ 70368744177664) then (zdB [.g [.v (.bool a1), .v (.int .i64 a2), .v (.string a3), .s a4, .s a5]] []).bind fun val => bif zag [.int .i64] val.1 && true then (zaR.L3 a0 0 a1 a2 a3 a4 a5 [[.s a0, .v (.bool a1), .v (.int .i64 a2), .v (.string a3), .v (.int .i64 (val.1.getD 0 .d).int)]]).bind zaR.A3 else none else none := by
 refine (zaR.run _ _ (by kernel_rfl)).trans ?_
 delta zaR zdB zaR.L3 zaR.A3 XX
 generalize lpL (Y.ctx (lim' Y)) 128 = lp
 generalize lim' Y = call
 kernel_rfl
theorem zaR.s3 (y0:LLD) (y1:Int) (y2:Bool) (y3:Int) (y4:BAy) (y5 y6 y7:LLD) : zaR.L3 y0 y1 y2 y3 y4 y5 y6 y7 = bif decide (y1 < (↑y5.length : Int)) then bif decide (0 ≤ y1) && decide (y1 < (↑y5.length : Int)) && decide ((y5.getD y1.toNat []).length = 1) then bif zas [.str] (y5.getD y1.toNat []) 0 && decide (1 ≤ (y5.getD y1.toNat []).length) then (zcM [.one (.s y0), .one (.v (.string ((y5.getD y1.toNat []).getD 0 .h).str))] []).bind fun val => bif zag [.sh] val.1 && true then bif decide (0 ≤ y1) && decide (y1 < (↑y6.length : Int)) && decide ((y6.getD y1.toNat []).length = 5) then bif zas [.bool, .int .i64, .str, .sl, .sl] (y6.getD y1.toNat []) 0 && decide (5 ≤ (y6.getD y1.toNat []).length) then (zaR [.one (.s (val.1.getD 0 .d).es), .g [.v (.bool ((y6.getD y1.toNat []).getD 0 .h).bool), .v (.int .i64 ((y6.getD y1.toNat []).getD 1 .h).int), .v (.string ((y6.getD y1.toNat []).getD 2 .h).str), .s ((y6.getD y1.toNat []).getD 3 .h).es, .s ((y6.getD y1.toNat []).getD 4 .h).es]] []).bind fun val => bif zag [.own .deep] val.1 && true then bif zaD 5 y7 && zaD 5 (val.1.getD 0 .d).es && zaG true (val.1.getD 0 .d).es && true && decide ((y7.length + (val.1.getD 0 .d).es.length) * 65 ≤ 70368744177664) then zaR.L3 y0 (IntKind.i64.wrap (y1 + 1)) y2 y3 y4 y5 y6 (y7 ++ (val.1.getD 0 .d).es) else none else none else none else none else none else none else none else some (zaR.x3 y7) := by
 refine (zbf (Y := Y) (c := lim' Y) (fn := 128) (rid := 3) (b := zat 3 zaR.c) (by kernel_rfl) _).trans ?_
 delta zaR.L3 zcM zaR zaR.x3 XX
 generalize lpL (Y.ctx (lim' Y)) 128 = lp
 generalize lim' Y = call
 kernel_rfl
theorem zaR.a3x3 (y0:LLD) : zaR.A3 (zaR.x3 y0) = some ⟨[.o .deep y0], []⟩ := by
 delta zaR.A3 zaR.x3 XX
 generalize lpL (Y.ctx (lim' Y)) 128 = lp
 generalize lim' Y = call
 kernel_rfl
noncomputable def zaW.P3 (y0:Int) (y1 y2:Bool) (y3:Int) (y4:BAy) (y5 y6:LLD) : Option Res := evB XX 129 (lpL XX 129) 3 zaW.c (mkG 1 29 [(0, .one (.p true 0 [] 0)), (5, .one (.v (.int .i64 y0))), (22, .one (.v (.bool y1)))] [(0, some ⟨.ro, [.v (.bool y2), .v (.int .i64 y3), .v (.string y4), .s y5, .s y6], [.sh, .sh, .sh, .sh, .sh]⟩)] GL) (outE XX 129 Tryz.f129)
noncomputable def zaW.P4 (y0:Int) (y1:Bool) (y2:Int) (y3:BAy) (y4 y5:LLD) : Option Res := evB XX 129 (lpL XX 129) 4 zaW.c (mkG 1 29 [(0, .one (.p true 0 [] 0)), (5, .one (.v (.int .i64 y0)))] [(0, some ⟨.ro, [.v (.bool y1), .v (.int .i64 y2), .v (.string y3), .s y4, .s y5], [.sh, .sh, .sh, .sh, .sh]⟩)] GL) (outE XX 129 Tryz.f129)
theorem zaW.e (a0:Bool) (a1:Int) (a2:BAy) (a3 a4:LLD) (a5:BAy) : zaW [.one (.p true 0 [] 0), .one (.v (.string a5))] [⟨.ro, [.v (.bool a0), .v (.int .i64 a1), .v (.string a2), .s a3, .s a4], [.sh, .sh, .sh, .sh, .sh]⟩] = (zaf [.one (.s a3), .one (.v (.string a5))] []).bind fun val => bif zag [.int .i64] val.1 && true then bif decide ((val.1.getD 0 .d).int < 0) then zaW.P3 (val.1.getD 0 .d).int true a0 a1 a2 a3 a4 else zaW.P3 (val.1.getD 0 .d).int (decide ((val.1.getD 0 .d).int ≥ (↑a4.length : Int))) a0 a1 a2 a3 a4 else none := by
 refine (zaW.run _ _ (by kernel_rfl)).trans ?_
 delta zaW zaf zaW.P3 XX
 refine zbt [3, 4] (by kernel_rfl) fun J e1 => ?_
 try simp only [← e1]
 clear e1
 generalize lpL (Y.ctx (lim' Y)) 129 = lp
 generalize lim' Y = call
 kernel_rfl
theorem zaW.p3 (y0:Int) (y1 y2:Bool) (y3:Int) (y4:BAy) (y5 y6:LLD) : zaW.P3 y0 y1 y2 y3 y4 y5 y6 = bif y1 then some ⟨[.p false 0 [] 0], [⟨.ro, [.v (.bool y2), .v (.int .i64 y3), .v (.string y4), .s y5, .s y6], [.sh, .sh, .sh, .sh, .sh]⟩]⟩ else zaW.P4 y0 y2 y3 y4 y5 y6 := by
 delta zaW.P3 zaW.P4 XX
 refine zbg [3, 4] 3 (by kernel_rfl) fun J e1 => ?_
 try simp only [← e1]
 clear e1
 generalize lpL (Y.ctx (lim' Y)) 129 = lp
 generalize lim' Y = call
 kernel_rfl
theorem zaW.p4 (y0:Int) (y1:Bool) (y2:Int) (y3:BAy) (y4 y5:LLD) : zaW.P4 y0 y1 y2 y3 y4 y5 = bif decide (0 ≤ y0) && decide (y0 < (↑y5.length : Int)) && decide ((y5.getD y0.toNat []).length = 5) then some ⟨[.p true 0 [(4, y0.toNat)] 0], [⟨.ro, [.v (.bool y1), .v (.int .i64 y2), .v (.string y3), .s y4, .s y5], [.sh, .sh, .sh, .sh, .sh]⟩]⟩ else none := by
 delta zaW.P4 XX
 refine zbg [3, 4] 4 (by kernel_rfl) fun J e1 => ?_
 try simp only [← e1]
 clear e1
 generalize lpL (Y.ctx (lim' Y)) 129 = lp
 generalize lim' Y = call
 kernel_rfl
noncomputable def zac.L3 (y0:LLD) (y1:BAy) (y2 y3 y4:Int) : Option (Ex × St) := lpL XX 130 (zat 3 zac.c) (mkG 0 54 [(0, .one (.s y0)), (1, .one (.v (.string y1))), (6, .one (.v (.int .i64 y2))), (7, .one (.v (.int .i64 y3))), (8, .one (.v (.int .i64 y4)))] [] GL)
noncomputable def zac.A3 : Ex × St → Option Res := fun r => evA XX 130 (lpL XX 130) 3 zac.c r.fst r.snd (outE XX 130 Tryz.f130)
noncomputable def zac.x3 (y0:LLD) (y1:BAy) (y2 y3:Int) : Ex × St := (Ex.exit 0, mkG 0 54 [(0, .one (.s y0)), (1, .one (.v (.string y1))), (6, .one (.v (.int .i64 y2))), (7, .one (.v (.int .i64 y3)))] [] GL)
theorem zac.e (a0:LLD) (a1:BAy) : zac [.one (.s a0), .one (.v (.string a1))] [] = (zac.L3 a0 a1 (↑a0.length : Int) 0 (↑a0.length : Int)).bind zac.A3 := by
 refine (zac.run _ _ (by kernel_rfl)).trans ?_
 delta zac zac.L3 zac.A3 XX
 generalize lpL (Y.ctx (lim' Y)) 130 = lp
 generalize lim' Y = call
 kernel_rfl
theorem zac.s3 (y0:LLD) (y1:BAy) (y2 y3 y4:Int) : zac.L3 y0 y1 y2 y3 y4 = bif decide (y3 < y4) then bif decide (0 ≤ IntKind.i64.wrap ((IntKind.u64.wrap (IntKind.i64.wrap (y3 + y4))).fdiv (2 ^ min (Int.toNat 1) IntKind.u64.bits))) && decide (IntKind.i64.wrap ((IntKind.u64.wrap (IntKind.i64.wrap (y3 + y4))).fdiv (2 ^ min (Int.toNat 1) IntKind.u64.bits)) < (↑y0.length : Int)) && decide ((y0.getD (IntKind.i64.wrap ((IntKind.u64.wrap (IntKind.i64.wrap (y3 + y4))).fdiv (2 ^ min (Int.toNat 1) IntKind.u64.bits))).toNat []).length = 1) then bif zas [.str] (y0.getD (IntKind.i64.wrap ((IntKind.u64.wrap (IntKind.i64.wrap (y3 + y4))).fdiv (2 ^ min (Int.toNat 1) IntKind.u64.bits))).toNat []) 0 && decide (1 ≤ (y0.getD (IntKind.i64.wrap ((IntKind.u64.wrap (IntKind.i64.wrap (y3 + y4))).fdiv (2 ^ min (Int.toNat 1) IntKind.u64.bits))).toNat []).length) then (za9 [.one (.v (.string ((y0.getD (IntKind.i64.wrap ((IntKind.u64.wrap (IntKind.i64.wrap (y3 + y4))).fdiv (2 ^ min (Int.toNat 1) IntKind.u64.bits))).toNat []).getD 0 .h).str)), .one (.v (.string y1))] []).bind fun val => bif zag [.bool] val.1 && true then bif (val.1.getD 0 .d).bool then zac.L3 y0 y1 y2 (IntKind.i64.wrap (IntKind.i64.wrap ((IntKind.u64.wrap (IntKind.i64.wrap (y3 + y4))).fdiv (2 ^ min (Int.toNat 1) IntKind.u64.bits)) + 1)) y4 else zac.L3 y0 y1 y2 y3 (IntKind.i64.wrap ((IntKind.u64.wrap (IntKind.i64.wrap (y3 + y4))).fdiv (2 ^ min (Int.toNat 1) IntKind.u64.bits))) else none else none else none else some (zac.x3 y0 y1 y2 y3) := by
 refine (zbf (Y := Y) (c := lim' Y) (fn := 130) (rid := 3) (b := zat 3 zac.c) (by kernel_rfl) _).trans ?_
 delta zac.L3 za9 zac.x3 XX
 generalize lpL (Y.ctx (lim' Y)) 130 = lp
 generalize lim' Y = call
 kernel_rfl
theorem zac.a3x3 (y0:LLD) (y1:BAy) (y2 y3:Int) : zac.A3 (zac.x3 y0 y1 y2 y3) = bif decide (y3 < y2) then bif decide (0 ≤ y3) && decide (y3 < (↑y0.length : Int)) && decide ((y0.getD y3.toNat []).length = 1) then bif zas [.str] (y0.getD y3.toNat []) 0 && decide (1 ≤ (y0.getD y3.toNat []).length) then bif ((y0.getD y3.toNat []).getD 0 .h).str.toList == y1.toList then some ⟨[.v (.int .i64 y3), .v (.bool true)], []⟩ else bif decide (0 ≤ y3) && decide (y3 < (↑y0.length : Int)) && decide ((y0.getD y3.toNat []).length = 1) then bif zas [.str] (y0.getD y3.toNat []) 0 && decide (1 ≤ (y0.getD y3.toNat []).length) then (zaM [.one (.v (.string ((y0.getD y3.toNat []).getD 0 .h).str))] []).bind fun val => bif zag [.bool] val.1 && true then bif (val.1.getD 0 .d).bool then (zaM [.one (.v (.string y1))] []).bind fun val => bif zag [.bool] val.1 && true then some ⟨[.v (.int .i64 y3), .v (.bool (val.1.getD 0 .d).bool)], []⟩ else none else some ⟨[.v (.int .i64 y3), .v (.bool false)], []⟩ else none else none else none else none else none else some ⟨[.v (.int .i64 y3), .v (.bool false)], []⟩ := by
 delta zac.A3 zac.x3 zaM XX
 generalize lpL (Y.ctx (lim' Y)) 130 = lp
 generalize lim' Y = call
 kernel_rfl
noncomputable def zai.P2 (y0:Int) (y1 y2:Bool) (y3:Int) (y4:BAy) (y5 y6:LLD) : Option Res := evB XX 133 (lpL XX 133) 2 zai.c (mkG 0 77 [(1, .one (.v (.int .i64 y0))), (2, .one (.p true 2 [] 0)), (23, .one (.v (.bool y1)))] [(2, some ⟨.box, [.v (.bool y2), .v (.int .i64 y3), .v (.string y4), .s y5, .s y6], [.deep, .deep, .deep, .sh, .sh]⟩)] GL) (outE XX 133 Tryz.f133)
noncomputable def zai.P3 (y0:Int) (y1:Bool) (y2:Int) (y3:BAy) (y4 y5:LLD) : Option Res := evB XX 133 (lpL XX 133) 3 zai.c (mkG 0 77 [(1, .one (.v (.int .i64 y0))), (2, .one (.p true 2 [] 0))] [(2, some ⟨.box, [.v (.bool y1), .v (.int .i64 y2), .v (.string y3), .s y4, .s y5], [.deep, .deep, .deep, .sh, .sh]⟩)] GL) (outE XX 133 Tryz.f133)
noncomputable def zai.L8 (y0:Int) (y1:LLD) (y2 y3:Int) (y4:Bool) (y5:Int) (y6:BAy) (y7 y8:LLD) : Option (Ex × St) := lpL XX 133 (zat 8 zai.c) (mkG 0 77 [(1, .one (.v (.int .i64 y0))), (2, .one (.p true 2 [] 0)), (41, .one (.s y1)), (42, .one (.v (.int .i64 y2))), (43, .one (.v (.int .i64 y3)))] [(2, some ⟨.box, [.v (.bool y4), .v (.int .i64 y5), .v (.string y6), .s y7, .s y8], [.deep, .deep, .deep, .sh, .sh]⟩)] GL)
noncomputable def zai.A8 : Ex × St → Option Res := fun r => evA XX 133 (lpL XX 133) 8 zai.c r.fst r.snd (outE XX 133 Tryz.f133)
noncomputable def zai.P11 (y0:Int) (y1:LLD) (y2 y3:Int) (y4 y5:Bool) (y6:Int) (y7:BAy) (y8 y9:LLD) : Option (Ex × St) := evB XX 133 (lpL XX 133) 11 (zat 8 zai.c) (mkG 0 77 [(1, .one (.v (.int .i64 y0))), (2, .one (.p true 2 [] 0)), (41, .one (.s y1)), (42, .one (.v (.int .i64 y2))), (43, .one (.v (.int .i64 y3))), (75, .one (.v (.bool y4)))] [(2, some ⟨.box, [.v (.bool y5), .v (.int .i64 y6), .v (.string y7), .s y8, .s y9], [.deep, .deep, .deep, .sh, .sh]⟩)] GL) (backL (lpL XX 133) (zat 8 zai.c) (XX.live 133 8))
noncomputable def zai.x8 : Ex × St := (Ex.exit 0, mkG 0 77 [] [] GL)
noncomputable def zai.q8 (y0:Bool) : Ex × St := (Ex.ret, mkG 0 77 [(4, .one (.v (.bool y0)))] [] GL)
theorem zai.e (a0:Bool) (a1:Int) (a2:BAy) (a3 a4:LLD) (a5:Int) : zai [.g [.v (.bool a0), .v (.int .i64 a1), .v (.string a2), .s a3, .s a4], .one (.v (.int .i64 a5))] [] = (zcL [.one (.v (.int .i64 a1))] []).bind fun val => bif zag [.bool] val.1 && true then bif !(val.1.getD 0 .d).bool then zai.P2 a5 true a0 a1 a2 a3 a4 else bif decide (a5 > 4) then zai.P2 a5 true a0 a1 a2 a3 a4 else zai.P2 a5 ((↑a3.length : Int) != (↑a4.length : Int)) a0 a1 a2 a3 a4 else none := by
 refine (zai.run _ _ (by kernel_rfl)).trans ?_
 delta zai zcL zai.P2 XX
 refine zbt [2, 3] (by kernel_rfl) fun J e1 => ?_
 try simp only [← e1]
 clear e1
 generalize lpL (Y.ctx (lim' Y)) 133 = lp
 generalize lim' Y = call
 kernel_rfl
theorem zai.p2 (y0:Int) (y1 y2:Bool) (y3:Int) (y4:BAy) (y5 y6:LLD) : zai.P2 y0 y1 y2 y3 y4 y5 y6 = bif y1 then some ⟨[.v (.bool false)], []⟩ else zai.P3 y0 y2 y3 y4 y5 y6 := by
 delta zai.P2 zai.P3 XX
 refine zbg [2, 3] 2 (by kernel_rfl) fun J e1 => ?_
 try simp only [← e1]
 clear e1
 generalize lpL (Y.ctx (lim' Y)) 133 = lp
 generalize lim' Y = call
 kernel_rfl
theorem zai.p3 (y0:Int) (y1:Bool) (y2:Int) (y3:BAy) (y4 y5:LLD) : zai.P3 y0 y1 y2 y3 y4 y5 = bif !y1 then bif decide ((↑y3.size : Int) ≤ 24) then some ⟨[.v (.bool ((↑y4.length : Int) == 0))], []⟩ else some ⟨[.v (.bool false)], []⟩ else bif !y3.toList == [] then some ⟨[.v (.bool false)], []⟩ else (zai.L8 y0 y4 (↑y4.length : Int) 0 y1 y2 y3 y4 y5).bind zai.A8 := by
 delta zai.P3 zai.L8 zai.A8 XX
 refine zbg [2, 3] 3 (by kernel_rfl) fun J e1 => ?_
 have eA := evA_J [2, 3] 8 (by kernel_rfl) e1
 try simp only [eA]
 clear eA
 try simp only [← e1]
 clear e1
 show _ = _
 generalize lpL (Y.ctx (lim' Y)) 133 = lp
 generalize lim' Y = call
 kernel_rfl
theorem zai.s8 (y0:Int) (y1:LLD) (y2 y3:Int) (y4:Bool) (y5:Int) (y6:BAy) (y7 y8:LLD) : zai.L8 y0 y1 y2 y3 y4 y5 y6 y7 y8 = bif decide (y3 < y2) then bif decide (0 ≤ y3) && decide (y3 < (↑y1.length : Int)) && decide ((y1.getD y3.toNat []).length = 1) then bif zas [.str] (y1.getD y3.toNat []) 0 && decide (1 ≤ (y1.getD y3.toNat []).length) then (zaJ [.one (.v (.string ((y1.getD y3.toNat []).getD 0 .h).str))] []).bind fun val => bif zag [.bool] val.1 && true then bif !(val.1.getD 0 .d).bool then zai.P11 y0 y1 y2 y3 true y4 y5 y6 y7 y8 else bif decide (y3 > 0) then bif decide (0 ≤ IntKind.i64.wrap (y3 - 1)) && decide (IntKind.i64.wrap (y3 - 1) < (↑y7.length : Int)) && decide ((y7.getD (IntKind.i64.wrap (y3 - 1)).toNat []).length = 1) then bif zas [.str] (y7.getD (IntKind.i64.wrap (y3 - 1)).toNat []) 0 && decide (1 ≤ (y7.getD (IntKind.i64.wrap (y3 - 1)).toNat []).length) then bif !Op.bytesLess ((y7.getD (IntKind.i64.wrap (y3 - 1)).toNat []).getD 0 .h).str.toList ((y1.getD y3.toNat []).getD 0 .h).str.toList then zai.P11 y0 y1 y2 y3 true y4 y5 y6 y7 y8 else bif decide (0 ≤ y3) && decide (y3 < (↑y8.length : Int)) && decide ((y8.getD y3.toNat []).length = 5) then bif zas [.bool, .int .i64, .str, .sl, .sl] (y8.getD y3.toNat []) 0 && decide (5 ≤ (y8.getD y3.toNat []).length) then (zai [.g [.v (.bool ((y8.getD y3.toNat []).getD 0 .h).bool), .v (.int .i64 ((y8.getD y3.toNat []).getD 1 .h).int), .v (.string ((y8.getD y3.toNat []).getD 2 .h).str), .s ((y8.getD y3.toNat []).getD 3 .h).es, .s ((y8.getD y3.toNat []).getD 4 .h).es], .one (.v (.int .i64 (IntKind.i64.wrap (y0 + 1))))] []).bind fun val => bif zag [.bool] val.1 && true then zai.P11 y0 y1 y2 y3 (!(val.1.getD 0 .d).bool) y4 y5 y6 y7 y8 else none else none else none else none else none else bif decide (0 ≤ y3) && decide (y3 < (↑y8.length : Int)) && decide ((y8.getD y3.toNat []).length = 5) then bif zas [.bool, .int .i64, .str, .sl, .sl] (y8.getD y3.toNat []) 0 && decide (5 ≤ (y8.getD y3.toNat []).length) then (zai [.g [.v (.bool ((y8.getD y3.toNat []).getD 0 .h).bool), .v (.int .i64 ((y8.getD y3.toNat []).getD 1 .h).int), .v (.string ((y8.getD y3.toNat []).getD 2 .h).str), .s ((y8.getD y3.toNat []).getD 3 .h).es, .s ((y8.getD y3.toNat []).getD 4 .h).es], .one (.v (.int .i64 (IntKind.i64.wrap (y0 + 1))))] []).bind fun val => bif zag [.bool] val.1 && true then zai.P11 y0 y1 y2 y3 (!(val.1.getD 0 .d).bool) y4 y5 y6 y7 y8 else none else none else none else none else none else none else some zai.x8 := by
 refine (zbf (Y := Y) (c := lim' Y) (fn := 133) (rid := 8) (b := zat 8 zai.c) (by kernel_rfl) _).trans ?_
 delta zai.L8 zaJ zai.P11 zai zai.x8 XX
 refine zbt [11] (by kernel_rfl) fun J e1 => ?_
 try simp only [← e1]
 clear e1
 generalize lpL (Y.ctx (lim' Y)) 133 = lp
 generalize lim' Y = call
 kernel_rfl
theorem zai.p11 (y0:Int) (y1:LLD) (y2 y3:Int) (y4 y5:Bool) (y6:Int) (y7:BAy) (y8 y9:LLD) : zai.P11 y0 y1 y2 y3 y4 y5 y6 y7 y8 y9 = bif y4 then some (zai.q8 false) else zai.L8 y0 y1 y2 (IntKind.i64.wrap (y3 + 1)) y5 y6 y7 y8 y9 := by
 delta zai.P11 zai.q8 zai.L8 XX
 refine zbg [11] 11 (by kernel_rfl) fun J e1 => ?_
 try simp only [← e1]
 clear e1
 generalize lpL (Y.ctx (lim' Y)) 133 = lp
 generalize lim' Y = call
 kernel_rfl
theorem zai.a8x8 : zai.A8 zai.x8 = some ⟨[.v (.bool true)], []⟩ := by
 delta zai.A8 zai.x8 XX
 refine zbb [2, 3] 8 (by kernel_rfl) fun J e1 => ?_
 have eA := evA_J [2, 3] 8 (by kernel_rfl) e1
 try simp only [eA]
 clear eA
 try simp only [← e1]
 clear e1
 show _ = _
 generalize lpL (Y.ctx (lim' Y)) 133 = lp
 generalize lim' Y = call
 kernel_rfl
theorem zai.a8q8 (y0:Bool) : zai.A8 (zai.q8 y0) = some ⟨[.v (.bool y0)], []⟩ := by
 delta zai.A8 zai.q8 XX
 refine zbb [2, 3] 8 (by kernel_rfl) fun J e1 => ?_
 have eA := evA_J [2, 3] 8 (by kernel_rfl) e1
 try simp only [eA]
 clear eA
 try simp only [← e1]
 clear e1
 show _ = _
 generalize lpL (Y.ctx (lim' Y)) 133 = lp
 generalize lim' Y = call
 kernel_rfl
noncomputable def zav.L3 (y0:Int) (y1:LLD) (y2 y3:Int) : Option (Ex × St) := lpL XX 134 (zat 3 zav.c) (mkG 0 19 [(3, .one (.v (.int .i64 y0))), (7, .one (.s y1)), (8, .one (.v (.int .i64 y2))), (9, .one (.v (.int .i64 y3)))] [] GL)
noncomputable def zav.A3 : Ex × St → Option Res := fun r => evA XX 134 (lpL XX 134) 3 zav.c r.fst r.snd (outE XX 134 Tryz.f134)
noncomputable def zav.x3 (y0:Int) : Ex × St := (Ex.exit 0, mkG 0 19 [(3, .one (.v (.int .i64 y0)))] [] GL)
theorem zav.e (a0:Bool) (a1:Int) (a2:BAy) (a3 a4:LLD) : zav [.g [.v (.bool a0), .v (.int .i64 a1), .v (.string a2), .s a3, .s a4]] [] = (zav.L3 1 a4 (↑a4.length : Int) 0).bind zav.A3 := by
 refine (zav.run _ _ (by kernel_rfl)).trans ?_
 delta zav zav.L3 zav.A3 XX
 generalize lpL (Y.ctx (lim' Y)) 134 = lp
 generalize lim' Y = call
 kernel_rfl
theorem zav.s3 (y0:Int) (y1:LLD) (y2 y3:Int) : zav.L3 y0 y1 y2 y3 = bif decide (y3 < y2) then bif decide (0 ≤ y3) && decide (y3 < (↑y1.length : Int)) && decide ((y1.getD y3.toNat []).length = 5) then bif zas [.bool, .int .i64, .str, .sl, .sl] (y1.getD y3.toNat []) 0 && decide (5 ≤ (y1.getD y3.toNat []).length) then (zav [.g [.v (.bool ((y1.getD y3.toNat []).getD 0 .h).bool), .v (.int .i64 ((y1.getD y3.toNat []).getD 1 .h).int), .v (.string ((y1.getD y3.toNat []).getD 2 .h).str), .s ((y1.getD y3.toNat []).getD 3 .h).es, .s ((y1.getD y3.toNat []).getD 4 .h).es]] []).bind fun val => bif zag [.int .i64] val.1 && true then zav.L3 (IntKind.i64.wrap (y0 + (val.1.getD 0 .d).int)) y1 y2 (IntKind.i64.wrap (y3 + 1)) else none else none else none else some (zav.x3 y0) := by
 refine (zbf (Y := Y) (c := lim' Y) (fn := 134) (rid := 3) (b := zat 3 zav.c) (by kernel_rfl) _).trans ?_
 delta zav.L3 zav zav.x3 XX
 generalize lpL (Y.ctx (lim' Y)) 134 = lp
 generalize lim' Y = call
 kernel_rfl
theorem zav.a3x3 (y0:Int) : zav.A3 (zav.x3 y0) = some ⟨[.v (.int .i64 y0)], []⟩ := by
 delta zav.A3 zav.x3 XX
 generalize lpL (Y.ctx (lim' Y)) 134 = lp
 generalize lim' Y = call
 kernel_rfl
noncomputable def iTree_each_show.L3 (y0 y1:LLD) (y2 y3:Int) (y4:BAy) (y5:Bool) (y6:Int) (y7:BAy) (y8 y9:LLD) : Option (Ex × St) := lpL XX 135 (zat 3 zaT.c) (mkG 1 31 [(1, .one (.s y0)), (2, .f zaQ.id [.bx [A0.p true 0 [] 0] 0]), (3, .one (.p true 4 [] 0)), (13, .one (.s y1)), (14, .one (.v (.int .i64 y2))), (15, .one (.v (.int .i64 y3)))] [(0, some ⟨.bld 170 5, [.v (.string y4), .h], [.deep, .deep]⟩), (4, some ⟨.box, [.v (.bool y5), .v (.int .i64 y6), .v (.string y7), .s y8, .s y9], [.deep, .deep, .deep, .sh, .sh]⟩)] GL)
noncomputable def iTree_each_show.A3 : Ex × St → Option Res := fun r => evA XX 135 (lpL XX 135) 3 zaT.c r.fst r.snd (outE XX 135 Tryz.f135)
noncomputable def iTree_each_show.x3 (y0:BAy) : Ex × St := (Ex.exit 0, mkG 1 31 [] [(0, some ⟨.bld 170 5, [.v (.string y0), .h], [.deep, .deep]⟩)] GL)
theorem iTree_each_show.e (a0:Bool) (a1:Int) (a2:BAy) (a3 a4 a5:LLD) (b:BAy) : zaT [.g [.v (.bool a0), .v (.int .i64 a1), .v (.string a2), .s a3, .s a4], .one (.s a5), .f zaQ.id [.bx [A0.p true 0 [] 0] 0]] [⟨.bld 170 5, [.v (.string b), .h], [.deep, .deep]⟩] = (zaQ [.one (.s a5), .g [.v (.bool a0), .v (.int .i64 a1), .v (.string a2), .s a3, .s a4], .one (.bx [A0.p true 0 [] 0] 0)] [⟨.bld 170 5, [.v (.string b), .h], [.deep, .deep]⟩]).bind fun val => bif zag [] val.1 && zba [⟨⟨.bld 170 5, [.v (.string b), .h], [.deep, .deep]⟩, .box 0⟩] val.2 then (iTree_each_show.L3 a5 a3 (↑a3.length : Int) 0 ((val.2.getD 0 ⟨.ro, [], []⟩).2.getD 0 .h).str a0 a1 a2 a3 a4).bind iTree_each_show.A3 else none := by
 refine (zaT.run _ _ (by kernel_rfl)).trans ?_
 delta zaT zaQ iTree_each_show.L3 iTree_each_show.A3 zaQ.id XX
 generalize lpL (Y.ctx (lim' Y)) 135 = lp
 generalize lim' Y = call
 kernel_rfl
theorem iTree_each_show.s3 (y0 y1:LLD) (y2 y3:Int) (y4:BAy) (y5:Bool) (y6:Int) (y7:BAy) (y8 y9:LLD) : iTree_each_show.L3 y0 y1 y2 y3 y4 y5 y6 y7 y8 y9 = bif decide (y3 < y2) then bif decide (0 ≤ y3) && decide (y3 < (↑y1.length : Int)) && decide ((y1.getD y3.toNat []).length = 1) then bif zas [.str] (y1.getD y3.toNat []) 0 && decide (1 ≤ (y1.getD y3.toNat []).length) then bif decide (0 ≤ y3) && decide (y3 < (↑y9.length : Int)) && decide ((y9.getD y3.toNat []).length = 5) then bif zas [.bool, .int .i64, .str, .sl, .sl] (y9.getD y3.toNat []) 0 && decide (5 ≤ (y9.getD y3.toNat []).length) then (zda [.one (.s y0), .one (.v (.string ((y1.getD y3.toNat []).getD 0 .h).str))] []).bind fun val => bif zag [.own .deep] val.1 && true then (zaT [.g [.v (.bool ((y9.getD y3.toNat []).getD 0 .h).bool), .v (.int .i64 ((y9.getD y3.toNat []).getD 1 .h).int), .v (.string ((y9.getD y3.toNat []).getD 2 .h).str), .s ((y9.getD y3.toNat []).getD 3 .h).es, .s ((y9.getD y3.toNat []).getD 4 .h).es], .one (.s (val.1.getD 0 .d).es), .f zaQ.id [.bx [A0.p true 0 [] 0] 0]] [⟨.bld 170 5, [.v (.string y4), .h], [.deep, .deep]⟩]).bind fun val => bif zag [] val.1 && zba [⟨⟨.bld 170 5, [.v (.string y4), .h], [.deep, .deep]⟩, .box 0⟩] val.2 then iTree_each_show.L3 y0 y1 y2 (IntKind.i64.wrap (y3 + 1)) ((val.2.getD 0 ⟨.ro, [], []⟩).2.getD 0 .h).str y5 y6 y7 y8 y9 else none else none else none else none else none else none else some (iTree_each_show.x3 y4) := by
 refine (zbf (Y := Y) (c := lim' Y) (fn := 135) (rid := 3) (b := zat 3 zaT.c) (by kernel_rfl) _).trans ?_
 delta iTree_each_show.L3 zda zaT iTree_each_show.x3 zaQ.id XX
 generalize lpL (Y.ctx (lim' Y)) 135 = lp
 generalize lim' Y = call
 kernel_rfl
theorem iTree_each_show.a3x3 (y0:BAy) : iTree_each_show.A3 (iTree_each_show.x3 y0) = some ⟨[], [⟨.bld 170 5, [.v (.string y0), .h], [.deep, .deep]⟩]⟩ := by
 delta iTree_each_show.A3 iTree_each_show.x3 XX
 generalize lpL (Y.ctx (lim' Y)) 135 = lp
 generalize lim' Y = call
 kernel_rfl
noncomputable def iTree_each_table.L3 (y0 y1:LLD) (y2 y3:Int) (y4:LLD) (y5:Bool) (y6:Int) (y7:BAy) (y8 y9:LLD) : Option (Ex × St) := lpL XX 135 (zat 3 zaT.c) (mkG 1 31 [(1, .one (.s y0)), (2, .f zaL.id [.p true 0 [] 0]), (3, .one (.p true 4 [] 0)), (13, .one (.s y1)), (14, .one (.v (.int .i64 y2))), (15, .one (.v (.int .i64 y3)))] [(0, some ⟨.box, [.s y4], [.deep]⟩), (4, some ⟨.box, [.v (.bool y5), .v (.int .i64 y6), .v (.string y7), .s y8, .s y9], [.deep, .deep, .deep, .sh, .sh]⟩)] GL)
noncomputable def iTree_each_table.A3 : Ex × St → Option Res := fun r => evA XX 135 (lpL XX 135) 3 zaT.c r.fst r.snd (outE XX 135 Tryz.f135)
noncomputable def iTree_each_table.x3 (y0:LLD) : Ex × St := (Ex.exit 0, mkG 1 31 [] [(0, some ⟨.box, [.s y0], [.deep]⟩)] GL)
theorem iTree_each_table.e (a0:Bool) (a1:Int) (a2:BAy) (a3 a4 a5 a6:LLD) : zaT [.g [.v (.bool a0), .v (.int .i64 a1), .v (.string a2), .s a3, .s a4], .one (.s a5), .f zaL.id [.p true 0 [] 0]] [⟨.box, [.s a6], [.deep]⟩] = (zaL [.one (.s a5), .g [.v (.bool a0), .v (.int .i64 a1), .v (.string a2), .s a3, .s a4], .one (.p true 0 [] 0)] [⟨.box, [.s a6], [.deep]⟩]).bind fun val => bif zag [] val.1 && zba [⟨⟨.box, [.s a6], [.deep]⟩, .box 0⟩] val.2 then (iTree_each_table.L3 a5 a3 (↑a3.length : Int) 0 ((val.2.getD 0 ⟨.ro, [], []⟩).2.getD 0 .h).es a0 a1 a2 a3 a4).bind iTree_each_table.A3 else none := by
 refine (zaT.run _ _ (by kernel_rfl)).trans ?_
 delta zaT zaL iTree_each_table.L3 iTree_each_table.A3 zaL.id XX
 generalize lpL (Y.ctx (lim' Y)) 135 = lp
 generalize lim' Y = call
 kernel_rfl
theorem iTree_each_table.s3 (y0 y1:LLD) (y2 y3:Int) (y4:LLD) (y5:Bool) (y6:Int) (y7:BAy) (y8 y9:LLD) : iTree_each_table.L3 y0 y1 y2 y3 y4 y5 y6 y7 y8 y9 = bif decide (y3 < y2) then bif decide (0 ≤ y3) && decide (y3 < (↑y1.length : Int)) && decide ((y1.getD y3.toNat []).length = 1) then bif zas [.str] (y1.getD y3.toNat []) 0 && decide (1 ≤ (y1.getD y3.toNat []).length) then bif decide (0 ≤ y3) && decide (y3 < (↑y9.length : Int)) && decide ((y9.getD y3.toNat []).length = 5) then bif zas [.bool, .int .i64, .str, .sl, .sl] (y9.getD y3.toNat []) 0 && decide (5 ≤ (y9.getD y3.toNat []).length) then (zda [.one (.s y0), .one (.v (.string ((y1.getD y3.toNat []).getD 0 .h).str))] []).bind fun val => bif zag [.own .deep] val.1 && true then (zaT [.g [.v (.bool ((y9.getD y3.toNat []).getD 0 .h).bool), .v (.int .i64 ((y9.getD y3.toNat []).getD 1 .h).int), .v (.string ((y9.getD y3.toNat []).getD 2 .h).str), .s ((y9.getD y3.toNat []).getD 3 .h).es, .s ((y9.getD y3.toNat []).getD 4 .h).es], .one (.s (val.1.getD 0 .d).es), .f zaL.id [.p true 0 [] 0]] [⟨.box, [.s y4], [.deep]⟩]).bind fun val => bif zag [] val.1 && zba [⟨⟨.box, [.s y4], [.deep]⟩, .box 0⟩] val.2 then iTree_each_table.L3 y0 y1 y2 (IntKind.i64.wrap (y3 + 1)) ((val.2.getD 0 ⟨.ro, [], []⟩).2.getD 0 .h).es y5 y6 y7 y8 y9 else none else none else none else none else none else none else some (iTree_each_table.x3 y4) := by
 refine (zbf (Y := Y) (c := lim' Y) (fn := 135) (rid := 3) (b := zat 3 zaT.c) (by kernel_rfl) _).trans ?_
 delta iTree_each_table.L3 zda zaT iTree_each_table.x3 zaL.id XX
 generalize lpL (Y.ctx (lim' Y)) 135 = lp
 generalize lim' Y = call
 kernel_rfl
theorem iTree_each_table.a3x3 (y0:LLD) : iTree_each_table.A3 (iTree_each_table.x3 y0) = some ⟨[], [⟨.box, [.s y0], [.deep]⟩]⟩ := by
 delta iTree_each_table.A3 iTree_each_table.x3 XX
 generalize lpL (Y.ctx (lim' Y)) 135 = lp
 generalize lim' Y = call
 kernel_rfl
theorem zaL.e (a0:LLD) (b0:Bool) (b1:Int) (b2:BAy) (b3 b4 a6:LLD) : zaL [.one (.s a0), .g [.v (.bool b0), .v (.int .i64 b1), .v (.string b2), .s b3, .s b4], .one (.p true 0 [] 0)] [⟨.box, [D.s a6], [.deep]⟩] = bif zaD 1 a0 && zaG false a0 && true && decide ((0 + a0.length) * 17 ≤ 70368744177664) then (zaX [.g [.v (.bool b0), .v (.int .i64 b1), .v (.string b2), .s b3, .s b4]] []).bind fun val => bif zag [.int .i64] val.1 && true then bif zaD 5 a6 && true && true && true && decide ((a6.length + 1) * 65 ≤ 70368744177664) then some ⟨[], [⟨.box, [D.s (a6 ++ [[D.s a0, D.v (.bool b0), D.v (.int .i64 b1), D.v (.string b2), D.v (.int .i64 (val.1.getD 0 .d).int)]])], [.deep]⟩]⟩ else none else none else none := by
 refine (zaL.run _ _ (by kernel_rfl)).trans ?_
 delta zaL zaX XX
 generalize lpL (Y.ctx (lim' Y)) 136 = lp
 generalize lim' Y = call
 kernel_rfl
noncomputable def zaX.L4 (y0:Int) (y1:BAy) (y2 y3:Int) : Option (Ex × St) := lpL XX 137 (zat 4 zaX.c) (mkG 0 23 [(3, .one (.v (.int .i64 y0))), (4, .one (.v (.string y1))), (9, .one (.v (.int .i64 y2))), (10, .one (.v (.int .i64 y3)))] [] GL)
noncomputable def zaX.A4 : Ex × St → Option Res := fun r => evA XX 137 (lpL XX 137) 4 zaX.c r.fst r.snd (outE XX 137 Tryz.f137)
noncomputable def zaX.x4 (y0:Int) : Ex × St := (Ex.exit 0, mkG 0 23 [(3, .one (.v (.int .i64 y0)))] [] GL)
theorem zaX.e (a0:Bool) (a1:Int) (a2:BAy) (a3 a4:LLD) : zaX [.g [.v (.bool a0), .v (.int .i64 a1), .v (.string a2), .s a3, .s a4]] [] = (zbE [.g [.v (.bool a0), .v (.int .i64 a1), .v (.string a2), .s a3, .s a4]] []).bind fun val => bif zag [.str] val.1 && true then (zaX.L4 7 (val.1.getD 0 .d).str (↑(val.1.getD 0 .d).str.size : Int) 0).bind zaX.A4 else none := by
 refine (zaX.run _ _ (by kernel_rfl)).trans ?_
 delta zaX zbE zaX.L4 zaX.A4 XX
 generalize lpL (Y.ctx (lim' Y)) 137 = lp
 generalize lim' Y = call
 kernel_rfl
theorem zaX.s4 (y0:Int) (y1:BAy) (y2 y3:Int) : zaX.L4 y0 y1 y2 y3 = bif decide (y3 < y2) then bif decide (0 ≤ y3) && decide (y3 < (↑y1.size : Int)) then zaX.L4 ((IntKind.i64.wrap (IntKind.i64.wrap (131 * y0) + IntKind.i64.wrap (zbc y1 y3.toNat))).tmod 1000000007) y1 y2 (IntKind.i64.wrap (y3 + 1)) else none else some (zaX.x4 y0) := by
 refine (zbf (Y := Y) (c := lim' Y) (fn := 137) (rid := 4) (b := zat 4 zaX.c) (by kernel_rfl) _).trans ?_
 delta zaX.L4 zaX.x4 XX
 generalize lpL (Y.ctx (lim' Y)) 137 = lp
 generalize lim' Y = call
 kernel_rfl
theorem zaX.a4x4 (y0:Int) : zaX.A4 (zaX.x4 y0) = some ⟨[.v (.int .i64 y0)], []⟩ := by
 delta zaX.A4 zaX.x4 XX
 generalize lpL (Y.ctx (lim' Y)) 137 = lp
 generalize lim' Y = call
 kernel_rfl
noncomputable def zaq.P2 (y0:Int) (y1 y2:Bool) (y3:Int) (y4:BAy) (y5 y6:LLD) : Option Res := evB XX 138 (lpL XX 138) 2 zaq.c (mkG 0 29 [(1, .one (.v (.int .i64 y0))), (2, .one (.p true 2 [] 0)), (12, .one (.v (.bool y1)))] [(2, some ⟨.box, [.v (.bool y2), .v (.int .i64 y3), .v (.string y4), .s y5, .s y6], [.deep, .deep, .deep, .sh, .sh]⟩)] GL) (outE XX 138 Tryz.f138)
noncomputable def zaq.P3 (y0:Int) (y1:Bool) (y2:Int) (y3:BAy) (y4 y5:LLD) : Option Res := evB XX 138 (lpL XX 138) 3 zaq.c (mkG 0 29 [(1, .one (.v (.int .i64 y0))), (2, .one (.p true 2 [] 0))] [(2, some ⟨.box, [.v (.bool y1), .v (.int .i64 y2), .v (.string y3), .s y4, .s y5], [.deep, .deep, .deep, .sh, .sh]⟩)] GL) (outE XX 138 Tryz.f138)
noncomputable def zaq.L4 (y0 y1:Int) (y2:Bool) (y3:Int) (y4:BAy) (y5 y6:LLD) : Option (Ex × St) := lpL XX 138 (zat 4 zaq.c) (mkG 0 29 [(1, .one (.v (.int .i64 y0))), (2, .one (.p true 2 [] 0)), (5, .one (.v (.int .i64 y1)))] [(2, some ⟨.box, [.v (.bool y2), .v (.int .i64 y3), .v (.string y4), .s y5, .s y6], [.deep, .deep, .deep, .sh, .sh]⟩)] GL)
noncomputable def zaq.A4 : Ex × St → Option Res := fun r => evA XX 138 (lpL XX 138) 4 zaq.c r.fst r.snd (outE XX 138 Tryz.f138)
noncomputable def zaq.q4 (y0:Bool) : Ex × St := (Ex.ret, mkG 0 29 [(4, .one (.v (.bool y0)))] [] GL)
noncomputable def zaq.x4 : Ex × St := (Ex.exit 0, mkG 0 29 [] [] GL)
theorem zaq.e (a0:Bool) (a1:Int) (a2:BAy) (a3 a4:LLD) (a5:Int) : zaq [.g [.v (.bool a0), .v (.int .i64 a1), .v (.string a2), .s a3, .s a4], .one (.v (.int .i64 a5))] [] = (zam [.g [.v (.bool a0), .v (.int .i64 a1), .v (.string a2), .s a3, .s a4]] []).bind fun val => bif zag [.bool] val.1 && true then bif !(val.1.getD 0 .d).bool then zaq.P2 a5 true a0 a1 a2 a3 a4 else zaq.P2 a5 (decide (a5 > 4)) a0 a1 a2 a3 a4 else none := by
 refine (zaq.run _ _ (by kernel_rfl)).trans ?_
 delta zaq zam zaq.P2 XX
 refine zbt [2, 3] (by kernel_rfl) fun J e1 => ?_
 try simp only [← e1]
 clear e1
 generalize lpL (Y.ctx (lim' Y)) 138 = lp
 generalize lim' Y = call
 kernel_rfl
theorem zaq.p2 (y0:Int) (y1 y2:Bool) (y3:Int) (y4:BAy) (y5 y6:LLD) : zaq.P2 y0 y1 y2 y3 y4 y5 y6 = bif y1 then some ⟨[.v (.bool false)], []⟩ else zaq.P3 y0 y2 y3 y4 y5 y6 := by
 delta zaq.P2 zaq.P3 XX
 refine zbg [2, 3] 2 (by kernel_rfl) fun J e1 => ?_
 try simp only [← e1]
 clear e1
 generalize lpL (Y.ctx (lim' Y)) 138 = lp
 generalize lim' Y = call
 kernel_rfl
theorem zaq.p3 (y0:Int) (y1:Bool) (y2:Int) (y3:BAy) (y4 y5:LLD) : zaq.P3 y0 y1 y2 y3 y4 y5 = (zaq.L4 y0 0 y1 y2 y3 y4 y5).bind zaq.A4 := by
 delta zaq.P3 zaq.L4 zaq.A4 XX
 refine zbg [2, 3] 3 (by kernel_rfl) fun J e1 => ?_
 have eA := evA_J [2, 3] 4 (by kernel_rfl) e1
 try simp only [eA]
 clear eA
 try simp only [← e1]
 clear e1
 show _ = _
 generalize lpL (Y.ctx (lim' Y)) 138 = lp
 generalize lim' Y = call
 kernel_rfl
theorem zaq.s4 (y0 y1:Int) (y2:Bool) (y3:Int) (y4:BAy) (y5 y6:LLD) : zaq.L4 y0 y1 y2 y3 y4 y5 y6 = bif decide (y1 < (↑y6.length : Int)) then bif decide (0 ≤ y1) && decide (y1 < (↑y6.length : Int)) && decide ((y6.getD y1.toNat []).length = 5) then bif zas [.bool, .int .i64, .str, .sl, .sl] (y6.getD y1.toNat []) 0 && decide (5 ≤ (y6.getD y1.toNat []).length) then (zaq [.g [.v (.bool ((y6.getD y1.toNat []).getD 0 .h).bool), .v (.int .i64 ((y6.getD y1.toNat []).getD 1 .h).int), .v (.string ((y6.getD y1.toNat []).getD 2 .h).str), .s ((y6.getD y1.toNat []).getD 3 .h).es, .s ((y6.getD y1.toNat []).getD 4 .h).es], .one (.v (.int .i64 (IntKind.i64.wrap (y0 + 1))))] []).bind fun val => bif zag [.bool] val.1 && true then bif !(val.1.getD 0 .d).bool then some (zaq.q4 false) else zaq.L4 y0 (IntKind.i64.wrap (y1 + 1)) y2 y3 y4 y5 y6 else none else none else none else some zaq.x4 := by
 refine (zbf (Y := Y) (c := lim' Y) (fn := 138) (rid := 4) (b := zat 4 zaq.c) (by kernel_rfl) _).trans ?_
 delta zaq.L4 zaq zaq.q4 zaq.x4 XX
 generalize lpL (Y.ctx (lim' Y)) 138 = lp
 generalize lim' Y = call
 kernel_rfl
theorem zaq.a4q4 (y0:Bool) : zaq.A4 (zaq.q4 y0) = some ⟨[.v (.bool y0)], []⟩ := by
 delta zaq.A4 zaq.q4 XX
 refine zbb [2, 3] 4 (by kernel_rfl) fun J e1 => ?_
 have eA := evA_J [2, 3] 4 (by kernel_rfl) e1
 try simp only [eA]
 clear eA
 try simp only [← e1]
 clear e1
 show _ = _
 generalize lpL (Y.ctx (lim' Y)) 138 = lp
 generalize lim' Y = call
 kernel_rfl
theorem zaq.a4x4 : zaq.A4 zaq.x4 = some ⟨[.v (.bool true)], []⟩ := by
 delta zaq.A4 zaq.x4 XX
 refine zbb [2, 3] 4 (by kernel_rfl) fun J e1 => ?_
 have eA := evA_J [2, 3] 4 (by kernel_rfl) e1
 try simp only [eA]
 clear eA
 try simp only [← e1]
 clear e1
 show _ = _
 generalize lpL (Y.ctx (lim' Y)) 138 = lp
 generalize lim' Y = call
 kernel_rfl
noncomputable def zaS.L3 (y0 y1:Int) (y2:Bool) (y3:Int) (y4:BAy) (y5 y6:LLD) : Option (Ex × St) := lpL XX 139 (zat 3 zaS.c) (mkG 0 24 [(1, .one (.p true 1 [] 0)), (3, .one (.v (.int .i64 y0))), (4, .one (.v (.int .i64 y1)))] [(1, some ⟨.box, [.v (.bool y2), .v (.int .i64 y3), .v (.string y4), .s y5, .s y6], [.deep, .deep, .deep, .sh, .sh]⟩)] GL)
noncomputable def zaS.A3 : Ex × St → Option Res := fun r => evA XX 139 (lpL XX 139) 3 zaS.c r.fst r.snd (outE XX 139 Tryz.f139)
noncomputable def zaS.x3 (y0:Int) : Ex × St := (Ex.exit 0, mkG 0 24 [(3, .one (.v (.int .i64 y0)))] [] GL)
theorem zaS.e (a0:Bool) (a1:Int) (a2:BAy) (a3 a4:LLD) : zaS [.g [.v (.bool a0), .v (.int .i64 a1), .v (.string a2), .s a3, .s a4]] [] = (zaS.L3 (↑a4.length : Int) 0 a0 a1 a2 a3 a4).bind zaS.A3 := by
 refine (zaS.run _ _ (by kernel_rfl)).trans ?_
 delta zaS zaS.L3 zaS.A3 XX
 generalize lpL (Y.ctx (lim' Y)) 139 = lp
 generalize lim' Y = call
 kernel_rfl
theorem zaS.s3 (y0 y1:Int) (y2:Bool) (y3:Int) (y4:BAy) (y5 y6:LLD) : zaS.L3 y0 y1 y2 y3 y4 y5 y6 = bif decide (y1 < (↑y6.length : Int)) then bif decide (0 ≤ y1) && decide (y1 < (↑y6.length : Int)) && decide ((y6.getD y1.toNat []).length = 5) then bif zas [.bool, .int .i64, .str, .sl, .sl] (y6.getD y1.toNat []) 0 && decide (5 ≤ (y6.getD y1.toNat []).length) then (zaS [.g [.v (.bool ((y6.getD y1.toNat []).getD 0 .h).bool), .v (.int .i64 ((y6.getD y1.toNat []).getD 1 .h).int), .v (.string ((y6.getD y1.toNat []).getD 2 .h).str), .s ((y6.getD y1.toNat []).getD 3 .h).es, .s ((y6.getD y1.toNat []).getD 4 .h).es]] []).bind fun val => bif zag [.int .i64] val.1 && true then zaS.L3 (IntKind.i64.wrap (y0 + (val.1.getD 0 .d).int)) (IntKind.i64.wrap (y1 + 1)) y2 y3 y4 y5 y6 else none else none else none else some (zaS.x3 y0) := by
 refine (zbf (Y := Y) (c := lim' Y) (fn := 139) (rid := 3) (b := zat 3 zaS.c) (by kernel_rfl) _).trans ?_
 delta zaS.L3 zaS zaS.x3 XX
 generalize lpL (Y.ctx (lim' Y)) 139 = lp
 generalize lim' Y = call
 kernel_rfl
theorem zaS.a3x3 (y0:Int) : zaS.A3 (zaS.x3 y0) = some ⟨[.v (.int .i64 y0)], []⟩ := by
 delta zaS.A3 zaS.x3 XX
 generalize lpL (Y.ctx (lim' Y)) 139 = lp
 generalize lim' Y = call
 kernel_rfl
theorem zcr.e (a0:BAy) (a1:Bool) (a2:Int) (a3:BAy) (a4 a5:LLD) : zcr [.one (.v (.string a0)), .g [.v (.bool a1), .v (.int .i64 a2), .v (.string a3), .s a4, .s a5]] [] = bif a1 then bif decide (4 + a0.size ≤ 70368744177664) then bif decide (((ByteArray.mk #[100, 105, 114, 32]) ++ a0).size + 1 ≤ 70368744177664) then (zcU [.one (.v (.int .i64 a2))] []).bind fun val => bif zag [.str] val.1 && true then bif decide (((ByteArray.mk #[100, 105, 114, 32]) ++ a0 ++ (ByteArray.mk #[32])).size + (val.1.getD 0 .d).str.size ≤ 70368744177664) then bif decide (((ByteArray.mk #[100, 105, 114, 32]) ++ a0 ++ (ByteArray.mk #[32]) ++ (val.1.getD 0 .d).str).size + 1 ≤ 70368744177664) then some ⟨[.v (.string ((ByteArray.mk #[100, 105, 114, 32]) ++ a0 ++ (ByteArray.mk #[32]) ++ (val.1.getD 0 .d).str ++ (ByteArray.mk #[10])))], []⟩ else none else none else none else none else none else bif decide (5 + a0.size ≤ 70368744177664) then bif decide (((ByteArray.mk #[102, 105, 108, 101, 32]) ++ a0).size + 1 ≤ 70368744177664) then (zcU [.one (.v (.int .i64 a2))] []).bind fun val => bif zag [.str] val.1 && true then bif decide (((ByteArray.mk #[102, 105, 108, 101, 32]) ++ a0 ++ (ByteArray.mk #[32])).size + (val.1.getD 0 .d).str.size ≤ 70368744177664) then bif decide (((ByteArray.mk #[102, 105, 108, 101, 32]) ++ a0 ++ (ByteArray.mk #[32]) ++ (val.1.getD 0 .d).str).size + 1 ≤ 70368744177664) then (zbl [.one (.v (.string a3))] []).bind fun val_1 => bif zag [.str] val_1.1 && true then bif decide (((ByteArray.mk #[102, 105, 108, 101, 32]) ++ a0 ++ (ByteArray.mk #[32]) ++ (val.1.getD 0 .d).str ++ (ByteArray.mk #[32])).size + (val_1.1.getD 0 .d).str.size ≤ 70368744177664) then bif decide (((ByteArray.mk #[102, 105, 108, 101, 32]) ++ a0 ++ (ByteArray.mk #[32]) ++ (val.1.getD 0 .d).str ++ (ByteArray.mk #[32]) ++ (val_1.1.getD 0 .d).str).size + 1 ≤ 70368744177664) then some ⟨[.v (.string ((ByteArray.mk #[102, 105, 108, 101, 32]) ++ a0 ++ (ByteArray.mk #[32]) ++ (val.1.getD 0 .d).str ++ (ByteArray.mk #[32]) ++ (val_1.1.getD 0 .d).str ++ (ByteArray.mk #[10])))], []⟩ else none else none else none else none else none else none else none else none := by
 refine (zcr.run _ _ (by kernel_rfl)).trans ?_
 delta zcr zcU zbl XX
 generalize lpL (Y.ctx (lim' Y)) 149 = lp
 generalize lim' Y = call
 kernel_rfl
theorem zbP.e (a0:LLD) : zbP [.one (.s a0)] [] = bif (↑a0.length : Int) == 0 then some ⟨[.v (.string (ByteArray.mk #[47]))], []⟩ else (strings_Join [.one (.s a0), .one (.v (.string (ByteArray.mk #[47])))] []).bind fun val => bif zag [.str] val.1 && true then bif decide (1 + (val.1.getD 0 .d).str.size ≤ 70368744177664) then some ⟨[.v (.string ((ByteArray.mk #[47]) ++ (val.1.getD 0 .d).str))], []⟩ else none else none := by
 refine (zbP.run _ _ (by kernel_rfl)).trans ?_
 delta zbP strings_Join XX
 generalize lpL (Y.ctx (lim' Y)) 157 = lp
 generalize lim' Y = call
 kernel_rfl
theorem zcL.e (a0:Int) : zcL [.one (.v (.int .i64 a0))] [] = (zb2 [.one (.v (.int .i64 a0)), .one (.v (.int .i64 0)), .one (.v (.int .i64 7))] []).bind fun val => bif zag [.bool] val.1 && true then some ⟨[.v (.bool (val.1.getD 0 .d).bool)], []⟩ else none := by
 refine (zcL.run _ _ (by kernel_rfl)).trans ?_
 delta zcL zb2 XX
 generalize lpL (Y.ctx (lim' Y)) 158 = lp
 generalize lim' Y = call
 kernel_rfl
theorem zbD.e (a0:Bool) (a1:Int) (a2:BAy) (a3 a4 a5:LLD) : zbD [.g [.v (.bool a0), .v (.int .i64 a1), .v (.string a2), .s a3, .s a4], .one (.s a5)] [] = bif a0 then (zbP [.one (.s a5)] []).bind fun val => bif zag [.str] val.1 && true then bif decide (4 + (val.1.getD 0 .d).str.size ≤ 70368744177664) then bif decide (((ByteArray.mk #[100, 105, 114, 32]) ++ (val.1.getD 0 .d).str).size + 1 ≤ 70368744177664) then (strconv_Itoa [.one (.v (.int .i64 a1))] []).bind fun val_1 => bif zag [.str] val_1.1 && true then bif decide (((ByteArray.mk #[100, 105, 114, 32]) ++ (val.1.getD 0 .d).str ++ (ByteArray.mk #[32])).size + (val_1.1.getD 0 .d).str.size ≤ 70368744177664) then bif decide (((ByteArray.mk #[100, 105, 114, 32]) ++ (val.1.getD 0 .d).str ++ (ByteArray.mk #[32]) ++ (val_1.1.getD 0 .d).str).size + 1 ≤ 70368744177664) then some ⟨[.v (.string ((ByteArray.mk #[100, 105, 114, 32]) ++ (val.1.getD 0 .d).str ++ (ByteArray.mk #[32]) ++ (val_1.1.getD 0 .d).str ++ (ByteArray.mk #[10])))], []⟩ else none else none else none else none else none else none else (zbP [.one (.s a5)] []).bind fun val => bif zag [.str] val.1 && true then bif decide (5 + (val.1.getD 0 .d).str.size ≤ 70368744177664) then bif decide (((ByteArray.mk #[102, 105, 108, 101, 32]) ++ (val.1.getD 0 .d).str).size + 1 ≤ 70368744177664) then (strconv_Itoa [.one (.v (.int .i64 a1))] []).bind fun val_1 => bif zag [.str] val_1.1 && true then bif decide (((ByteArray.mk #[102, 105, 108, 101, 32]) ++ (val.1.getD 0 .d).str ++ (ByteArray.mk #[32])).size + (val_1.1.getD 0 .d).str.size ≤ 70368744177664) then bif decide (((ByteArray.mk #[102, 105, 108, 101, 32]) ++ (val.1.getD 0 .d).str ++ (ByteArray.mk #[32]) ++ (val_1.1.getD 0 .d).str).size + 1 ≤ 70368744177664) then (zbU [.one (.v (.string a2))] []).bind fun val_2 => bif zag [.str] val_2.1 && true then bif decide (((ByteArray.mk #[102, 105, 108, 101, 32]) ++ (val.1.getD 0 .d).str ++ (ByteArray.mk #[32]) ++ (val_1.1.getD 0 .d).str ++ (ByteArray.mk #[32])).size + (val_2.1.getD 0 .d).str.size ≤ 70368744177664) then bif decide (((ByteArray.mk #[102, 105, 108, 101, 32]) ++ (val.1.getD 0 .d).str ++ (ByteArray.mk #[32]) ++ (val_1.1.getD 0 .d).str ++ (ByteArray.mk #[32]) ++ (val_2.1.getD 0 .d).str).size + 1 ≤ 70368744177664) then some ⟨[.v (.string ((ByteArray.mk #[102, 105, 108, 101, 32]) ++ (val.1.getD 0 .d).str ++ (ByteArray.mk #[32]) ++ (val_1.1.getD 0 .d).str ++ (ByteArray.mk #[32]) ++ (val_2.1.getD 0 .d).str ++ (ByteArray.mk #[10])))], []⟩ else none else none else none else none else none else none else none else none else none := by
 refine (zbD.run _ _ (by kernel_rfl)).trans ?_
 delta zbD zbP strconv_Itoa zbU XX
 generalize lpL (Y.ctx (lim' Y)) 160 = lp
 generalize lim' Y = call
 kernel_rfl
noncomputable def za8.L3 (y0 y1:BAy) (y2:Int) (y3:Bool) (y4:Int) (y5:BAy) (y6 y7:LLD) : Option (Ex × St) := lpL XX 164 (zat 3 za8.c) (mkG 0 41 [(0, .one (.v (.string y0))), (3, .one (.p true 3 [] 0)), (5, .one (.v (.string y1))), (6, .one (.v (.int .i64 y2)))] [(3, some ⟨.box, [.v (.bool y3), .v (.int .i64 y4), .v (.string y5), .s y6, .s y7], [.deep, .deep, .deep, .sh, .sh]⟩)] GL)
noncomputable def za8.A3 : Ex × St → Option Res := fun r => evA XX 164 (lpL XX 164) 3 za8.c r.fst r.snd (outE XX 164 Tryz.f164)
noncomputable def za8.x3 (y0:BAy) : Ex × St := (Ex.exit 0, mkG 0 41 [(5, .one (.v (.string y0)))] [] GL)
theorem za8.e (a0:BAy) (a1:Bool) (a2:Int) (a3:BAy) (a4 a5:LLD) : za8 [.one (.v (.string a0)), .g [.v (.bool a1), .v (.int .i64 a2), .v (.string a3), .s a4, .s a5]] [] = (za8.L3 a0 (ByteArray.mk #[]) 0 a1 a2 a3 a4 a5).bind za8.A3 := by
 refine (za8.run _ _ (by kernel_rfl)).trans ?_
 delta za8 za8.L3 za8.A3 XX
 generalize lpL (Y.ctx (lim' Y)) 164 = lp
 generalize lim' Y = call
 kernel_rfl
theorem za8.s3 (y0 y1:BAy) (y2:Int) (y3:Bool) (y4:Int) (y5:BAy) (y6 y7:LLD) : za8.L3 y0 y1 y2 y3 y4 y5 y6 y7 = bif decide (y2 < (↑y6.length : Int)) then bif decide (y0.size + 1 ≤ 70368744177664) then bif decide (0 ≤ y2) && decide (y2 < (↑y6.length : Int)) && decide ((y6.getD y2.toNat []).length = 1) then bif zas [.str] (y6.getD y2.toNat []) 0 && decide (1 ≤ (y6.getD y2.toNat []).length) then bif decide ((y0 ++ (ByteArray.mk #[47])).size + ((y6.getD y2.toNat []).getD 0 .h).str.size ≤ 70368744177664) then bif decide (0 ≤ y2) && decide (y2 < (↑y7.length : Int)) && decide ((y7.getD y2.toNat []).length = 5) then bif zas [.bool, .int .i64, .str, .sl, .sl] (y7.getD y2.toNat []) 0 && decide (5 ≤ (y7.getD y2.toNat []).length) then (zcr [.one (.v (.string (y0 ++ (ByteArray.mk #[47]) ++ ((y6.getD y2.toNat []).getD 0 .h).str))), .g [.v (.bool ((y7.getD y2.toNat []).getD 0 .h).bool), .v (.int .i64 ((y7.getD y2.toNat []).getD 1 .h).int), .v (.string ((y7.getD y2.toNat []).getD 2 .h).str), .s ((y7.getD y2.toNat []).getD 3 .h).es, .s ((y7.getD y2.toNat []).getD 4 .h).es]] []).bind fun val => bif zag [.str] val.1 && true then bif decide (y1.size + (val.1.getD 0 .d).str.size ≤ 70368744177664) then bif decide (0 ≤ y2) && decide (y2 < (↑y7.length : Int)) && decide ((y7.getD y2.toNat []).length = 5) then bif zas [.bool, .int .i64, .str, .sl, .sl] (y7.getD y2.toNat []) 0 && decide (5 ≤ (y7.getD y2.toNat []).length) then (za8 [.one (.v (.string (y0 ++ (ByteArray.mk #[47]) ++ ((y6.getD y2.toNat []).getD 0 .h).str))), .g [.v (.bool ((y7.getD y2.toNat []).getD 0 .h).bool), .v (.int .i64 ((y7.getD y2.toNat []).getD 1 .h).int), .v (.string ((y7.getD y2.toNat []).getD 2 .h).str), .s ((y7.getD y2.toNat []).getD 3 .h).es, .s ((y7.getD y2.toNat []).getD 4 .h).es]] []).bind fun val_1 => bif zag [.str] val_1.1 && true then bif decide ((y1 ++ (val.1.getD 0 .d).str).size + (val_1.1.getD 0 .d).str.size ≤ 70368744177664) then za8.L3 y0 (y1 ++ (val.1.getD 0 .d).str ++ (val_1.1.getD 0 .d).str) (IntKind.i64.wrap (y2 + 1)) y3 y4 y5 y6 y7 else none else none else none else none else none else none else none else none else none else none else none else none else some (za8.x3 y1) := by
 refine (zbf (Y := Y) (c := lim' Y) (fn := 164) (rid := 3) (b := zat 3 za8.c) (by kernel_rfl) _).trans ?_
 delta za8.L3 zcr za8 za8.x3 XX
 generalize lpL (Y.ctx (lim' Y)) 164 = lp
 generalize lim' Y = call
 kernel_rfl
theorem za8.a3x3 (y0:BAy) : za8.A3 (za8.x3 y0) = some ⟨[.v (.string y0)], []⟩ := by
 delta za8.A3 za8.x3 XX
 generalize lpL (Y.ctx (lim' Y)) 164 = lp
 generalize lim' Y = call
 kernel_rfl
theorem zbE.e (a0:Bool) (a1:Int) (a2:BAy) (a3 a4:LLD) : zbE [.g [.v (.bool a0), .v (.int .i64 a1), .v (.string a2), .s a3, .s a4]] [] = (zaT [.g [.v (.bool a0), .v (.int .i64 a1), .v (.string a2), .s a3, .s a4], .one (.s []), .f zaQ.id [.bx [A0.p true 0 [] 0] 0]] [⟨.bld 170 5, [.v (.string (ByteArray.mk #[])), .h], [.deep, .deep]⟩]).bind fun val => bif zag [] val.1 && zba [⟨⟨.bld 170 5, [.v (.string (ByteArray.mk #[])), .h], [.deep, .deep]⟩, .box 5⟩] val.2 then (zbe [.one (.p true 0 [] 0)] [⟨.bld 170 5, [.v (.string ((val.2.getD 0 ⟨.ro, [], []⟩).2.getD 0 .h).str), .h], [.deep, .deep]⟩]).bind fun val_1 => bif zag [.str] val_1.1 && zba [⟨⟨.bld 170 5, [.v (.string ((val.2.getD 0 ⟨.ro, [], []⟩).2.getD 0 .h).str), .h], [.deep, .deep]⟩, .box 5⟩] val_1.2 then some ⟨[.v (.string (val_1.1.getD 0 .d).str)], []⟩ else none else none := by
 refine (zbE.run _ _ (by kernel_rfl)).trans ?_
 delta zbE zaT zbe zaQ.id XX
 generalize lpL (Y.ctx (lim' Y)) 165 = lp
 generalize lim' Y = call
 kernel_rfl
theorem zcM.e (a0:LLD) (a1:BAy) : zcM [.one (.s a0), .one (.v (.string a1))] [] = bif zaD 1 a0 && zaG false a0 && true && decide ((0 + a0.length) * 17 ≤ 70368744177664) then bif zaD 1 a0 && true && true && true && decide ((a0.length + 1) * 17 ≤ 70368744177664) then some ⟨[.s (a0 ++ [[D.v (.string a1)]])], []⟩ else none else none := by
 refine (zcM.run _ _ (by kernel_rfl)).trans ?_
 delta zcM XX
 generalize lpL (Y.ctx (lim' Y)) 173 = lp
 generalize lim' Y = call
 kernel_rfl
theorem zdB.e (a0:Bool) (a1:Int) (a2:BAy) (a3 a4:LLD) : zdB [.g [.v (.bool a0), .v (.int .i64 a1), .v (.string a2), .s a3, .s a4]] [] = (zcr [.one (.v (.string (ByteArray.mk #[47]))), .g [.v (.bool a0), .v (.int .i64 a1), .v (.string a2), .s a3, .s a4]] []).bind fun val => bif zag [.str] val.1 && true then (za8 [.one (.v (.string (ByteArray.mk #[]))), .g [.v (.bool a0), .v (.int .i64 a1), .v (.string a2), .s a3, .s a4]] []).bind fun val_1 => bif zag [.str] val_1.1 && true then bif decide ((val.1.getD 0 .d).str.size + (val_1.1.getD 0 .d).str.size ≤ 70368744177664) then (zbp [.one (.v (.string ((val.1.getD 0 .d).str ++ (val_1.1.getD 0 .d).str)))] []).bind fun val => bif zag [.int .i64] val.1 && true then some ⟨[.v (.int .i64 (val.1.getD 0 .d).int)], []⟩ else none else none else none else none := by
 refine (zdB.run _ _ (by kernel_rfl)).trans ?_
 delta zdB zcr za8 zbp XX
 generalize lpL (Y.ctx (lim' Y)) 179 = lp
 generalize lim' Y = call
 kernel_rfl
noncomputable def zaf.L2 (y0:LLD) (y1:BAy) (y2 y3:Int) : Option (Ex × St) := lpL XX 180 (zat 2 zaf.c) (mkG 0 19 [(0, .one (.s y0)), (1, .one (.v (.string y1))), (7, .one (.v (.int .i64 y2))), (8, .one (.v (.int .i64 y3)))] [] GL)
noncomputable def zaf.A2 : Ex × St → Option Res := fun r => evA XX 180 (lpL XX 180) 2 zaf.c r.fst r.snd (outE XX 180 Tryz.f180)
noncomputable def zaf.q2 (y0:Int) : Ex × St := (Ex.ret, mkG 0 19 [(4, .one (.v (.int .i64 y0)))] [] GL)
noncomputable def zaf.x2 : Ex × St := (Ex.exit 0, mkG 0 19 [] [] GL)
theorem zaf.e (a0:LLD) (a1:BAy) : zaf [.one (.s a0), .one (.v (.string a1))] [] = (zaf.L2 a0 a1 (↑a0.length : Int) 0).bind zaf.A2 := by
 refine (zaf.run _ _ (by kernel_rfl)).trans ?_
 delta zaf zaf.L2 zaf.A2 XX
 generalize lpL (Y.ctx (lim' Y)) 180 = lp
 generalize lim' Y = call
 kernel_rfl
theorem zaf.s2 (y0:LLD) (y1:BAy) (y2 y3:Int) : zaf.L2 y0 y1 y2 y3 = bif decide (y3 < y2) then bif decide (0 ≤ y3) && decide (y3 < (↑y0.length : Int)) && decide ((y0.getD y3.toNat []).length = 1) then bif zas [.str] (y0.getD y3.toNat []) 0 && decide (1 ≤ (y0.getD y3.toNat []).length) then bif y1.toList == ((y0.getD y3.toNat []).getD 0 .h).str.toList then some (zaf.q2 y3) else zaf.L2 y0 y1 y2 (IntKind.i64.wrap (y3 + 1)) else none else none else some zaf.x2 := by
 refine (zbf (Y := Y) (c := lim' Y) (fn := 180) (rid := 2) (b := zat 2 zaf.c) (by kernel_rfl) _).trans ?_
 delta zaf.L2 zaf.q2 zaf.x2 XX
 generalize lpL (Y.ctx (lim' Y)) 180 = lp
 generalize lim' Y = call
 kernel_rfl
theorem zaf.a2q2 (y0:Int) : zaf.A2 (zaf.q2 y0) = some ⟨[.v (.int .i64 y0)], []⟩ := by
 delta zaf.A2 zaf.q2 XX
 generalize lpL (Y.ctx (lim' Y)) 180 = lp
 generalize lim' Y = call
 kernel_rfl
theorem zaf.a2x2 : zaf.A2 zaf.x2 = some ⟨[.v (.int .i64 (-1))], []⟩ := by
 delta zaf.A2 zaf.x2 XX
 generalize lpL (Y.ctx (lim' Y)) 180 = lp
 generalize lim' Y = call
 kernel_rfl
theorem za9.e (a0 a1:BAy) : za9 [.one (.v (.string a0)), .one (.v (.string a1))] [] = (za0 [.one (.v (.string a0))] []).bind fun val => bif zag [.bool] val.1 && true then bif (val.1.getD 0 .d).bool then (za0 [.one (.v (.string a1))] []).bind fun val => bif zag [.bool] val.1 && true then bif !(val.1.getD 0 .d).bool then some ⟨[.v (.bool true)], []⟩ else some ⟨[.v (.bool (Op.bytesLess a0.toList a1.toList))], []⟩ else none else some ⟨[.v (.bool (Op.bytesLess a0.toList a1.toList))], []⟩ else none := by
 refine (za9.run _ _ (by kernel_rfl)).trans ?_
 delta za9 za0 XX
 generalize lpL (Y.ctx (lim' Y)) 181 = lp
 generalize lim' Y = call
 kernel_rfl
theorem zaM.e (a0:BAy) : zaM [.one (.v (.string a0))] [] = some ⟨[.v (.bool !a0.toList == a0.toList)], []⟩ := by
 refine (zaM.run _ _ (by kernel_rfl)).trans ?_
 delta zaM XX
 generalize lpL (Y.ctx (lim' Y)) 182 = lp
 generalize lim' Y = call
 kernel_rfl
noncomputable def zaJ.L2 (y0:BAy) (y1 y2:Int) : Option (Ex × St) := lpL XX 187 (zat 2 zaJ.c) (mkG 0 35 [(0, .one (.v (.string y0))), (5, .one (.v (.int .i64 y1))), (6, .one (.v (.int .i64 y2)))] [] GL)
noncomputable def zaJ.A2 : Ex × St → Option Res := fun r => evA XX 187 (lpL XX 187) 2 zaJ.c r.fst r.snd (outE XX 187 Tryz.f187)
noncomputable def zaJ.P5 (y0:BAy) (y1 y2:Int) (y3:Bool) : Option (Ex × St) := evB XX 187 (lpL XX 187) 5 (zat 2 zaJ.c) (mkG 0 35 [(0, .one (.v (.string y0))), (5, .one (.v (.int .i64 y1))), (6, .one (.v (.int .i64 y2))), (30, .one (.v (.bool y3)))] [] GL) (backL (lpL XX 187) (zat 2 zaJ.c) (XX.live 187 2))
noncomputable def zaJ.x2 (y0:BAy) : Ex × St := (Ex.exit 0, mkG 0 35 [(0, .one (.v (.string y0)))] [] GL)
noncomputable def zaJ.q2 (y0:BAy) (y1:Bool) : Ex × St := (Ex.ret, mkG 0 35 [(0, .one (.v (.string y0))), (2, .one (.v (.bool y1)))] [] GL)
theorem zaJ.e (a0:BAy) : zaJ [.one (.v (.string a0))] [] = (zaJ.L2 a0 (↑a0.size : Int) 0).bind zaJ.A2 := by
 refine (zaJ.run _ _ (by kernel_rfl)).trans ?_
 delta zaJ zaJ.L2 zaJ.A2 XX
 generalize lpL (Y.ctx (lim' Y)) 187 = lp
 generalize lim' Y = call
 kernel_rfl
theorem zaJ.s2 (y0:BAy) (y1 y2:Int) : zaJ.L2 y0 y1 y2 = bif decide (y2 < y1) then bif decide (0 ≤ y2) && decide (y2 < (↑y0.size : Int)) then bif decide (zbc y0 y2.toNat < 97) then bif decide (0 ≤ y2) && decide (y2 < (↑y0.size : Int)) then bif decide (zbc y0 y2.toNat < 48) then zaJ.P5 y0 y1 y2 true else bif decide (0 ≤ y2) && decide (y2 < (↑y0.size : Int)) then zaJ.P5 y0 y1 y2 (decide (zbc y0 y2.toNat > 57)) else none else none else bif decide (0 ≤ y2) && decide (y2 < (↑y0.size : Int)) then bif decide (zbc y0 y2.toNat > 122) then bif decide (0 ≤ y2) && decide (y2 < (↑y0.size : Int)) then bif decide (zbc y0 y2.toNat < 48) then zaJ.P5 y0 y1 y2 true else bif decide (0 ≤ y2) && decide (y2 < (↑y0.size : Int)) then zaJ.P5 y0 y1 y2 (decide (zbc y0 y2.toNat > 57)) else none else none else zaJ.P5 y0 y1 y2 false else none else none else some (zaJ.x2 y0) := by
 refine (zbf (Y := Y) (c := lim' Y) (fn := 187) (rid := 2) (b := zat 2 zaJ.c) (by kernel_rfl) _).trans ?_
 delta zaJ.L2 zaJ.P5 zaJ.x2 XX
 refine zbt [5] (by kernel_rfl) fun J e1 => ?_
 try simp only [← e1]
 clear e1
 generalize lpL (Y.ctx (lim' Y)) 187 = lp
 generalize lim' Y = call
 kernel_rfl
theorem zaJ.p5 (y0:BAy) (y1 y2:Int) (y3:Bool) : zaJ.P5 y0 y1 y2 y3 = bif y3 then some (zaJ.q2 y0 false) else zaJ.L2 y0 y1 (IntKind.i64.wrap (y2 + 1)) := by
 delta zaJ.P5 zaJ.q2 zaJ.L2 XX
 refine zbg [5] 5 (by kernel_rfl) fun J e1 => ?_
 try simp only [← e1]
 clear e1
 generalize lpL (Y.ctx (lim' Y)) 187 = lp
 generalize lim' Y = call
 kernel_rfl
theorem zaJ.a2x2 (y0:BAy) : zaJ.A2 (zaJ.x2 y0) = (zb2 [.one (.v (.int .i64 (↑y0.size : Int))), .one (.v (.int .i64 1)), .one (.v (.int .i64 5))] []).bind fun val => bif zag [.bool] val.1 && true then some ⟨[.v (.bool (val.1.getD 0 .d).bool)], []⟩ else none := by
 delta zaJ.A2 zaJ.x2 zb2 XX
 generalize lpL (Y.ctx (lim' Y)) 187 = lp
 generalize lim' Y = call
 kernel_rfl
theorem zaJ.a2q2 (y0:BAy) (y1:Bool) : zaJ.A2 (zaJ.q2 y0 y1) = some ⟨[.v (.bool y1)], []⟩ := by
 delta zaJ.A2 zaJ.q2 XX
 generalize lpL (Y.ctx (lim' Y)) 187 = lp
 generalize lim' Y = call
 kernel_rfl
theorem zda.e (a0:LLD) (a1:BAy) : zda [.one (.s a0), .one (.v (.string a1))] [] = bif zaD 1 a0 && zaG false a0 && true && decide ((0 + a0.length) * 17 ≤ 70368744177664) then bif zaD 1 a0 && true && true && true && decide ((a0.length + 1) * 17 ≤ 70368744177664) then some ⟨[.o .deep (a0 ++ [[D.v (.string a1)]])], []⟩ else none else none := by
 refine (zda.run _ _ (by kernel_rfl)).trans ?_
 delta zda XX
 generalize lpL (Y.ctx (lim' Y)) 188 = lp
 generalize lim' Y = call
 kernel_rfl
noncomputable def zam.P2 (y0 y1:Bool) (y2:Int) (y3:BAy) (y4 y5:LLD) : Option Res := evB XX 189 (lpL XX 189) 2 zam.c (mkG 0 65 [(1, .one (.p true 1 [] 0)), (16, .one (.v (.bool y0)))] [(1, some ⟨.box, [.v (.bool y1), .v (.int .i64 y2), .v (.string y3), .s y4, .s y5], [.deep, .deep, .deep, .sh, .sh]⟩)] GL) (outE XX 189 Tryz.f189)
noncomputable def zam.P3 (y0:Bool) (y1:Int) (y2:BAy) (y3 y4:LLD) : Option Res := evB XX 189 (lpL XX 189) 3 zam.c (mkG 0 65 [(1, .one (.p true 1 [] 0))] [(1, some ⟨.box, [.v (.bool y0), .v (.int .i64 y1), .v (.string y2), .s y3, .s y4], [.deep, .deep, .deep, .sh, .sh]⟩)] GL) (outE XX 189 Tryz.f189)
noncomputable def zam.L6 (y0:Int) (y1:Bool) (y2:Int) (y3:BAy) (y4 y5:LLD) : Option (Ex × St) := lpL XX 189 (zat 6 zam.c) (mkG 0 65 [(1, .one (.p true 1 [] 0)), (3, .one (.v (.int .i64 y0)))] [(1, some ⟨.box, [.v (.bool y1), .v (.int .i64 y2), .v (.string y3), .s y4, .s y5], [.deep, .deep, .deep, .sh, .sh]⟩)] GL)
noncomputable def zam.A6 : Ex × St → Option Res := fun r => evA XX 189 (lpL XX 189) 6 zam.c r.fst r.snd (outE XX 189 Tryz.f189)
noncomputable def zam.P9 (y0:Int) (y1 y2:Bool) (y3:Int) (y4:BAy) (y5 y6:LLD) : Option (Ex × St) := evB XX 189 (lpL XX 189) 9 (zat 6 zam.c) (mkG 0 65 [(1, .one (.p true 1 [] 0)), (3, .one (.v (.int .i64 y0))), (61, .one (.v (.bool y1)))] [(1, some ⟨.box, [.v (.bool y2), .v (.int .i64 y3), .v (.string y4), .s y5, .s y6], [.deep, .deep, .deep, .sh, .sh]⟩)] GL) (backL (lpL XX 189) (zat 6 zam.c) (XX.live 189 6))
noncomputable def zam.x6 (y0:Bool) (y1:Int) (y2:BAy) (y3 y4:LLD) : Ex × St := (Ex.exit 0, mkG 0 65 [(1, .one (.p true 1 [] 0))] [(1, some ⟨.box, [.v (.bool y0), .v (.int .i64 y1), .v (.string y2), .s y3, .s y4], [.deep, .deep, .deep, .sh, .sh]⟩)] GL)
noncomputable def zam.q6 (y0 y1:Bool) (y2:Int) (y3:BAy) (y4 y5:LLD) : Ex × St := (Ex.ret, mkG 0 65 [(1, .one (.p true 1 [] 0)), (2, .one (.v (.bool y0)))] [(1, some ⟨.box, [.v (.bool y1), .v (.int .i64 y2), .v (.string y3), .s y4, .s y5], [.deep, .deep, .deep, .sh, .sh]⟩)] GL)
theorem zam.e (a0:Bool) (a1:Int) (a2:BAy) (a3 a4:LLD) : zam [.g [.v (.bool a0), .v (.int .i64 a1), .v (.string a2), .s a3, .s a4]] [] = (sl1In [.one (.v (.int .i64 a1)), .one (.v (.int .i64 0)), .one (.v (.int .i64 7))] []).bind fun val => bif zag [.bool] val.1 && true then bif !(val.1.getD 0 .d).bool then zam.P2 true a0 a1 a2 a3 a4 else zam.P2 ((↑a3.length : Int) != (↑a4.length : Int)) a0 a1 a2 a3 a4 else none := by
 refine (zam.run _ _ (by kernel_rfl)).trans ?_
 delta zam sl1In zam.P2 XX
 refine zbt [2, 3] (by kernel_rfl) fun J e1 => ?_
 try simp only [← e1]
 clear e1
 generalize lpL (Y.ctx (lim' Y)) 189 = lp
 generalize lim' Y = call
 kernel_rfl
theorem zam.p2 (y0 y1:Bool) (y2:Int) (y3:BAy) (y4 y5:LLD) : zam.P2 y0 y1 y2 y3 y4 y5 = bif y0 then some ⟨[.v (.bool false)], []⟩ else zam.P3 y1 y2 y3 y4 y5 := by
 delta zam.P2 zam.P3 XX
 refine zbg [2, 3] 2 (by kernel_rfl) fun J e1 => ?_
 try simp only [← e1]
 clear e1
 generalize lpL (Y.ctx (lim' Y)) 189 = lp
 generalize lim' Y = call
 kernel_rfl
theorem zam.p3 (y0:Bool) (y1:Int) (y2:BAy) (y3 y4:LLD) : zam.P3 y0 y1 y2 y3 y4 = bif !y0 then bif decide ((↑y2.size : Int) ≤ 24) then some ⟨[.v (.bool ((↑y3.length : Int) == 0))], []⟩ else some ⟨[.v (.bool false)], []⟩ else (zam.L6 0 y0 y1 y2 y3 y4).bind zam.A6 := by
 delta zam.P3 zam.L6 zam.A6 XX
 refine zbg [2, 3] 3 (by kernel_rfl) fun J e1 => ?_
 have eA := evA_J [2, 3] 6 (by kernel_rfl) e1
 try simp only [eA]
 clear eA
 try simp only [← e1]
 clear e1
 show _ = _
 generalize lpL (Y.ctx (lim' Y)) 189 = lp
 generalize lim' Y = call
 kernel_rfl
theorem zam.s6 (y0:Int) (y1:Bool) (y2:Int) (y3:BAy) (y4 y5:LLD) : zam.L6 y0 y1 y2 y3 y4 y5 = bif decide (y0 < (↑y4.length : Int)) then bif decide (0 ≤ y0) && decide (y0 < (↑y4.length : Int)) && decide ((y4.getD y0.toNat []).length = 1) then bif zas [.str] (y4.getD y0.toNat []) 0 && decide (1 ≤ (y4.getD y0.toNat []).length) then (zan [.one (.v (.string ((y4.getD y0.toNat []).getD 0 .h).str))] []).bind fun val => bif zag [.bool] val.1 && true then bif !(val.1.getD 0 .d).bool then zam.P9 y0 true y1 y2 y3 y4 y5 else bif decide (y0 > 0) then bif decide (0 ≤ IntKind.i64.wrap (y0 - 1)) && decide (IntKind.i64.wrap (y0 - 1) < (↑y4.length : Int)) && decide ((y4.getD (IntKind.i64.wrap (y0 - 1)).toNat []).length = 1) then bif zas [.str] (y4.getD (IntKind.i64.wrap (y0 - 1)).toNat []) 0 && decide (1 ≤ (y4.getD (IntKind.i64.wrap (y0 - 1)).toNat []).length) then bif decide (0 ≤ y0) && decide (y0 < (↑y4.length : Int)) && decide ((y4.getD y0.toNat []).length = 1) then bif zas [.str] (y4.getD y0.toNat []) 0 && decide (1 ≤ (y4.getD y0.toNat []).length) then zam.P9 y0 (!Op.bytesLess ((y4.getD (IntKind.i64.wrap (y0 - 1)).toNat []).getD 0 .h).str.toList ((y4.getD y0.toNat []).getD 0 .h).str.toList) y1 y2 y3 y4 y5 else none else none else none else none else zam.P9 y0 false y1 y2 y3 y4 y5 else none else none else none else some (zam.x6 y1 y2 y3 y4 y5) := by
 refine (zbf (Y := Y) (c := lim' Y) (fn := 189) (rid := 6) (b := zat 6 zam.c) (by kernel_rfl) _).trans ?_
 delta zam.L6 zan zam.P9 zam.x6 XX
 refine zbt [9] (by kernel_rfl) fun J e1 => ?_
 try simp only [← e1]
 clear e1
 generalize lpL (Y.ctx (lim' Y)) 189 = lp
 generalize lim' Y = call
 kernel_rfl
theorem zam.p9 (y0:Int) (y1 y2:Bool) (y3:Int) (y4:BAy) (y5 y6:LLD) : zam.P9 y0 y1 y2 y3 y4 y5 y6 = bif y1 then some (zam.q6 false y2 y3 y4 y5 y6) else zam.L6 (IntKind.i64.wrap (y0 + 1)) y2 y3 y4 y5 y6 := by
 delta zam.P9 zam.q6 zam.L6 XX
 refine zbg [9] 9 (by kernel_rfl) fun J e1 => ?_
 try simp only [← e1]
 clear e1
 generalize lpL (Y.ctx (lim' Y)) 189 = lp
 generalize lim' Y = call
 kernel_rfl
theorem zam.a6x6 (y0:Bool) (y1:Int) (y2:BAy) (y3 y4:LLD) : zam.A6 (zam.x6 y0 y1 y2 y3 y4) = some ⟨[.v (.bool (y2.toList == []))], []⟩ := by
 delta zam.A6 zam.x6 XX
 refine zbb [2, 3] 6 (by kernel_rfl) fun J e1 => ?_
 have eA := evA_J [2, 3] 6 (by kernel_rfl) e1
 try simp only [eA]
 clear eA
 try simp only [← e1]
 clear e1
 show _ = _
 generalize lpL (Y.ctx (lim' Y)) 189 = lp
 generalize lim' Y = call
 kernel_rfl
theorem zam.a6q6 (y0 y1:Bool) (y2:Int) (y3:BAy) (y4 y5:LLD) : zam.A6 (zam.q6 y0 y1 y2 y3 y4 y5) = some ⟨[.v (.bool y0)], []⟩ := by
 delta zam.A6 zam.q6 XX
 refine zbb [2, 3] 6 (by kernel_rfl) fun J e1 => ?_
 have eA := evA_J [2, 3] 6 (by kernel_rfl) e1
 try simp only [eA]
 clear eA
 try simp only [← e1]
 clear e1
 show _ = _
 generalize lpL (Y.ctx (lim' Y)) 189 = lp
 generalize lim' Y = call
 kernel_rfl
theorem zcU.e (a0:Int) : zcU [.one (.v (.int .i64 a0))] [] = bif decide (a0 < -9223372036854775807) then some ⟨[.v (.string (ByteArray.mk #[45, 57, 50, 50, 51, 51, 55, 50, 48, 51, 54, 56, 53, 52, 55, 55, 53, 56, 48, 56]))], []⟩ else bif decide (a0 < 0) then (zcU [.one (.v (.int .i64 (IntKind.i64.wrap (0 - a0))))] []).bind fun val => bif zag [.str] val.1 && true then bif decide (1 + (val.1.getD 0 .d).str.size ≤ 70368744177664) then some ⟨[.v (.string ((ByteArray.mk #[45]) ++ (val.1.getD 0 .d).str))], []⟩ else none else none else bif decide (a0 < 10) then some ⟨[.v (.string (strOf [[.v (.int .u8 (IntKind.u8.wrap (IntKind.i64.wrap (48 + a0))))]]))], []⟩ else (zcU [.one (.v (.int .i64 (IntKind.i64.wrap (a0.tdiv 10))))] []).bind fun val => bif zag [.str] val.1 && true then bif decide ((val.1.getD 0 .d).str.size + 1 ≤ 70368744177664) then some ⟨[.v (.string ((val.1.getD 0 .d).str ++ strOf [[.v (.int .u8 (IntKind.u8.wrap (IntKind.i64.wrap (48 + a0.tmod 10))))]]))], []⟩ else none else none := by
 refine (zcU.run _ _ (by kernel_rfl)).trans ?_
 delta zcU XX
 generalize lpL (Y.ctx (lim' Y)) 193 = lp
 generalize lim' Y = call
 kernel_rfl
noncomputable def zbl.L3 (y0 y1:BAy) (y2:Int) : Option (Ex × St) := lpL XX 194 (zat 3 zbl.c) (mkG 0 37 [(0, .one (.v (.string y0))), (3, .one (.v (.string y1))), (4, .one (.v (.int .i64 y2)))] [] GL)
noncomputable def zbl.A3 : Ex × St → Option Res := fun r => evA XX 194 (lpL XX 194) 3 zbl.c r.fst r.snd (outE XX 194 Tryz.f194)
noncomputable def zbl.x3 (y0:BAy) : Ex × St := (Ex.exit 0, mkG 0 37 [(3, .one (.v (.string y0)))] [] GL)
theorem zbl.e (a0:BAy) : zbl [.one (.v (.string a0))] [] = (zbl.L3 a0 (ByteArray.mk #[]) 0).bind zbl.A3 := by
 refine (zbl.run _ _ (by kernel_rfl)).trans ?_
 delta zbl zbl.L3 zbl.A3 XX
 generalize lpL (Y.ctx (lim' Y)) 194 = lp
 generalize lim' Y = call
 kernel_rfl
theorem zbl.s3 (y0 y1:BAy) (y2:Int) : zbl.L3 y0 y1 y2 = bif decide (y2 < (↑y0.size : Int)) then bif decide (0 ≤ y2) && decide (y2 < (↑y0.size : Int)) then bif decide (0 ≤ y2) && decide (y2 < (↑y0.size : Int)) then bif decide (IntKind.u8.wrap ((zbc y0 y2.toNat).tdiv 16) ≤ IntKind.u8.wrap (IntKind.u8.wrap ((zbc y0 y2.toNat).tdiv 16) + 1)) && decide (IntKind.u8.wrap (IntKind.u8.wrap ((zbc y0 y2.toNat).tdiv 16) + 1) ≤ (↑(ByteArray.mk #[48, 49, 50, 51, 52, 53, 54, 55, 56, 57, 97, 98, 99, 100, 101, 102]).size : Int)) then bif decide (y1.size + ((ByteArray.mk #[48, 49, 50, 51, 52, 53, 54, 55, 56, 57, 97, 98, 99, 100, 101, 102]).extract (IntKind.u8.wrap ((zbc y0 y2.toNat).tdiv 16)).toNat (IntKind.u8.wrap (IntKind.u8.wrap ((zbc y0 y2.toNat).tdiv 16) + 1)).toNat).size ≤ 70368744177664) then bif decide (0 ≤ y2) && decide (y2 < (↑y0.size : Int)) then bif decide (0 ≤ y2) && decide (y2 < (↑y0.size : Int)) then bif decide ((zbc y0 y2.toNat).tmod 16 ≤ IntKind.u8.wrap ((zbc y0 y2.toNat).tmod 16 + 1)) && decide (IntKind.u8.wrap ((zbc y0 y2.toNat).tmod 16 + 1) ≤ (↑(ByteArray.mk #[48, 49, 50, 51, 52, 53, 54, 55, 56, 57, 97, 98, 99, 100, 101, 102]).size : Int)) then bif decide ((y1 ++ (ByteArray.mk #[48, 49, 50, 51, 52, 53, 54, 55, 56, 57, 97, 98, 99, 100, 101, 102]).extract (IntKind.u8.wrap ((zbc y0 y2.toNat).tdiv 16)).toNat (IntKind.u8.wrap (IntKind.u8.wrap ((zbc y0 y2.toNat).tdiv 16) + 1)).toNat).size + ((ByteArray.mk #[48, 49, 50, 51, 52, 53, 54, 55, 56, 57, 97, 98, 99, 100, 101, 102]).extract ((zbc y0 y2.toNat).tmod 16).toNat (IntKind.u8.wrap ((zbc y0 y2.toNat).tmod 16 + 1)).toNat).size ≤ 70368744177664) then zbl.L3 y0 (y1 ++ (ByteArray.mk #[48, 49, 50, 51, 52, 53, 54, 55, 56, 57, 97, 98, 99, 100, 101, 102]).extract (IntKind.u8.wrap ((zbc y0 y2.toNat).tdiv 16)).toNat (IntKind.u8.wrap (IntKind.u8.wrap ((zbc y0 y2.toNat).tdiv 16) + 1)).toNat ++ (ByteArray.mk #[48, 49, 50, 51, 52, 53, 54, 55, 56, 57, 97, 98, 99, 100, 101, 102]).extract ((zbc y0 y2.toNat).tmod 16).toNat (IntKind.u8.wrap ((zbc y0 y2.toNat).tmod 16 + 1)).toNat) (IntKind.i64.wrap (y2 + 1)) else none else none else none else none else none else none else none else none else some (zbl.x3 y1) := by
 refine (zbf (Y := Y) (c := lim' Y) (fn := 194) (rid := 3) (b := zat 3 zbl.c) (by kernel_rfl) _).trans ?_
 delta zbl.L3 zbl.x3 XX
 generalize lpL (Y.ctx (lim' Y)) 194 = lp
 generalize lim' Y = call
 kernel_rfl
theorem zbl.a3x3 (y0:BAy) : zbl.A3 (zbl.x3 y0) = bif y0.toList == [] then some ⟨[.v (.string (ByteArray.mk #[45]))], []⟩ else some ⟨[.v (.string y0)], []⟩ := by
 delta zbl.A3 zbl.x3 XX
 generalize lpL (Y.ctx (lim' Y)) 194 = lp
 generalize lim' Y = call
 kernel_rfl
theorem zbU.e (a0:BAy) : zbU [.one (.v (.string a0))] [] = bif a0.toList == [] then some ⟨[.v (.string (ByteArray.mk #[45]))], []⟩ else (zbm [.one (.v (.string a0))] []).bind fun val => bif zag [.str] val.1 && true then some ⟨[.v (.string (val.1.getD 0 .d).str)], []⟩ else none := by
 refine (zbU.run _ _ (by kernel_rfl)).trans ?_
 delta zbU zbm XX
 generalize lpL (Y.ctx (lim' Y)) 203 = lp
 generalize lim' Y = call
 kernel_rfl
theorem zaQ.e (a0:LLD) (b0:Bool) (b1:Int) (b2:BAy) (b3 b4:LLD) (b:BAy) : zaQ [.one (.s a0), .g [.v (.bool b0), .v (.int .i64 b1), .v (.string b2), .s b3, .s b4], .one (.bx [A0.p true 0 [] 0] 0)] [⟨.bld 170 5, [.v (.string b), .h], [.deep, .deep]⟩] = (zbD [.g [.v (.bool b0), .v (.int .i64 b1), .v (.string b2), .s b3, .s b4], .one (.s a0)] []).bind fun val => bif zag [.str] val.1 && true then (za7 [.one (.p true 0 [] 0), .one (.v (.string (val.1.getD 0 .d).str))] [⟨.bld 170 5, [.v (.string b), .h], [.deep, .deep]⟩]).bind fun val => bif zag [.int .i64, .any] val.1 && zba [⟨⟨.bld 170 5, [.v (.string b), .h], [.deep, .deep]⟩, .box 0⟩] val.2 then some ⟨[], [⟨.bld 170 5, [.v (.string ((val.2.getD 0 ⟨.ro, [], []⟩).2.getD 0 .h).str), .h], [.deep, .deep]⟩]⟩ else none else none := by
 refine (zaQ.run _ _ (by kernel_rfl)).trans ?_
 delta zaQ zbD za7 XX
 generalize lpL (Y.ctx (lim' Y)) 204 = lp
 generalize lim' Y = call
 kernel_rfl
noncomputable def zbp.L3 (y0:BAy) (y1 y2:Int) : Option (Ex × St) := lpL XX 223 (zat 3 zbp.c) (mkG 0 20 [(0, .one (.v (.string y0))), (3, .one (.v (.int .i64 y1))), (4, .one (.v (.int .i64 y2)))] [] GL)
noncomputable def zbp.A3 : Ex × St → Option Res := fun r => evA XX 223 (lpL XX 223) 3 zbp.c r.fst r.snd (outE XX 223 Tryz.f223)
noncomputable def zbp.x3 (y0:Int) : Ex × St := (Ex.exit 0, mkG 0 20 [(3, .one (.v (.int .i64 y0)))] [] GL)
theorem zbp.e (a0:BAy) : zbp [.one (.v (.string a0))] [] = (zbp.L3 a0 7 0).bind zbp.A3 := by
 refine (zbp.run _ _ (by kernel_rfl)).trans ?_
 delta zbp zbp.L3 zbp.A3 XX
 generalize lpL (Y.ctx (lim' Y)) 223 = lp
 generalize lim' Y = call
 kernel_rfl
theorem zbp.s3 (y0:BAy) (y1 y2:Int) : zbp.L3 y0 y1 y2 = bif decide (y2 < (↑y0.size : Int)) then bif decide (0 ≤ y2) && decide (y2 < (↑y0.size : Int)) then zbp.L3 y0 ((IntKind.i64.wrap (IntKind.i64.wrap (y1 * 131) + IntKind.i64.wrap (zbc y0 y2.toNat))).tmod 1000000007) (IntKind.i64.wrap (y2 + 1)) else none else some (zbp.x3 y1) := by
 refine (zbf (Y := Y) (c := lim' Y) (fn := 223) (rid := 3) (b := zat 3 zbp.c) (by kernel_rfl) _).trans ?_
 delta zbp.L3 zbp.x3 XX
 generalize lpL (Y.ctx (lim' Y)) 223 = lp
 generalize lim' Y = call
 kernel_rfl
theorem zbp.a3x3 (y0:Int) : zbp.A3 (zbp.x3 y0) = some ⟨[.v (.int .i64 y0)], []⟩ := by
 delta zbp.A3 zbp.x3 XX
 generalize lpL (Y.ctx (lim' Y)) 223 = lp
 generalize lim' Y = call
 kernel_rfl
theorem za0.e (a0:BAy) : za0 [.one (.v (.string a0))] [] = some ⟨[.v (.bool !a0.toList == a0.toList)], []⟩ := by
 refine (za0.run _ _ (by kernel_rfl)).trans ?_
 delta za0 XX
 generalize lpL (Y.ctx (lim' Y)) 224 = lp
 generalize lim' Y = call
 kernel_rfl
noncomputable def zbm.L3 (y0:BAy) (y1:Int) (y2:LLD) : Option (Ex × St) := lpL XX 236 (zat 3 zbm.c) (mkG 0 27 [(0, .one (.v (.string y0))), (3, .one (.r 3 [] 0)), (4, .one (.v (.int .i64 y1)))] [(3, some ⟨.virt, [.s y2], [.deep]⟩)] GL)
noncomputable def zbm.A3 : Ex × St → Option Res := fun r => evA XX 236 (lpL XX 236) 3 zbm.c r.fst r.snd (outE XX 236 Tryz.f236)
noncomputable def zbm.x3 (y0:LLD) : Ex × St := (Ex.exit 0, mkG 0 27 [(3, .one (.r 3 [] 0))] [(3, some ⟨.virt, [.s y0], [.deep]⟩)] GL)
theorem zbm.e (a0:BAy) : zbm [.one (.v (.string a0))] [] = (zbm.L3 a0 0 []).bind zbm.A3 := by
 refine (zbm.run _ _ (by kernel_rfl)).trans ?_
 delta zbm zbm.L3 zbm.A3 XX
 generalize lpL (Y.ctx (lim' Y)) 236 = lp
 generalize lim' Y = call
 kernel_rfl
theorem zbm.s3 (y0:BAy) (y1:Int) (y2:LLD) : zbm.L3 y0 y1 y2 = bif decide (y1 < (↑y0.size : Int)) then bif decide (0 ≤ y1) && decide (y1 < (↑y0.size : Int)) then bif decide (IntKind.u8.wrap ((zbc y0 y1.toNat).tdiv 16) < (↑(ByteArray.mk #[48, 49, 50, 51, 52, 53, 54, 55, 56, 57, 97, 98, 99, 100, 101, 102]).size : Int)) then bif decide (0 ≤ y1) && decide (y1 < (↑y0.size : Int)) then bif decide ((zbc y0 y1.toNat).tmod 16 < (↑(ByteArray.mk #[48, 49, 50, 51, 52, 53, 54, 55, 56, 57, 97, 98, 99, 100, 101, 102]).size : Int)) then bif zaD 1 y2 && true && true && true && decide ((y2.length + 2) * 2 ≤ 70368744177664) then zbm.L3 y0 (IntKind.i64.wrap (y1 + 1)) (y2 ++ [[.v (.int .u8 (zbc (ByteArray.mk #[48, 49, 50, 51, 52, 53, 54, 55, 56, 57, 97, 98, 99, 100, 101, 102]) (IntKind.u8.wrap ((zbc y0 y1.toNat).tdiv 16)).toNat))], [.v (.int .u8 (zbc (ByteArray.mk #[48, 49, 50, 51, 52, 53, 54, 55, 56, 57, 97, 98, 99, 100, 101, 102]) ((zbc y0 y1.toNat).tmod 16).toNat))]]) else none else none else none else none else none else some (zbm.x3 y2) := by
 refine (zbf (Y := Y) (c := lim' Y) (fn := 236) (rid := 3) (b := zat 3 zbm.c) (by kernel_rfl) _).trans ?_
 delta zbm.L3 zbm.x3 XX
 generalize lpL (Y.ctx (lim' Y)) 236 = lp
 generalize lim' Y = call
 kernel_rfl
theorem zbm.a3x3 (y0:LLD) : zbm.A3 (zbm.x3 y0) = bif zfW y0 then some ⟨[.v (.string (strOf y0))], []⟩ else none := by
 delta zbm.A3 zbm.x3 XX
 generalize lpL (Y.ctx (lim' Y)) 236 = lp
 generalize lim' Y = call
 kernel_rfl
end Go.PVx
