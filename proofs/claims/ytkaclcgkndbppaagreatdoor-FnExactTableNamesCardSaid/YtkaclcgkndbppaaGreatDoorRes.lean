/- A part of the proof: PvTtRes. -/
import Derived.Test.YtkaclcgkndbppaaGreatDoorTab
import Derived.KernelRfl
set_option linter.unusedSimpArgs false
set_option linter.unusedVariables false
namespace Go.PVx
open Go.PV Go.Proofs
set_option maxRecDepth 100000
set_option linter.unusedVariables false
abbrev LLD := List (List D)
abbrev BAy := ByteArray
noncomputable def zah.P9 (y0 y1 y2:LLD) : Option Res := evB XX 6 (lpL XX 6) 9 zah.c (mkG 0 92 [(0, .one (.s y0)), (1, .one (.s y1)), (6, .one (.r 6 [] 0))] [(6, some ⟨.virt, [.s y2], [.deep]⟩)] GL) (outE XX 6 Tryz.f6)
noncomputable def zah.P15 (y0 y1:LLD) (y2:Bool) (y3 y4 y5 y6:LLD) : Option Res := evB XX 6 (lpL XX 6) 15 zah.c (mkG 0 92 [(0, .one (.s y0)), (1, .one (.s y1)), (6, .one (.r 6 [] 0)), (7, .one (.r 7 [] 0)), (8, .one (.r 8 [] 0)), (9, .one (.r 9 [] 0)), (44, .one (.v (.bool y2)))] [(6, some ⟨.virt, [.s y3], [.deep]⟩), (7, some ⟨.virt, [.s y4], [.deep]⟩), (8, some ⟨.virt, [.s y5], [.deep]⟩), (9, some ⟨.virt, [.s y6], [.deep]⟩)] GL) (outE XX 6 Tryz.f6)
noncomputable def zah.P22 (y0 y1:LLD) (y2:Bool) (y3 y4:LLD) : Option Res := evB XX 6 (lpL XX 6) 22 zah.c (mkG 0 92 [(0, .one (.s y0)), (1, .one (.s y1)), (6, .one (.r 6 [] 0)), (9, .one (.r 9 [] 0)), (63, .one (.v (.bool y2)))] [(6, some ⟨.virt, [.s y3], [.deep]⟩), (9, some ⟨.virt, [.s y4], [.deep]⟩)] GL) (outE XX 6 Tryz.f6)
noncomputable def zah.P23 (y0 y1 y2 y3:LLD) : Option Res := evB XX 6 (lpL XX 6) 23 zah.c (mkG 0 92 [(0, .one (.s y0)), (1, .one (.s y1)), (6, .one (.r 6 [] 0)), (9, .one (.r 9 [] 0))] [(6, some ⟨.virt, [.s y2], [.deep]⟩), (9, some ⟨.virt, [.s y3], [.deep]⟩)] GL) (outE XX 6 Tryz.f6)
noncomputable def zah.P32 (y0:Int) (y1 y2 y3:LLD) : Option Res := evB XX 6 (lpL XX 6) 32 zah.c (mkG 0 92 [(6, .one (.r 6 [] 0)), (9, .one (.r 9 [] 0)), (11, .one (.v (.int .i64 y0))), (13, .one (.r 13 [] 0))] [(6, some ⟨.virt, [.s y1], [.deep]⟩), (9, some ⟨.virt, [.s y2], [.deep]⟩), (13, some ⟨.virt, [.s y3], [.deep]⟩)] GL) (outE XX 6 Tryz.f6)
theorem zah.e (a0 a1:LLD) : zah [.one (.s a0), .one (.s a1)] [] = (za1 [.one (.s a0), .one (.v (.int .i64 1048576))] []).bind fun val => bif zag [.int .i64] val.1 && true then bif decide ((val.1.getD 0 .d).int < 0) then some ⟨[.v (.bool true)], []⟩ else (zat [.one (.s a1), .one (.v (.int .i64 (val.1.getD 0 .d).int))] []).bind fun val => bif zag [.int .i64] val.1 && true then bif decide ((val.1.getD 0 .d).int < 0) then some ⟨[.v (.bool true)], []⟩ else (za8 [.one (.s a0)] []).bind fun val => bif zag [.own .deep] val.1 && true then (zaB [.one (.s a1)] []).bind fun val_1 => bif zag [.own .deep] val_1.1 && true then (zaF [.one (.s (val.1.getD 0 .d).es), .one (.s (val_1.1.getD 0 .d).es)] []).bind fun val => bif zag [.own .deep] val.1 && true then zah.P9 a0 a1 (val.1.getD 0 .d).es else none else none else none else none else none := by
 refine (zah.run _ _ (by kernel_rfl)).trans ?_
 delta zah za1 zat za8 zaB zaF zah.P9 XX
 refine zbw [9, 15, 22, 23, 32] (by kernel_rfl) fun J e1 => ?_
 try simp only [← e1]
 clear e1
 generalize lpL (Y.ctx (lim' Y)) 6 = lp
 generalize lim' Y = call
 kernel_rfl
theorem zah.p9 (y0 y1 y2:LLD) : zah.P9 y0 y1 y2 = (za8 [.one (.s y0)] []).bind fun val => bif zag [.own .deep] val.1 && true then (zaB [.one (.s y1)] []).bind fun val_1 => bif zag [.own .deep] val_1.1 && true then (zay [.one (.s (val.1.getD 0 .d).es), .one (.s (val_1.1.getD 0 .d).es)] []).bind fun val_2 => bif zag [.own .deep] val_2.1 && true then (zav [.one (.s (val_2.1.getD 0 .d).es), .one (.s y2)] []).bind fun val_3 => bif zag [.bool] val_3.1 && true then bif !(val_3.1.getD 0 .d).bool then some ⟨[.v (.bool false)], []⟩ else (za8 [.one (.s y0)] []).bind fun val_4 => bif zag [.own .deep] val_4.1 && true then (zba [.one (.s (val.1.getD 0 .d).es), .one (.s (val_4.1.getD 0 .d).es)] []).bind fun val_5 => bif zag [.bool] val_5.1 && true then zah.P15 y0 y1 (!(val_5.1.getD 0 .d).bool) y2 (val.1.getD 0 .d).es (val_1.1.getD 0 .d).es (val_2.1.getD 0 .d).es else none else none else none else none else none else none := by
 delta zah.P9 za8 zaB zay zav zba zah.P15 XX
 refine zbk [9, 15, 22, 23, 32] 9 (by kernel_rfl) fun J e1 => ?_
 try simp only [← e1]
 clear e1
 generalize lpL (Y.ctx (lim' Y)) 6 = lp
 generalize lim' Y = call
 kernel_rfl
theorem zah.p15 (y0 y1:LLD) (y2:Bool) (y3 y4 y5 y6:LLD) : zah.P15 y0 y1 y2 y3 y4 y5 y6 = bif y2 then some ⟨[.v (.bool false)], []⟩ else (zaB [.one (.s y1)] []).bind fun val => bif zag [.own .deep] val.1 && true then (zav [.one (.s y5), .one (.s (val.1.getD 0 .d).es)] []).bind fun val => bif zag [.bool] val.1 && true then bif !(val.1.getD 0 .d).bool then some ⟨[.v (.bool false)], []⟩ else (zaK [.one (.r 0 [] 0), .one (.v (.int .i64 1))] [⟨.virt, [.s y4], [.deep]⟩]).bind fun val => bif zag [.int .i64] val.1 && zbd [⟨⟨.virt, [.s y4], [.deep]⟩, .sl 7 [] 0⟩] val.2 then (zap [.one (.r 0 [] 0), .one (.v (.int .i64 (val.1.getD 0 .d).int))] [⟨.virt, [.s y5], [.deep]⟩]).bind fun val => bif zag [.int .i64] val.1 && zbd [⟨⟨.virt, [.s y5], [.deep]⟩, .sl 8 [] 0⟩] val.2 then bif decide ((val.1.getD 0 .d).int < 0) then zah.P22 y0 y1 true y3 y6 else (zav [.one (.s y6), .one (.s y3)] []).bind fun val => bif zag [.bool] val.1 && true then zah.P22 y0 y1 (!(val.1.getD 0 .d).bool) y3 y6 else none else none else none else none else none := by
 delta zah.P15 zaB zav zaK zap zah.P22 XX
 refine zbk [9, 15, 22, 23, 32] 15 (by kernel_rfl) fun J e1 => ?_
 try simp only [← e1]
 clear e1
 generalize lpL (Y.ctx (lim' Y)) 6 = lp
 generalize lim' Y = call
 kernel_rfl
theorem zah.p22 (y0 y1:LLD) (y2:Bool) (y3 y4:LLD) : zah.P22 y0 y1 y2 y3 y4 = bif y2 then some ⟨[.v (.bool false)], []⟩ else zah.P23 y0 y1 y3 y4 := by
 delta zah.P22 zah.P23 XX
 refine zbk [9, 15, 22, 23, 32] 22 (by kernel_rfl) fun J e1 => ?_
 try simp only [← e1]
 clear e1
 generalize lpL (Y.ctx (lim' Y)) 6 = lp
 generalize lim' Y = call
 kernel_rfl
theorem zah.p23 (y0 y1 y2 y3:LLD) : zah.P23 y0 y1 y2 y3 = (zap [.one (.r 0 [] 0), .one (.v (.int .i64 1))] [⟨.virt, [.s y3], [.deep]⟩]).bind fun val => bif zag [.int .i64] val.1 && zbd [⟨⟨.virt, [.s y3], [.deep]⟩, .sl 9 [] 0⟩] val.2 then (zao [.one (.s ((val.2.getD 0 ⟨.ro, [], []⟩).2.getD 0 .h).es), .one (.v (.int .i64 1))] []).bind fun val_1 => bif zag [.int .i64] val_1.1 && true then bif decide ((val_1.1.getD 0 .d).int < 0) then some ⟨[.v (.bool false)], []⟩ else bif (val_1.1.getD 0 .d).int != (val.1.getD 0 .d).int then some ⟨[.v (.bool false)], []⟩ else (za8 [.one (.s y0)] []).bind fun val_2 => bif zag [.own .deep] val_2.1 && true then (zaB [.one (.s y1)] []).bind fun val_3 => bif zag [.own .deep] val_3.1 && true then (zay [.one (.s (val_2.1.getD 0 .d).es), .one (.s (val_3.1.getD 0 .d).es)] []).bind fun val_4 => bif zag [.own .deep] val_4.1 && true then zah.P32 (val.1.getD 0 .d).int y2 ((val.2.getD 0 ⟨.ro, [], []⟩).2.getD 0 .h).es (val_4.1.getD 0 .d).es else none else none else none else none else none := by
 delta zah.P23 zap zao za8 zaB zay zah.P32 XX
 refine zbk [9, 15, 22, 23, 32] 23 (by kernel_rfl) fun J e1 => ?_
 try simp only [← e1]
 clear e1
 generalize lpL (Y.ctx (lim' Y)) 6 = lp
 generalize lim' Y = call
 kernel_rfl
theorem zah.p32 (y0:Int) (y1 y2 y3:LLD) : zah.P32 y0 y1 y2 y3 = (zav [.one (.s y3), .one (.s y1)] []).bind fun val => bif zag [.bool] val.1 && true then bif !(val.1.getD 0 .d).bool then some ⟨[.v (.bool false)], []⟩ else (zao [.one (.s y2), .one (.v (.int .i64 1))] []).bind fun val => bif zag [.int .i64] val.1 && true then bif decide ((val.1.getD 0 .d).int < 0) then some ⟨[.v (.bool false)], []⟩ else bif (val.1.getD 0 .d).int != y0 then some ⟨[.v (.bool false)], []⟩ else some ⟨[.v (.bool true)], []⟩ else none else none := by
 delta zah.P32 zav zao XX
 refine zbk [9, 15, 22, 23, 32] 32 (by kernel_rfl) fun J e1 => ?_
 try simp only [← e1]
 clear e1
 generalize lpL (Y.ctx (lim' Y)) 6 = lp
 generalize lim' Y = call
 kernel_rfl
noncomputable def za1.L5 (y0:LLD) (y1 y2:Int) : Option (Ex × St) := lpL XX 14 (zar 5 za1.c) (mkG 0 27 [(0, .one (.s y0)), (1, .one (.v (.int .i64 y1))), (5, .one (.v (.int .i64 y2)))] [] GL)
noncomputable def za1.A5 : Ex × St → Option Res := fun r => evA XX 14 (lpL XX 14) 5 za1.c r.fst r.snd (outE XX 14 Tryz.f14)
noncomputable def za1.q5 (y0 y1:Int) : Ex × St := (Ex.ret, mkG 0 27 [(1, .one (.v (.int .i64 y0))), (4, .one (.v (.int .i64 y1)))] [] GL)
noncomputable def za1.x5 (y0:Int) : Ex × St := (Ex.exit 0, mkG 0 27 [(1, .one (.v (.int .i64 y0)))] [] GL)
theorem za1.e (a0:LLD) (a1:Int) : za1 [.one (.s a0), .one (.v (.int .i64 a1))] [] = bif decide (IntKind.i64.wrap (a1 - (↑a0.length : Int)) < 0) then some ⟨[.v (.int .i64 (-1))], []⟩ else (za1.L5 a0 (IntKind.i64.wrap (a1 - (↑a0.length : Int))) 0).bind za1.A5 := by
 refine (za1.run _ _ (by kernel_rfl)).trans ?_
 delta za1 za1.L5 za1.A5 XX
 generalize lpL (Y.ctx (lim' Y)) 14 = lp
 generalize lim' Y = call
 kernel_rfl
theorem za1.s5 (y0:LLD) (y1 y2:Int) : za1.L5 y0 y1 y2 = bif decide (y2 < (↑y0.length : Int)) then bif decide (0 ≤ y2) && decide (y2 < (↑y0.length : Int)) && decide ((y0.getD y2.toNat []).length = 5) then bif zas [.sl, .bool, .int .i64, .str, .int .i64] (y0.getD y2.toNat []) 0 && decide (5 ≤ (y0.getD y2.toNat []).length) then (zdg [.g [.s ((y0.getD y2.toNat []).getD 0 .h).es, .v (.bool ((y0.getD y2.toNat []).getD 1 .h).bool), .v (.int .i64 ((y0.getD y2.toNat []).getD 2 .h).int), .v (.string ((y0.getD y2.toNat []).getD 3 .h).str), .v (.int .i64 ((y0.getD y2.toNat []).getD 4 .h).int)], .one (.v (.int .i64 y1))] []).bind fun val => bif zag [.int .i64] val.1 && true then bif decide ((val.1.getD 0 .d).int < 0) then some (za1.q5 (val.1.getD 0 .d).int (-1)) else za1.L5 y0 (val.1.getD 0 .d).int (IntKind.i64.wrap (y2 + 1)) else none else none else none else some (za1.x5 y1) := by
 refine (zbi (Y := Y) (c := lim' Y) (fn := 14) (rid := 5) (b := zar 5 za1.c) (by kernel_rfl) _).trans ?_
 delta za1.L5 zdg za1.q5 za1.x5 XX
 generalize lpL (Y.ctx (lim' Y)) 14 = lp
 generalize lim' Y = call
 kernel_rfl
theorem za1.a5q5 (y0 y1:Int) : za1.A5 (za1.q5 y0 y1) = some ⟨[.v (.int .i64 y1)], []⟩ := by
 delta za1.A5 za1.q5 XX
 generalize lpL (Y.ctx (lim' Y)) 14 = lp
 generalize lim' Y = call
 kernel_rfl
theorem za1.a5x5 (y0:Int) : za1.A5 (za1.x5 y0) = some ⟨[.v (.int .i64 y0)], []⟩ := by
 delta za1.A5 za1.x5 XX
 generalize lpL (Y.ctx (lim' Y)) 14 = lp
 generalize lim' Y = call
 kernel_rfl
noncomputable def zat.L5 (y0:LLD) (y1 y2:Int) : Option (Ex × St) := lpL XX 15 (zar 5 zat.c) (mkG 0 28 [(0, .one (.s y0)), (1, .one (.v (.int .i64 y1))), (5, .one (.v (.int .i64 y2)))] [] GL)
noncomputable def zat.A5 : Ex × St → Option Res := fun r => evA XX 15 (lpL XX 15) 5 zat.c r.fst r.snd (outE XX 15 Tryz.f15)
noncomputable def zat.q5 (y0 y1:Int) : Ex × St := (Ex.ret, mkG 0 28 [(1, .one (.v (.int .i64 y0))), (4, .one (.v (.int .i64 y1)))] [] GL)
noncomputable def zat.x5 (y0:Int) : Ex × St := (Ex.exit 0, mkG 0 28 [(1, .one (.v (.int .i64 y0)))] [] GL)
theorem zat.e (a0:LLD) (a1:Int) : zat [.one (.s a0), .one (.v (.int .i64 a1))] [] = bif decide (IntKind.i64.wrap (a1 - (↑a0.length : Int)) < 0) then some ⟨[.v (.int .i64 (-1))], []⟩ else (zat.L5 a0 (IntKind.i64.wrap (a1 - (↑a0.length : Int))) 0).bind zat.A5 := by
 refine (zat.run _ _ (by kernel_rfl)).trans ?_
 delta zat zat.L5 zat.A5 XX
 generalize lpL (Y.ctx (lim' Y)) 15 = lp
 generalize lim' Y = call
 kernel_rfl
theorem zat.s5 (y0:LLD) (y1 y2:Int) : zat.L5 y0 y1 y2 = bif decide (y2 < (↑y0.length : Int)) then bif decide (0 ≤ y2) && decide (y2 < (↑y0.length : Int)) && decide ((y0.getD y2.toNat []).length = 1) then bif zas [.str] (y0.getD y2.toNat []) 0 && decide (1 ≤ (y0.getD y2.toNat []).length) then bif decide (IntKind.i64.wrap (y1 - (↑((y0.getD y2.toNat []).getD 0 .h).str.size : Int)) < 0) then some (zat.q5 (IntKind.i64.wrap (y1 - (↑((y0.getD y2.toNat []).getD 0 .h).str.size : Int))) (-1)) else zat.L5 y0 (IntKind.i64.wrap (y1 - (↑((y0.getD y2.toNat []).getD 0 .h).str.size : Int))) (IntKind.i64.wrap (y2 + 1)) else none else none else some (zat.x5 y1) := by
 refine (zbi (Y := Y) (c := lim' Y) (fn := 15) (rid := 5) (b := zar 5 zat.c) (by kernel_rfl) _).trans ?_
 delta zat.L5 zat.q5 zat.x5 XX
 generalize lpL (Y.ctx (lim' Y)) 15 = lp
 generalize lim' Y = call
 kernel_rfl
theorem zat.a5q5 (y0 y1:Int) : zat.A5 (zat.q5 y0 y1) = some ⟨[.v (.int .i64 y1)], []⟩ := by
 delta zat.A5 zat.q5 XX
 generalize lpL (Y.ctx (lim' Y)) 15 = lp
 generalize lim' Y = call
 kernel_rfl
theorem zat.a5x5 (y0:Int) : zat.A5 (zat.x5 y0) = some ⟨[.v (.int .i64 y0)], []⟩ := by
 delta zat.A5 zat.x5 XX
 generalize lpL (Y.ctx (lim' Y)) 15 = lp
 generalize lim' Y = call
 kernel_rfl
noncomputable def zaq.L6 (y0 y1:LLD) (y2 y3:Int) : Option (Ex × St) := lpL XX 16 (zar 6 zaq.c) (mkG 0 50 [(0, .one (.s y0)), (1, .one (.s y1)), (7, .one (.v (.int .i64 y2))), (8, .one (.v (.int .i64 y3)))] [] GL)
noncomputable def zaq.A6 : Ex × St → Option Res := fun r => evA XX 16 (lpL XX 16) 6 zaq.c r.fst r.snd (outE XX 16 Tryz.f16)
noncomputable def zaq.x6 (y0 y1:LLD) (y2:Int) : Ex × St := (Ex.exit 0, mkG 0 50 [(0, .one (.s y0)), (1, .one (.s y1)), (7, .one (.v (.int .i64 y2)))] [] GL)
noncomputable def zaq.P12 (y0:Int) (y1:Bool) : Option Res := evB XX 16 (lpL XX 16) 12 zaq.c (mkG 0 50 [(7, .one (.v (.int .i64 y0))), (48, .one (.v (.bool y1)))] [] GL) (outE XX 16 Tryz.f16)
theorem zaq.e (a0 a1:LLD) : zaq [.one (.s a0), .one (.s a1)] [] = (zab [.one (.s a0)] []).bind fun val => bif zag [.bool, .int .i64, .str, .own .deep, .own .deep, .bool] val.1 && true then bif !(val.1.getD 5 .d).bool then some ⟨[.v (.int .i64 (-1))], []⟩ else (zaq.L6 a0 a1 0 (↑a0.length : Int)).bind zaq.A6 else none := by
 refine (zaq.run _ _ (by kernel_rfl)).trans ?_
 delta zaq zab zaq.L6 zaq.A6 XX
 refine zbw [12] (by kernel_rfl) fun J e1 => ?_
 have eA := evA_J [12] 6 (by kernel_rfl) e1
 try simp only [eA]
 clear eA
 try simp only [← e1]
 clear e1
 show _ = _
 generalize lpL (Y.ctx (lim' Y)) 16 = lp
 generalize lim' Y = call
 kernel_rfl
theorem zaq.s6 (y0 y1:LLD) (y2 y3:Int) : zaq.L6 y0 y1 y2 y3 = bif decide (y2 < y3) then bif decide (0 ≤ IntKind.i64.wrap ((IntKind.i64.wrap (y2 + y3)).tdiv 2)) && decide (IntKind.i64.wrap ((IntKind.i64.wrap (y2 + y3)).tdiv 2) < (↑y0.length : Int)) && decide ((y0.getD (IntKind.i64.wrap ((IntKind.i64.wrap (y2 + y3)).tdiv 2)).toNat []).length = 5) then bif zas [.sl] (y0.getD (IntKind.i64.wrap ((IntKind.i64.wrap (y2 + y3)).tdiv 2)).toNat []) 0 && decide (1 ≤ (y0.getD (IntKind.i64.wrap ((IntKind.i64.wrap (y2 + y3)).tdiv 2)).toNat []).length) then (zaI [.one (.s ((y0.getD (IntKind.i64.wrap ((IntKind.i64.wrap (y2 + y3)).tdiv 2)).toNat []).getD 0 .h).es), .one (.s y1)] []).bind fun val => bif zag [.bool] val.1 && true then bif (val.1.getD 0 .d).bool then zaq.L6 y0 y1 (IntKind.i64.wrap (IntKind.i64.wrap ((IntKind.i64.wrap (y2 + y3)).tdiv 2) + 1)) y3 else zaq.L6 y0 y1 y2 (IntKind.i64.wrap ((IntKind.i64.wrap (y2 + y3)).tdiv 2)) else none else none else none else some (zaq.x6 y0 y1 y2) := by
 refine (zbi (Y := Y) (c := lim' Y) (fn := 16) (rid := 6) (b := zar 6 zaq.c) (by kernel_rfl) _).trans ?_
 delta zaq.L6 zaI zaq.x6 XX
 generalize lpL (Y.ctx (lim' Y)) 16 = lp
 generalize lim' Y = call
 kernel_rfl
theorem zaq.a6x6 (y0 y1:LLD) (y2:Int) : zaq.A6 (zaq.x6 y0 y1 y2) = bif decide (y2 < (↑y0.length : Int)) then bif decide (0 ≤ y2) && decide (y2 < (↑y0.length : Int)) && decide ((y0.getD y2.toNat []).length = 5) then bif zas [.sl] (y0.getD y2.toNat []) 0 && decide (1 ≤ (y0.getD y2.toNat []).length) then (zb4 [.one (.s ((y0.getD y2.toNat []).getD 0 .h).es), .one (.s y1)] []).bind fun val => bif zag [.bool] val.1 && true then zaq.P12 y2 (val.1.getD 0 .d).bool else none else none else none else zaq.P12 y2 false := by
 delta zaq.A6 zaq.x6 zb4 zaq.P12 XX
 refine zbh [12] 6 (by kernel_rfl) fun J e1 => ?_
 have eA := evA_J [12] 6 (by kernel_rfl) e1
 try simp only [eA]
 clear eA
 try simp only [← e1]
 clear e1
 show _ = _
 generalize lpL (Y.ctx (lim' Y)) 16 = lp
 generalize lim' Y = call
 kernel_rfl
theorem zaq.p12 (y0:Int) (y1:Bool) : zaq.P12 y0 y1 = bif y1 then some ⟨[.v (.int .i64 y0)], []⟩ else some ⟨[.v (.int .i64 (-1))], []⟩ := by
 delta zaq.P12 XX
 refine zbk [12] 12 (by kernel_rfl) fun J e1 => ?_
 try simp only [← e1]
 clear e1
 generalize lpL (Y.ctx (lim' Y)) 16 = lp
 generalize lim' Y = call
 kernel_rfl
noncomputable def za8.L3 (y0:LLD) (y1:Int) (y2:LLD) : Option (Ex × St) := lpL XX 17 (zar 3 za8.c) (mkG 0 23 [(0, .one (.s y0)), (3, .one (.r 3 [] 0)), (4, .one (.v (.int .i64 y1)))] [(3, some ⟨.virt, [.s y2], [.deep]⟩)] GL)
noncomputable def za8.A3 : Ex × St → Option Res := fun r => evA XX 17 (lpL XX 17) 3 za8.c r.fst r.snd (outE XX 17 Tryz.f17)
noncomputable def za8.x3 (y0:LLD) : Ex × St := (Ex.exit 0, mkG 0 23 [(3, .one (.r 3 [] 0))] [(3, some ⟨.virt, [.s y0], [.deep]⟩)] GL)
theorem za8.e (a0:LLD) : za8 [.one (.s a0)] [] = bif decide ((↑a0.length : Int) * ((↑64 : Int) + 1) ≤ 2 ^ 46) && true && true then (za8.L3 a0 0 (List.replicate (↑a0.length : Int).toNat [.s [], .v (.bool false), .v (.int .i64 0), .v (.string (ByteArray.mk #[])), .v (.int .i64 0)])).bind za8.A3 else none := by
 refine (za8.run _ _ (by kernel_rfl)).trans ?_
 delta za8 za8.L3 za8.A3 XX
 generalize lpL (Y.ctx (lim' Y)) 17 = lp
 generalize lim' Y = call
 kernel_rfl
theorem za8.s3 (y0:LLD) (y1:Int) (y2:LLD) : za8.L3 y0 y1 y2 = bif decide (y1 < (↑y0.length : Int)) then bif decide (0 ≤ y1) && decide (y1 < (↑y0.length : Int)) && decide ((y0.getD y1.toNat []).length = 5) then bif zas [.sl, .bool, .int .i64, .str, .int .i64] (y0.getD y1.toNat []) 0 && decide (5 ≤ (y0.getD y1.toNat []).length) then (zdu [.g [.s ((y0.getD y1.toNat []).getD 0 .h).es, .v (.bool ((y0.getD y1.toNat []).getD 1 .h).bool), .v (.int .i64 ((y0.getD y1.toNat []).getD 2 .h).int), .v (.string ((y0.getD y1.toNat []).getD 3 .h).str), .v (.int .i64 ((y0.getD y1.toNat []).getD 4 .h).int)]] []).bind fun val => bif zag [.own .deep, .bool, .int .i64, .str, .int .i64] val.1 && true then bif decide (0 ≤ y1) && decide (y1 < (↑y2.length : Int)) && decide ((y2.getD y1.toNat []).length = 5) then bif decide (5 ≤ (y2.getD y1.toNat []).length) && true then za8.L3 y0 (IntKind.i64.wrap (y1 + 1)) (y2.set y1.toNat (.s (val.1.getD 0 .d).es :: .v (.bool (val.1.getD 1 .d).bool) :: .v (.int .i64 (val.1.getD 2 .d).int) :: .v (.string (val.1.getD 3 .d).str) :: .v (.int .i64 (val.1.getD 4 .d).int) :: List.drop 5 (y2.getD y1.toNat []))) else none else none else none else none else none else some (za8.x3 y2) := by
 refine (zbi (Y := Y) (c := lim' Y) (fn := 17) (rid := 3) (b := zar 3 za8.c) (by kernel_rfl) _).trans ?_
 delta za8.L3 zdu za8.x3 XX
 generalize lpL (Y.ctx (lim' Y)) 17 = lp
 generalize lim' Y = call
 kernel_rfl
theorem za8.a3x3 (y0:LLD) : za8.A3 (za8.x3 y0) = some ⟨[.o .deep y0], []⟩ := by
 delta za8.A3 za8.x3 XX
 generalize lpL (Y.ctx (lim' Y)) 17 = lp
 generalize lim' Y = call
 kernel_rfl
noncomputable def zaB.L3 (y0:LLD) (y1:Int) (y2:LLD) : Option (Ex × St) := lpL XX 18 (zar 3 zaB.c) (mkG 0 22 [(0, .one (.s y0)), (3, .one (.r 3 [] 0)), (4, .one (.v (.int .i64 y1)))] [(3, some ⟨.virt, [.s y2], [.deep]⟩)] GL)
noncomputable def zaB.A3 : Ex × St → Option Res := fun r => evA XX 18 (lpL XX 18) 3 zaB.c r.fst r.snd (outE XX 18 Tryz.f18)
noncomputable def zaB.x3 (y0:LLD) : Ex × St := (Ex.exit 0, mkG 0 22 [(3, .one (.r 3 [] 0))] [(3, some ⟨.virt, [.s y0], [.deep]⟩)] GL)
theorem zaB.e (a0:LLD) : zaB [.one (.s a0)] [] = bif decide ((↑a0.length : Int) * ((↑16 : Int) + 1) ≤ 2 ^ 46) && true && true then (zaB.L3 a0 0 (List.replicate (↑a0.length : Int).toNat [.v (.string (ByteArray.mk #[]))])).bind zaB.A3 else none := by
 refine (zaB.run _ _ (by kernel_rfl)).trans ?_
 delta zaB zaB.L3 zaB.A3 XX
 generalize lpL (Y.ctx (lim' Y)) 18 = lp
 generalize lim' Y = call
 kernel_rfl
theorem zaB.s3 (y0:LLD) (y1:Int) (y2:LLD) : zaB.L3 y0 y1 y2 = bif decide (y1 < (↑y0.length : Int)) then bif decide (0 ≤ y1) && decide (y1 < (↑y0.length : Int)) && decide ((y0.getD y1.toNat []).length = 1) then bif zas [.str] (y0.getD y1.toNat []) 0 && decide (1 ≤ (y0.getD y1.toNat []).length) then bif decide (0 ≤ y1) && decide (y1 < (↑y2.length : Int)) && decide ((y2.getD y1.toNat []).length = 1) then bif decide (1 ≤ (y2.getD y1.toNat []).length) && true then zaB.L3 y0 (IntKind.i64.wrap (y1 + 1)) (y2.set y1.toNat (.v (.string ((y0.getD y1.toNat []).getD 0 .h).str) :: List.drop 1 (y2.getD y1.toNat []))) else none else none else none else none else some (zaB.x3 y2) := by
 refine (zbi (Y := Y) (c := lim' Y) (fn := 18) (rid := 3) (b := zar 3 zaB.c) (by kernel_rfl) _).trans ?_
 delta zaB.L3 zaB.x3 XX
 generalize lpL (Y.ctx (lim' Y)) 18 = lp
 generalize lim' Y = call
 kernel_rfl
theorem zaB.a3x3 (y0:LLD) : zaB.A3 (zaB.x3 y0) = some ⟨[.o .deep y0], []⟩ := by
 delta zaB.A3 zaB.x3 XX
 generalize lpL (Y.ctx (lim' Y)) 18 = lp
 generalize lim' Y = call
 kernel_rfl
theorem zbI.e (a0 a1:LLD) : zbI [.one (.s a0), .one (.s a1)] [] = (zai [.one (.s a0)] []).bind fun val => bif zag [.bool, .int .i64, .str, .own .deep, .own .deep, .bool] val.1 && true then bif !(val.1.getD 5 .d).bool then some ⟨[.v (.int .i64 (-1))], []⟩ else (zae [.one (.s a0), .f za7.id [.p true 0 [] 0]] [⟨.box, [.s a1], [.sh]⟩]).bind fun val => bif zag [.int .i64] val.1 && zbd [⟨⟨.box, [.s a1], [.sh]⟩, .box 3⟩] val.2 then some ⟨[.v (.int .i64 (val.1.getD 0 .d).int)], []⟩ else none else none := by
 refine (zbI.run _ _ (by kernel_rfl)).trans ?_
 delta zbI zai zae za7.id XX
 generalize lpL (Y.ctx (lim' Y)) 19 = lp
 generalize lim' Y = call
 kernel_rfl
noncomputable def zba.L4 (y0 y1:LLD) (y2:Int) : Option (Ex × St) := lpL XX 20 (zar 4 zba.c) (mkG 0 27 [(0, .one (.s y0)), (1, .one (.s y1)), (5, .one (.v (.int .i64 y2)))] [] GL)
noncomputable def zba.A4 : Ex × St → Option Res := fun r => evA XX 20 (lpL XX 20) 4 zba.c r.fst r.snd (outE XX 20 Tryz.f20)
noncomputable def zba.q4 (y0:Bool) : Ex × St := (Ex.ret, mkG 0 27 [(4, .one (.v (.bool y0)))] [] GL)
noncomputable def zba.x4 : Ex × St := (Ex.exit 0, mkG 0 27 [] [] GL)
theorem zba.e (a0 a1:LLD) : zba [.one (.s a0), .one (.s a1)] [] = bif (↑a0.length : Int) != (↑a1.length : Int) then some ⟨[.v (.bool false)], []⟩ else (zba.L4 a0 a1 0).bind zba.A4 := by
 refine (zba.run _ _ (by kernel_rfl)).trans ?_
 delta zba zba.L4 zba.A4 XX
 generalize lpL (Y.ctx (lim' Y)) 20 = lp
 generalize lim' Y = call
 kernel_rfl
theorem zba.s4 (y0 y1:LLD) (y2:Int) : zba.L4 y0 y1 y2 = bif decide (y2 < (↑y0.length : Int)) then bif decide (0 ≤ y2) && decide (y2 < (↑y0.length : Int)) && decide ((y0.getD y2.toNat []).length = 5) then bif zas [.sl, .bool, .int .i64, .str, .int .i64] (y0.getD y2.toNat []) 0 && decide (5 ≤ (y0.getD y2.toNat []).length) then bif decide (0 ≤ y2) && decide (y2 < (↑y1.length : Int)) && decide ((y1.getD y2.toNat []).length = 5) then bif zas [.sl, .bool, .int .i64, .str, .int .i64] (y1.getD y2.toNat []) 0 && decide (5 ≤ (y1.getD y2.toNat []).length) then (zcn [.g [.s ((y0.getD y2.toNat []).getD 0 .h).es, .v (.bool ((y0.getD y2.toNat []).getD 1 .h).bool), .v (.int .i64 ((y0.getD y2.toNat []).getD 2 .h).int), .v (.string ((y0.getD y2.toNat []).getD 3 .h).str), .v (.int .i64 ((y0.getD y2.toNat []).getD 4 .h).int)], .g [.s ((y1.getD y2.toNat []).getD 0 .h).es, .v (.bool ((y1.getD y2.toNat []).getD 1 .h).bool), .v (.int .i64 ((y1.getD y2.toNat []).getD 2 .h).int), .v (.string ((y1.getD y2.toNat []).getD 3 .h).str), .v (.int .i64 ((y1.getD y2.toNat []).getD 4 .h).int)]] []).bind fun val => bif zag [.bool] val.1 && true then bif !(val.1.getD 0 .d).bool then some (zba.q4 false) else zba.L4 y0 y1 (IntKind.i64.wrap (y2 + 1)) else none else none else none else none else none else some zba.x4 := by
 refine (zbi (Y := Y) (c := lim' Y) (fn := 20) (rid := 4) (b := zar 4 zba.c) (by kernel_rfl) _).trans ?_
 delta zba.L4 zcn zba.q4 zba.x4 XX
 generalize lpL (Y.ctx (lim' Y)) 20 = lp
 generalize lim' Y = call
 kernel_rfl
theorem zba.a4x4 : zba.A4 zba.x4 = some ⟨[.v (.bool true)], []⟩ := by
 delta zba.A4 zba.x4 XX
 generalize lpL (Y.ctx (lim' Y)) 20 = lp
 generalize lim' Y = call
 kernel_rfl
noncomputable def zav.L4 (y0 y1:LLD) (y2:Int) : Option (Ex × St) := lpL XX 21 (zar 4 zav.c) (mkG 0 26 [(0, .one (.s y0)), (1, .one (.s y1)), (5, .one (.v (.int .i64 y2)))] [] GL)
noncomputable def zav.A4 : Ex × St → Option Res := fun r => evA XX 21 (lpL XX 21) 4 zav.c r.fst r.snd (outE XX 21 Tryz.f21)
noncomputable def zav.q4 (y0:Bool) : Ex × St := (Ex.ret, mkG 0 26 [(4, .one (.v (.bool y0)))] [] GL)
noncomputable def zav.x4 : Ex × St := (Ex.exit 0, mkG 0 26 [] [] GL)
theorem zav.e (a0 a1:LLD) : zav [.one (.s a0), .one (.s a1)] [] = bif (↑a0.length : Int) != (↑a1.length : Int) then some ⟨[.v (.bool false)], []⟩ else (zav.L4 a0 a1 0).bind zav.A4 := by
 refine (zav.run _ _ (by kernel_rfl)).trans ?_
 delta zav zav.L4 zav.A4 XX
 generalize lpL (Y.ctx (lim' Y)) 21 = lp
 generalize lim' Y = call
 kernel_rfl
theorem zav.s4 (y0 y1:LLD) (y2:Int) : zav.L4 y0 y1 y2 = bif decide (y2 < (↑y0.length : Int)) then bif decide (0 ≤ y2) && decide (y2 < (↑y0.length : Int)) && decide ((y0.getD y2.toNat []).length = 1) then bif zas [.str] (y0.getD y2.toNat []) 0 && decide (1 ≤ (y0.getD y2.toNat []).length) then bif decide (0 ≤ y2) && decide (y2 < (↑y1.length : Int)) && decide ((y1.getD y2.toNat []).length = 1) then bif zas [.str] (y1.getD y2.toNat []) 0 && decide (1 ≤ (y1.getD y2.toNat []).length) then bif !((y0.getD y2.toNat []).getD 0 .h).str.toList == ((y1.getD y2.toNat []).getD 0 .h).str.toList then some (zav.q4 false) else zav.L4 y0 y1 (IntKind.i64.wrap (y2 + 1)) else none else none else none else none else some zav.x4 := by
 refine (zbi (Y := Y) (c := lim' Y) (fn := 21) (rid := 4) (b := zar 4 zav.c) (by kernel_rfl) _).trans ?_
 delta zav.L4 zav.q4 zav.x4 XX
 generalize lpL (Y.ctx (lim' Y)) 21 = lp
 generalize lim' Y = call
 kernel_rfl
theorem zav.a4x4 : zav.A4 zav.x4 = some ⟨[.v (.bool true)], []⟩ := by
 delta zav.A4 zav.x4 XX
 generalize lpL (Y.ctx (lim' Y)) 21 = lp
 generalize lim' Y = call
 kernel_rfl
noncomputable def zaC.L5 (y0 y1:LLD) (y2 y3:Int) : Option (Ex × St) := lpL XX 22 (zar 5 zaC.c) (mkG 0 31 [(0, .one (.s y0)), (1, .one (.s y1)), (6, .one (.v (.int .i64 y2))), (7, .one (.v (.int .i64 y3)))] [] GL)
noncomputable def zaC.A5 : Ex × St → Option Res := fun r => evA XX 22 (lpL XX 22) 5 zaC.c r.fst r.snd (outE XX 22 Tryz.f22)
noncomputable def zaC.x5 (y0 y1:Int) : Ex × St := (Ex.exit 0, mkG 0 31 [(6, .one (.v (.int .i64 y0))), (7, .one (.v (.int .i64 y1)))] [] GL)
theorem zaC.e (a0 a1:LLD) : zaC [.one (.s a0), .one (.s a1)] [] = (zaq [.one (.s a0), .one (.s a1)] []).bind fun val => bif zag [.int .i64] val.1 && true then bif decide ((val.1.getD 0 .d).int < 0) then some ⟨[.v (.int .i64 0), .v (.int .i64 0)], []⟩ else (zaC.L5 a0 a1 (val.1.getD 0 .d).int (val.1.getD 0 .d).int).bind zaC.A5 else none := by
 refine (zaC.run _ _ (by kernel_rfl)).trans ?_
 delta zaC zaq zaC.L5 zaC.A5 XX
 generalize lpL (Y.ctx (lim' Y)) 22 = lp
 generalize lim' Y = call
 kernel_rfl
theorem zaC.s5 (y0 y1:LLD) (y2 y3:Int) : zaC.L5 y0 y1 y2 y3 = bif decide (y3 < (↑y0.length : Int)) then bif decide (0 ≤ y3) && decide (y3 < (↑y0.length : Int)) && decide ((y0.getD y3.toNat []).length = 5) then bif zas [.sl] (y0.getD y3.toNat []) 0 && decide (1 ≤ (y0.getD y3.toNat []).length) then (zaG [.one (.s ((y0.getD y3.toNat []).getD 0 .h).es), .one (.s y1)] []).bind fun val => bif zag [.bool] val.1 && true then bif (val.1.getD 0 .d).bool then zaC.L5 y0 y1 y2 (IntKind.i64.wrap (y3 + 1)) else some (zaC.x5 y2 y3) else none else none else none else some (zaC.x5 y2 y3) := by
 refine (zbi (Y := Y) (c := lim' Y) (fn := 22) (rid := 5) (b := zar 5 zaC.c) (by kernel_rfl) _).trans ?_
 delta zaC.L5 zaG zaC.x5 XX
 generalize lpL (Y.ctx (lim' Y)) 22 = lp
 generalize lim' Y = call
 kernel_rfl
theorem zaC.a5x5 (y0 y1:Int) : zaC.A5 (zaC.x5 y0 y1) = some ⟨[.v (.int .i64 y0), .v (.int .i64 y1)], []⟩ := by
 delta zaC.A5 zaC.x5 XX
 generalize lpL (Y.ctx (lim' Y)) 22 = lp
 generalize lim' Y = call
 kernel_rfl
noncomputable def zaD.L5 (y0 y1:LLD) (y2 y3:Int) : Option (Ex × St) := lpL XX 23 (zar 5 zaD.c) (mkG 0 31 [(0, .one (.s y0)), (1, .one (.s y1)), (6, .one (.v (.int .i64 y2))), (7, .one (.v (.int .i64 y3)))] [] GL)
noncomputable def zaD.A5 : Ex × St → Option Res := fun r => evA XX 23 (lpL XX 23) 5 zaD.c r.fst r.snd (outE XX 23 Tryz.f23)
noncomputable def zaD.x5 (y0 y1:Int) : Ex × St := (Ex.exit 0, mkG 0 31 [(6, .one (.v (.int .i64 y0))), (7, .one (.v (.int .i64 y1)))] [] GL)
theorem zaD.e (a0 a1:LLD) : zaD [.one (.s a0), .one (.s a1)] [] = (zbI [.one (.s a0), .one (.s a1)] []).bind fun val => bif zag [.int .i64] val.1 && true then bif decide ((val.1.getD 0 .d).int < 0) then some ⟨[.v (.int .i64 0), .v (.int .i64 0)], []⟩ else (zaD.L5 a0 a1 (val.1.getD 0 .d).int (val.1.getD 0 .d).int).bind zaD.A5 else none := by
 refine (zaD.run _ _ (by kernel_rfl)).trans ?_
 delta zaD zbI zaD.L5 zaD.A5 XX
 generalize lpL (Y.ctx (lim' Y)) 23 = lp
 generalize lim' Y = call
 kernel_rfl
theorem zaD.s5 (y0 y1:LLD) (y2 y3:Int) : zaD.L5 y0 y1 y2 y3 = bif decide (y3 < (↑y0.length : Int)) then bif decide (0 ≤ y3) && decide (y3 < (↑y0.length : Int)) && decide ((y0.getD y3.toNat []).length = 5) then bif zas [.sl] (y0.getD y3.toNat []) 0 && decide (1 ≤ (y0.getD y3.toNat []).length) then (za4 [.one (.s ((y0.getD y3.toNat []).getD 0 .h).es), .one (.s y1)] []).bind fun val => bif zag [.bool] val.1 && true then bif (val.1.getD 0 .d).bool then zaD.L5 y0 y1 y2 (IntKind.i64.wrap (y3 + 1)) else some (zaD.x5 y2 y3) else none else none else none else some (zaD.x5 y2 y3) := by
 refine (zbi (Y := Y) (c := lim' Y) (fn := 23) (rid := 5) (b := zar 5 zaD.c) (by kernel_rfl) _).trans ?_
 delta zaD.L5 za4 zaD.x5 XX
 generalize lpL (Y.ctx (lim' Y)) 23 = lp
 generalize lim' Y = call
 kernel_rfl
theorem zaD.a5x5 (y0 y1:Int) : zaD.A5 (zaD.x5 y0 y1) = some ⟨[.v (.int .i64 y0), .v (.int .i64 y1)], []⟩ := by
 delta zaD.A5 zaD.x5 XX
 generalize lpL (Y.ctx (lim' Y)) 23 = lp
 generalize lim' Y = call
 kernel_rfl
noncomputable def zab.P2 (y0:LLD) (y1 y2:Bool) (y3:Int) (y4:BAy) (y5 y6:LLD) : Option Res := evB XX 24 (lpL XX 24) 2 zab.c (mkG 0 101 [(0, .one (.s y0)), (2, .one (.p true 2 [] 0)), (26, .one (.v (.bool y1)))] [(2, some ⟨.box, [.v (.bool y2), .v (.int .i64 y3), .v (.string y4), .s y5, .s y6], [.deep, .deep, .deep, .deep, .deep]⟩)] GL) (outE XX 24 Tryz.f24)
noncomputable def zab.P3 (y0:LLD) (y1:Bool) (y2:Int) (y3:BAy) (y4 y5:LLD) : Option Res := evB XX 24 (lpL XX 24) 3 zab.c (mkG 0 101 [(0, .one (.s y0)), (2, .one (.p true 2 [] 0))] [(2, some ⟨.box, [.v (.bool y1), .v (.int .i64 y2), .v (.string y3), .s y4, .s y5], [.deep, .deep, .deep, .deep, .deep]⟩)] GL) (outE XX 24 Tryz.f24)
noncomputable def zab.L5 (y0:LLD) (y1:Int) (y2:Bool) (y3:Int) (y4:BAy) (y5 y6:LLD) (y7:Bool) (y8:Int) (y9:BAy) (y10 y11:LLD) : Option (Ex × St) := lpL XX 24 (zar 5 zab.c) (mkG 0 101 [(0, .one (.s y0)), (2, .one (.p true 2 [] 0)), (4, .one (.p true 4 [] 0)), (5, .one (.v (.int .i64 y1)))] [(2, some ⟨.box, [.v (.bool y2), .v (.int .i64 y3), .v (.string y4), .s y5, .s y6], [.deep, .deep, .deep, .deep, .deep]⟩), (4, some ⟨.box, [.v (.bool y7), .v (.int .i64 y8), .v (.string y9), .s y10, .s y11], [.deep, .deep, .deep, .deep, .deep]⟩)] GL)
noncomputable def zab.A5 : Ex × St → Option Res := fun r => evA XX 24 (lpL XX 24) 5 zab.c r.fst r.snd (outE XX 24 Tryz.f24)
noncomputable def zab.q5 (y0:LLD) (y1 y2:Bool) (y3:Int) (y4:BAy) (y5 y6:LLD) (y7:Bool) (y8:Int) (y9:BAy) (y10 y11:LLD) : Ex × St := (Ex.ret, mkG 0 101 [(0, .one (.s y0)), (2, .one (.p true 2 [] 0)), (3, .one (.v (.bool y1))), (4, .one (.p true 4 [] 0))] [(2, some ⟨.box, [.v (.bool y2), .v (.int .i64 y3), .v (.string y4), .s y5, .s y6], [.deep, .deep, .deep, .deep, .deep]⟩), (4, some ⟨.box, [.v (.bool y7), .v (.int .i64 y8), .v (.string y9), .s y10, .s y11], [.deep, .deep, .deep, .deep, .deep]⟩)] GL)
noncomputable def zab.P11 (y0:LLD) (y1:Int) (y2 y3:Bool) (y4:Int) (y5:BAy) (y6 y7:LLD) (y8:Bool) (y9:Int) (y10:BAy) (y11 y12:LLD) (y13:Bool) (y14:Int) (y15:BAy) (y16 y17:LLD) : Option (Ex × St) := evB XX 24 (lpL XX 24) 11 (zar 5 zab.c) (mkG 0 101 [(0, .one (.s y0)), (2, .one (.p true 2 [] 0)), (4, .one (.p true 4 [] 0)), (5, .one (.v (.int .i64 y1))), (7, .one (.p true 7 [] 0)), (8, .one (.v (.bool y2)))] [(2, some ⟨.box, [.v (.bool y3), .v (.int .i64 y4), .v (.string y5), .s y6, .s y7], [.deep, .deep, .deep, .deep, .deep]⟩), (4, some ⟨.box, [.v (.bool y8), .v (.int .i64 y9), .v (.string y10), .s y11, .s y12], [.sh, .sh, .sh, .sh, .sh]⟩), (7, some ⟨.box, [.v (.bool y13), .v (.int .i64 y14), .v (.string y15), .s y16, .s y17], [.deep, .deep, .deep, .sh, .sh]⟩)] GL) (backL (lpL XX 24) (zar 5 zab.c) (XX.live 24 5))
noncomputable def zab.x5 (y0:LLD) (y1:Bool) (y2:Int) (y3:BAy) (y4 y5:LLD) (y6:Bool) (y7:Int) (y8:BAy) (y9 y10:LLD) : Ex × St := (Ex.exit 0, mkG 0 101 [(0, .one (.s y0)), (2, .one (.p true 2 [] 0)), (4, .one (.p true 4 [] 0))] [(2, some ⟨.box, [.v (.bool y1), .v (.int .i64 y2), .v (.string y3), .s y4, .s y5], [.deep, .deep, .deep, .deep, .deep]⟩), (4, some ⟨.box, [.v (.bool y6), .v (.int .i64 y7), .v (.string y8), .s y9, .s y10], [.deep, .deep, .deep, .deep, .deep]⟩)] GL)
noncomputable def zab.q5b (y0:LLD) (y1 y2:Bool) (y3:Int) (y4:BAy) (y5 y6:LLD) (y7:Bool) (y8:Int) (y9:BAy) (y10 y11:LLD) : Ex × St := (Ex.ret, mkG 0 101 [(0, .one (.s y0)), (2, .one (.p true 2 [] 0)), (3, .one (.v (.bool y1))), (4, .one (.p true 4 [] 0))] [(2, some ⟨.box, [.v (.bool y2), .v (.int .i64 y3), .v (.string y4), .s y5, .s y6], [.deep, .deep, .deep, .deep, .deep]⟩), (4, some ⟨.box, [.v (.bool y7), .v (.int .i64 y8), .v (.string y9), .s y10, .s y11], [.sh, .sh, .sh, .sh, .sh]⟩)] GL)
noncomputable def zab.L5b (y0:LLD) (y1:Int) (y2:Bool) (y3:Int) (y4:BAy) (y5 y6:LLD) (y7:Bool) (y8:Int) (y9:BAy) (y10 y11:LLD) : Option (Ex × St) := lpL XX 24 (zar 5 zab.c) (mkG 0 101 [(0, .one (.s y0)), (2, .one (.p true 2 [] 0)), (4, .one (.p true 4 [] 0)), (5, .one (.v (.int .i64 y1)))] [(2, some ⟨.box, [.v (.bool y2), .v (.int .i64 y3), .v (.string y4), .s y5, .s y6], [.deep, .deep, .deep, .deep, .deep]⟩), (4, some ⟨.box, [.v (.bool y7), .v (.int .i64 y8), .v (.string y9), .s y10, .s y11], [.deep, .deep, .deep, .sh, .sh]⟩)] GL)
noncomputable def zab.L18 (y0:LLD) (y1:Int) (y2:Bool) (y3:Int) (y4:BAy) (y5 y6:LLD) (y7:Bool) (y8:Int) (y9:BAy) (y10 y11 y12:LLD) : Option (Ex × St) := lpL XX 24 (zar 18 zab.c) (mkG 0 101 [(0, .one (.s y0)), (2, .one (.p true 2 [] 0)), (4, .one (.p true 4 [] 0)), (9, .one (.r 9 [] 0)), (10, .one (.v (.int .i64 y1)))] [(2, some ⟨.box, [.v (.bool y2), .v (.int .i64 y3), .v (.string y4), .s y5, .s y6], [.deep, .deep, .deep, .deep, .deep]⟩), (4, some ⟨.box, [.v (.bool y7), .v (.int .i64 y8), .v (.string y9), .s y10, .s y11], [.deep, .deep, .deep, .deep, .deep]⟩), (9, some ⟨.virt, [.s y12], [.deep]⟩)] GL)
noncomputable def zab.A18 : Ex × St → Option Res := fun r => evA XX 24 (lpL XX 24) 18 zab.c r.fst r.snd (outE XX 24 Tryz.f24)
noncomputable def zab.q5c (y0:LLD) (y1 y2:Bool) (y3:Int) (y4:BAy) (y5 y6:LLD) (y7:Bool) (y8:Int) (y9:BAy) (y10 y11:LLD) : Ex × St := (Ex.ret, mkG 0 101 [(0, .one (.s y0)), (2, .one (.p true 2 [] 0)), (3, .one (.v (.bool y1))), (4, .one (.p true 4 [] 0))] [(2, some ⟨.box, [.v (.bool y2), .v (.int .i64 y3), .v (.string y4), .s y5, .s y6], [.deep, .deep, .deep, .deep, .deep]⟩), (4, some ⟨.box, [.v (.bool y7), .v (.int .i64 y8), .v (.string y9), .s y10, .s y11], [.deep, .deep, .deep, .sh, .sh]⟩)] GL)
noncomputable def zab.P11b (y0:LLD) (y1:Int) (y2 y3:Bool) (y4:Int) (y5:BAy) (y6 y7:LLD) (y8:Bool) (y9:Int) (y10:BAy) (y11 y12:LLD) (y13:Bool) (y14:Int) (y15:BAy) (y16 y17:LLD) : Option (Ex × St) := evB XX 24 (lpL XX 24) 11 (zar 5 zab.c) (mkG 0 101 [(0, .one (.s y0)), (2, .one (.p true 2 [] 0)), (4, .one (.p true 4 [] 0)), (5, .one (.v (.int .i64 y1))), (7, .one (.p true 7 [] 0)), (8, .one (.v (.bool y2)))] [(2, some ⟨.box, [.v (.bool y3), .v (.int .i64 y4), .v (.string y5), .s y6, .s y7], [.deep, .deep, .deep, .deep, .deep]⟩), (4, some ⟨.box, [.v (.bool y8), .v (.int .i64 y9), .v (.string y10), .s y11, .s y12], [.deep, .deep, .deep, .sh, .sh]⟩), (7, some ⟨.box, [.v (.bool y13), .v (.int .i64 y14), .v (.string y15), .s y16, .s y17], [.deep, .deep, .deep, .sh, .sh]⟩)] GL) (backL (lpL XX 24) (zar 5 zab.c) (XX.live 24 5))
noncomputable def zab.x5b (y0:LLD) (y1:Bool) (y2:Int) (y3:BAy) (y4 y5:LLD) (y6:Bool) (y7:Int) (y8:BAy) (y9 y10:LLD) : Ex × St := (Ex.exit 0, mkG 0 101 [(0, .one (.s y0)), (2, .one (.p true 2 [] 0)), (4, .one (.p true 4 [] 0))] [(2, some ⟨.box, [.v (.bool y1), .v (.int .i64 y2), .v (.string y3), .s y4, .s y5], [.deep, .deep, .deep, .deep, .deep]⟩), (4, some ⟨.box, [.v (.bool y6), .v (.int .i64 y7), .v (.string y8), .s y9, .s y10], [.deep, .deep, .deep, .sh, .sh]⟩)] GL)
noncomputable def zab.q18 (y0 y1:Bool) (y2:Int) (y3:BAy) (y4 y5:LLD) (y6:Bool) (y7:Int) (y8:BAy) (y9 y10:LLD) : Ex × St := (Ex.ret, mkG 0 101 [(2, .one (.p true 2 [] 0)), (3, .one (.v (.bool y0))), (4, .one (.p true 4 [] 0))] [(2, some ⟨.box, [.v (.bool y1), .v (.int .i64 y2), .v (.string y3), .s y4, .s y5], [.deep, .deep, .deep, .deep, .deep]⟩), (4, some ⟨.box, [.v (.bool y6), .v (.int .i64 y7), .v (.string y8), .s y9, .s y10], [.deep, .deep, .deep, .deep, .deep]⟩)] GL)
noncomputable def zab.x18 (y0:Bool) (y1:Int) (y2:BAy) (y3 y4:LLD) (y5:Bool) (y6:Int) (y7:BAy) (y8 y9:LLD) : Ex × St := (Ex.exit 2, mkG 0 101 [(2, .one (.p true 2 [] 0)), (4, .one (.p true 4 [] 0))] [(2, some ⟨.box, [.v (.bool y0), .v (.int .i64 y1), .v (.string y2), .s y3, .s y4], [.deep, .deep, .deep, .deep, .deep]⟩), (4, some ⟨.box, [.v (.bool y5), .v (.int .i64 y6), .v (.string y7), .s y8, .s y9], [.deep, .deep, .deep, .deep, .deep]⟩)] GL)
noncomputable def zab.L18b (y0:LLD) (y1:Int) (y2:Bool) (y3:Int) (y4:BAy) (y5 y6:LLD) (y7:Bool) (y8:Int) (y9:BAy) (y10 y11 y12:LLD) : Option (Ex × St) := lpL XX 24 (zar 18 zab.c) (mkG 0 101 [(0, .one (.s y0)), (2, .one (.p true 2 [] 0)), (4, .one (.p true 4 [] 0)), (9, .one (.r 9 [] 0)), (10, .one (.v (.int .i64 y1)))] [(2, some ⟨.box, [.v (.bool y2), .v (.int .i64 y3), .v (.string y4), .s y5, .s y6], [.deep, .deep, .deep, .deep, .deep]⟩), (4, some ⟨.box, [.v (.bool y7), .v (.int .i64 y8), .v (.string y9), .s y10, .s y11], [.deep, .deep, .deep, .sh, .sh]⟩), (9, some ⟨.virt, [.s y12], [.deep]⟩)] GL)
noncomputable def zab.q18b (y0 y1:Bool) (y2:Int) (y3:BAy) (y4 y5:LLD) (y6:Bool) (y7:Int) (y8:BAy) (y9 y10:LLD) : Ex × St := (Ex.ret, mkG 0 101 [(2, .one (.p true 2 [] 0)), (3, .one (.v (.bool y0))), (4, .one (.p true 4 [] 0))] [(2, some ⟨.box, [.v (.bool y1), .v (.int .i64 y2), .v (.string y3), .s y4, .s y5], [.deep, .deep, .deep, .deep, .deep]⟩), (4, some ⟨.box, [.v (.bool y6), .v (.int .i64 y7), .v (.string y8), .s y9, .s y10], [.deep, .deep, .deep, .sh, .sh]⟩)] GL)
noncomputable def zab.x18b (y0:Bool) (y1:Int) (y2:BAy) (y3 y4:LLD) (y5:Bool) (y6:Int) (y7:BAy) (y8 y9:LLD) : Ex × St := (Ex.exit 2, mkG 0 101 [(2, .one (.p true 2 [] 0)), (4, .one (.p true 4 [] 0))] [(2, some ⟨.box, [.v (.bool y0), .v (.int .i64 y1), .v (.string y2), .s y3, .s y4], [.deep, .deep, .deep, .deep, .deep]⟩), (4, some ⟨.box, [.v (.bool y5), .v (.int .i64 y6), .v (.string y7), .s y8, .s y9], [.deep, .deep, .deep, .sh, .sh]⟩)] GL)
theorem zab.e (a0:LLD) : zab [.one (.s a0)] [] = bif (↑a0.length : Int) == 0 then zab.P2 a0 true false 0 (ByteArray.mk #[]) [] [] else bif decide ((↑a0.length : Int) > 31) then zab.P2 a0 true false 0 (ByteArray.mk #[]) [] [] else bif decide (0 < (↑a0.length : Int)) && decide ((a0.getD 0 []).length = 5) then bif zas [.sl] (a0.getD 0 []) 0 && decide (1 ≤ (a0.getD 0 []).length) then zab.P2 a0 ((↑((a0.getD 0 []).getD 0 .h).es.length : Int) != 0) false 0 (ByteArray.mk #[]) [] [] else none else none := by
 refine (zab.run _ _ (by kernel_rfl)).trans ?_
 delta zab zab.P2 XX
 refine zbw [2, 3] (by kernel_rfl) fun J e1 => ?_
 try simp only [← e1]
 clear e1
 generalize lpL (Y.ctx (lim' Y)) 24 = lp
 generalize lim' Y = call
 kernel_rfl
theorem zab.p2 (y0:LLD) (y1 y2:Bool) (y3:Int) (y4:BAy) (y5 y6:LLD) : zab.P2 y0 y1 y2 y3 y4 y5 y6 = bif y1 then some ⟨[.v (.bool false), .v (.int .i64 0), .v (.string (ByteArray.mk #[])), .o .deep [], .o .deep [], .v (.bool false)], []⟩ else zab.P3 y0 y2 y3 y4 y5 y6 := by
 delta zab.P2 zab.P3 XX
 refine zbk [2, 3] 2 (by kernel_rfl) fun J e1 => ?_
 try simp only [← e1]
 clear e1
 generalize lpL (Y.ctx (lim' Y)) 24 = lp
 generalize lim' Y = call
 kernel_rfl
theorem zab.p3 (y0:LLD) (y1:Bool) (y2:Int) (y3:BAy) (y4 y5:LLD) : zab.P3 y0 y1 y2 y3 y4 y5 = bif decide (0 < (↑y0.length : Int)) && decide ((y0.getD 0 []).length = 5) then bif zas [.bool] (y0.getD 0 []) 1 && decide (2 ≤ (y0.getD 0 []).length) then bif decide (0 < (↑y0.length : Int)) && decide ((y0.getD 0 []).length = 5) then bif zas [.int .i64] (y0.getD 0 []) 2 && decide (3 ≤ (y0.getD 0 []).length) then bif decide (0 < (↑y0.length : Int)) && decide ((y0.getD 0 []).length = 5) then bif zas [.str] (y0.getD 0 []) 3 && decide (4 ≤ (y0.getD 0 []).length) then (zab.L5 y0 1 y1 y2 y3 y4 y5 ((y0.getD 0 []).getD 1 .h).bool ((y0.getD 0 []).getD 2 .h).int ((y0.getD 0 []).getD 3 .h).str [] []).bind zab.A5 else none else none else none else none else none else none := by
 delta zab.P3 zab.L5 zab.A5 XX
 refine zbk [2, 3] 3 (by kernel_rfl) fun J e1 => ?_
 have eA := evA_J [2, 3] 5 (by kernel_rfl) e1
 try simp only [eA]
 clear eA
 try simp only [← e1]
 clear e1
 show _ = _
 generalize lpL (Y.ctx (lim' Y)) 24 = lp
 generalize lim' Y = call
 kernel_rfl
theorem zab.s5 (y0:LLD) (y1:Int) (y2:Bool) (y3:Int) (y4:BAy) (y5 y6:LLD) (y7:Bool) (y8:Int) (y9:BAy) (y10 y11:LLD) : zab.L5 y0 y1 y2 y3 y4 y5 y6 y7 y8 y9 y10 y11 = bif decide (y1 < (↑y0.length : Int)) then bif decide (0 ≤ y1) && decide (y1 < (↑y0.length : Int)) && decide ((y0.getD y1.toNat []).length = 5) then bif zas [.sl, .bool, .int .i64, .str, .int .i64] (y0.getD y1.toNat []) 0 && decide (5 ≤ (y0.getD y1.toNat []).length) then (zaH [.one (.s ((y0.getD y1.toNat []).getD 0 .h).es)] []).bind fun val => bif zag [.bool] val.1 && true then bif !(val.1.getD 0 .d).bool then some (zab.q5 y0 false false 0 (ByteArray.mk #[]) [] [] y7 y8 y9 y10 y11) else (zbq [.g [.v (.bool y7), .v (.int .i64 y8), .v (.string y9), .s y10, .s y11], .one (.s ((y0.getD y1.toNat []).getD 0 .h).es), .g [.v (.bool ((y0.getD y1.toNat []).getD 1 .h).bool), .v (.int .i64 ((y0.getD y1.toNat []).getD 2 .h).int), .v (.string ((y0.getD y1.toNat []).getD 3 .h).str), .s [], .s []]] []).bind fun val => bif zag [.bool, .int .i64, .str, .sh, .sh, .bool] val.1 && true then zab.P11 y0 y1 (val.1.getD 5 .d).bool y2 y3 y4 y5 y6 y7 y8 y9 y10 y11 (val.1.getD 0 .d).bool (val.1.getD 1 .d).int (val.1.getD 2 .d).str (val.1.getD 3 .d).es (val.1.getD 4 .d).es else none else none else none else none else some (zab.x5 y0 y2 y3 y4 y5 y6 y7 y8 y9 y10 y11) := by
 refine (zbi (Y := Y) (c := lim' Y) (fn := 24) (rid := 5) (b := zar 5 zab.c) (by kernel_rfl) _).trans ?_
 delta zab.L5 zaH zab.q5 zbq zab.P11 zab.x5 XX
 refine zbw [11] (by kernel_rfl) fun J e1 => ?_
 try simp only [← e1]
 clear e1
 generalize lpL (Y.ctx (lim' Y)) 24 = lp
 generalize lim' Y = call
 kernel_rfl
theorem zab.a5q5 (y0:LLD) (y1 y2:Bool) (y3:Int) (y4:BAy) (y5 y6:LLD) (y7:Bool) (y8:Int) (y9:BAy) (y10 y11:LLD) : zab.A5 (zab.q5 y0 y1 y2 y3 y4 y5 y6 y7 y8 y9 y10 y11) = some ⟨[.v (.bool y2), .v (.int .i64 y3), .v (.string y4), .o .deep y5, .o .deep y6, .v (.bool y1)], []⟩ := by
 delta zab.A5 zab.q5 XX
 refine zbh [2, 3] 5 (by kernel_rfl) fun J e1 => ?_
 have eA := evA_J [2, 3] 5 (by kernel_rfl) e1
 try simp only [eA]
 clear eA
 try simp only [← e1]
 clear e1
 show _ = _
 generalize lpL (Y.ctx (lim' Y)) 24 = lp
 generalize lim' Y = call
 kernel_rfl
theorem zab.p11 (y0:LLD) (y1:Int) (y2 y3:Bool) (y4:Int) (y5:BAy) (y6 y7:LLD) (y8:Bool) (y9:Int) (y10:BAy) (y11 y12:LLD) (y13:Bool) (y14:Int) (y15:BAy) (y16 y17:LLD) : zab.P11 y0 y1 y2 y3 y4 y5 y6 y7 y8 y9 y10 y11 y12 y13 y14 y15 y16 y17 = bif !y2 then some (zab.q5b y0 false false 0 (ByteArray.mk #[]) [] [] y8 y9 y10 y11 y12) else zab.L5b y0 (IntKind.i64.wrap (y1 + 1)) y3 y4 y5 y6 y7 y13 y14 y15 y16 y17 := by
 delta zab.P11 zab.q5b zab.L5b XX
 refine zbk [11] 11 (by kernel_rfl) fun J e1 => ?_
 try simp only [← e1]
 clear e1
 generalize lpL (Y.ctx (lim' Y)) 24 = lp
 generalize lim' Y = call
 kernel_rfl
theorem zab.a5x5 (y0:LLD) (y1:Bool) (y2:Int) (y3:BAy) (y4 y5:LLD) (y6:Bool) (y7:Int) (y8:BAy) (y9 y10:LLD) : zab.A5 (zab.x5 y0 y1 y2 y3 y4 y5 y6 y7 y8 y9 y10) = (zbx [.g [.v (.bool y6), .v (.int .i64 y7), .v (.string y8), .s y9, .s y10]] []).bind fun val => bif zag [.own .deep] val.1 && true then bif (↑(val.1.getD 0 .d).es.length : Int) != (↑y0.length : Int) then some ⟨[.v (.bool false), .v (.int .i64 0), .v (.string (ByteArray.mk #[])), .o .deep [], .o .deep [], .v (.bool false)], []⟩ else (zab.L18 y0 0 y1 y2 y3 y4 y5 y6 y7 y8 y9 y10 (val.1.getD 0 .d).es).bind zab.A18 else none := by
 delta zab.A5 zab.x5 zbx zab.L18 zab.A18 XX
 refine zbh [2, 3] 5 (by kernel_rfl) fun J e1 => ?_
 have eA := evA_J [2, 3] 5 (by kernel_rfl) e1
 try simp only [eA]
 clear eA
 have eA := evA_J [2, 3] 18 (by kernel_rfl) e1
 try simp only [eA]
 clear eA
 try simp only [← e1]
 clear e1
 show _ = _
 generalize lpL (Y.ctx (lim' Y)) 24 = lp
 generalize lim' Y = call
 kernel_rfl
theorem zab.a5q5b (y0:LLD) (y1 y2:Bool) (y3:Int) (y4:BAy) (y5 y6:LLD) (y7:Bool) (y8:Int) (y9:BAy) (y10 y11:LLD) : zab.A5 (zab.q5b y0 y1 y2 y3 y4 y5 y6 y7 y8 y9 y10 y11) = some ⟨[.v (.bool y2), .v (.int .i64 y3), .v (.string y4), .o .deep y5, .o .deep y6, .v (.bool y1)], []⟩ := by
 delta zab.A5 zab.q5b XX
 refine zbh [2, 3] 5 (by kernel_rfl) fun J e1 => ?_
 have eA := evA_J [2, 3] 5 (by kernel_rfl) e1
 try simp only [eA]
 clear eA
 try simp only [← e1]
 clear e1
 show _ = _
 generalize lpL (Y.ctx (lim' Y)) 24 = lp
 generalize lim' Y = call
 kernel_rfl
theorem zab.s5b (y0:LLD) (y1:Int) (y2:Bool) (y3:Int) (y4:BAy) (y5 y6:LLD) (y7:Bool) (y8:Int) (y9:BAy) (y10 y11:LLD) : zab.L5b y0 y1 y2 y3 y4 y5 y6 y7 y8 y9 y10 y11 = bif decide (y1 < (↑y0.length : Int)) then bif decide (0 ≤ y1) && decide (y1 < (↑y0.length : Int)) && decide ((y0.getD y1.toNat []).length = 5) then bif zas [.sl, .bool, .int .i64, .str, .int .i64] (y0.getD y1.toNat []) 0 && decide (5 ≤ (y0.getD y1.toNat []).length) then (zaH [.one (.s ((y0.getD y1.toNat []).getD 0 .h).es)] []).bind fun val => bif zag [.bool] val.1 && true then bif !(val.1.getD 0 .d).bool then some (zab.q5c y0 false false 0 (ByteArray.mk #[]) [] [] y7 y8 y9 y10 y11) else (zbq [.g [.v (.bool y7), .v (.int .i64 y8), .v (.string y9), .s y10, .s y11], .one (.s ((y0.getD y1.toNat []).getD 0 .h).es), .g [.v (.bool ((y0.getD y1.toNat []).getD 1 .h).bool), .v (.int .i64 ((y0.getD y1.toNat []).getD 2 .h).int), .v (.string ((y0.getD y1.toNat []).getD 3 .h).str), .s [], .s []]] []).bind fun val => bif zag [.bool, .int .i64, .str, .sh, .sh, .bool] val.1 && true then zab.P11b y0 y1 (val.1.getD 5 .d).bool y2 y3 y4 y5 y6 y7 y8 y9 y10 y11 (val.1.getD 0 .d).bool (val.1.getD 1 .d).int (val.1.getD 2 .d).str (val.1.getD 3 .d).es (val.1.getD 4 .d).es else none else none else none else none else some (zab.x5b y0 y2 y3 y4 y5 y6 y7 y8 y9 y10 y11) := by
 refine (zbi (Y := Y) (c := lim' Y) (fn := 24) (rid := 5) (b := zar 5 zab.c) (by kernel_rfl) _).trans ?_
 delta zab.L5b zaH zab.q5c zbq zab.P11b zab.x5b XX
 refine zbw [11] (by kernel_rfl) fun J e1 => ?_
 try simp only [← e1]
 clear e1
 generalize lpL (Y.ctx (lim' Y)) 24 = lp
 generalize lim' Y = call
 kernel_rfl
theorem zab.s18 (y0:LLD) (y1:Int) (y2:Bool) (y3:Int) (y4:BAy) (y5 y6:LLD) (y7:Bool) (y8:Int) (y9:BAy) (y10 y11 y12:LLD) : zab.L18 y0 y1 y2 y3 y4 y5 y6 y7 y8 y9 y10 y11 y12 = bif decide (y1 < (↑y0.length : Int)) then bif decide (0 ≤ y1) && decide (y1 < (↑y12.length : Int)) && decide ((y12.getD y1.toNat []).length = 5) then bif zas [.sl, .bool, .int .i64, .str, .int .i64] (y12.getD y1.toNat []) 0 && decide (5 ≤ (y12.getD y1.toNat []).length) then bif decide (0 ≤ y1) && decide (y1 < (↑y0.length : Int)) && decide ((y0.getD y1.toNat []).length = 5) then bif zas [.sl, .bool, .int .i64, .str, .int .i64] (y0.getD y1.toNat []) 0 && decide (5 ≤ (y0.getD y1.toNat []).length) then (zb5 [.g [.s ((y12.getD y1.toNat []).getD 0 .h).es, .v (.bool ((y12.getD y1.toNat []).getD 1 .h).bool), .v (.int .i64 ((y12.getD y1.toNat []).getD 2 .h).int), .v (.string ((y12.getD y1.toNat []).getD 3 .h).str), .v (.int .i64 ((y12.getD y1.toNat []).getD 4 .h).int)], .g [.s ((y0.getD y1.toNat []).getD 0 .h).es, .v (.bool ((y0.getD y1.toNat []).getD 1 .h).bool), .v (.int .i64 ((y0.getD y1.toNat []).getD 2 .h).int), .v (.string ((y0.getD y1.toNat []).getD 3 .h).str), .v (.int .i64 ((y0.getD y1.toNat []).getD 4 .h).int)]] []).bind fun val => bif zag [.bool] val.1 && true then bif !(val.1.getD 0 .d).bool then some (zab.q18 false false 0 (ByteArray.mk #[]) [] [] y7 y8 y9 y10 y11) else zab.L18 y0 (IntKind.i64.wrap (y1 + 1)) y2 y3 y4 y5 y6 y7 y8 y9 y10 y11 y12 else none else none else none else none else none else some (zab.x18 y2 y3 y4 y5 y6 y7 y8 y9 y10 y11) := by
 refine (zbi (Y := Y) (c := lim' Y) (fn := 24) (rid := 18) (b := zar 18 zab.c) (by kernel_rfl) _).trans ?_
 delta zab.L18 zb5 zab.q18 zab.x18 XX
 generalize lpL (Y.ctx (lim' Y)) 24 = lp
 generalize lim' Y = call
 kernel_rfl
theorem zab.a5q5c (y0:LLD) (y1 y2:Bool) (y3:Int) (y4:BAy) (y5 y6:LLD) (y7:Bool) (y8:Int) (y9:BAy) (y10 y11:LLD) : zab.A5 (zab.q5c y0 y1 y2 y3 y4 y5 y6 y7 y8 y9 y10 y11) = some ⟨[.v (.bool y2), .v (.int .i64 y3), .v (.string y4), .o .deep y5, .o .deep y6, .v (.bool y1)], []⟩ := by
 delta zab.A5 zab.q5c XX
 refine zbh [2, 3] 5 (by kernel_rfl) fun J e1 => ?_
 have eA := evA_J [2, 3] 5 (by kernel_rfl) e1
 try simp only [eA]
 clear eA
 try simp only [← e1]
 clear e1
 show _ = _
 generalize lpL (Y.ctx (lim' Y)) 24 = lp
 generalize lim' Y = call
 kernel_rfl
theorem zab.p11b (y0:LLD) (y1:Int) (y2 y3:Bool) (y4:Int) (y5:BAy) (y6 y7:LLD) (y8:Bool) (y9:Int) (y10:BAy) (y11 y12:LLD) (y13:Bool) (y14:Int) (y15:BAy) (y16 y17:LLD) : zab.P11b y0 y1 y2 y3 y4 y5 y6 y7 y8 y9 y10 y11 y12 y13 y14 y15 y16 y17 = bif !y2 then some (zab.q5c y0 false false 0 (ByteArray.mk #[]) [] [] y8 y9 y10 y11 y12) else zab.L5b y0 (IntKind.i64.wrap (y1 + 1)) y3 y4 y5 y6 y7 y13 y14 y15 y16 y17 := by
 delta zab.P11b zab.q5c zab.L5b XX
 refine zbk [11] 11 (by kernel_rfl) fun J e1 => ?_
 try simp only [← e1]
 clear e1
 generalize lpL (Y.ctx (lim' Y)) 24 = lp
 generalize lim' Y = call
 kernel_rfl
theorem zab.a5x5b (y0:LLD) (y1:Bool) (y2:Int) (y3:BAy) (y4 y5:LLD) (y6:Bool) (y7:Int) (y8:BAy) (y9 y10:LLD) : zab.A5 (zab.x5b y0 y1 y2 y3 y4 y5 y6 y7 y8 y9 y10) = (zbx [.g [.v (.bool y6), .v (.int .i64 y7), .v (.string y8), .s y9, .s y10]] []).bind fun val => bif zag [.own .deep] val.1 && true then bif (↑(val.1.getD 0 .d).es.length : Int) != (↑y0.length : Int) then some ⟨[.v (.bool false), .v (.int .i64 0), .v (.string (ByteArray.mk #[])), .o .deep [], .o .deep [], .v (.bool false)], []⟩ else (zab.L18b y0 0 y1 y2 y3 y4 y5 y6 y7 y8 y9 y10 (val.1.getD 0 .d).es).bind zab.A18 else none := by
 delta zab.A5 zab.x5b zbx zab.L18b zab.A18 XX
 refine zbh [2, 3] 5 (by kernel_rfl) fun J e1 => ?_
 have eA := evA_J [2, 3] 5 (by kernel_rfl) e1
 try simp only [eA]
 clear eA
 have eA := evA_J [2, 3] 18 (by kernel_rfl) e1
 try simp only [eA]
 clear eA
 try simp only [← e1]
 clear e1
 show _ = _
 generalize lpL (Y.ctx (lim' Y)) 24 = lp
 generalize lim' Y = call
 kernel_rfl
theorem zab.a18q18 (y0 y1:Bool) (y2:Int) (y3:BAy) (y4 y5:LLD) (y6:Bool) (y7:Int) (y8:BAy) (y9 y10:LLD) : zab.A18 (zab.q18 y0 y1 y2 y3 y4 y5 y6 y7 y8 y9 y10) = some ⟨[.v (.bool y1), .v (.int .i64 y2), .v (.string y3), .o .deep y4, .o .deep y5, .v (.bool y0)], []⟩ := by
 delta zab.A18 zab.q18 XX
 refine zbh [2, 3] 18 (by kernel_rfl) fun J e1 => ?_
 have eA := evA_J [2, 3] 18 (by kernel_rfl) e1
 try simp only [eA]
 clear eA
 try simp only [← e1]
 clear e1
 show _ = _
 generalize lpL (Y.ctx (lim' Y)) 24 = lp
 generalize lim' Y = call
 kernel_rfl
theorem zab.a18x18 (y0:Bool) (y1:Int) (y2:BAy) (y3 y4:LLD) (y5:Bool) (y6:Int) (y7:BAy) (y8 y9:LLD) : zab.A18 (zab.x18 y0 y1 y2 y3 y4 y5 y6 y7 y8 y9) = (zbb [.g [.v (.bool y5), .v (.int .i64 y6), .v (.string y7), .s y8, .s y9]] []).bind fun val => bif zag [.bool, .int .i64, .str, .own .deep, .own .deep] val.1 && true then some ⟨[.v (.bool (val.1.getD 0 .d).bool), .v (.int .i64 (val.1.getD 1 .d).int), .v (.string (val.1.getD 2 .d).str), .o .deep (val.1.getD 3 .d).es, .o .deep (val.1.getD 4 .d).es, .v (.bool true)], []⟩ else none := by
 delta zab.A18 zab.x18 zbb XX
 refine zbh [2, 3] 18 (by kernel_rfl) fun J e1 => ?_
 have eA := evA_J [2, 3] 18 (by kernel_rfl) e1
 try simp only [eA]
 clear eA
 try simp only [← e1]
 clear e1
 show _ = _
 generalize lpL (Y.ctx (lim' Y)) 24 = lp
 generalize lim' Y = call
 kernel_rfl
theorem zab.s18b (y0:LLD) (y1:Int) (y2:Bool) (y3:Int) (y4:BAy) (y5 y6:LLD) (y7:Bool) (y8:Int) (y9:BAy) (y10 y11 y12:LLD) : zab.L18b y0 y1 y2 y3 y4 y5 y6 y7 y8 y9 y10 y11 y12 = bif decide (y1 < (↑y0.length : Int)) then bif decide (0 ≤ y1) && decide (y1 < (↑y12.length : Int)) && decide ((y12.getD y1.toNat []).length = 5) then bif zas [.sl, .bool, .int .i64, .str, .int .i64] (y12.getD y1.toNat []) 0 && decide (5 ≤ (y12.getD y1.toNat []).length) then bif decide (0 ≤ y1) && decide (y1 < (↑y0.length : Int)) && decide ((y0.getD y1.toNat []).length = 5) then bif zas [.sl, .bool, .int .i64, .str, .int .i64] (y0.getD y1.toNat []) 0 && decide (5 ≤ (y0.getD y1.toNat []).length) then (zb5 [.g [.s ((y12.getD y1.toNat []).getD 0 .h).es, .v (.bool ((y12.getD y1.toNat []).getD 1 .h).bool), .v (.int .i64 ((y12.getD y1.toNat []).getD 2 .h).int), .v (.string ((y12.getD y1.toNat []).getD 3 .h).str), .v (.int .i64 ((y12.getD y1.toNat []).getD 4 .h).int)], .g [.s ((y0.getD y1.toNat []).getD 0 .h).es, .v (.bool ((y0.getD y1.toNat []).getD 1 .h).bool), .v (.int .i64 ((y0.getD y1.toNat []).getD 2 .h).int), .v (.string ((y0.getD y1.toNat []).getD 3 .h).str), .v (.int .i64 ((y0.getD y1.toNat []).getD 4 .h).int)]] []).bind fun val => bif zag [.bool] val.1 && true then bif !(val.1.getD 0 .d).bool then some (zab.q18b false false 0 (ByteArray.mk #[]) [] [] y7 y8 y9 y10 y11) else zab.L18b y0 (IntKind.i64.wrap (y1 + 1)) y2 y3 y4 y5 y6 y7 y8 y9 y10 y11 y12 else none else none else none else none else none else some (zab.x18b y2 y3 y4 y5 y6 y7 y8 y9 y10 y11) := by
 refine (zbi (Y := Y) (c := lim' Y) (fn := 24) (rid := 18) (b := zar 18 zab.c) (by kernel_rfl) _).trans ?_
 delta zab.L18b zb5 zab.q18b zab.x18b XX
 generalize lpL (Y.ctx (lim' Y)) 24 = lp
 generalize lim' Y = call
 kernel_rfl
theorem zab.a18q18b (y0 y1:Bool) (y2:Int) (y3:BAy) (y4 y5:LLD) (y6:Bool) (y7:Int) (y8:BAy) (y9 y10:LLD) : zab.A18 (zab.q18b y0 y1 y2 y3 y4 y5 y6 y7 y8 y9 y10) = some ⟨[.v (.bool y1), .v (.int .i64 y2), .v (.string y3), .o .deep y4, .o .deep y5, .v (.bool y0)], []⟩ := by
 delta zab.A18 zab.q18b XX
 refine zbh [2, 3] 18 (by kernel_rfl) fun J e1 => ?_
 have eA := evA_J [2, 3] 18 (by kernel_rfl) e1
 try simp only [eA]
 clear eA
 try simp only [← e1]
 clear e1
 show _ = _
 generalize lpL (Y.ctx (lim' Y)) 24 = lp
 generalize lim' Y = call
 kernel_rfl
theorem zab.a18x18b (y0:Bool) (y1:Int) (y2:BAy) (y3 y4:LLD) (y5:Bool) (y6:Int) (y7:BAy) (y8 y9:LLD) : zab.A18 (zab.x18b y0 y1 y2 y3 y4 y5 y6 y7 y8 y9) = (zbb [.g [.v (.bool y5), .v (.int .i64 y6), .v (.string y7), .s y8, .s y9]] []).bind fun val => bif zag [.bool, .int .i64, .str, .own .deep, .own .deep] val.1 && true then some ⟨[.v (.bool (val.1.getD 0 .d).bool), .v (.int .i64 (val.1.getD 1 .d).int), .v (.string (val.1.getD 2 .d).str), .o .deep (val.1.getD 3 .d).es, .o .deep (val.1.getD 4 .d).es, .v (.bool true)], []⟩ else none := by
 delta zab.A18 zab.x18b zbb XX
 refine zbh [2, 3] 18 (by kernel_rfl) fun J e1 => ?_
 have eA := evA_J [2, 3] 18 (by kernel_rfl) e1
 try simp only [eA]
 clear eA
 try simp only [← e1]
 clear e1
 show _ = _
 generalize lpL (Y.ctx (lim' Y)) 24 = lp
 generalize lim' Y = call
 kernel_rfl
noncomputable def zai.P5 (y0 y1:LLD) (y2 y3:Int) (y4:Bool) (y5:Int) (y6:BAy) (y7 y8:LLD) (y9:Bool) (y10:Int) (y11:BAy) (y12 y13:LLD) : Option Res := evB XX 25 (lpL XX 25) 5 zai.c (mkG 0 79 [(0, .one (.s y0)), (2, .one (.p true 2 [] 0)), (4, .one (.p true 4 [] 0)), (28, .one (.s y1)), (29, .one (.v (.int .i64 y2))), (30, .one (.v (.int .i64 y3)))] [(2, some ⟨.box, [.v (.bool y4), .v (.int .i64 y5), .v (.string y6), .s y7, .s y8], [.deep, .deep, .deep, .deep, .deep]⟩), (4, some ⟨.box, [.v (.bool y9), .v (.int .i64 y10), .v (.string y11), .s y12, .s y13], [.deep, .deep, .deep, .deep, .deep]⟩)] GL) (outE XX 25 Tryz.f25)
noncomputable def zai.L5 (y0 y1:LLD) (y2 y3:Int) (y4:Bool) (y5:Int) (y6:BAy) (y7 y8:LLD) (y9:Bool) (y10:Int) (y11:BAy) (y12 y13:LLD) : Option (Ex × St) := lpL XX 25 (zar 5 zai.c) (mkG 0 79 [(0, .one (.s y0)), (2, .one (.p true 2 [] 0)), (4, .one (.p true 4 [] 0)), (28, .one (.s y1)), (29, .one (.v (.int .i64 y2))), (30, .one (.v (.int .i64 y3)))] [(2, some ⟨.box, [.v (.bool y4), .v (.int .i64 y5), .v (.string y6), .s y7, .s y8], [.deep, .deep, .deep, .deep, .deep]⟩), (4, some ⟨.box, [.v (.bool y9), .v (.int .i64 y10), .v (.string y11), .s y12, .s y13], [.deep, .deep, .deep, .deep, .deep]⟩)] GL)
noncomputable def zai.A5 : Ex × St → Option Res := fun r => evA XX 25 (lpL XX 25) 5 zai.c r.fst r.snd (outE XX 25 Tryz.f25)
noncomputable def zai.q5 (y0:LLD) (y1 y2:Bool) (y3:Int) (y4:BAy) (y5 y6:LLD) (y7:Bool) (y8:Int) (y9:BAy) (y10 y11:LLD) : Ex × St := (Ex.ret, mkG 0 79 [(0, .one (.s y0)), (2, .one (.p true 2 [] 0)), (3, .one (.v (.bool y1))), (4, .one (.p true 4 [] 0))] [(2, some ⟨.box, [.v (.bool y2), .v (.int .i64 y3), .v (.string y4), .s y5, .s y6], [.deep, .deep, .deep, .deep, .deep]⟩), (4, some ⟨.box, [.v (.bool y7), .v (.int .i64 y8), .v (.string y9), .s y10, .s y11], [.deep, .deep, .deep, .deep, .deep]⟩)] GL)
noncomputable def zai.P11 (y0:LLD) (y1:Int) (y2:Bool) (y3:LLD) (y4 y5:Int) (y6:Bool) (y7:Int) (y8:BAy) (y9 y10:LLD) (y11:Bool) (y12:Int) (y13:BAy) (y14 y15 y16:LLD) (y17:Bool) (y18:Int) (y19:BAy) (y20:Int) : Option (Ex × St) := evB XX 25 (lpL XX 25) 11 (zar 5 zai.c) (mkG 0 79 [(0, .one (.s y0)), (2, .one (.p true 2 [] 0)), (4, .one (.p true 4 [] 0)), (6, .one (.p true 6 [] 0)), (7, .one (.v (.int .i64 y1))), (8, .one (.p y2 4 [] 0)), (28, .one (.s y3)), (29, .one (.v (.int .i64 y4))), (30, .one (.v (.int .i64 y5)))] [(2, some ⟨.box, [.v (.bool y6), .v (.int .i64 y7), .v (.string y8), .s y9, .s y10], [.deep, .deep, .deep, .deep, .deep]⟩), (4, some ⟨.box, [.v (.bool y11), .v (.int .i64 y12), .v (.string y13), .s y14, .s y15], [.deep, .deep, .deep, .deep, .deep]⟩), (6, some ⟨.box, [.s y16, .v (.bool y17), .v (.int .i64 y18), .v (.string y19), .v (.int .i64 y20)], [.sh, .deep, .deep, .deep, .deep]⟩)] GL) (backL (lpL XX 25) (zar 5 zai.c) (XX.live 25 5))
noncomputable def zai.P11b (y0:LLD) (y1:Int) (y2:Bool) (y3:Nat) (y4:List (Nat × Nat)) (y5:LLD) (y6 y7:Int) (y8:Bool) (y9:Int) (y10:BAy) (y11 y12:LLD) (y13:Bool) (y14:Int) (y15:BAy) (y16 y17 y18:LLD) (y19:Bool) (y20:Int) (y21:BAy) (y22:Int) : Option (Ex × St) := evB XX 25 (lpL XX 25) 11 (zar 5 zai.c) (mkG 0 79 [(0, .one (.s y0)), (2, .one (.p true 2 [] 0)), (4, .one (.p true 4 [] 0)), (6, .one (.p true 6 [] 0)), (7, .one (.v (.int .i64 y1))), (8, .one (.p y2 4 ((4, y3) :: y4) 0)), (28, .one (.s y5)), (29, .one (.v (.int .i64 y6))), (30, .one (.v (.int .i64 y7)))] [(2, some ⟨.box, [.v (.bool y8), .v (.int .i64 y9), .v (.string y10), .s y11, .s y12], [.deep, .deep, .deep, .deep, .deep]⟩), (4, some ⟨.box, [.v (.bool y13), .v (.int .i64 y14), .v (.string y15), .s y16, .s y17], [.deep, .deep, .deep, .deep, .deep]⟩), (6, some ⟨.box, [.s y18, .v (.bool y19), .v (.int .i64 y20), .v (.string y21), .v (.int .i64 y22)], [.sh, .deep, .deep, .deep, .deep]⟩)] GL) (backL (lpL XX 25) (zar 5 zai.c) (XX.live 25 5))
noncomputable def zai.x5 (y0:LLD) (y1:Bool) (y2:Int) (y3:BAy) (y4 y5:LLD) (y6:Bool) (y7:Int) (y8:BAy) (y9 y10:LLD) : Ex × St := (Ex.exit 0, mkG 0 79 [(0, .one (.s y0)), (2, .one (.p true 2 [] 0)), (4, .one (.p true 4 [] 0))] [(2, some ⟨.box, [.v (.bool y1), .v (.int .i64 y2), .v (.string y3), .s y4, .s y5], [.deep, .deep, .deep, .deep, .deep]⟩), (4, some ⟨.box, [.v (.bool y6), .v (.int .i64 y7), .v (.string y8), .s y9, .s y10], [.deep, .deep, .deep, .deep, .deep]⟩)] GL)
noncomputable def zai.P16 (y0 y1:Bool) (y2:Int) (y3:BAy) (y4 y5:LLD) (y6:Bool) (y7:Int) (y8:BAy) (y9 y10:LLD) : Option Res := evB XX 25 (lpL XX 25) 16 zai.c (mkG 0 79 [(2, .one (.p true 2 [] 0)), (4, .one (.p true 4 [] 0)), (75, .one (.v (.bool y0)))] [(2, some ⟨.box, [.v (.bool y1), .v (.int .i64 y2), .v (.string y3), .s y4, .s y5], [.deep, .deep, .deep, .deep, .deep]⟩), (4, some ⟨.box, [.v (.bool y6), .v (.int .i64 y7), .v (.string y8), .s y9, .s y10], [.deep, .deep, .deep, .deep, .deep]⟩)] GL) (outE XX 25 Tryz.f25)
noncomputable def zai.P17 (y0:Bool) (y1:Int) (y2:BAy) (y3 y4:LLD) (y5:Bool) (y6:Int) (y7:BAy) (y8 y9:LLD) : Option Res := evB XX 25 (lpL XX 25) 17 zai.c (mkG 0 79 [(2, .one (.p true 2 [] 0)), (4, .one (.p true 4 [] 0))] [(2, some ⟨.box, [.v (.bool y0), .v (.int .i64 y1), .v (.string y2), .s y3, .s y4], [.deep, .deep, .deep, .deep, .deep]⟩), (4, some ⟨.box, [.v (.bool y5), .v (.int .i64 y6), .v (.string y7), .s y8, .s y9], [.deep, .deep, .deep, .deep, .deep]⟩)] GL) (outE XX 25 Tryz.f25)
theorem zai.e (a0:LLD) : zai [.one (.s a0)] [] = (zb8 [.one (.v (.int .i64 (↑a0.length : Int))), .one (.v (.int .i64 1)), .one (.v (.int .i64 31))] []).bind fun val => bif zag [.bool] val.1 && true then bif !(val.1.getD 0 .d).bool then some ⟨[.v (.bool false), .v (.int .i64 0), .v (.string (ByteArray.mk #[])), .o .deep [], .o .deep [], .v (.bool false)], []⟩ else bif decide (0 < (↑a0.length : Int)) && decide ((a0.getD 0 []).length = 5) then bif zas [.bool] (a0.getD 0 []) 1 && decide (2 ≤ (a0.getD 0 []).length) then bif decide (0 < (↑a0.length : Int)) && decide ((a0.getD 0 []).length = 5) then bif zas [.int .i64] (a0.getD 0 []) 2 && decide (3 ≤ (a0.getD 0 []).length) then bif decide (0 < (↑a0.length : Int)) && decide ((a0.getD 0 []).length = 5) then bif zas [.str] (a0.getD 0 []) 3 && decide (4 ≤ (a0.getD 0 []).length) then bif decide ((some 1).getD 0 ≤ (↑a0.length : Int)) && decide ((↑a0.length : Int) ≤ (↑a0.length : Int)) && (false || decide ((a0.getD 0 []).length = 5)) then zai.P5 a0 (List.drop 1 (List.take (↑a0.length : Int).toNat a0)) (↑(List.drop 1 (List.take (↑a0.length : Int).toNat a0)).length : Int) 0 false 0 (ByteArray.mk #[]) [] [] ((a0.getD 0 []).getD 1 .h).bool ((a0.getD 0 []).getD 2 .h).int ((a0.getD 0 []).getD 3 .h).str [] [] else none else none else none else none else none else none else none else none := by
 refine (zai.run _ _ (by kernel_rfl)).trans ?_
 delta zai zb8 zai.P5 XX
 refine zbw [5, 16, 17] (by kernel_rfl) fun J e1 => ?_
 try simp only [← e1]
 clear e1
 generalize lpL (Y.ctx (lim' Y)) 25 = lp
 generalize lim' Y = call
 kernel_rfl
theorem zai.p5 (y0 y1:LLD) (y2 y3:Int) (y4:Bool) (y5:Int) (y6:BAy) (y7 y8:LLD) (y9:Bool) (y10:Int) (y11:BAy) (y12 y13:LLD) : zai.P5 y0 y1 y2 y3 y4 y5 y6 y7 y8 y9 y10 y11 y12 y13 = (zai.L5 y0 y1 y2 y3 y4 y5 y6 y7 y8 y9 y10 y11 y12 y13).bind zai.A5 := by
 delta zai.P5 zai.L5 zai.A5 XX
 refine zbk [5, 16, 17] 5 (by kernel_rfl) fun J e1 => ?_
 have eA := evA_J [5, 16, 17] 5 (by kernel_rfl) e1
 try simp only [eA]
 clear eA
 try simp only [← e1]
 clear e1
 show _ = _
 generalize lpL (Y.ctx (lim' Y)) 25 = lp
 generalize lim' Y = call
 kernel_rfl
theorem zai.s5 (y0 y1:LLD) (y2 y3:Int) (y4:Bool) (y5:Int) (y6:BAy) (y7 y8:LLD) (y9:Bool) (y10:Int) (y11:BAy) (y12 y13:LLD) : zai.L5 y0 y1 y2 y3 y4 y5 y6 y7 y8 y9 y10 y11 y12 y13 = bif decide (y3 < y2) then bif decide (0 ≤ y3) && decide (y3 < (↑y1.length : Int)) && decide ((y1.getD y3.toNat []).length = 5) then bif zas [.sl, .bool, .int .i64, .str, .int .i64] (y1.getD y3.toNat []) 0 && decide (5 ≤ (y1.getD y3.toNat []).length) then bif (↑((y1.getD y3.toNat []).getD 0 .h).es.length : Int) == 0 then some (zai.q5 y0 false false 0 (ByteArray.mk #[]) [] [] y9 y10 y11 y12 y13) else bif decide (none.getD 0 ≤ IntKind.i64.wrap ((↑((y1.getD y3.toNat []).getD 0 .h).es.length : Int) - 1)) && decide (IntKind.i64.wrap ((↑((y1.getD y3.toNat []).getD 0 .h).es.length : Int) - 1) ≤ (↑((y1.getD y3.toNat []).getD 0 .h).es.length : Int)) && true then (zal [.one (.p true 0 [] 0), .one (.s (List.drop 0 (List.take (IntKind.i64.wrap ((↑((y1.getD y3.toNat []).getD 0 .h).es.length : Int) - 1)).toNat ((y1.getD y3.toNat []).getD 0 .h).es)))] [⟨.ro, [.v (.bool y9), .v (.int .i64 y10), .v (.string y11), .s y12, .s y13], [.sh, .sh, .sh, .sh, .sh]⟩]).bind fun val => bif zag [.ptr 0] val.1 && true then bif List.isEmpty (val.1.getD 0 .d).path then zai.P11 y0 (IntKind.i64.wrap ((↑((y1.getD y3.toNat []).getD 0 .h).es.length : Int) - 1)) (val.1.getD 0 .d).ok y1 y2 y3 y4 y5 y6 y7 y8 y9 y10 y11 y12 y13 ((y1.getD y3.toNat []).getD 0 .h).es ((y1.getD y3.toNat []).getD 1 .h).bool ((y1.getD y3.toNat []).getD 2 .h).int ((y1.getD y3.toNat []).getD 3 .h).str ((y1.getD y3.toNat []).getD 4 .h).int else zai.P11b y0 (IntKind.i64.wrap ((↑((y1.getD y3.toNat []).getD 0 .h).es.length : Int) - 1)) (val.1.getD 0 .d).ok (List.headD (val.1.getD 0 .d).path (0, 0)).2 (List.tail (val.1.getD 0 .d).path) y1 y2 y3 y4 y5 y6 y7 y8 y9 y10 y11 y12 y13 ((y1.getD y3.toNat []).getD 0 .h).es ((y1.getD y3.toNat []).getD 1 .h).bool ((y1.getD y3.toNat []).getD 2 .h).int ((y1.getD y3.toNat []).getD 3 .h).str ((y1.getD y3.toNat []).getD 4 .h).int else none else none else none else none else some (zai.x5 y0 y4 y5 y6 y7 y8 y9 y10 y11 y12 y13) := by
 refine (zbi (Y := Y) (c := lim' Y) (fn := 25) (rid := 5) (b := zar 5 zai.c) (by kernel_rfl) _).trans ?_
 delta zai.L5 zai.q5 zal zai.P11 zai.P11b zai.x5 XX
 refine zbw [11] (by kernel_rfl) fun J e1 => ?_
 try simp only [← e1]
 clear e1
 generalize lpL (Y.ctx (lim' Y)) 25 = lp
 generalize lim' Y = call
 kernel_rfl
theorem zai.a5q5 (y0:LLD) (y1 y2:Bool) (y3:Int) (y4:BAy) (y5 y6:LLD) (y7:Bool) (y8:Int) (y9:BAy) (y10 y11:LLD) : zai.A5 (zai.q5 y0 y1 y2 y3 y4 y5 y6 y7 y8 y9 y10 y11) = some ⟨[.v (.bool y2), .v (.int .i64 y3), .v (.string y4), .o .deep y5, .o .deep y6, .v (.bool y1)], []⟩ := by
 delta zai.A5 zai.q5 XX
 refine zbh [5, 16, 17] 5 (by kernel_rfl) fun J e1 => ?_
 have eA := evA_J [5, 16, 17] 5 (by kernel_rfl) e1
 try simp only [eA]
 clear eA
 try simp only [← e1]
 clear e1
 show _ = _
 generalize lpL (Y.ctx (lim' Y)) 25 = lp
 generalize lim' Y = call
 kernel_rfl
theorem zai.p11 (y0:LLD) (y1:Int) (y2:Bool) (y3:LLD) (y4 y5:Int) (y6:Bool) (y7:Int) (y8:BAy) (y9 y10:LLD) (y11:Bool) (y12:Int) (y13:BAy) (y14 y15 y16:LLD) (y17:Bool) (y18:Int) (y19:BAy) (y20:Int) : zai.P11 y0 y1 y2 y3 y4 y5 y6 y7 y8 y9 y10 y11 y12 y13 y14 y15 y16 y17 y18 y19 y20 = bif !y2 then some (zai.q5 y0 false false 0 (ByteArray.mk #[]) [] [] y11 y12 y13 y14 y15) else bif decide (0 ≤ y1) && decide (y1 < (↑y16.length : Int)) && decide ((y16.getD y1.toNat []).length = 1) then bif zas [.str] (y16.getD y1.toNat []) 0 && decide (1 ≤ (y16.getD y1.toNat []).length) then (zbU [.one (.p y2 0 [] 0), .one (.v (.string ((y16.getD y1.toNat []).getD 0 .h).str)), .g [.v (.bool y17), .v (.int .i64 y18), .v (.string y19), .v (.slice none 0 0), .v (.slice none 0 0)]] [⟨.box, [.v (.bool y11), .v (.int .i64 y12), .v (.string y13), .s y14, .s y15], [.deep, .deep, .deep, .deep, .deep]⟩]).bind fun val => bif zag [] val.1 && zbd [⟨⟨.box, [.v (.bool y11), .v (.int .i64 y12), .v (.string y13), .s y14, .s y15], [.deep, .deep, .deep, .deep, .deep]⟩, .box 4⟩] val.2 then zai.L5 y0 y3 y4 (IntKind.i64.wrap (y5 + 1)) y6 y7 y8 y9 y10 ((val.2.getD 0 ⟨.ro, [], []⟩).2.getD 0 .h).bool ((val.2.getD 0 ⟨.ro, [], []⟩).2.getD 1 .h).int ((val.2.getD 0 ⟨.ro, [], []⟩).2.getD 2 .h).str ((val.2.getD 0 ⟨.ro, [], []⟩).2.getD 3 .h).es ((val.2.getD 0 ⟨.ro, [], []⟩).2.getD 4 .h).es else none else none else none := by
 delta zai.P11 zai.q5 zbU zai.L5 XX
 refine zbk [11] 11 (by kernel_rfl) fun J e1 => ?_
 try simp only [← e1]
 clear e1
 generalize lpL (Y.ctx (lim' Y)) 25 = lp
 generalize lim' Y = call
 kernel_rfl
theorem zai.p11b (y0:LLD) (y1:Int) (y2:Bool) (y3:Nat) (y4:List (Nat × Nat)) (y5:LLD) (y6 y7:Int) (y8:Bool) (y9:Int) (y10:BAy) (y11 y12:LLD) (y13:Bool) (y14:Int) (y15:BAy) (y16 y17 y18:LLD) (y19:Bool) (y20:Int) (y21:BAy) (y22:Int) : zai.P11b y0 y1 y2 y3 y4 y5 y6 y7 y8 y9 y10 y11 y12 y13 y14 y15 y16 y17 y18 y19 y20 y21 y22 = bif !y2 then some (zai.q5 y0 false false 0 (ByteArray.mk #[]) [] [] y13 y14 y15 y16 y17) else bif decide (0 ≤ y1) && decide (y1 < (↑y18.length : Int)) && decide ((y18.getD y1.toNat []).length = 1) then bif zas [.str] (y18.getD y1.toNat []) 0 && decide (1 ≤ (y18.getD y1.toNat []).length) then bif y2 && true && !(zak (y17.getD y3 []) y4).isEmpty then (zbU [.one (.p true 0 [] 0), .one (.v (.string ((y18.getD y1.toNat []).getD 0 .h).str)), .g [.v (.bool y19), .v (.int .i64 y20), .v (.string y21), .v (.slice none 0 0), .v (.slice none 0 0)]] [⟨.box, zak (y17.getD y3 []) y4, List.map (fun x => .deep) (zak (y17.getD y3 []) y4)⟩]).bind fun val => bif zag [] val.1 && zbd [⟨⟨.box, zak (y17.getD y3 []) y4, List.map (fun x => .deep) (zak (y17.getD y3 []) y4)⟩, .row 4 ((4, y3) :: y4)⟩] val.2 then zai.L5 y0 y5 y6 (IntKind.i64.wrap (y7 + 1)) y8 y9 y10 y11 y12 y13 y14 y15 y16 (y17.set y3 (zaw (y17.getD y3 []) y4 (List.map (fun x => zkH x.1 ((val.2.getD 0 ⟨.ro, [], []⟩).2.getD x.2 .h)) (zak (y17.getD y3 []) y4).zipIdx))) else none else none else none else none := by
 delta zai.P11b zai.q5 zbU zai.L5 XX
 refine zbk [11] 11 (by kernel_rfl) fun J e1 => ?_
 try simp only [← e1]
 clear e1
 generalize lpL (Y.ctx (lim' Y)) 25 = lp
 generalize lim' Y = call
 kernel_rfl
theorem zai.a5x5 (y0:LLD) (y1:Bool) (y2:Int) (y3:BAy) (y4 y5:LLD) (y6:Bool) (y7:Int) (y8:BAy) (y9 y10:LLD) : zai.A5 (zai.x5 y0 y1 y2 y3 y4 y5 y6 y7 y8 y9 y10) = (zcQ [.g [.v (.bool y6), .v (.int .i64 y7), .v (.string y8), .s y9, .s y10]] []).bind fun val => bif zag [.bool] val.1 && true then bif !(val.1.getD 0 .d).bool then zai.P16 true y1 y2 y3 y4 y5 y6 y7 y8 y9 y10 else (zby [.g [.v (.bool y6), .v (.int .i64 y7), .v (.string y8), .s y9, .s y10]] []).bind fun val => bif zag [.own .deep] val.1 && true then (zaa [.one (.s (val.1.getD 0 .d).es), .one (.s y0), .f zbD.id []] []).bind fun val => bif zag [.bool] val.1 && true then zai.P16 (!(val.1.getD 0 .d).bool) y1 y2 y3 y4 y5 y6 y7 y8 y9 y10 else none else none else none := by
 delta zai.A5 zai.x5 zcQ zai.P16 zby zaa zbD.id XX
 refine zbh [5, 16, 17] 5 (by kernel_rfl) fun J e1 => ?_
 have eA := evA_J [5, 16, 17] 5 (by kernel_rfl) e1
 try simp only [eA]
 clear eA
 try simp only [← e1]
 clear e1
 show _ = _
 generalize lpL (Y.ctx (lim' Y)) 25 = lp
 generalize lim' Y = call
 kernel_rfl
theorem zai.p16 (y0 y1:Bool) (y2:Int) (y3:BAy) (y4 y5:LLD) (y6:Bool) (y7:Int) (y8:BAy) (y9 y10:LLD) : zai.P16 y0 y1 y2 y3 y4 y5 y6 y7 y8 y9 y10 = bif y0 then some ⟨[.v (.bool false), .v (.int .i64 0), .v (.string (ByteArray.mk #[])), .o .deep [], .o .deep [], .v (.bool false)], []⟩ else zai.P17 y1 y2 y3 y4 y5 y6 y7 y8 y9 y10 := by
 delta zai.P16 zai.P17 XX
 refine zbk [5, 16, 17] 16 (by kernel_rfl) fun J e1 => ?_
 try simp only [← e1]
 clear e1
 generalize lpL (Y.ctx (lim' Y)) 25 = lp
 generalize lim' Y = call
 kernel_rfl
theorem zai.p17 (y0:Bool) (y1:Int) (y2:BAy) (y3 y4:LLD) (y5:Bool) (y6:Int) (y7:BAy) (y8 y9:LLD) : zai.P17 y0 y1 y2 y3 y4 y5 y6 y7 y8 y9 = (zaE [.g [.v (.bool y5), .v (.int .i64 y6), .v (.string y7), .s y8, .s y9]] []).bind fun val => bif zag [.bool, .int .i64, .str, .own .deep, .own .deep] val.1 && true then some ⟨[.v (.bool (val.1.getD 0 .d).bool), .v (.int .i64 (val.1.getD 1 .d).int), .v (.string (val.1.getD 2 .d).str), .o .deep (val.1.getD 3 .d).es, .o .deep (val.1.getD 4 .d).es, .v (.bool true)], []⟩ else none := by
 delta zai.P17 zaE XX
 refine zbk [5, 16, 17] 17 (by kernel_rfl) fun J e1 => ?_
 try simp only [← e1]
 clear e1
 generalize lpL (Y.ctx (lim' Y)) 25 = lp
 generalize lim' Y = call
 kernel_rfl
noncomputable def zaK.L2 (y0 y1:Int) (y2:LLD) : Option (Ex × St) := lpL XX 27 (zar 2 zaK.c) (mkG 1 51 [(0, .one (.r 0 [] 0)), (1, .one (.v (.int .i64 y0))), (5, .one (.v (.int .i64 y1)))] [(0, some ⟨.virt, [.s y2], [.deep]⟩)] GL)
noncomputable def zaK.A2 : Ex × St → Option Res := fun r => evA XX 27 (lpL XX 27) 2 zaK.c r.fst r.snd (outE XX 27 Tryz.f27)
noncomputable def zaK.P8 (y0 y1:Int) (y2:LLD) : Option (Ex × St) := evB XX 27 (lpL XX 27) 8 (zar 2 zaK.c) (mkG 1 51 [(0, .one (.r 0 [] 0)), (1, .one (.v (.int .i64 y0))), (5, .one (.v (.int .i64 y1)))] [(0, some ⟨.virt, [.s y2], [.deep]⟩)] GL) (backL (lpL XX 27) (zar 2 zaK.c) (XX.live 27 2))
noncomputable def zaK.x2 (y0:Int) (y1:LLD) : Ex × St := (Ex.exit 0, mkG 1 51 [(1, .one (.v (.int .i64 y0)))] [(0, some ⟨.virt, [.s y1], [.deep]⟩)] GL)
theorem zaK.e (a0:LLD) (a1:Int) : zaK [.one (.r 0 [] 0), .one (.v (.int .i64 a1))] [⟨.virt, [.s a0], [.deep]⟩] = (zaK.L2 a1 0 a0).bind zaK.A2 := by
 refine (zaK.run _ _ (by kernel_rfl)).trans ?_
 delta zaK zaK.L2 zaK.A2 XX
 generalize lpL (Y.ctx (lim' Y)) 27 = lp
 generalize lim' Y = call
 kernel_rfl
theorem zaK.s2 (y0 y1:Int) (y2:LLD) : zaK.L2 y0 y1 y2 = bif decide (y1 < (↑y2.length : Int)) then bif decide (0 ≤ y1) && decide (y1 < (↑y2.length : Int)) && decide ((y2.getD y1.toNat []).length = 5) then bif zas [.sl] (y2.getD y1.toNat []) 0 && decide (1 ≤ (y2.getD y1.toNat []).length) then (zap [.one (.r 0 [] 0), .one (.v (.int .i64 y0))] [⟨.virt, [.s ((y2.getD y1.toNat []).getD 0 .h).es], [.deep]⟩]).bind fun val => bif zag [.int .i64] val.1 && zbd [⟨⟨.virt, [.s ((y2.getD y1.toNat []).getD 0 .h).es], [.deep]⟩, .sl 0 [(0, y1.toNat)] 0⟩] val.2 then bif decide (0 ≤ y1) && decide (y1 < (↑(y2.set y1.toNat ((y2.getD y1.toNat []).set 0 (.s ((val.2.getD 0 ⟨.ro, [], []⟩).2.getD 0 .h).es))).length : Int)) && decide (((y2.set y1.toNat ((y2.getD y1.toNat []).set 0 (.s ((val.2.getD 0 ⟨.ro, [], []⟩).2.getD 0 .h).es))).getD y1.toNat []).length = 5) then bif decide (2 ≤ ((y2.set y1.toNat ((y2.getD y1.toNat []).set 0 (.s ((val.2.getD 0 ⟨.ro, [], []⟩).2.getD 0 .h).es))).getD y1.toNat []).length) && true then bif decide (0 ≤ y1) && decide (y1 < (↑((y2.set y1.toNat ((y2.getD y1.toNat []).set 0 (.s ((val.2.getD 0 ⟨.ro, [], []⟩).2.getD 0 .h).es))).set y1.toNat (List.take 1 ((y2.set y1.toNat ((y2.getD y1.toNat []).set 0 (.s ((val.2.getD 0 ⟨.ro, [], []⟩).2.getD 0 .h).es))).getD y1.toNat []) ++ [.v (.bool ((val.1.getD 0 .d).int.tmod 3 == 0))] ++ List.drop 2 ((y2.set y1.toNat ((y2.getD y1.toNat []).set 0 (.s ((val.2.getD 0 ⟨.ro, [], []⟩).2.getD 0 .h).es))).getD y1.toNat []))).length : Int)) && decide ((((y2.set y1.toNat ((y2.getD y1.toNat []).set 0 (.s ((val.2.getD 0 ⟨.ro, [], []⟩).2.getD 0 .h).es))).set y1.toNat (List.take 1 ((y2.set y1.toNat ((y2.getD y1.toNat []).set 0 (.s ((val.2.getD 0 ⟨.ro, [], []⟩).2.getD 0 .h).es))).getD y1.toNat []) ++ [.v (.bool ((val.1.getD 0 .d).int.tmod 3 == 0))] ++ List.drop 2 ((y2.set y1.toNat ((y2.getD y1.toNat []).set 0 (.s ((val.2.getD 0 ⟨.ro, [], []⟩).2.getD 0 .h).es))).getD y1.toNat []))).getD y1.toNat []).length = 5) then bif decide (3 ≤ (((y2.set y1.toNat ((y2.getD y1.toNat []).set 0 (.s ((val.2.getD 0 ⟨.ro, [], []⟩).2.getD 0 .h).es))).set y1.toNat (List.take 1 ((y2.set y1.toNat ((y2.getD y1.toNat []).set 0 (.s ((val.2.getD 0 ⟨.ro, [], []⟩).2.getD 0 .h).es))).getD y1.toNat []) ++ [.v (.bool ((val.1.getD 0 .d).int.tmod 3 == 0))] ++ List.drop 2 ((y2.set y1.toNat ((y2.getD y1.toNat []).set 0 (.s ((val.2.getD 0 ⟨.ro, [], []⟩).2.getD 0 .h).es))).getD y1.toNat []))).getD y1.toNat []).length) && true then zaK.P8 (IntKind.i64.wrap ((val.1.getD 0 .d).int + 1)) y1 (((y2.set y1.toNat ((y2.getD y1.toNat []).set 0 (.s ((val.2.getD 0 ⟨.ro, [], []⟩).2.getD 0 .h).es))).set y1.toNat (List.take 1 ((y2.set y1.toNat ((y2.getD y1.toNat []).set 0 (.s ((val.2.getD 0 ⟨.ro, [], []⟩).2.getD 0 .h).es))).getD y1.toNat []) ++ [.v (.bool ((val.1.getD 0 .d).int.tmod 3 == 0))] ++ List.drop 2 ((y2.set y1.toNat ((y2.getD y1.toNat []).set 0 (.s ((val.2.getD 0 ⟨.ro, [], []⟩).2.getD 0 .h).es))).getD y1.toNat []))).set y1.toNat (List.take 2 (((y2.set y1.toNat ((y2.getD y1.toNat []).set 0 (.s ((val.2.getD 0 ⟨.ro, [], []⟩).2.getD 0 .h).es))).set y1.toNat (List.take 1 ((y2.set y1.toNat ((y2.getD y1.toNat []).set 0 (.s ((val.2.getD 0 ⟨.ro, [], []⟩).2.getD 0 .h).es))).getD y1.toNat []) ++ [.v (.bool ((val.1.getD 0 .d).int.tmod 3 == 0))] ++ List.drop 2 ((y2.set y1.toNat ((y2.getD y1.toNat []).set 0 (.s ((val.2.getD 0 ⟨.ro, [], []⟩).2.getD 0 .h).es))).getD y1.toNat []))).getD y1.toNat []) ++ [.v (.int .i64 (IntKind.i64.wrap ((val.1.getD 0 .d).int + 1)))] ++ List.drop 3 (((y2.set y1.toNat ((y2.getD y1.toNat []).set 0 (.s ((val.2.getD 0 ⟨.ro, [], []⟩).2.getD 0 .h).es))).set y1.toNat (List.take 1 ((y2.set y1.toNat ((y2.getD y1.toNat []).set 0 (.s ((val.2.getD 0 ⟨.ro, [], []⟩).2.getD 0 .h).es))).getD y1.toNat []) ++ [.v (.bool ((val.1.getD 0 .d).int.tmod 3 == 0))] ++ List.drop 2 ((y2.set y1.toNat ((y2.getD y1.toNat []).set 0 (.s ((val.2.getD 0 ⟨.ro, [], []⟩).2.getD 0 .h).es))).getD y1.toNat []))).getD y1.toNat []))) else none else none else none else none else none else none else none else some (zaK.x2 y0 y2) := by
 refine (zbi (Y := Y) (c := lim' Y) (fn := 27) (rid := 2) (b := zar 2 zaK.c) (by kernel_rfl) _).trans ?_
 delta zaK.L2 zap zaK.P8 zaK.x2 XX
 refine zbw [8] (by kernel_rfl) fun J e1 => ?_
 try simp only [← e1]
 clear e1
 generalize lpL (Y.ctx (lim' Y)) 27 = lp
 generalize lim' Y = call
 kernel_rfl
theorem zaK.p8 (y0 y1:Int) (y2:LLD) : zaK.P8 y0 y1 y2 = (zaM [.one (.v (.int .i64 (IntKind.i64.wrap (y0 + 1))))] []).bind fun val => bif zag [.str] val.1 && true then bif decide (0 ≤ y1) && decide (y1 < (↑y2.length : Int)) && decide ((y2.getD y1.toNat []).length = 5) then bif decide (4 ≤ (y2.getD y1.toNat []).length) && true then bif decide (0 ≤ y1) && decide (y1 < (↑(y2.set y1.toNat (List.take 3 (y2.getD y1.toNat []) ++ [.v (.string (val.1.getD 0 .d).str)] ++ List.drop 4 (y2.getD y1.toNat []))).length : Int)) && decide (((y2.set y1.toNat (List.take 3 (y2.getD y1.toNat []) ++ [.v (.string (val.1.getD 0 .d).str)] ++ List.drop 4 (y2.getD y1.toNat []))).getD y1.toNat []).length = 5) then bif decide (5 ≤ ((y2.set y1.toNat (List.take 3 (y2.getD y1.toNat []) ++ [.v (.string (val.1.getD 0 .d).str)] ++ List.drop 4 (y2.getD y1.toNat []))).getD y1.toNat []).length) && true then zaK.L2 (IntKind.i64.wrap (IntKind.i64.wrap (IntKind.i64.wrap (y0 + 1) + 1) + 1)) (IntKind.i64.wrap (y1 + 1)) ((y2.set y1.toNat (List.take 3 (y2.getD y1.toNat []) ++ [.v (.string (val.1.getD 0 .d).str)] ++ List.drop 4 (y2.getD y1.toNat []))).set y1.toNat (List.take 4 ((y2.set y1.toNat (List.take 3 (y2.getD y1.toNat []) ++ [.v (.string (val.1.getD 0 .d).str)] ++ List.drop 4 (y2.getD y1.toNat []))).getD y1.toNat []) ++ [.v (.int .i64 (IntKind.i64.wrap (IntKind.i64.wrap (y0 + 1) + 1)))] ++ List.drop 5 ((y2.set y1.toNat (List.take 3 (y2.getD y1.toNat []) ++ [.v (.string (val.1.getD 0 .d).str)] ++ List.drop 4 (y2.getD y1.toNat []))).getD y1.toNat []))) else none else none else none else none else none := by
 delta zaK.P8 zaM zaK.L2 XX
 refine zbk [8] 8 (by kernel_rfl) fun J e1 => ?_
 try simp only [← e1]
 clear e1
 generalize lpL (Y.ctx (lim' Y)) 27 = lp
 generalize lim' Y = call
 kernel_rfl
theorem zaK.a2x2 (y0:Int) (y1:LLD) : zaK.A2 (zaK.x2 y0 y1) = some ⟨[.v (.int .i64 y0)], [⟨.virt, [.s y1], [.deep]⟩]⟩ := by
 delta zaK.A2 zaK.x2 XX
 generalize lpL (Y.ctx (lim' Y)) 27 = lp
 generalize lim' Y = call
 kernel_rfl
noncomputable def zaF.L4 (y0 y1:LLD) (y2 y3:Int) (y4:LLD) : Option (Ex × St) := lpL XX 30 (zar 4 zaF.c) (mkG 0 45 [(0, .one (.s y0)), (1, .one (.s y1)), (6, .one (.v (.int .i64 y2))), (7, .one (.r 7 [] 0)), (8, .one (.v (.int .i64 y3)))] [(7, some ⟨.virt, [.s y4], [.deep]⟩)] GL)
noncomputable def zaF.A4 : Ex × St → Option Res := fun r => evA XX 30 (lpL XX 30) 4 zaF.c r.fst r.snd (outE XX 30 Tryz.f30)
noncomputable def zaF.x4 (y0:LLD) : Ex × St := (Ex.exit 0, mkG 0 45 [(7, .one (.r 7 [] 0))] [(7, some ⟨.virt, [.s y0], [.deep]⟩)] GL)
theorem zaF.e (a0 a1:LLD) : zaF [.one (.s a0), .one (.s a1)] [] = (zaC [.one (.s a0), .one (.s a1)] []).bind fun val => bif zag [.int .i64, .int .i64] val.1 && true then (zaF.L4 a0 a1 (val.1.getD 1 .d).int (val.1.getD 0 .d).int []).bind zaF.A4 else none := by
 refine (zaF.run _ _ (by kernel_rfl)).trans ?_
 delta zaF zaC zaF.L4 zaF.A4 XX
 generalize lpL (Y.ctx (lim' Y)) 30 = lp
 generalize lim' Y = call
 kernel_rfl
theorem zaF.s4 (y0 y1:LLD) (y2 y3:Int) (y4:LLD) : zaF.L4 y0 y1 y2 y3 y4 = bif decide (y3 < y2) then bif decide (0 ≤ y3) && decide (y3 < (↑y0.length : Int)) && decide ((y0.getD y3.toNat []).length = 5) then bif zas [.sl] (y0.getD y3.toNat []) 0 && decide (1 ≤ (y0.getD y3.toNat []).length) then bif (↑((y0.getD y3.toNat []).getD 0 D.h).es.length : Int) == IntKind.i64.wrap ((↑y1.length : Int) + 1) then bif decide (0 ≤ y3) && decide (y3 < (↑y0.length : Int)) && decide ((y0.getD y3.toNat []).length = 5) then bif zas [.sl] (y0.getD y3.toNat []) 0 && decide (1 ≤ (y0.getD y3.toNat []).length) then bif decide ((↑y1.length : Int) < (↑((y0.getD y3.toNat []).getD 0 D.h).es.length : Int)) && decide ((((y0.getD y3.toNat []).getD 0 D.h).es.getD (↑y1.length : Int).toNat []).length = 1) then bif zas [.str] (((y0.getD y3.toNat []).getD 0 D.h).es.getD (↑y1.length : Int).toNat []) 0 && decide (1 ≤ (((y0.getD y3.toNat []).getD 0 D.h).es.getD (↑y1.length : Int).toNat []).length) then bif zaA 1 y4 && true && true && true && decide ((y4.length + 1) * 17 ≤ 70368744177664) then zaF.L4 y0 y1 y2 (IntKind.i64.wrap (y3 + 1)) (y4 ++ [[D.v (.string ((((y0.getD y3.toNat []).getD 0 D.h).es.getD (↑y1.length : Int).toNat []).getD 0 D.h).str)]]) else none else none else none else none else none else zaF.L4 y0 y1 y2 (IntKind.i64.wrap (y3 + 1)) y4 else none else none else some (zaF.x4 y4) := by
 refine (zbi (Y := Y) (c := lim' Y) (fn := 30) (rid := 4) (b := zar 4 zaF.c) (by kernel_rfl) _).trans ?_
 delta zaF.L4 zaF.x4 XX
 generalize lpL (Y.ctx (lim' Y)) 30 = lp
 generalize lim' Y = call
 kernel_rfl
theorem zaF.a4x4 (y0:LLD) : zaF.A4 (zaF.x4 y0) = some ⟨[.o .deep y0], []⟩ := by
 delta zaF.A4 zaF.x4 XX
 generalize lpL (Y.ctx (lim' Y)) 30 = lp
 generalize lim' Y = call
 kernel_rfl
noncomputable def zay.L4 (y0 y1:LLD) (y2 y3:Int) (y4:LLD) : Option (Ex × St) := lpL XX 31 (zar 4 zay.c) (mkG 0 44 [(1, .one (.s y0)), (5, .one (.r 5 [] 0)), (20, .one (.s y1)), (21, .one (.v (.int .i64 y2))), (22, .one (.v (.int .i64 y3)))] [(5, some ⟨.virt, [.s y4], [.deep]⟩)] GL)
noncomputable def zay.A4 : Ex × St → Option Res := fun r => evA XX 31 (lpL XX 31) 4 zay.c r.fst r.snd (outE XX 31 Tryz.f31)
noncomputable def zay.x4 (y0:LLD) : Ex × St := (Ex.exit 0, mkG 0 44 [(5, .one (.r 5 [] 0))] [(5, some ⟨.virt, [.s y0], [.deep]⟩)] GL)
theorem zay.e (a0 a1:LLD) : zay [.one (.s a0), .one (.s a1)] [] = (zaD [.one (.s a0), .one (.s a1)] []).bind fun val => bif zag [.int .i64, .int .i64] val.1 && true then bif decide (0 ≤ (val.1.getD 0 .d).int) && decide ((val.1.getD 0 .d).int ≤ (val.1.getD 1 .d).int) && decide ((val.1.getD 1 .d).int ≤ (↑a0.length : Int)) && (decide ((val.1.getD 0 .d).int = 0) || decide ((a0.getD 0 []).length = 5)) then (zay.L4 a1 (List.drop (val.1.getD 0 .d).int.toNat (List.take (val.1.getD 1 .d).int.toNat a0)) (↑(List.drop (val.1.getD 0 .d).int.toNat (List.take (val.1.getD 1 .d).int.toNat a0)).length : Int) 0 []).bind zay.A4 else none else none := by
 refine (zay.run _ _ (by kernel_rfl)).trans ?_
 delta zay zaD zay.L4 zay.A4 XX
 generalize lpL (Y.ctx (lim' Y)) 31 = lp
 generalize lim' Y = call
 kernel_rfl
theorem zay.s4 (y0 y1:LLD) (y2 y3:Int) (y4:LLD) : zay.L4 y0 y1 y2 y3 y4 = bif decide (y3 < y2) then bif decide (0 ≤ y3) && decide (y3 < (↑y1.length : Int)) && decide ((y1.getD y3.toNat []).length = 5) then bif zas [.sl, .bool, .int .i64, .str, .int .i64] (y1.getD y3.toNat []) 0 && decide (5 ≤ (y1.getD y3.toNat []).length) then bif (↑((y1.getD y3.toNat []).getD 0 D.h).es.length : Int) == IntKind.i64.wrap ((↑y0.length : Int) + 1) then bif decide ((↑y0.length : Int) < (↑((y1.getD y3.toNat []).getD 0 D.h).es.length : Int)) && decide ((((y1.getD y3.toNat []).getD 0 D.h).es.getD (↑y0.length : Int).toNat []).length = 1) then bif zas [.str] (((y1.getD y3.toNat []).getD 0 D.h).es.getD (↑y0.length : Int).toNat []) 0 && decide (1 ≤ (((y1.getD y3.toNat []).getD 0 D.h).es.getD (↑y0.length : Int).toNat []).length) then bif zaA 1 y4 && true && true && true && decide ((y4.length + 1) * 17 ≤ 70368744177664) then zay.L4 y0 y1 y2 (IntKind.i64.wrap (y3 + 1)) (y4 ++ [[D.v (.string ((((y1.getD y3.toNat []).getD 0 D.h).es.getD (↑y0.length : Int).toNat []).getD 0 D.h).str)]]) else none else none else none else zay.L4 y0 y1 y2 (IntKind.i64.wrap (y3 + 1)) y4 else none else none else some (zay.x4 y4) := by
 refine (zbi (Y := Y) (c := lim' Y) (fn := 31) (rid := 4) (b := zar 4 zay.c) (by kernel_rfl) _).trans ?_
 delta zay.L4 zay.x4 XX
 generalize lpL (Y.ctx (lim' Y)) 31 = lp
 generalize lim' Y = call
 kernel_rfl
theorem zay.a4x4 (y0:LLD) : zay.A4 (zay.x4 y0) = some ⟨[.o .deep y0], []⟩ := by
 delta zay.A4 zay.x4 XX
 generalize lpL (Y.ctx (lim' Y)) 31 = lp
 generalize lim' Y = call
 kernel_rfl
noncomputable def zap.L2 (y0 y1:Int) (y2:LLD) : Option (Ex × St) := lpL XX 32 (zar 2 zap.c) (mkG 1 20 [(0, .one (.r 0 [] 0)), (1, .one (.v (.int .i64 y0))), (5, .one (.v (.int .i64 y1)))] [(0, some ⟨.virt, [.s y2], [.deep]⟩)] GL)
noncomputable def zap.A2 : Ex × St → Option Res := fun r => evA XX 32 (lpL XX 32) 2 zap.c r.fst r.snd (outE XX 32 Tryz.f32)
noncomputable def zap.x2 (y0:Int) (y1:LLD) : Ex × St := (Ex.exit 0, mkG 1 20 [(1, .one (.v (.int .i64 y0)))] [(0, some ⟨.virt, [.s y1], [.deep]⟩)] GL)
theorem zap.e (a0:LLD) (a1:Int) : zap [.one (.r 0 [] 0), .one (.v (.int .i64 a1))] [⟨.virt, [.s a0], [.deep]⟩] = (zap.L2 a1 0 a0).bind zap.A2 := by
 refine (zap.run _ _ (by kernel_rfl)).trans ?_
 delta zap zap.L2 zap.A2 XX
 generalize lpL (Y.ctx (lim' Y)) 32 = lp
 generalize lim' Y = call
 kernel_rfl
theorem zap.s2 (y0 y1:Int) (y2:LLD) : zap.L2 y0 y1 y2 = bif decide (y1 < (↑y2.length : Int)) then (zaM [.one (.v (.int .i64 y0))] []).bind fun val => bif zag [.str] val.1 && true then bif decide (0 ≤ y1) && decide (y1 < (↑y2.length : Int)) && decide ((y2.getD y1.toNat []).length = 1) then bif decide (1 ≤ (y2.getD y1.toNat []).length) && true then zap.L2 (IntKind.i64.wrap (y0 + 1)) (IntKind.i64.wrap (y1 + 1)) (y2.set y1.toNat (.v (.string (val.1.getD 0 .d).str) :: List.drop 1 (y2.getD y1.toNat []))) else none else none else none else some (zap.x2 y0 y2) := by
 refine (zbi (Y := Y) (c := lim' Y) (fn := 32) (rid := 2) (b := zar 2 zap.c) (by kernel_rfl) _).trans ?_
 delta zap.L2 zaM zap.x2 XX
 generalize lpL (Y.ctx (lim' Y)) 32 = lp
 generalize lim' Y = call
 kernel_rfl
theorem zap.a2x2 (y0:Int) (y1:LLD) : zap.A2 (zap.x2 y0 y1) = some ⟨[.v (.int .i64 y0)], [⟨.virt, [.s y1], [.deep]⟩]⟩ := by
 delta zap.A2 zap.x2 XX
 generalize lpL (Y.ctx (lim' Y)) 32 = lp
 generalize lim' Y = call
 kernel_rfl
noncomputable def zao.L2 (y0:LLD) (y1 y2:Int) : Option (Ex × St) := lpL XX 33 (zar 2 zao.c) (mkG 0 22 [(0, .one (.s y0)), (1, .one (.v (.int .i64 y1))), (5, .one (.v (.int .i64 y2)))] [] GL)
noncomputable def zao.A2 : Ex × St → Option Res := fun r => evA XX 33 (lpL XX 33) 2 zao.c r.fst r.snd (outE XX 33 Tryz.f33)
noncomputable def zao.q2 (y0 y1:Int) : Ex × St := (Ex.ret, mkG 0 22 [(1, .one (.v (.int .i64 y0))), (4, .one (.v (.int .i64 y1)))] [] GL)
noncomputable def zao.x2 (y0:Int) : Ex × St := (Ex.exit 0, mkG 0 22 [(1, .one (.v (.int .i64 y0)))] [] GL)
theorem zao.e (a0:LLD) (a1:Int) : zao [.one (.s a0), .one (.v (.int .i64 a1))] [] = (zao.L2 a0 a1 0).bind zao.A2 := by
 refine (zao.run _ _ (by kernel_rfl)).trans ?_
 delta zao zao.L2 zao.A2 XX
 generalize lpL (Y.ctx (lim' Y)) 33 = lp
 generalize lim' Y = call
 kernel_rfl
theorem zao.s2 (y0:LLD) (y1 y2:Int) : zao.L2 y0 y1 y2 = bif decide (y2 < (↑y0.length : Int)) then bif decide (0 ≤ y2) && decide (y2 < (↑y0.length : Int)) && decide ((y0.getD y2.toNat []).length = 1) then bif zas [.str] (y0.getD y2.toNat []) 0 && decide (1 ≤ (y0.getD y2.toNat []).length) then (zaM [.one (.v (.int .i64 y1))] []).bind fun val => bif zag [.str] val.1 && true then bif !((y0.getD y2.toNat []).getD 0 .h).str.toList == (val.1.getD 0 .d).str.toList then some (zao.q2 y1 (-1)) else zao.L2 y0 (IntKind.i64.wrap (y1 + 1)) (IntKind.i64.wrap (y2 + 1)) else none else none else none else some (zao.x2 y1) := by
 refine (zbi (Y := Y) (c := lim' Y) (fn := 33) (rid := 2) (b := zar 2 zao.c) (by kernel_rfl) _).trans ?_
 delta zao.L2 zaM zao.q2 zao.x2 XX
 generalize lpL (Y.ctx (lim' Y)) 33 = lp
 generalize lim' Y = call
 kernel_rfl
theorem zao.a2x2 (y0:Int) : zao.A2 (zao.x2 y0) = some ⟨[.v (.int .i64 y0)], []⟩ := by
 delta zao.A2 zao.x2 XX
 generalize lpL (Y.ctx (lim' Y)) 33 = lp
 generalize lim' Y = call
 kernel_rfl
theorem zdg.e (a0:LLD) (a1:Bool) (a2:Int) (a3:BAy) (a4 a5:Int) : zdg [.g [.s a0, .v (.bool a1), .v (.int .i64 a2), .v (.string a3), .v (.int .i64 a4)], .one (.v (.int .i64 a5))] [] = (zat [.one (.s a0), .one (.v (.int .i64 a5))] []).bind fun val => bif zag [.int .i64] val.1 && true then bif decide ((val.1.getD 0 .d).int < 0) then some ⟨[.v (.int .i64 (-1))], []⟩ else bif decide (IntKind.i64.wrap ((val.1.getD 0 .d).int - (↑a3.size : Int)) < 0) then some ⟨[.v (.int .i64 (-1))], []⟩ else some ⟨[.v (.int .i64 (IntKind.i64.wrap ((val.1.getD 0 .d).int - (↑a3.size : Int))))], []⟩ else none := by
 refine (zdg.run _ _ (by kernel_rfl)).trans ?_
 delta zdg zat XX
 generalize lpL (Y.ctx (lim' Y)) 58 = lp
 generalize lim' Y = call
 kernel_rfl
noncomputable def zaI.L2 (y0 y1:LLD) (y2:Int) : Option (Ex × St) := lpL XX 59 (zar 2 zaI.c) (mkG 0 41 [(0, .one (.s y0)), (1, .one (.s y1)), (5, .one (.v (.int .i64 y2)))] [] GL)
noncomputable def zaI.A2 : Ex × St → Option Res := fun r => evA XX 59 (lpL XX 59) 2 zaI.c r.fst r.snd (outE XX 59 Tryz.f59)
noncomputable def zaI.P4 (y0 y1:LLD) (y2:Int) : Option (Ex × St) := evB XX 59 (lpL XX 59) 4 (zar 2 zaI.c) (mkG 0 41 [(0, .one (.s y0)), (1, .one (.s y1)), (5, .one (.v (.int .i64 y2)))] [] GL) (backL (lpL XX 59) (zar 2 zaI.c) (XX.live 59 2))
noncomputable def zaI.x2 (y0 y1:LLD) : Ex × St := (Ex.exit 0, mkG 0 41 [(0, .one (.s y0)), (1, .one (.s y1))] [] GL)
noncomputable def zaI.q2 (y0 y1:LLD) (y2:Bool) : Ex × St := (Ex.ret, mkG 0 41 [(0, .one (.s y0)), (1, .one (.s y1)), (4, .one (.v (.bool y2)))] [] GL)
theorem zaI.e (a0 a1:LLD) : zaI [.one (.s a0), .one (.s a1)] [] = (zaI.L2 a0 a1 0).bind zaI.A2 := by
 refine (zaI.run _ _ (by kernel_rfl)).trans ?_
 delta zaI zaI.L2 zaI.A2 XX
 generalize lpL (Y.ctx (lim' Y)) 59 = lp
 generalize lim' Y = call
 kernel_rfl
theorem zaI.s2 (y0 y1:LLD) (y2:Int) : zaI.L2 y0 y1 y2 = bif decide (y2 < (↑y0.length : Int)) then bif decide (y2 < (↑y1.length : Int)) then zaI.P4 y0 y1 y2 else some (zaI.x2 y0 y1) else some (zaI.x2 y0 y1) := by
 refine (zbi (Y := Y) (c := lim' Y) (fn := 59) (rid := 2) (b := zar 2 zaI.c) (by kernel_rfl) _).trans ?_
 delta zaI.L2 zaI.P4 zaI.x2 XX
 refine zbw [4] (by kernel_rfl) fun J e1 => ?_
 try simp only [← e1]
 clear e1
 generalize lpL (Y.ctx (lim' Y)) 59 = lp
 generalize lim' Y = call
 kernel_rfl
theorem zaI.p4 (y0 y1:LLD) (y2:Int) : zaI.P4 y0 y1 y2 = bif decide (0 ≤ y2) && decide (y2 < (↑y0.length : Int)) && decide ((y0.getD y2.toNat []).length = 1) then bif zas [.str] (y0.getD y2.toNat []) 0 && decide (1 ≤ (y0.getD y2.toNat []).length) then bif decide (0 ≤ y2) && decide (y2 < (↑y1.length : Int)) && decide ((y1.getD y2.toNat []).length = 1) then bif zas [.str] (y1.getD y2.toNat []) 0 && decide (1 ≤ (y1.getD y2.toNat []).length) then bif !((y0.getD y2.toNat []).getD 0 .h).str.toList == ((y1.getD y2.toNat []).getD 0 .h).str.toList then bif decide (0 ≤ y2) && decide (y2 < (↑y0.length : Int)) && decide ((y0.getD y2.toNat []).length = 1) then bif zas [.str] (y0.getD y2.toNat []) 0 && decide (1 ≤ (y0.getD y2.toNat []).length) then bif decide (0 ≤ y2) && decide (y2 < (↑y1.length : Int)) && decide ((y1.getD y2.toNat []).length = 1) then bif zas [.str] (y1.getD y2.toNat []) 0 && decide (1 ≤ (y1.getD y2.toNat []).length) then some (zaI.q2 y0 y1 (Op.bytesLess ((y0.getD y2.toNat []).getD 0 .h).str.toList ((y1.getD y2.toNat []).getD 0 .h).str.toList)) else none else none else none else none else zaI.L2 y0 y1 (IntKind.i64.wrap (y2 + 1)) else none else none else none else none := by
 delta zaI.P4 zaI.q2 zaI.L2 XX
 refine zbk [4] 4 (by kernel_rfl) fun J e1 => ?_
 try simp only [← e1]
 clear e1
 generalize lpL (Y.ctx (lim' Y)) 59 = lp
 generalize lim' Y = call
 kernel_rfl
theorem zaI.a2x2 (y0 y1:LLD) : zaI.A2 (zaI.x2 y0 y1) = some ⟨[.v (.bool (decide ((↑y0.length : Int) < (↑y1.length : Int))))], []⟩ := by
 delta zaI.A2 zaI.x2 XX
 generalize lpL (Y.ctx (lim' Y)) 59 = lp
 generalize lim' Y = call
 kernel_rfl
theorem zaI.a2q2 (y0 y1:LLD) (y2:Bool) : zaI.A2 (zaI.q2 y0 y1 y2) = some ⟨[.v (.bool y2)], []⟩ := by
 delta zaI.A2 zaI.q2 XX
 generalize lpL (Y.ctx (lim' Y)) 59 = lp
 generalize lim' Y = call
 kernel_rfl
theorem zb4.e (a0 a1:LLD) : zb4 [.one (.s a0), .one (.s a1)] [] = bif (↑a0.length : Int) == (↑a1.length : Int) then (zaG [.one (.s a0), .one (.s a1)] []).bind fun val => bif zag [.bool] val.1 && true then some ⟨[.v (.bool (val.1.getD 0 .d).bool)], []⟩ else none else some ⟨[.v (.bool false)], []⟩ := by
 refine (zb4.run _ _ (by kernel_rfl)).trans ?_
 delta zb4 zaG XX
 generalize lpL (Y.ctx (lim' Y)) 60 = lp
 generalize lim' Y = call
 kernel_rfl
theorem zdu.e (a0:LLD) (a1:Bool) (a2:Int) (a3:BAy) (a4:Int) : zdu [.g [.s a0, .v (.bool a1), .v (.int .i64 a2), .v (.string a3), .v (.int .i64 a4)]] [] = (zaB [.one (.s a0)] []).bind fun val => bif zag [.own .deep] val.1 && true then some ⟨[.o .deep (val.1.getD 0 .d).es, .v (.bool a1), .v (.int .i64 a2), .v (.string a3), .v (.int .i64 a4)], []⟩ else none := by
 refine (zdu.run _ _ (by kernel_rfl)).trans ?_
 delta zdu zaB XX
 generalize lpL (Y.ctx (lim' Y)) 61 = lp
 generalize lim' Y = call
 kernel_rfl
noncomputable def zae.L2 (y0:LLD) (y1 y2:Int) (y3:LLD) : Option (Ex × St) := lpL XX 62 (zar 2 zae.c) (mkG 1 19 [(0, .one (.s y0)), (1, .f za7.id [.p true 0 [] 0]), (7, .one (.v (.int .i64 y1))), (8, .one (.v (.int .i64 y2)))] [(0, some ⟨.box, [.s y3], [.sh]⟩)] GL)
noncomputable def zae.A2 : Ex × St → Option Res := fun r => evA XX 62 (lpL XX 62) 2 zae.c r.fst r.snd (outE XX 62 Tryz.f62)
noncomputable def zae.q2 (y0:Int) (y1:LLD) : Ex × St := (Ex.ret, mkG 1 19 [(4, .one (.v (.int .i64 y0)))] [(0, some ⟨.box, [.s y1], [.sh]⟩)] GL)
noncomputable def zae.x2 (y0:LLD) : Ex × St := (Ex.exit 0, mkG 1 19 [] [(0, some ⟨.box, [.s y0], [.sh]⟩)] GL)
theorem zae.e (l : List (List D)) (c0 : List (List D)) : zae [.one (.s l), .f za7.id [.p true 0 [] 0]] [⟨.box, [.s c0], [.sh]⟩] = (zae.L2 l (↑l.length : Int) 0 c0).bind zae.A2 := by
 refine (zae.run _ _ (by kernel_rfl)).trans ?_
 delta zae zae.L2 zae.A2 za7.id XX
 generalize lpL (Y.ctx (lim' Y)) 62 = lp
 generalize lim' Y = call
 kernel_rfl
theorem zae.s2 (y0:LLD) (y1 y2:Int) (y3:LLD) : zae.L2 y0 y1 y2 y3 = bif decide (y2 < y1) then bif decide (0 ≤ y2) && decide (y2 < (↑y0.length : Int)) && decide ((y0.getD y2.toNat []).length = 5) then bif zas [.sl, .bool, .int .i64, .str, .int .i64] (y0.getD y2.toNat []) 0 && decide (5 ≤ (y0.getD y2.toNat []).length) then (za7 [.g [.s ((y0.getD y2.toNat []).getD 0 .h).es, .v (.bool ((y0.getD y2.toNat []).getD 1 .h).bool), .v (.int .i64 ((y0.getD y2.toNat []).getD 2 .h).int), .v (.string ((y0.getD y2.toNat []).getD 3 .h).str), .v (.int .i64 ((y0.getD y2.toNat []).getD 4 .h).int)], .one (.p true 0 [] 0)] [⟨.ro, [.s y3], [.sh]⟩]).bind fun val => bif zag [.bool] val.1 && true then bif (val.1.getD 0 .d).bool then some (zae.q2 y2 y3) else zae.L2 y0 y1 (IntKind.i64.wrap (y2 + 1)) y3 else none else none else none else some (zae.x2 y3) := by
 refine (zbi (Y := Y) (c := lim' Y) (fn := 62) (rid := 2) (b := zar 2 zae.c) (by kernel_rfl) _).trans ?_
 delta zae.L2 za7 zae.q2 zae.x2 XX
 generalize lpL (Y.ctx (lim' Y)) 62 = lp
 generalize lim' Y = call
 kernel_rfl
theorem zae.a2q2 (y0:Int) (y1:LLD) : zae.A2 (zae.q2 y0 y1) = some ⟨[.v (.int .i64 y0)], [⟨.box, [.s y1], [.sh]⟩]⟩ := by
 delta zae.A2 zae.q2 XX
 generalize lpL (Y.ctx (lim' Y)) 62 = lp
 generalize lim' Y = call
 kernel_rfl
theorem zae.a2x2 (y0:LLD) : zae.A2 (zae.x2 y0) = some ⟨[.v (.int .i64 (-1))], [⟨.box, [.s y0], [.sh]⟩]⟩ := by
 delta zae.A2 zae.x2 XX
 generalize lpL (Y.ctx (lim' Y)) 62 = lp
 generalize lim' Y = call
 kernel_rfl
theorem za7.e (a0 : List (List D)) (a1 : Bool) (a2 : Int) (a3 : ByteArray) (a4 : Int) (c0 : List (List D)) : za7 [.g [.s a0, .v (.bool a1), .v (.int .i64 a2), .v (.string a3), .v (.int .i64 a4)], .one (.p true 0 [] 0)] [⟨.ro, [.s c0], [.sh]⟩] = (zad [.one (.s a0), .one (.s c0)] []).bind fun val => bif zag [.bool] val.1 && true then some ⟨[.v (.bool (val.1.getD 0 .d).bool)], [⟨.ro, [.s c0], [.sh]⟩]⟩ else none := by
 refine (za7.run _ _ (by kernel_rfl)).trans ?_
 delta za7 zad XX
 generalize lpL (Y.ctx (lim' Y)) 63 = lp
 generalize lim' Y = call
 kernel_rfl
noncomputable def zad.L4 (y0 y1:LLD) (y2 y3:Int) : Option (Ex × St) := lpL XX 64 (zar 4 zad.c) (mkG 0 26 [(0, .one (.s y0)), (1, .one (.s y1)), (12, .one (.v (.int .i64 y2))), (13, .one (.v (.int .i64 y3)))] [] GL)
noncomputable def zad.A4 : Ex × St → Option Res := fun r => evA XX 64 (lpL XX 64) 4 zad.c r.fst r.snd (outE XX 64 Tryz.f64)
noncomputable def zad.q4 (y0:Bool) : Ex × St := (Ex.ret, mkG 0 26 [(4, .one (.v (.bool y0)))] [] GL)
noncomputable def zad.x4 : Ex × St := (Ex.exit 0, mkG 0 26 [] [] GL)
theorem zad.e (a0 a1:LLD) : zad [.one (.s a0), .one (.s a1)] [] = bif (↑a0.length : Int) != (↑a1.length : Int) then some ⟨[.v (.bool false)], []⟩ else (zad.L4 a0 a1 (↑a0.length : Int) 0).bind zad.A4 := by
 refine (zad.run _ _ (by kernel_rfl)).trans ?_
 delta zad zad.L4 zad.A4 XX
 generalize lpL (Y.ctx (lim' Y)) 64 = lp
 generalize lim' Y = call
 kernel_rfl
theorem zad.s4 (y0 y1:LLD) (y2 y3:Int) : zad.L4 y0 y1 y2 y3 = bif decide (y3 < y2) then bif decide (0 ≤ y3) && decide (y3 < (↑y0.length : Int)) && decide ((y0.getD y3.toNat []).length = 1) then bif zas [.str] (y0.getD y3.toNat []) 0 && decide (1 ≤ (y0.getD y3.toNat []).length) then bif decide (0 ≤ y3) && decide (y3 < (↑y1.length : Int)) && decide ((y1.getD y3.toNat []).length = 1) then bif zas [.str] (y1.getD y3.toNat []) 0 && decide (1 ≤ (y1.getD y3.toNat []).length) then bif !((y0.getD y3.toNat []).getD 0 .h).str.toList == ((y1.getD y3.toNat []).getD 0 .h).str.toList then some (zad.q4 false) else zad.L4 y0 y1 y2 (IntKind.i64.wrap (y3 + 1)) else none else none else none else none else some zad.x4 := by
 refine (zbi (Y := Y) (c := lim' Y) (fn := 64) (rid := 4) (b := zar 4 zad.c) (by kernel_rfl) _).trans ?_
 delta zad.L4 zad.q4 zad.x4 XX
 generalize lpL (Y.ctx (lim' Y)) 64 = lp
 generalize lim' Y = call
 kernel_rfl
theorem zad.a4q4 (y0:Bool) : zad.A4 (zad.q4 y0) = some ⟨[.v (.bool y0)], []⟩ := by
 delta zad.A4 zad.q4 XX
 generalize lpL (Y.ctx (lim' Y)) 64 = lp
 generalize lim' Y = call
 kernel_rfl
theorem zad.a4x4 : zad.A4 zad.x4 = some ⟨[.v (.bool true)], []⟩ := by
 delta zad.A4 zad.x4 XX
 generalize lpL (Y.ctx (lim' Y)) 64 = lp
 generalize lim' Y = call
 kernel_rfl
noncomputable def zcn.P9 (y0:LLD) (y1:Bool) (y2:Int) (y3:BAy) (y4:Int) (y5:LLD) (y6:Bool) (y7:Int) (y8:BAy) (y9:Int) : Option Res := evB XX 65 (lpL XX 65) 9 zcn.c (mkG 0 31 [(2, .one (.p true 2 [] 0)), (3, .one (.p true 3 [] 0))] [(2, some ⟨.box, [.s y0, .v (.bool y1), .v (.int .i64 y2), .v (.string y3), .v (.int .i64 y4)], [.sh, .deep, .deep, .deep, .deep]⟩), (3, some ⟨.box, [.s y5, .v (.bool y6), .v (.int .i64 y7), .v (.string y8), .v (.int .i64 y9)], [.sh, .deep, .deep, .deep, .deep]⟩)] GL) (outE XX 65 Tryz.f65)
theorem zcn.e (a0:LLD) (a1:Bool) (a2:Int) (a3:BAy) (a4:Int) (a5:LLD) (a6:Bool) (a7:Int) (a8:BAy) (a9:Int) : zcn [.g [.s a0, .v (.bool a1), .v (.int .i64 a2), .v (.string a3), .v (.int .i64 a4)], .g [.s a5, .v (.bool a6), .v (.int .i64 a7), .v (.string a8), .v (.int .i64 a9)]] [] = (zav [.one (.s a0), .one (.s a5)] []).bind fun val => bif zag [.bool] val.1 && true then bif !(val.1.getD 0 .d).bool then some ⟨[.v (.bool false)], []⟩ else bif !a1 == a6 then some ⟨[.v (.bool false)], []⟩ else bif a2 != a7 then some ⟨[.v (.bool false)], []⟩ else bif !a3.toList == a8.toList then some ⟨[.v (.bool false)], []⟩ else zcn.P9 a0 a1 a2 a3 a4 a5 a6 a7 a8 a9 else none := by
 refine (zcn.run _ _ (by kernel_rfl)).trans ?_
 delta zcn zav zcn.P9 XX
 refine zbw [9] (by kernel_rfl) fun J e1 => ?_
 try simp only [← e1]
 clear e1
 generalize lpL (Y.ctx (lim' Y)) 65 = lp
 generalize lim' Y = call
 kernel_rfl
theorem zcn.p9 (y0:LLD) (y1:Bool) (y2:Int) (y3:BAy) (y4:Int) (y5:LLD) (y6:Bool) (y7:Int) (y8:BAy) (y9:Int) : zcn.P9 y0 y1 y2 y3 y4 y5 y6 y7 y8 y9 = bif y4 != y9 then some ⟨[.v (.bool false)], []⟩ else some ⟨[.v (.bool true)], []⟩ := by
 delta zcn.P9 XX
 refine zbk [9] 9 (by kernel_rfl) fun J e1 => ?_
 try simp only [← e1]
 clear e1
 generalize lpL (Y.ctx (lim' Y)) 65 = lp
 generalize lim' Y = call
 kernel_rfl
noncomputable def zaG.L4 (y0 y1:LLD) (y2:Int) : Option (Ex × St) := lpL XX 66 (zar 4 zaG.c) (mkG 0 26 [(0, .one (.s y0)), (1, .one (.s y1)), (5, .one (.v (.int .i64 y2)))] [] GL)
noncomputable def zaG.A4 : Ex × St → Option Res := fun r => evA XX 66 (lpL XX 66) 4 zaG.c r.fst r.snd (outE XX 66 Tryz.f66)
noncomputable def zaG.q4 (y0:Bool) : Ex × St := (Ex.ret, mkG 0 26 [(4, .one (.v (.bool y0)))] [] GL)
noncomputable def zaG.x4 : Ex × St := (Ex.exit 0, mkG 0 26 [] [] GL)
theorem zaG.e (a0 a1:LLD) : zaG [.one (.s a0), .one (.s a1)] [] = bif decide ((↑a0.length : Int) < (↑a1.length : Int)) then some ⟨[.v (.bool false)], []⟩ else (zaG.L4 a0 a1 0).bind zaG.A4 := by
 refine (zaG.run _ _ (by kernel_rfl)).trans ?_
 delta zaG zaG.L4 zaG.A4 XX
 generalize lpL (Y.ctx (lim' Y)) 66 = lp
 generalize lim' Y = call
 kernel_rfl
theorem zaG.s4 (y0 y1:LLD) (y2:Int) : zaG.L4 y0 y1 y2 = bif decide (y2 < (↑y1.length : Int)) then bif decide (0 ≤ y2) && decide (y2 < (↑y0.length : Int)) && decide ((y0.getD y2.toNat []).length = 1) then bif zas [.str] (y0.getD y2.toNat []) 0 && decide (1 ≤ (y0.getD y2.toNat []).length) then bif decide (0 ≤ y2) && decide (y2 < (↑y1.length : Int)) && decide ((y1.getD y2.toNat []).length = 1) then bif zas [.str] (y1.getD y2.toNat []) 0 && decide (1 ≤ (y1.getD y2.toNat []).length) then bif !((y0.getD y2.toNat []).getD 0 .h).str.toList == ((y1.getD y2.toNat []).getD 0 .h).str.toList then some (zaG.q4 false) else zaG.L4 y0 y1 (IntKind.i64.wrap (y2 + 1)) else none else none else none else none else some zaG.x4 := by
 refine (zbi (Y := Y) (c := lim' Y) (fn := 66) (rid := 4) (b := zar 4 zaG.c) (by kernel_rfl) _).trans ?_
 delta zaG.L4 zaG.q4 zaG.x4 XX
 generalize lpL (Y.ctx (lim' Y)) 66 = lp
 generalize lim' Y = call
 kernel_rfl
theorem zaG.a4q4 (y0:Bool) : zaG.A4 (zaG.q4 y0) = some ⟨[.v (.bool y0)], []⟩ := by
 delta zaG.A4 zaG.q4 XX
 generalize lpL (Y.ctx (lim' Y)) 66 = lp
 generalize lim' Y = call
 kernel_rfl
theorem zaG.a4x4 : zaG.A4 zaG.x4 = some ⟨[.v (.bool true)], []⟩ := by
 delta zaG.A4 zaG.x4 XX
 generalize lpL (Y.ctx (lim' Y)) 66 = lp
 generalize lim' Y = call
 kernel_rfl
noncomputable def za4.L4 (y0 y1:LLD) (y2 y3:Int) : Option (Ex × St) := lpL XX 67 (zar 4 za4.c) (mkG 0 26 [(0, .one (.s y0)), (1, .one (.s y1)), (12, .one (.v (.int .i64 y2))), (13, .one (.v (.int .i64 y3)))] [] GL)
noncomputable def za4.A4 : Ex × St → Option Res := fun r => evA XX 67 (lpL XX 67) 4 za4.c r.fst r.snd (outE XX 67 Tryz.f67)
noncomputable def za4.q4 (y0:Bool) : Ex × St := (Ex.ret, mkG 0 26 [(4, .one (.v (.bool y0)))] [] GL)
noncomputable def za4.x4 : Ex × St := (Ex.exit 0, mkG 0 26 [] [] GL)
theorem za4.e (a0 a1:LLD) : za4 [.one (.s a0), .one (.s a1)] [] = bif decide ((↑a0.length : Int) < (↑a1.length : Int)) then some ⟨[.v (.bool false)], []⟩ else (za4.L4 a0 a1 (↑a1.length : Int) 0).bind za4.A4 := by
 refine (za4.run _ _ (by kernel_rfl)).trans ?_
 delta za4 za4.L4 za4.A4 XX
 generalize lpL (Y.ctx (lim' Y)) 67 = lp
 generalize lim' Y = call
 kernel_rfl
theorem za4.s4 (y0 y1:LLD) (y2 y3:Int) : za4.L4 y0 y1 y2 y3 = bif decide (y3 < y2) then bif decide (0 ≤ y3) && decide (y3 < (↑y0.length : Int)) && decide ((y0.getD y3.toNat []).length = 1) then bif zas [.str] (y0.getD y3.toNat []) 0 && decide (1 ≤ (y0.getD y3.toNat []).length) then bif decide (0 ≤ y3) && decide (y3 < (↑y1.length : Int)) && decide ((y1.getD y3.toNat []).length = 1) then bif zas [.str] (y1.getD y3.toNat []) 0 && decide (1 ≤ (y1.getD y3.toNat []).length) then bif !((y0.getD y3.toNat []).getD 0 .h).str.toList == ((y1.getD y3.toNat []).getD 0 .h).str.toList then some (za4.q4 false) else za4.L4 y0 y1 y2 (IntKind.i64.wrap (y3 + 1)) else none else none else none else none else some za4.x4 := by
 refine (zbi (Y := Y) (c := lim' Y) (fn := 67) (rid := 4) (b := zar 4 za4.c) (by kernel_rfl) _).trans ?_
 delta za4.L4 za4.q4 za4.x4 XX
 generalize lpL (Y.ctx (lim' Y)) 67 = lp
 generalize lim' Y = call
 kernel_rfl
theorem za4.a4q4 (y0:Bool) : za4.A4 (za4.q4 y0) = some ⟨[.v (.bool y0)], []⟩ := by
 delta za4.A4 za4.q4 XX
 generalize lpL (Y.ctx (lim' Y)) 67 = lp
 generalize lim' Y = call
 kernel_rfl
theorem za4.a4x4 : za4.A4 za4.x4 = some ⟨[.v (.bool true)], []⟩ := by
 delta za4.A4 za4.x4 XX
 generalize lpL (Y.ctx (lim' Y)) 67 = lp
 generalize lim' Y = call
 kernel_rfl
noncomputable def zaH.L2 (y0:LLD) (y1:Int) : Option (Ex × St) := lpL XX 68 (zar 2 zaH.c) (mkG 0 19 [(0, .one (.s y0)), (3, .one (.v (.int .i64 y1)))] [] GL)
noncomputable def zaH.A2 : Ex × St → Option Res := fun r => evA XX 68 (lpL XX 68) 2 zaH.c r.fst r.snd (outE XX 68 Tryz.f68)
noncomputable def zaH.q2 (y0:LLD) (y1:Bool) : Ex × St := (Ex.ret, mkG 0 19 [(0, .one (.s y0)), (2, .one (.v (.bool y1)))] [] GL)
noncomputable def zaH.x2 (y0:LLD) : Ex × St := (Ex.exit 0, mkG 0 19 [(0, .one (.s y0))] [] GL)
theorem zaH.e (a0:LLD) : zaH [.one (.s a0)] [] = (zaH.L2 a0 0).bind zaH.A2 := by
 refine (zaH.run _ _ (by kernel_rfl)).trans ?_
 delta zaH zaH.L2 zaH.A2 XX
 generalize lpL (Y.ctx (lim' Y)) 68 = lp
 generalize lim' Y = call
 kernel_rfl
theorem zaH.s2 (y0:LLD) (y1:Int) : zaH.L2 y0 y1 = bif decide (y1 < (↑y0.length : Int)) then bif decide (0 ≤ y1) && decide (y1 < (↑y0.length : Int)) && decide ((y0.getD y1.toNat []).length = 1) then bif zas [.str] (y0.getD y1.toNat []) 0 && decide (1 ≤ (y0.getD y1.toNat []).length) then (zan [.one (.v (.string ((y0.getD y1.toNat []).getD 0 .h).str))] []).bind fun val => bif zag [.bool] val.1 && true then bif !(val.1.getD 0 .d).bool then some (zaH.q2 y0 false) else zaH.L2 y0 (IntKind.i64.wrap (y1 + 1)) else none else none else none else some (zaH.x2 y0) := by
 refine (zbi (Y := Y) (c := lim' Y) (fn := 68) (rid := 2) (b := zar 2 zaH.c) (by kernel_rfl) _).trans ?_
 delta zaH.L2 zan zaH.q2 zaH.x2 XX
 generalize lpL (Y.ctx (lim' Y)) 68 = lp
 generalize lim' Y = call
 kernel_rfl
theorem zaH.a2q2 (y0:LLD) (y1:Bool) : zaH.A2 (zaH.q2 y0 y1) = some ⟨[.v (.bool y1)], []⟩ := by
 delta zaH.A2 zaH.q2 XX
 generalize lpL (Y.ctx (lim' Y)) 68 = lp
 generalize lim' Y = call
 kernel_rfl
theorem zaH.a2x2 (y0:LLD) : zaH.A2 (zaH.x2 y0) = (sl1In [.one (.v (.int .i64 (↑y0.length : Int))), .one (.v (.int .i64 1)), .one (.v (.int .i64 4))] []).bind fun val => bif zag [.bool] val.1 && true then some ⟨[.v (.bool (val.1.getD 0 .d).bool)], []⟩ else none := by
 delta zaH.A2 zaH.x2 sl1In XX
 generalize lpL (Y.ctx (lim' Y)) 68 = lp
 generalize lim' Y = call
 kernel_rfl
noncomputable def zbq.P3 (y0:LLD) (y1 y2:Bool) (y3:Int) (y4:BAy) (y5 y6:LLD) (y7:Bool) (y8:Int) (y9:BAy) (y10 y11:LLD) (y12:Bool) (y13:Int) (y14:BAy) (y15 y16:LLD) (y17:Bool) (y18:Int) (y19:BAy) (y20 y21:LLD) : Option Res := evB XX 69 (lpL XX 69) 3 zbq.c (mkG 0 72 [(1, .one (.s y0)), (3, .one (.p true 3 [] 0)), (5, .one (.p true 5 [] 0)), (6, .one (.p true 6 [] 0)), (8, .one (.p true 8 [] 0)), (29, .one (.v (.bool y1)))] [(3, some ⟨.box, [.v (.bool y2), .v (.int .i64 y3), .v (.string y4), .s y5, .s y6], [.deep, .deep, .deep, .sh, .sh]⟩), (5, some ⟨.box, [.v (.bool y7), .v (.int .i64 y8), .v (.string y9), .s y10, .s y11], [.deep, .deep, .deep, .sh, .sh]⟩), (6, some ⟨.box, [.v (.bool y12), .v (.int .i64 y13), .v (.string y14), .s y15, .s y16], [.deep, .deep, .deep, .deep, .deep]⟩), (8, some ⟨.box, [.v (.bool y17), .v (.int .i64 y18), .v (.string y19), .s y20, .s y21], [.deep, .deep, .deep, .deep, .top]⟩)] GL) (outE XX 69 Tryz.f69)
noncomputable def zbq.P7 (y0:LLD) (y1:Int) (y2:Bool) (y3:Int) (y4:BAy) (y5 y6:LLD) (y7:Bool) (y8:Int) (y9:BAy) (y10 y11:LLD) (y12:Bool) (y13:Int) (y14:BAy) (y15 y16:LLD) (y17:Bool) (y18:Int) (y19:BAy) (y20 y21:LLD) : Option Res := evB XX 69 (lpL XX 69) 7 zbq.c (mkG 0 72 [(1, .one (.s y0)), (3, .one (.p true 3 [] 0)), (5, .one (.p true 5 [] 0)), (6, .one (.p true 6 [] 0)), (8, .one (.p true 8 [] 0)), (9, .one (.v (.int .i64 y1)))] [(3, some ⟨.box, [.v (.bool y2), .v (.int .i64 y3), .v (.string y4), .s y5, .s y6], [.deep, .deep, .deep, .sh, .sh]⟩), (5, some ⟨.box, [.v (.bool y7), .v (.int .i64 y8), .v (.string y9), .s y10, .s y11], [.deep, .deep, .deep, .sh, .sh]⟩), (6, some ⟨.box, [.v (.bool y12), .v (.int .i64 y13), .v (.string y14), .s y15, .s y16], [.deep, .deep, .deep, .deep, .deep]⟩), (8, some ⟨.box, [.v (.bool y17), .v (.int .i64 y18), .v (.string y19), .s y20, .s y21], [.deep, .deep, .deep, .deep, .top]⟩)] GL) (outE XX 69 Tryz.f69)
theorem zbq.e (a0:Bool) (a1:Int) (a2:BAy) (a3 a4 a5:LLD) (a6:Bool) (a7:Int) (a8:BAy) (a9 a10:LLD) : zbq [.g [.v (.bool a0), .v (.int .i64 a1), .v (.string a2), .s a3, .s a4], .one (.s a5), .g [.v (.bool a6), .v (.int .i64 a7), .v (.string a8), .s a9, .s a10]] [] = bif zaA 1 a3 && zaL false a3 && true && decide ((0 + a3.length) * 17 ≤ 70368744177664) then bif zaA 5 a4 && zaL true a4 && true && decide ((0 + a4.length) * 81 ≤ 70368744177664) then zbq.P3 a5 ((↑a5.length : Int) == 1) a0 a1 a2 a3 a4 a6 a7 a8 a9 a10 false 0 (ByteArray.mk #[]) [] [] a0 a1 a2 a3 a4 else none else none := by
 refine (zbq.run _ _ (by kernel_rfl)).trans ?_
 delta zbq zbq.P3 XX
 refine zbw [3, 7] (by kernel_rfl) fun J e1 => ?_
 try simp only [← e1]
 clear e1
 generalize lpL (Y.ctx (lim' Y)) 69 = lp
 generalize lim' Y = call
 kernel_rfl
theorem zbq.p3 (y0:LLD) (y1 y2:Bool) (y3:Int) (y4:BAy) (y5 y6:LLD) (y7:Bool) (y8:Int) (y9:BAy) (y10 y11:LLD) (y12:Bool) (y13:Int) (y14:BAy) (y15 y16:LLD) (y17:Bool) (y18:Int) (y19:BAy) (y20 y21:LLD) : zbq.P3 y0 y1 y2 y3 y4 y5 y6 y7 y8 y9 y10 y11 y12 y13 y14 y15 y16 y17 y18 y19 y20 y21 = bif y1 then bif decide (0 < (↑y0.length : Int)) && decide ((y0.getD 0 []).length = 1) then bif zas [.str] (y0.getD 0 []) 0 && decide (1 ≤ (y0.getD 0 []).length) then bif zaA 1 y20 && true && true && true && decide ((y20.length + 1) * 17 ≤ 70368744177664) then bif zaA 5 y21 && true && true && true && decide ((y21.length + 1) * 81 ≤ 70368744177664) then some ⟨[.v (.bool y17), .v (.int .i64 y18), .v (.string y19), .s (y20 ++ [[D.v (.string ((y0.getD 0 []).getD 0 D.h).str)]]), .s (y21 ++ [[D.v (.bool y7), D.v (.int .i64 y8), D.v (.string y9), D.s y10, D.s y11]]), .v (.bool true)], []⟩ else none else none else none else none else bif decide (0 < (↑y0.length : Int)) && decide ((y0.getD 0 []).length = 1) then bif zas [.str] (y0.getD 0 []) 0 && decide (1 ≤ (y0.getD 0 []).length) then (za5 [.g [.v (.bool y2), .v (.int .i64 y3), .v (.string y4), .s y5, .s y6], .one (.v (.string ((y0.getD 0 []).getD 0 D.h).str))] []).bind fun val => bif zag [.int .i64] val.1 && true then zbq.P7 y0 (val.1.getD 0 .d).int y2 y3 y4 y5 y6 y7 y8 y9 y10 y11 y12 y13 y14 y15 y16 y17 y18 y19 y20 y21 else none else none else none := by
 delta zbq.P3 za5 zbq.P7 XX
 refine zbk [3, 7] 3 (by kernel_rfl) fun J e1 => ?_
 try simp only [← e1]
 clear e1
 generalize lpL (Y.ctx (lim' Y)) 69 = lp
 generalize lim' Y = call
 kernel_rfl
theorem zbq.p7 (y0:LLD) (y1:Int) (y2:Bool) (y3:Int) (y4:BAy) (y5 y6:LLD) (y7:Bool) (y8:Int) (y9:BAy) (y10 y11:LLD) (y12:Bool) (y13:Int) (y14:BAy) (y15 y16:LLD) (y17:Bool) (y18:Int) (y19:BAy) (y20 y21:LLD) : zbq.P7 y0 y1 y2 y3 y4 y5 y6 y7 y8 y9 y10 y11 y12 y13 y14 y15 y16 y17 y18 y19 y20 y21 = bif decide (y1 < 0) then some ⟨[.v (.bool y17), .v (.int .i64 y18), .v (.string y19), .s y20, .s y21, .v (.bool false)], []⟩ else bif decide (0 ≤ y1) && decide (y1 < (↑y6.length : Int)) && decide ((y6.getD y1.toNat []).length = 5) then bif zas [.bool, .int .i64, .str, .sl, .sl] (y6.getD y1.toNat []) 0 && decide (5 ≤ (y6.getD y1.toNat []).length) then bif decide ((some 1).getD 0 ≤ (↑y0.length : Int)) && decide ((↑y0.length : Int) ≤ (↑y0.length : Int)) && (false || decide ((y0.getD 0 []).length = 1)) then (zbq [.g [.v (.bool ((y6.getD y1.toNat []).getD 0 .h).bool), .v (.int .i64 ((y6.getD y1.toNat []).getD 1 .h).int), .v (.string ((y6.getD y1.toNat []).getD 2 .h).str), .s ((y6.getD y1.toNat []).getD 3 .h).es, .s ((y6.getD y1.toNat []).getD 4 .h).es], .one (.s (List.drop 1 (List.take (↑y0.length : Int).toNat y0))), .g [.v (.bool y7), .v (.int .i64 y8), .v (.string y9), .s y10, .s y11]] []).bind fun val => bif zag [.bool, .int .i64, .str, .sh, .sh, .bool] val.1 && true then bif decide (0 ≤ y1) && decide (y1 < (↑y21.length : Int)) && decide ((y21.getD y1.toNat []).length = 5) then bif decide (5 ≤ (y21.getD y1.toNat []).length) && true then some ⟨[.v (.bool y17), .v (.int .i64 y18), .v (.string y19), .s y20, .s (y21.set y1.toNat (.v (.bool (val.1.getD 0 .d).bool) :: .v (.int .i64 (val.1.getD 1 .d).int) :: .v (.string (val.1.getD 2 .d).str) :: .s (val.1.getD 3 .d).es :: .s (val.1.getD 4 .d).es :: List.drop 5 (y21.getD y1.toNat []))), .v (.bool (val.1.getD 5 .d).bool)], []⟩ else none else none else none else none else none else none := by
 delta zbq.P7 zbq XX
 refine zbk [3, 7] 7 (by kernel_rfl) fun J e1 => ?_
 try simp only [← e1]
 clear e1
 generalize lpL (Y.ctx (lim' Y)) 69 = lp
 generalize lim' Y = call
 kernel_rfl
theorem zbx.e (a0:Bool) (a1:Int) (a2:BAy) (a3 a4:LLD) : zbx [.g [.v (.bool a0), .v (.int .i64 a1), .v (.string a2), .s a3, .s a4]] [] = (zcR [.g [.v (.bool a0), .v (.int .i64 a1), .v (.string a2), .s a3, .s a4]] []).bind fun val => bif zag [.bool] val.1 && true then bif !(val.1.getD 0 .d).bool then some ⟨[.o .deep []], []⟩ else (zaX [.one (.s []), .g [.v (.bool a0), .v (.int .i64 a1), .v (.string a2), .s a3, .s a4]] []).bind fun val => bif zag [.own .deep] val.1 && true then some ⟨[.o .deep (val.1.getD 0 .d).es], []⟩ else none else none := by
 refine (zbx.run _ _ (by kernel_rfl)).trans ?_
 delta zbx zcR zaX XX
 generalize lpL (Y.ctx (lim' Y)) 70 = lp
 generalize lim' Y = call
 kernel_rfl
theorem zb5.e (a0:LLD) (a1:Bool) (a2:Int) (a3:BAy) (a4:Int) (a5:LLD) (a6:Bool) (a7:Int) (a8:BAy) (a9:Int) : zb5 [.g [.s a0, .v (.bool a1), .v (.int .i64 a2), .v (.string a3), .v (.int .i64 a4)], .g [.s a5, .v (.bool a6), .v (.int .i64 a7), .v (.string a8), .v (.int .i64 a9)]] [] = (zb4 [.one (.s a0), .one (.s a5)] []).bind fun val => bif zag [.bool] val.1 && true then bif (val.1.getD 0 .d).bool then bif a1 == a6 then bif a2 == a7 then bif a3.toList == a8.toList then some ⟨[.v (.bool (a4 == a9))], []⟩ else some ⟨[.v (.bool false)], []⟩ else some ⟨[.v (.bool false)], []⟩ else some ⟨[.v (.bool false)], []⟩ else some ⟨[.v (.bool false)], []⟩ else none := by
 refine (zb5.run _ _ (by kernel_rfl)).trans ?_
 delta zb5 zb4 XX
 generalize lpL (Y.ctx (lim' Y)) 71 = lp
 generalize lim' Y = call
 kernel_rfl
noncomputable def zbb.L3 (y0:Int) (y1:Bool) (y2:Int) (y3:BAy) (y4 y5:LLD) (y6:Bool) (y7:Int) (y8:BAy) (y9 y10:LLD) (y11:Bool) (y12:Int) (y13:BAy) (y14 y15:LLD) : Option (Ex × St) := lpL XX 72 (zar 3 zbb.c) (mkG 0 35 [(1, .one (.p true 1 [] 0)), (2, .one (.p true 2 [] 0)), (3, .one (.p true 3 [] 0)), (4, .one (.v (.int .i64 y0)))] [(1, some ⟨.box, [.v (.bool y1), .v (.int .i64 y2), .v (.string y3), .s y4, .s y5], [.deep, .deep, .deep, .sh, .sh]⟩), (2, some ⟨.box, [.v (.bool y6), .v (.int .i64 y7), .v (.string y8), .s y9, .s y10], [.deep, .deep, .deep, .deep, .deep]⟩), (3, some ⟨.box, [.v (.bool y11), .v (.int .i64 y12), .v (.string y13), .s y14, .s y15], [.deep, .deep, .deep, .deep, .deep]⟩)] GL)
noncomputable def zbb.A3 : Ex × St → Option Res := fun r => evA XX 72 (lpL XX 72) 3 zbb.c r.fst r.snd (outE XX 72 Tryz.f72)
noncomputable def zbb.x3 (y0:Bool) (y1:Int) (y2:BAy) (y3 y4:LLD) (y5:Bool) (y6:Int) (y7:BAy) (y8 y9:LLD) : Ex × St := (Ex.exit 0, mkG 0 35 [(2, .one (.p true 2 [] 0)), (3, .one (.p true 3 [] 0))] [(2, some ⟨.box, [.v (.bool y0), .v (.int .i64 y1), .v (.string y2), .s y3, .s y4], [.deep, .deep, .deep, .deep, .deep]⟩), (3, some ⟨.box, [.v (.bool y5), .v (.int .i64 y6), .v (.string y7), .s y8, .s y9], [.deep, .deep, .deep, .deep, .deep]⟩)] GL)
theorem zbb.e (a0:Bool) (a1:Int) (a2:BAy) (a3 a4:LLD) : zbb [.g [.v (.bool a0), .v (.int .i64 a1), .v (.string a2), .s a3, .s a4]] [] = bif zaA 1 a3 && zaL false a3 && true && decide ((0 + a3.length) * 17 ≤ 70368744177664) then (zbb.L3 0 a0 a1 a2 a3 a4 false 0 (ByteArray.mk #[]) [] [] a0 a1 a2 a3 []).bind zbb.A3 else none := by
 refine (zbb.run _ _ (by kernel_rfl)).trans ?_
 delta zbb zbb.L3 zbb.A3 XX
 generalize lpL (Y.ctx (lim' Y)) 72 = lp
 generalize lim' Y = call
 kernel_rfl
theorem zbb.s3 (y0:Int) (y1:Bool) (y2:Int) (y3:BAy) (y4 y5:LLD) (y6:Bool) (y7:Int) (y8:BAy) (y9 y10:LLD) (y11:Bool) (y12:Int) (y13:BAy) (y14 y15:LLD) : zbb.L3 y0 y1 y2 y3 y4 y5 y6 y7 y8 y9 y10 y11 y12 y13 y14 y15 = bif decide (y0 < (↑y5.length : Int)) then bif decide (0 ≤ y0) && decide (y0 < (↑y5.length : Int)) && decide ((y5.getD y0.toNat []).length = 5) then bif zas [.bool, .int .i64, .str, .sl, .sl] (y5.getD y0.toNat []) 0 && decide (5 ≤ (y5.getD y0.toNat []).length) then (zbb [.g [.v (.bool ((y5.getD y0.toNat []).getD 0 .h).bool), .v (.int .i64 ((y5.getD y0.toNat []).getD 1 .h).int), .v (.string ((y5.getD y0.toNat []).getD 2 .h).str), .s ((y5.getD y0.toNat []).getD 3 .h).es, .s ((y5.getD y0.toNat []).getD 4 .h).es]] []).bind fun val => bif zag [.bool, .int .i64, .str, .own .deep, .own .deep] val.1 && true then bif zaA 5 y15 && true && true && true && decide ((y15.length + 1) * 81 ≤ 70368744177664) then zbb.L3 (IntKind.i64.wrap (y0 + 1)) y1 y2 y3 y4 y5 y6 y7 y8 y9 y10 y11 y12 y13 y14 (y15 ++ [[.v (.bool (val.1.getD 0 .d).bool), .v (.int .i64 (val.1.getD 1 .d).int), .v (.string (val.1.getD 2 .d).str), .s (val.1.getD 3 .d).es, .s (val.1.getD 4 .d).es]]) else none else none else none else none else some (zbb.x3 y6 y7 y8 y9 y10 y11 y12 y13 y14 y15) := by
 refine (zbi (Y := Y) (c := lim' Y) (fn := 72) (rid := 3) (b := zar 3 zbb.c) (by kernel_rfl) _).trans ?_
 delta zbb.L3 zbb zbb.x3 XX
 generalize lpL (Y.ctx (lim' Y)) 72 = lp
 generalize lim' Y = call
 kernel_rfl
theorem zbb.a3x3 (y0:Bool) (y1:Int) (y2:BAy) (y3 y4:LLD) (y5:Bool) (y6:Int) (y7:BAy) (y8 y9:LLD) : zbb.A3 (zbb.x3 y0 y1 y2 y3 y4 y5 y6 y7 y8 y9) = some ⟨[.v (.bool y5), .v (.int .i64 y6), .v (.string y7), .o .deep y8, .o .deep y9], []⟩ := by
 delta zbb.A3 zbb.x3 XX
 generalize lpL (Y.ctx (lim' Y)) 72 = lp
 generalize lim' Y = call
 kernel_rfl
theorem zb8.e (a0 a1 a2:Int) : zb8 [.one (.v (.int .i64 a0)), .one (.v (.int .i64 a1)), .one (.v (.int .i64 a2))] [] = bif decide (a0 ≥ a1) then some ⟨[.v (.bool (decide (a0 ≤ a2)))], []⟩ else some ⟨[.v (.bool false)], []⟩ := by
 refine (zb8.run _ _ (by kernel_rfl)).trans ?_
 delta zb8 XX
 generalize lpL (Y.ctx (lim' Y)) 73 = lp
 generalize lim' Y = call
 kernel_rfl
noncomputable def zal.L2 (y0:LLD) (y1 y2:Int) (y3:Bool) (y4:Int) (y5:BAy) (y6 y7:LLD) : Option (Ex × St) := lpL XX 74 (zar 2 zal.c) (mkG 1 20 [(0, .one (.p true 0 [] 0)), (7, .one (.s y0)), (8, .one (.v (.int .i64 y1))), (9, .one (.v (.int .i64 y2)))] [(0, some ⟨.ro, [.v (.bool y3), .v (.int .i64 y4), .v (.string y5), .s y6, .s y7], [.sh, .sh, .sh, .sh, .sh]⟩)] GL)
noncomputable def zal.A2 : Ex × St → Option Res := fun r => evA XX 74 (lpL XX 74) 2 zal.c r.fst r.snd (outE XX 74 Tryz.f74)
noncomputable def zal.P5 (y0:Bool) (y1:LLD) (y2 y3:Int) (y4:Bool) (y5:Int) (y6:BAy) (y7 y8:LLD) : Option (Ex × St) := evB XX 74 (lpL XX 74) 5 (zar 2 zal.c) (mkG 1 20 [(0, .one (.p y0 0 [] 0)), (7, .one (.s y1)), (8, .one (.v (.int .i64 y2))), (9, .one (.v (.int .i64 y3)))] [(0, some ⟨.ro, [.v (.bool y4), .v (.int .i64 y5), .v (.string y6), .s y7, .s y8], [.sh, .sh, .sh, .sh, .sh]⟩)] GL) (backL (lpL XX 74) (zar 2 zal.c) (XX.live 74 2))
noncomputable def zal.P5b (y0:Bool) (y1:Nat) (y2:List (Nat × Nat)) (y3:LLD) (y4 y5:Int) (y6:Bool) (y7:Int) (y8:BAy) (y9 y10:LLD) : Option (Ex × St) := evB XX 74 (lpL XX 74) 5 (zar 2 zal.c) (mkG 1 20 [(0, .one (.p y0 0 ((4, y1) :: y2) 0)), (7, .one (.s y3)), (8, .one (.v (.int .i64 y4))), (9, .one (.v (.int .i64 y5)))] [(0, some ⟨.ro, [.v (.bool y6), .v (.int .i64 y7), .v (.string y8), .s y9, .s y10], [.sh, .sh, .sh, .sh, .sh]⟩)] GL) (backL (lpL XX 74) (zar 2 zal.c) (XX.live 74 2))
noncomputable def zal.x2 (y0:Bool) (y1:Int) (y2:BAy) (y3 y4:LLD) : Ex × St := (Ex.exit 0, mkG 1 20 [(0, .one (.p true 0 [] 0))] [(0, some ⟨.ro, [.v (.bool y0), .v (.int .i64 y1), .v (.string y2), .s y3, .s y4], [.sh, .sh, .sh, .sh, .sh]⟩)] GL)
noncomputable def zal.q2 (y0 y1:Bool) (y2:Int) (y3:BAy) (y4 y5:LLD) : Ex × St := (Ex.ret, mkG 1 20 [(0, .one (.p y0 0 [] 0)), (4, .one (.v (.pointer none)))] [(0, some ⟨.ro, [.v (.bool y1), .v (.int .i64 y2), .v (.string y3), .s y4, .s y5], [.sh, .sh, .sh, .sh, .sh]⟩)] GL)
noncomputable def zal.L2b (y0:Bool) (y1:LLD) (y2 y3:Int) (y4:Bool) (y5:Int) (y6:BAy) (y7 y8:LLD) : Option (Ex × St) := lpL XX 74 (zar 2 zal.c) (mkG 1 20 [(0, .one (.p y0 0 [] 0)), (7, .one (.s y1)), (8, .one (.v (.int .i64 y2))), (9, .one (.v (.int .i64 y3)))] [(0, some ⟨.ro, [.v (.bool y4), .v (.int .i64 y5), .v (.string y6), .s y7, .s y8], [.sh, .sh, .sh, .sh, .sh]⟩)] GL)
noncomputable def zal.q2b (y0:Bool) (y1:Nat) (y2:List (Nat × Nat)) (y3:Bool) (y4:Int) (y5:BAy) (y6 y7:LLD) : Ex × St := (Ex.ret, mkG 1 20 [(0, .one (.p y0 0 ((4, y1) :: y2) 0)), (4, .one (.v (.pointer none)))] [(0, some ⟨.ro, [.v (.bool y3), .v (.int .i64 y4), .v (.string y5), .s y6, .s y7], [.sh, .sh, .sh, .sh, .sh]⟩)] GL)
noncomputable def zal.L2c (y0:Bool) (y1:Nat) (y2:List (Nat × Nat)) (y3:LLD) (y4 y5:Int) (y6:Bool) (y7:Int) (y8:BAy) (y9 y10:LLD) : Option (Ex × St) := lpL XX 74 (zar 2 zal.c) (mkG 1 20 [(0, .one (.p y0 0 ((4, y1) :: y2) 0)), (7, .one (.s y3)), (8, .one (.v (.int .i64 y4))), (9, .one (.v (.int .i64 y5)))] [(0, some ⟨.ro, [.v (.bool y6), .v (.int .i64 y7), .v (.string y8), .s y9, .s y10], [.sh, .sh, .sh, .sh, .sh]⟩)] GL)
noncomputable def zal.x2c (y0:Bool) (y1:Nat) (y2:List (Nat × Nat)) (y3:Bool) (y4:Int) (y5:BAy) (y6 y7:LLD) : Ex × St := (Ex.exit 0, mkG 1 20 [(0, .one (.p y0 0 ((4, y1) :: y2) 0))] [(0, some ⟨.ro, [.v (.bool y3), .v (.int .i64 y4), .v (.string y5), .s y6, .s y7], [.sh, .sh, .sh, .sh, .sh]⟩)] GL)
theorem zal.e (a0:Bool) (a1:Int) (a2:BAy) (a3 a4 a5:LLD) : zal [.one (.p true 0 [] 0), .one (.s a5)] [⟨.ro, [.v (.bool a0), .v (.int .i64 a1), .v (.string a2), .s a3, .s a4], [.sh, .sh, .sh, .sh, .sh]⟩] = (zal.L2 a5 (↑a5.length : Int) 0 a0 a1 a2 a3 a4).bind zal.A2 := by
 refine (zal.run _ _ (by kernel_rfl)).trans ?_
 delta zal zal.L2 zal.A2 XX
 generalize lpL (Y.ctx (lim' Y)) 74 = lp
 generalize lim' Y = call
 kernel_rfl
theorem zal.s2 (y0:LLD) (y1 y2:Int) (y3:Bool) (y4:Int) (y5:BAy) (y6 y7:LLD) : zal.L2 y0 y1 y2 y3 y4 y5 y6 y7 = bif decide (y2 < y1) then bif decide (0 ≤ y2) && decide (y2 < (↑y0.length : Int)) && decide ((y0.getD y2.toNat []).length = 1) then bif zas [.str] (y0.getD y2.toNat []) 0 && decide (1 ≤ (y0.getD y2.toNat []).length) then (za2 [.one (.p true 0 [] 0), .one (.v (.string ((y0.getD y2.toNat []).getD 0 .h).str))] [⟨.ro, [.v (.bool y3), .v (.int .i64 y4), .v (.string y5), .s y6, .s y7], [.sh, .sh, .sh, .sh, .sh]⟩]).bind fun val => bif zag [.ptr 0] val.1 && true then bif List.isEmpty (val.1.getD 0 .d).path then zal.P5 (val.1.getD 0 .d).ok y0 y1 y2 y3 y4 y5 y6 y7 else zal.P5b (val.1.getD 0 .d).ok (List.headD (val.1.getD 0 .d).path (0, 0)).2 (List.tail (val.1.getD 0 .d).path) y0 y1 y2 y3 y4 y5 y6 y7 else none else none else none else some (zal.x2 y3 y4 y5 y6 y7) := by
 refine (zbi (Y := Y) (c := lim' Y) (fn := 74) (rid := 2) (b := zar 2 zal.c) (by kernel_rfl) _).trans ?_
 delta zal.L2 za2 zal.P5 zal.P5b zal.x2 XX
 refine zbw [5] (by kernel_rfl) fun J e1 => ?_
 try simp only [← e1]
 clear e1
 generalize lpL (Y.ctx (lim' Y)) 74 = lp
 generalize lim' Y = call
 kernel_rfl
theorem zal.p5 (y0:Bool) (y1:LLD) (y2 y3:Int) (y4:Bool) (y5:Int) (y6:BAy) (y7 y8:LLD) : zal.P5 y0 y1 y2 y3 y4 y5 y6 y7 y8 = bif !y0 then some (zal.q2 y0 y4 y5 y6 y7 y8) else zal.L2b y0 y1 y2 (IntKind.i64.wrap (y3 + 1)) y4 y5 y6 y7 y8 := by
 delta zal.P5 zal.q2 zal.L2b XX
 refine zbk [5] 5 (by kernel_rfl) fun J e1 => ?_
 try simp only [← e1]
 clear e1
 generalize lpL (Y.ctx (lim' Y)) 74 = lp
 generalize lim' Y = call
 kernel_rfl
theorem zal.p5b (y0:Bool) (y1:Nat) (y2:List (Nat × Nat)) (y3:LLD) (y4 y5:Int) (y6:Bool) (y7:Int) (y8:BAy) (y9 y10:LLD) : zal.P5b y0 y1 y2 y3 y4 y5 y6 y7 y8 y9 y10 = bif !y0 then some (zal.q2b y0 y1 y2 y6 y7 y8 y9 y10) else zal.L2c y0 y1 y2 y3 y4 (IntKind.i64.wrap (y5 + 1)) y6 y7 y8 y9 y10 := by
 delta zal.P5b zal.q2b zal.L2c XX
 refine zbk [5] 5 (by kernel_rfl) fun J e1 => ?_
 try simp only [← e1]
 clear e1
 generalize lpL (Y.ctx (lim' Y)) 74 = lp
 generalize lim' Y = call
 kernel_rfl
theorem zal.a2x2 (y0:Bool) (y1:Int) (y2:BAy) (y3 y4:LLD) : zal.A2 (zal.x2 y0 y1 y2 y3 y4) = some ⟨[.p true 0 [] 0], [⟨.ro, [.v (.bool y0), .v (.int .i64 y1), .v (.string y2), .s y3, .s y4], [.sh, .sh, .sh, .sh, .sh]⟩]⟩ := by
 delta zal.A2 zal.x2 XX
 generalize lpL (Y.ctx (lim' Y)) 74 = lp
 generalize lim' Y = call
 kernel_rfl
theorem zal.a2q2 (y0 y1:Bool) (y2:Int) (y3:BAy) (y4 y5:LLD) : zal.A2 (zal.q2 y0 y1 y2 y3 y4 y5) = some ⟨[.p false 0 [] 0], [⟨.ro, [.v (.bool y1), .v (.int .i64 y2), .v (.string y3), .s y4, .s y5], [.sh, .sh, .sh, .sh, .sh]⟩]⟩ := by
 delta zal.A2 zal.q2 XX
 generalize lpL (Y.ctx (lim' Y)) 74 = lp
 generalize lim' Y = call
 kernel_rfl
theorem zal.a2q2b (y0:Bool) (y1:Nat) (y2:List (Nat × Nat)) (y3:Bool) (y4:Int) (y5:BAy) (y6 y7:LLD) : zal.A2 (zal.q2b y0 y1 y2 y3 y4 y5 y6 y7) = some ⟨[.p false 0 [] 0], [⟨.ro, [.v (.bool y3), .v (.int .i64 y4), .v (.string y5), .s y6, .s y7], [.sh, .sh, .sh, .sh, .sh]⟩]⟩ := by
 delta zal.A2 zal.q2b XX
 generalize lpL (Y.ctx (lim' Y)) 74 = lp
 generalize lim' Y = call
 kernel_rfl
theorem zal.s2c (y0:Bool) (y1:Nat) (y2:List (Nat × Nat)) (y3:LLD) (y4 y5:Int) (y6:Bool) (y7:Int) (y8:BAy) (y9 y10:LLD) : zal.L2c y0 y1 y2 y3 y4 y5 y6 y7 y8 y9 y10 = bif decide (y5 < y4) then bif decide (0 ≤ y5) && decide (y5 < (↑y3.length : Int)) && decide ((y3.getD y5.toNat []).length = 1) then bif zas [.str] (y3.getD y5.toNat []) 0 && decide (1 ≤ (y3.getD y5.toNat []).length) then (za2 [.one (.p y0 0 [] 0), .one (.v (.string ((y3.getD y5.toNat []).getD 0 .h).str))] [⟨.ro, zak (y10.getD y1 []) y2, List.map (fun x => .sh) (zak (y10.getD y1 []) y2)⟩]).bind fun val => bif zag [.ptr 0] val.1 && true then bif List.isEmpty (val.1.getD 0 .d).path then zal.P5b (val.1.getD 0 .d).ok y1 (y2 ++ []) y3 y4 y5 y6 y7 y8 y9 y10 else zal.P5b (val.1.getD 0 .d).ok y1 (y2 ++ (4, (List.headD (val.1.getD 0 .d).path (0, 0)).2) :: List.tail (val.1.getD 0 .d).path) y3 y4 y5 y6 y7 y8 y9 y10 else none else none else none else some (zal.x2c y0 y1 y2 y6 y7 y8 y9 y10) := by
 refine (zbi (Y := Y) (c := lim' Y) (fn := 74) (rid := 2) (b := zar 2 zal.c) (by kernel_rfl) _).trans ?_
 delta zal.L2c za2 zal.P5b zal.x2c XX
 refine zbw [5] (by kernel_rfl) fun J e1 => ?_
 try simp only [← e1]
 clear e1
 generalize lpL (Y.ctx (lim' Y)) 74 = lp
 generalize lim' Y = call
 kernel_rfl
theorem zal.a2x2c (y0:Bool) (y1:Nat) (y2:List (Nat × Nat)) (y3:Bool) (y4:Int) (y5:BAy) (y6 y7:LLD) : zal.A2 (zal.x2c y0 y1 y2 y3 y4 y5 y6 y7) = some ⟨[.p y0 0 ((4, y1) :: y2) 0], [⟨.ro, [.v (.bool y3), .v (.int .i64 y4), .v (.string y5), .s y6, .s y7], [.sh, .sh, .sh, .sh, .sh]⟩]⟩ := by
 delta zal.A2 zal.x2c XX
 generalize lpL (Y.ctx (lim' Y)) 74 = lp
 generalize lim' Y = call
 kernel_rfl
noncomputable def iTree_putn.P5 (y0:Int) (y1:Bool) (y2:Int) (y3:BAy) (y4 y5:LLD) (y6:Bool) (y7:Int) (y8:BAy) (y9 y10:LLD) : Option Res := evB XX 75 (lpL XX 75) 5 zbU.c (mkG 1 47 [(0, .one (.p true 0 [] 0)), (5, .one (.p true 6 [] 0)), (6, .one (.v (.int .i64 y0)))] [(0, some ⟨.box, [.v (.bool y1), .v (.int .i64 y2), .v (.string y3), .s y4, .s y5], [.deep, .deep, .deep, .deep, .deep]⟩), (6, some ⟨.box, [.v (.bool y6), .v (.int .i64 y7), .v (.string y8), .s y9, .s y10], [.deep, .deep, .deep, .deep, .deep]⟩)] GL) (outE XX 75 Tryz.f75)
theorem iTree_putn.e (a0:Bool) (a1:Int) (a2:BAy) (a3 a4:LLD) (n:BAy) (b0:Bool) (b1:Int) (b2:BAy) : zbU [.one (.p true 0 [] 0), .one (.v (.string n)), .g [.v (.bool b0), .v (.int .i64 b1), .v (.string b2), .v (.slice none 0 0), .v (.slice none 0 0)]] [⟨.box, [.v (.bool a0), .v (.int .i64 a1), .v (.string a2), .s a3, .s a4], [.deep, .deep, .deep, .deep, .deep]⟩] = (zac [.one (.s a3), .one (.v (.string n))] []).bind fun val => bif zag [.int .i64, .bool] val.1 && true then bif (val.1.getD 1 .d).bool then bif decide (0 ≤ (val.1.getD 0 .d).int) && decide ((val.1.getD 0 .d).int < (↑a4.length : Int)) && decide ((a4.getD (val.1.getD 0 .d).int.toNat []).length = 5) then bif decide (5 ≤ (a4.getD (val.1.getD 0 .d).int.toNat []).length) && true then some ⟨[], [⟨.box, [.v (.bool a0), .v (.int .i64 a1), .v (.string a2), .s a3, .s (a4.set (val.1.getD 0 .d).int.toNat (.v (.bool b0) :: .v (.int .i64 b1) :: .v (.string b2) :: .s [] :: .s [] :: List.drop 5 (a4.getD (val.1.getD 0 .d).int.toNat [])))], [.deep, .deep, .deep, .deep, .deep]⟩]⟩ else none else none else (zbc [.one (.r 0 [] 0), .one (.v (.int .i64 (val.1.getD 0 .d).int)), .one (.r 1 [] 0)] [⟨.virt, [.s a3], [.deep]⟩, ⟨.virt, [.s [[.v (.string n)]]], [.deep]⟩]).bind fun val_1 => bif zag [.own .deep] val_1.1 && true then iTree_putn.P5 (val.1.getD 0 .d).int a0 a1 a2 (val_1.1.getD 0 .d).es a4 b0 b1 b2 [] [] else none else none := by
 refine (zbU.run _ _ (by kernel_rfl)).trans ?_
 delta zbU zac zbc iTree_putn.P5 XX
 refine zbw [5] (by kernel_rfl) fun J e1 => ?_
 try simp only [← e1]
 clear e1
 generalize lpL (Y.ctx (lim' Y)) 75 = lp
 generalize lim' Y = call
 kernel_rfl
theorem iTree_putn.p5 (y0:Int) (y1:Bool) (y2:Int) (y3:BAy) (y4 y5:LLD) (y6:Bool) (y7:Int) (y8:BAy) (y9 y10:LLD) : iTree_putn.P5 y0 y1 y2 y3 y4 y5 y6 y7 y8 y9 y10 = (za9 [.one (.r 0 [] 0), .one (.v (.int .i64 y0)), .one (.r 1 [] 0)] [⟨.virt, [.s y5], [.deep]⟩, ⟨.virt, [.s [[.v (.bool y6), .v (.int .i64 y7), .v (.string y8), .s y9, .s y10]]], [.deep]⟩]).bind fun val => bif zag [.own .deep] val.1 && true then some ⟨[], [⟨.box, [.v (.bool y1), .v (.int .i64 y2), .v (.string y3), .s y4, .s (val.1.getD 0 .d).es], [.deep, .deep, .deep, .deep, .deep]⟩]⟩ else none := by
 delta iTree_putn.P5 za9 XX
 refine zbk [5] 5 (by kernel_rfl) fun J e1 => ?_
 try simp only [← e1]
 clear e1
 generalize lpL (Y.ctx (lim' Y)) 75 = lp
 generalize lim' Y = call
 kernel_rfl
theorem zcQ.e (a0:Bool) (a1:Int) (a2:BAy) (a3 a4:LLD) : zcQ [.g [.v (.bool a0), .v (.int .i64 a1), .v (.string a2), .s a3, .s a4]] [] = bif a0 then (zaj [.g [.v (.bool a0), .v (.int .i64 a1), .v (.string a2), .s a3, .s a4], .one (.v (.int .i64 0))] []).bind fun val => bif zag [.bool] val.1 && true then bif (val.1.getD 0 .d).bool then (zaz [.g [.v (.bool a0), .v (.int .i64 a1), .v (.string a2), .s a3, .s a4]] []).bind fun val => bif zag [.int .i64] val.1 && true then some ⟨[.v (.bool (decide ((val.1.getD 0 .d).int ≤ 31)))], []⟩ else none else some ⟨[.v (.bool false)], []⟩ else none else some ⟨[.v (.bool false)], []⟩ := by
 refine (zcQ.run _ _ (by kernel_rfl)).trans ?_
 delta zcQ zaj zaz XX
 generalize lpL (Y.ctx (lim' Y)) 76 = lp
 generalize lim' Y = call
 kernel_rfl
noncomputable def zaa.L4 (y0 y1:LLD) (y2 y3:Int) : Option (Ex × St) := lpL XX 77 (zar 4 zaa.c) (mkG 0 32 [(1, .one (.s y0)), (2, .f zbD.id []), (15, .one (.s y1)), (16, .one (.v (.int .i64 y2))), (17, .one (.v (.int .i64 y3)))] [] GL)
noncomputable def zaa.A4 : Ex × St → Option Res := fun r => evA XX 77 (lpL XX 77) 4 zaa.c r.fst r.snd (outE XX 77 Tryz.f77)
noncomputable def zaa.q4 (y0:Bool) : Ex × St := (Ex.ret, mkG 0 32 [(6, .one (.v (.bool y0)))] [] GL)
noncomputable def zaa.x4 : Ex × St := (Ex.exit 0, mkG 0 32 [] [] GL)
theorem zaa.e (a0 a1:LLD) : zaa [.one (.s a0), .one (.s a1), .f zbD.id []] [] = bif (↑a0.length : Int) != (↑a1.length : Int) then some ⟨[.v (.bool false)], []⟩ else (zaa.L4 a1 a0 (↑a0.length : Int) 0).bind zaa.A4 := by
 refine (zaa.run _ _ (by kernel_rfl)).trans ?_
 delta zaa zaa.L4 zaa.A4 zbD.id XX
 generalize lpL (Y.ctx (lim' Y)) 77 = lp
 generalize lim' Y = call
 kernel_rfl
theorem zaa.s4 (y0 y1:LLD) (y2 y3:Int) : zaa.L4 y0 y1 y2 y3 = bif decide (y3 < y2) then bif decide (0 ≤ y3) && decide (y3 < (↑y1.length : Int)) && decide ((y1.getD y3.toNat []).length = 5) then bif zas [.sl, .bool, .int .i64, .str, .int .i64] (y1.getD y3.toNat []) 0 && decide (5 ≤ (y1.getD y3.toNat []).length) then bif decide (0 ≤ y3) && decide (y3 < (↑y0.length : Int)) && decide ((y0.getD y3.toNat []).length = 5) then bif zas [.sl, .bool, .int .i64, .str, .int .i64] (y0.getD y3.toNat []) 0 && decide (5 ≤ (y0.getD y3.toNat []).length) then (zbD [.g [.s ((y1.getD y3.toNat []).getD 0 .h).es, .v (.bool ((y1.getD y3.toNat []).getD 1 .h).bool), .v (.int .i64 ((y1.getD y3.toNat []).getD 2 .h).int), .v (.string ((y1.getD y3.toNat []).getD 3 .h).str), .v (.int .i64 ((y1.getD y3.toNat []).getD 4 .h).int)], .g [.s ((y0.getD y3.toNat []).getD 0 .h).es, .v (.bool ((y0.getD y3.toNat []).getD 1 .h).bool), .v (.int .i64 ((y0.getD y3.toNat []).getD 2 .h).int), .v (.string ((y0.getD y3.toNat []).getD 3 .h).str), .v (.int .i64 ((y0.getD y3.toNat []).getD 4 .h).int)]] []).bind fun val => bif zag [.bool] val.1 && true then bif !(val.1.getD 0 .d).bool then some (zaa.q4 false) else zaa.L4 y0 y1 y2 (IntKind.i64.wrap (y3 + 1)) else none else none else none else none else none else some zaa.x4 := by
 refine (zbi (Y := Y) (c := lim' Y) (fn := 77) (rid := 4) (b := zar 4 zaa.c) (by kernel_rfl) _).trans ?_
 delta zaa.L4 zbD zaa.q4 zaa.x4 XX
 generalize lpL (Y.ctx (lim' Y)) 77 = lp
 generalize lim' Y = call
 kernel_rfl
theorem zaa.a4q4 (y0:Bool) : zaa.A4 (zaa.q4 y0) = some ⟨[.v (.bool y0)], []⟩ := by
 delta zaa.A4 zaa.q4 XX
 generalize lpL (Y.ctx (lim' Y)) 77 = lp
 generalize lim' Y = call
 kernel_rfl
theorem zaa.a4x4 : zaa.A4 zaa.x4 = some ⟨[.v (.bool true)], []⟩ := by
 delta zaa.A4 zaa.x4 XX
 generalize lpL (Y.ctx (lim' Y)) 77 = lp
 generalize lim' Y = call
 kernel_rfl
theorem zby.e (a0:Bool) (a1:Int) (a2:BAy) (a3 a4:LLD) : zby [.g [.v (.bool a0), .v (.int .i64 a1), .v (.string a2), .s a3, .s a4]] [] = (zaZ [.g [.v (.bool a0), .v (.int .i64 a1), .v (.string a2), .s a3, .s a4], .one (.s []), .f zaR.id [.p true 0 [] 0]] [⟨.box, [.s []], [.deep]⟩]).bind fun val => bif zag [] val.1 && zbd [⟨⟨.box, [.s []], [.deep]⟩, .box 3⟩] val.2 then some ⟨[.o .deep ((val.2.getD 0 ⟨.ro, [], []⟩).2.getD 0 .h).es], []⟩ else none := by
 refine (zby.run _ _ (by kernel_rfl)).trans ?_
 delta zby zaZ zaR.id XX
 generalize lpL (Y.ctx (lim' Y)) 78 = lp
 generalize lim' Y = call
 kernel_rfl
theorem zbD.e (a0:LLD) (a1:Bool) (a2:Int) (a3:BAy) (a4:Int) (a5:LLD) (a6:Bool) (a7:Int) (a8:BAy) (a9:Int) : zbD [.g [.s a0, .v (.bool a1), .v (.int .i64 a2), .v (.string a3), .v (.int .i64 a4)], .g [.s a5, .v (.bool a6), .v (.int .i64 a7), .v (.string a8), .v (.int .i64 a9)]] [] = (zad [.one (.s a0), .one (.s a5)] []).bind fun val => bif zag [.bool] val.1 && true then bif (val.1.getD 0 .d).bool then bif a1 == a6 then bif a2 == a7 then bif a3.toList == a8.toList then some ⟨[.v (.bool (a4 == a9))], []⟩ else some ⟨[.v (.bool false)], []⟩ else some ⟨[.v (.bool false)], []⟩ else some ⟨[.v (.bool false)], []⟩ else some ⟨[.v (.bool false)], []⟩ else none := by
 refine (zbD.run _ _ (by kernel_rfl)).trans ?_
 delta zbD zad XX
 generalize lpL (Y.ctx (lim' Y)) 79 = lp
 generalize lim' Y = call
 kernel_rfl
noncomputable def zaE.L3 (y0:LLD) (y1 y2:Int) (y3:Bool) (y4:Int) (y5:BAy) (y6 y7:LLD) (y8:Bool) (y9:Int) (y10:BAy) (y11 y12 y13:LLD) : Option (Ex × St) := lpL XX 80 (zar 3 zaE.c) (mkG 0 28 [(1, .one (.p true 1 [] 0)), (2, .one (.p true 2 [] 0)), (3, .one (.r 3 [] 0)), (8, .one (.s y0)), (9, .one (.v (.int .i64 y1))), (10, .one (.v (.int .i64 y2)))] [(1, some ⟨.box, [.v (.bool y3), .v (.int .i64 y4), .v (.string y5), .s y6, .s y7], [.deep, .deep, .deep, .sh, .sh]⟩), (2, some ⟨.box, [.v (.bool y8), .v (.int .i64 y9), .v (.string y10), .s y11, .s y12], [.deep, .deep, .deep, .deep, .deep]⟩), (3, some ⟨.virt, [.s y13], [.deep]⟩)] GL)
noncomputable def zaE.A3 : Ex × St → Option Res := fun r => evA XX 80 (lpL XX 80) 3 zaE.c r.fst r.snd (outE XX 80 Tryz.f80)
noncomputable def zaE.x3 (y0:Bool) (y1:Int) (y2:BAy) (y3 y4:LLD) (y5:Bool) (y6:Int) (y7:BAy) (y8 y9 y10:LLD) : Ex × St := (Ex.exit 0, mkG 0 28 [(1, .one (.p true 1 [] 0)), (2, .one (.p true 2 [] 0)), (3, .one (.r 3 [] 0))] [(1, some ⟨.box, [.v (.bool y0), .v (.int .i64 y1), .v (.string y2), .s y3, .s y4], [.deep, .deep, .deep, .sh, .sh]⟩), (2, some ⟨.box, [.v (.bool y5), .v (.int .i64 y6), .v (.string y7), .s y8, .s y9], [.deep, .deep, .deep, .deep, .deep]⟩), (3, some ⟨.virt, [.s y10], [.deep]⟩)] GL)
theorem zaE.e (a0:Bool) (a1:Int) (a2:BAy) (a3 a4:LLD) : zaE [.g [.v (.bool a0), .v (.int .i64 a1), .v (.string a2), .s a3, .s a4]] [] = (zaE.L3 a4 (↑a4.length : Int) 0 a0 a1 a2 a3 a4 false 0 (ByteArray.mk #[]) [] [] []).bind zaE.A3 := by
 refine (zaE.run _ _ (by kernel_rfl)).trans ?_
 delta zaE zaE.L3 zaE.A3 XX
 generalize lpL (Y.ctx (lim' Y)) 80 = lp
 generalize lim' Y = call
 kernel_rfl
theorem zaE.s3 (y0:LLD) (y1 y2:Int) (y3:Bool) (y4:Int) (y5:BAy) (y6 y7:LLD) (y8:Bool) (y9:Int) (y10:BAy) (y11 y12 y13:LLD) : zaE.L3 y0 y1 y2 y3 y4 y5 y6 y7 y8 y9 y10 y11 y12 y13 = bif decide (y2 < y1) then bif decide (0 ≤ y2) && decide (y2 < (↑y0.length : Int)) && decide ((y0.getD y2.toNat []).length = 5) then bif zas [.bool, .int .i64, .str, .sl, .sl] (y0.getD y2.toNat []) 0 && decide (5 ≤ (y0.getD y2.toNat []).length) then (zaE [.g [.v (.bool ((y0.getD y2.toNat []).getD 0 .h).bool), .v (.int .i64 ((y0.getD y2.toNat []).getD 1 .h).int), .v (.string ((y0.getD y2.toNat []).getD 2 .h).str), .s ((y0.getD y2.toNat []).getD 3 .h).es, .s ((y0.getD y2.toNat []).getD 4 .h).es]] []).bind fun val => bif zag [.bool, .int .i64, .str, .own .deep, .own .deep] val.1 && true then bif zaA 5 y13 && true && true && true && decide ((y13.length + 1) * 81 ≤ 70368744177664) then zaE.L3 y0 y1 (IntKind.i64.wrap (y2 + 1)) y3 y4 y5 y6 y7 y8 y9 y10 y11 y12 (y13 ++ [[.v (.bool (val.1.getD 0 .d).bool), .v (.int .i64 (val.1.getD 1 .d).int), .v (.string (val.1.getD 2 .d).str), .s (val.1.getD 3 .d).es, .s (val.1.getD 4 .d).es]]) else none else none else none else none else some (zaE.x3 y3 y4 y5 y6 y7 y8 y9 y10 y11 y12 y13) := by
 refine (zbi (Y := Y) (c := lim' Y) (fn := 80) (rid := 3) (b := zar 3 zaE.c) (by kernel_rfl) _).trans ?_
 delta zaE.L3 zaE zaE.x3 XX
 generalize lpL (Y.ctx (lim' Y)) 80 = lp
 generalize lim' Y = call
 kernel_rfl
theorem zaE.a3x3 (y0:Bool) (y1:Int) (y2:BAy) (y3 y4:LLD) (y5:Bool) (y6:Int) (y7:BAy) (y8 y9 y10:LLD) : zaE.A3 (zaE.x3 y0 y1 y2 y3 y4 y5 y6 y7 y8 y9 y10) = bif zaA 1 y3 && zaL false y3 && true && decide ((0 + y3.length) * 17 ≤ 70368744177664) then some ⟨[.v (.bool y0), .v (.int .i64 y1), .v (.string y2), .o .deep y3, .o .deep y10], []⟩ else none := by
 delta zaE.A3 zaE.x3 XX
 generalize lpL (Y.ctx (lim' Y)) 80 = lp
 generalize lim' Y = call
 kernel_rfl
noncomputable def zaM.L4 (y0:Int) (y1:BAy) : Option (Ex × St) := lpL XX 82 (zar 4 zaM.c) (mkG 0 20 [(0, .one (.v (.int .i64 y0))), (3, .one (.v (.string y1)))] [] GL)
noncomputable def zaM.A4 : Ex × St → Option Res := fun r => evA XX 82 (lpL XX 82) 4 zaM.c r.fst r.snd (outE XX 82 Tryz.f82)
noncomputable def zaM.x4 (y0:BAy) : Ex × St := (Ex.exit 0, mkG 0 20 [(3, .one (.v (.string y0)))] [] GL)
theorem zaM.e (a0:Int) : zaM [.one (.v (.int .i64 a0))] [] = bif decide (a0 ≤ 0) then some ⟨[.v (.string (ByteArray.mk #[109, 48]))], []⟩ else (zaM.L4 a0 (ByteArray.mk #[])).bind zaM.A4 := by
 refine (zaM.run _ _ (by kernel_rfl)).trans ?_
 delta zaM zaM.L4 zaM.A4 XX
 generalize lpL (Y.ctx (lim' Y)) 82 = lp
 generalize lim' Y = call
 kernel_rfl
theorem zaM.s4 (y0:Int) (y1:BAy) : zaM.L4 y0 y1 = bif decide (y0 > 0) then bif decide (1 + y1.size ≤ 70368744177664) then zaM.L4 (IntKind.i64.wrap (y0.tdiv 10)) (strOf [[.v (.int .u8 (IntKind.u8.wrap (IntKind.i64.wrap (48 + y0.tmod 10))))]] ++ y1) else none else some (zaM.x4 y1) := by
 refine (zbi (Y := Y) (c := lim' Y) (fn := 82) (rid := 4) (b := zar 4 zaM.c) (by kernel_rfl) _).trans ?_
 delta zaM.L4 zaM.x4 XX
 generalize lpL (Y.ctx (lim' Y)) 82 = lp
 generalize lim' Y = call
 kernel_rfl
theorem zaM.a4x4 (y0:BAy) : zaM.A4 (zaM.x4 y0) = bif decide (1 + y0.size ≤ 70368744177664) then some ⟨[.v (.string ((ByteArray.mk #[109]) ++ y0))], []⟩ else none := by
 delta zaM.A4 zaM.x4 XX
 generalize lpL (Y.ctx (lim' Y)) 82 = lp
 generalize lim' Y = call
 kernel_rfl
theorem zcR.e (a0:Bool) (a1:Int) (a2:BAy) (a3 a4:LLD) : zcR [.g [.v (.bool a0), .v (.int .i64 a1), .v (.string a2), .s a3, .s a4]] [] = bif a0 then (zau [.g [.v (.bool a0), .v (.int .i64 a1), .v (.string a2), .s a3, .s a4], .one (.v (.int .i64 0))] []).bind fun val => bif zag [.bool] val.1 && true then bif (val.1.getD 0 .d).bool then (zaY [.g [.v (.bool a0), .v (.int .i64 a1), .v (.string a2), .s a3, .s a4]] []).bind fun val => bif zag [.int .i64] val.1 && true then some ⟨[.v (.bool (decide ((val.1.getD 0 .d).int ≤ 30)))], []⟩ else none else some ⟨[.v (.bool false)], []⟩ else none else some ⟨[.v (.bool false)], []⟩ := by
 refine (zcR.run _ _ (by kernel_rfl)).trans ?_
 delta zcR zau zaY XX
 generalize lpL (Y.ctx (lim' Y)) 86 = lp
 generalize lim' Y = call
 kernel_rfl
noncomputable def zan.L2 (y0:BAy) (y1:Int) : Option (Ex × St) := lpL XX 125 (zar 2 zan.c) (mkG 0 36 [(0, .one (.v (.string y0))), (3, .one (.v (.int .i64 y1)))] [] GL)
noncomputable def zan.A2 : Ex × St → Option Res := fun r => evA XX 125 (lpL XX 125) 2 zan.c r.fst r.snd (outE XX 125 Tryz.f125)
noncomputable def zan.P5 (y0:BAy) (y1:Int) (y2:Bool) : Option (Ex × St) := evB XX 125 (lpL XX 125) 5 (zar 2 zan.c) (mkG 0 36 [(0, .one (.v (.string y0))), (3, .one (.v (.int .i64 y1))), (32, .one (.v (.bool y2)))] [] GL) (backL (lpL XX 125) (zar 2 zan.c) (XX.live 125 2))
noncomputable def zan.x2 (y0:BAy) : Ex × St := (Ex.exit 0, mkG 0 36 [(0, .one (.v (.string y0)))] [] GL)
noncomputable def zan.q2 (y0:BAy) (y1:Bool) : Ex × St := (Ex.ret, mkG 0 36 [(0, .one (.v (.string y0))), (2, .one (.v (.bool y1)))] [] GL)
theorem zan.e (a0:BAy) : zan [.one (.v (.string a0))] [] = (zan.L2 a0 0).bind zan.A2 := by
 refine (zan.run _ _ (by kernel_rfl)).trans ?_
 delta zan zan.L2 zan.A2 XX
 generalize lpL (Y.ctx (lim' Y)) 125 = lp
 generalize lim' Y = call
 kernel_rfl
theorem zan.s2 (y0:BAy) (y1:Int) : zan.L2 y0 y1 = bif decide (y1 < (↑y0.size : Int)) then bif decide (0 ≤ y1) && decide (y1 < (↑y0.size : Int)) then bif decide (zbj y0 y1.toNat ≥ 97) then bif decide (0 ≤ y1) && decide (y1 < (↑y0.size : Int)) then bif decide (zbj y0 y1.toNat ≤ 122) then zan.P5 y0 y1 false else bif decide (0 ≤ y1) && decide (y1 < (↑y0.size : Int)) then bif decide (zbj y0 y1.toNat ≥ 48) then bif decide (0 ≤ y1) && decide (y1 < (↑y0.size : Int)) then zan.P5 y0 y1 !decide (zbj y0 y1.toNat ≤ 57) else none else zan.P5 y0 y1 true else none else none else bif decide (0 ≤ y1) && decide (y1 < (↑y0.size : Int)) then bif decide (zbj y0 y1.toNat ≥ 48) then bif decide (0 ≤ y1) && decide (y1 < (↑y0.size : Int)) then zan.P5 y0 y1 !decide (zbj y0 y1.toNat ≤ 57) else none else zan.P5 y0 y1 true else none else none else some (zan.x2 y0) := by
 refine (zbi (Y := Y) (c := lim' Y) (fn := 125) (rid := 2) (b := zar 2 zan.c) (by kernel_rfl) _).trans ?_
 delta zan.L2 zan.P5 zan.x2 XX
 refine zbw [5] (by kernel_rfl) fun J e1 => ?_
 try simp only [← e1]
 clear e1
 generalize lpL (Y.ctx (lim' Y)) 125 = lp
 generalize lim' Y = call
 kernel_rfl
theorem zan.p5 (y0:BAy) (y1:Int) (y2:Bool) : zan.P5 y0 y1 y2 = bif y2 then some (zan.q2 y0 false) else zan.L2 y0 (IntKind.i64.wrap (y1 + 1)) := by
 delta zan.P5 zan.q2 zan.L2 XX
 refine zbk [5] 5 (by kernel_rfl) fun J e1 => ?_
 try simp only [← e1]
 clear e1
 generalize lpL (Y.ctx (lim' Y)) 125 = lp
 generalize lim' Y = call
 kernel_rfl
theorem zan.a2x2 (y0:BAy) : zan.A2 (zan.x2 y0) = (sl1In [.one (.v (.int .i64 (↑y0.size : Int))), .one (.v (.int .i64 1)), .one (.v (.int .i64 5))] []).bind fun val => bif zag [.bool] val.1 && true then some ⟨[.v (.bool (val.1.getD 0 .d).bool)], []⟩ else none := by
 delta zan.A2 zan.x2 sl1In XX
 generalize lpL (Y.ctx (lim' Y)) 125 = lp
 generalize lim' Y = call
 kernel_rfl
theorem zan.a2q2 (y0:BAy) (y1:Bool) : zan.A2 (zan.q2 y0 y1) = some ⟨[.v (.bool y1)], []⟩ := by
 delta zan.A2 zan.q2 XX
 generalize lpL (Y.ctx (lim' Y)) 125 = lp
 generalize lim' Y = call
 kernel_rfl
theorem sl1In.e (a0 a1 a2:Int) : sl1In [.one (.v (.int .i64 a0)), .one (.v (.int .i64 a1)), .one (.v (.int .i64 a2))] [] = bif decide (a0 ≥ a1) then some ⟨[.v (.bool (decide (a0 ≤ a2)))], []⟩ else some ⟨[.v (.bool false)], []⟩ := by
 refine (sl1In.run _ _ (by kernel_rfl)).trans ?_
 delta sl1In XX
 generalize lpL (Y.ctx (lim' Y)) 126 = lp
 generalize lim' Y = call
 kernel_rfl
noncomputable def za5.L2 (y0:BAy) (y1:Int) (y2:Bool) (y3:Int) (y4:BAy) (y5 y6:LLD) : Option (Ex × St) := lpL XX 127 (zar 2 za5.c) (mkG 0 21 [(1, .one (.v (.string y0))), (2, .one (.p true 2 [] 0)), (5, .one (.v (.int .i64 y1)))] [(2, some ⟨.box, [.v (.bool y2), .v (.int .i64 y3), .v (.string y4), .s y5, .s y6], [.deep, .deep, .deep, .sh, .sh]⟩)] GL)
noncomputable def za5.A2 : Ex × St → Option Res := fun r => evA XX 127 (lpL XX 127) 2 za5.c r.fst r.snd (outE XX 127 Tryz.f127)
noncomputable def za5.q2 (y0:Int) : Ex × St := (Ex.ret, mkG 0 21 [(4, .one (.v (.int .i64 y0)))] [] GL)
noncomputable def za5.x2 : Ex × St := (Ex.exit 0, mkG 0 21 [] [] GL)
theorem za5.e (a0:Bool) (a1:Int) (a2:BAy) (a3 a4:LLD) (a5:BAy) : za5 [.g [.v (.bool a0), .v (.int .i64 a1), .v (.string a2), .s a3, .s a4], .one (.v (.string a5))] [] = (za5.L2 a5 0 a0 a1 a2 a3 a4).bind za5.A2 := by
 refine (za5.run _ _ (by kernel_rfl)).trans ?_
 delta za5 za5.L2 za5.A2 XX
 generalize lpL (Y.ctx (lim' Y)) 127 = lp
 generalize lim' Y = call
 kernel_rfl
theorem za5.s2 (y0:BAy) (y1:Int) (y2:Bool) (y3:Int) (y4:BAy) (y5 y6:LLD) : za5.L2 y0 y1 y2 y3 y4 y5 y6 = bif decide (y1 < (↑y5.length : Int)) then bif decide (0 ≤ y1) && decide (y1 < (↑y5.length : Int)) && decide ((y5.getD y1.toNat []).length = 1) then bif zas [.str] (y5.getD y1.toNat []) 0 && decide (1 ≤ (y5.getD y1.toNat []).length) then bif ((y5.getD y1.toNat []).getD 0 .h).str.toList == y0.toList then some (za5.q2 y1) else za5.L2 y0 (IntKind.i64.wrap (y1 + 1)) y2 y3 y4 y5 y6 else none else none else some za5.x2 := by
 refine (zbi (Y := Y) (c := lim' Y) (fn := 127) (rid := 2) (b := zar 2 za5.c) (by kernel_rfl) _).trans ?_
 delta za5.L2 za5.q2 za5.x2 XX
 generalize lpL (Y.ctx (lim' Y)) 127 = lp
 generalize lim' Y = call
 kernel_rfl
theorem za5.a2q2 (y0:Int) : za5.A2 (za5.q2 y0) = some ⟨[.v (.int .i64 y0)], []⟩ := by
 delta za5.A2 za5.q2 XX
 generalize lpL (Y.ctx (lim' Y)) 127 = lp
 generalize lim' Y = call
 kernel_rfl
theorem za5.a2x2 : za5.A2 za5.x2 = some ⟨[.v (.int .i64 (-1))], []⟩ := by
 delta za5.A2 za5.x2 XX
 generalize lpL (Y.ctx (lim' Y)) 127 = lp
 generalize lim' Y = call
 kernel_rfl
noncomputable def zaX.L3 (y0:LLD) (y1:Int) (y2:Bool) (y3:Int) (y4:BAy) (y5 y6 y7:LLD) : Option (Ex × St) := lpL XX 128 (zar 3 zaX.c) (mkG 0 43 [(0, .one (.s y0)), (3, .one (.p true 3 [] 0)), (5, .one (.r 5 [] 0)), (6, .one (.v (.int .i64 y1)))] [(3, some ⟨.box, [.v (.bool y2), .v (.int .i64 y3), .v (.string y4), .s y5, .s y6], [.deep, .deep, .deep, .sh, .sh]⟩), (5, some ⟨.virt, [.s y7], [.deep]⟩)] GL)
noncomputable def zaX.A3 : Ex × St → Option Res := fun r => evA XX 128 (lpL XX 128) 3 zaX.c r.fst r.snd (outE XX 128 Tryz.f128)
noncomputable def zaX.x3 (y0:LLD) : Ex × St := (Ex.exit 0, mkG 0 43 [(5, .one (.r 5 [] 0))] [(5, some ⟨.virt, [.s y0], [.deep]⟩)] GL)
theorem zaX.e (a0:LLD) (a1:Bool) (a2:Int) (a3:BAy) (a4 a5:LLD) : zaX [.one (.s a0), .g [.v (.bool a1), .v (.int .i64 a2), .v (.string a3), .s a4, .s a5]] [] = bif zaA 1 a0 && zaL false a0 && true && decide ((0 + a0.length) * 17 ≤ 70368744177664) then (zdJ [.g [.v (.bool a1), .v (.int .i64 a2), .v (.string a3), .s a4, .s a5]] []).bind fun val => bif zag [.int .i64] val.1 && true then (zaX.L3 a0 0 a1 a2 a3 a4 a5 [[.s a0, .v (.bool a1), .v (.int .i64 a2), .v (.string a3), .v (.int .i64 (val.1.getD 0 .d).int)]]).bind zaX.A3 else none else none := by
 refine (zaX.run _ _ (by kernel_rfl)).trans ?_
 delta zaX zdJ zaX.L3 zaX.A3 XX
 generalize lpL (Y.ctx (lim' Y)) 128 = lp
 generalize lim' Y = call
 kernel_rfl
theorem zaX.s3 (y0:LLD) (y1:Int) (y2:Bool) (y3:Int) (y4:BAy) (y5 y6 y7:LLD) : zaX.L3 y0 y1 y2 y3 y4 y5 y6 y7 = bif decide (y1 < (↑y5.length : Int)) then bif decide (0 ≤ y1) && decide (y1 < (↑y5.length : Int)) && decide ((y5.getD y1.toNat []).length = 1) then bif zas [.str] (y5.getD y1.toNat []) 0 && decide (1 ≤ (y5.getD y1.toNat []).length) then (zcT [.one (.s y0), .one (.v (.string ((y5.getD y1.toNat []).getD 0 .h).str))] []).bind fun val => bif zag [.sh] val.1 && true then bif decide (0 ≤ y1) && decide (y1 < (↑y6.length : Int)) && decide ((y6.getD y1.toNat []).length = 5) then bif zas [.bool, .int .i64, .str, .sl, .sl] (y6.getD y1.toNat []) 0 && decide (5 ≤ (y6.getD y1.toNat []).length) then (zaX [.one (.s (val.1.getD 0 .d).es), .g [.v (.bool ((y6.getD y1.toNat []).getD 0 .h).bool), .v (.int .i64 ((y6.getD y1.toNat []).getD 1 .h).int), .v (.string ((y6.getD y1.toNat []).getD 2 .h).str), .s ((y6.getD y1.toNat []).getD 3 .h).es, .s ((y6.getD y1.toNat []).getD 4 .h).es]] []).bind fun val => bif zag [.own .deep] val.1 && true then bif zaA 5 y7 && zaA 5 (val.1.getD 0 .d).es && zaL true (val.1.getD 0 .d).es && true && decide ((y7.length + (val.1.getD 0 .d).es.length) * 65 ≤ 70368744177664) then zaX.L3 y0 (IntKind.i64.wrap (y1 + 1)) y2 y3 y4 y5 y6 (y7 ++ (val.1.getD 0 .d).es) else none else none else none else none else none else none else none else some (zaX.x3 y7) := by
 refine (zbi (Y := Y) (c := lim' Y) (fn := 128) (rid := 3) (b := zar 3 zaX.c) (by kernel_rfl) _).trans ?_
 delta zaX.L3 zcT zaX zaX.x3 XX
 generalize lpL (Y.ctx (lim' Y)) 128 = lp
 generalize lim' Y = call
 kernel_rfl
theorem zaX.a3x3 (y0:LLD) : zaX.A3 (zaX.x3 y0) = some ⟨[.o .deep y0], []⟩ := by
 delta zaX.A3 zaX.x3 XX
 generalize lpL (Y.ctx (lim' Y)) 128 = lp
 generalize lim' Y = call
 kernel_rfl
noncomputable def za2.P3 (y0:Int) (y1 y2:Bool) (y3:Int) (y4:BAy) (y5 y6:LLD) : Option Res := evB XX 129 (lpL XX 129) 3 za2.c (mkG 1 29 [(0, .one (.p true 0 [] 0)), (5, .one (.v (.int .i64 y0))), (22, .one (.v (.bool y1)))] [(0, some ⟨.ro, [.v (.bool y2), .v (.int .i64 y3), .v (.string y4), .s y5, .s y6], [.sh, .sh, .sh, .sh, .sh]⟩)] GL) (outE XX 129 Tryz.f129)
noncomputable def za2.P4 (y0:Int) (y1:Bool) (y2:Int) (y3:BAy) (y4 y5:LLD) : Option Res := evB XX 129 (lpL XX 129) 4 za2.c (mkG 1 29 [(0, .one (.p true 0 [] 0)), (5, .one (.v (.int .i64 y0)))] [(0, some ⟨.ro, [.v (.bool y1), .v (.int .i64 y2), .v (.string y3), .s y4, .s y5], [.sh, .sh, .sh, .sh, .sh]⟩)] GL) (outE XX 129 Tryz.f129)
theorem za2.e (a0:Bool) (a1:Int) (a2:BAy) (a3 a4:LLD) (a5:BAy) : za2 [.one (.p true 0 [] 0), .one (.v (.string a5))] [⟨.ro, [.v (.bool a0), .v (.int .i64 a1), .v (.string a2), .s a3, .s a4], [.sh, .sh, .sh, .sh, .sh]⟩] = (zaf [.one (.s a3), .one (.v (.string a5))] []).bind fun val => bif zag [.int .i64] val.1 && true then bif decide ((val.1.getD 0 .d).int < 0) then za2.P3 (val.1.getD 0 .d).int true a0 a1 a2 a3 a4 else za2.P3 (val.1.getD 0 .d).int (decide ((val.1.getD 0 .d).int ≥ (↑a4.length : Int))) a0 a1 a2 a3 a4 else none := by
 refine (za2.run _ _ (by kernel_rfl)).trans ?_
 delta za2 zaf za2.P3 XX
 refine zbw [3, 4] (by kernel_rfl) fun J e1 => ?_
 try simp only [← e1]
 clear e1
 generalize lpL (Y.ctx (lim' Y)) 129 = lp
 generalize lim' Y = call
 kernel_rfl
theorem za2.p3 (y0:Int) (y1 y2:Bool) (y3:Int) (y4:BAy) (y5 y6:LLD) : za2.P3 y0 y1 y2 y3 y4 y5 y6 = bif y1 then some ⟨[.p false 0 [] 0], [⟨.ro, [.v (.bool y2), .v (.int .i64 y3), .v (.string y4), .s y5, .s y6], [.sh, .sh, .sh, .sh, .sh]⟩]⟩ else za2.P4 y0 y2 y3 y4 y5 y6 := by
 delta za2.P3 za2.P4 XX
 refine zbk [3, 4] 3 (by kernel_rfl) fun J e1 => ?_
 try simp only [← e1]
 clear e1
 generalize lpL (Y.ctx (lim' Y)) 129 = lp
 generalize lim' Y = call
 kernel_rfl
theorem za2.p4 (y0:Int) (y1:Bool) (y2:Int) (y3:BAy) (y4 y5:LLD) : za2.P4 y0 y1 y2 y3 y4 y5 = bif decide (0 ≤ y0) && decide (y0 < (↑y5.length : Int)) && decide ((y5.getD y0.toNat []).length = 5) then some ⟨[.p true 0 [(4, y0.toNat)] 0], [⟨.ro, [.v (.bool y1), .v (.int .i64 y2), .v (.string y3), .s y4, .s y5], [.sh, .sh, .sh, .sh, .sh]⟩]⟩ else none := by
 delta za2.P4 XX
 refine zbk [3, 4] 4 (by kernel_rfl) fun J e1 => ?_
 try simp only [← e1]
 clear e1
 generalize lpL (Y.ctx (lim' Y)) 129 = lp
 generalize lim' Y = call
 kernel_rfl
noncomputable def zac.L3 (y0:LLD) (y1:BAy) (y2 y3 y4:Int) : Option (Ex × St) := lpL XX 130 (zar 3 zac.c) (mkG 0 54 [(0, .one (.s y0)), (1, .one (.v (.string y1))), (6, .one (.v (.int .i64 y2))), (7, .one (.v (.int .i64 y3))), (8, .one (.v (.int .i64 y4)))] [] GL)
noncomputable def zac.A3 : Ex × St → Option Res := fun r => evA XX 130 (lpL XX 130) 3 zac.c r.fst r.snd (outE XX 130 Tryz.f130)
noncomputable def zac.x3 (y0:LLD) (y1:BAy) (y2 y3:Int) : Ex × St := (Ex.exit 0, mkG 0 54 [(0, .one (.s y0)), (1, .one (.v (.string y1))), (6, .one (.v (.int .i64 y2))), (7, .one (.v (.int .i64 y3)))] [] GL)
theorem zac.e (a0:LLD) (a1:BAy) : zac [.one (.s a0), .one (.v (.string a1))] [] = (zac.L3 a0 a1 (↑a0.length : Int) 0 (↑a0.length : Int)).bind zac.A3 := by
 refine (zac.run _ _ (by kernel_rfl)).trans ?_
 delta zac zac.L3 zac.A3 XX
 generalize lpL (Y.ctx (lim' Y)) 130 = lp
 generalize lim' Y = call
 kernel_rfl
theorem zac.s3 (y0:LLD) (y1:BAy) (y2 y3 y4:Int) : zac.L3 y0 y1 y2 y3 y4 = bif decide (y3 < y4) then bif decide (0 ≤ IntKind.i64.wrap ((IntKind.u64.wrap (IntKind.i64.wrap (y3 + y4))).fdiv (2 ^ min (Int.toNat 1) IntKind.u64.bits))) && decide (IntKind.i64.wrap ((IntKind.u64.wrap (IntKind.i64.wrap (y3 + y4))).fdiv (2 ^ min (Int.toNat 1) IntKind.u64.bits)) < (↑y0.length : Int)) && decide ((y0.getD (IntKind.i64.wrap ((IntKind.u64.wrap (IntKind.i64.wrap (y3 + y4))).fdiv (2 ^ min (Int.toNat 1) IntKind.u64.bits))).toNat []).length = 1) then bif zas [.str] (y0.getD (IntKind.i64.wrap ((IntKind.u64.wrap (IntKind.i64.wrap (y3 + y4))).fdiv (2 ^ min (Int.toNat 1) IntKind.u64.bits))).toNat []) 0 && decide (1 ≤ (y0.getD (IntKind.i64.wrap ((IntKind.u64.wrap (IntKind.i64.wrap (y3 + y4))).fdiv (2 ^ min (Int.toNat 1) IntKind.u64.bits))).toNat []).length) then (zbg [.one (.v (.string ((y0.getD (IntKind.i64.wrap ((IntKind.u64.wrap (IntKind.i64.wrap (y3 + y4))).fdiv (2 ^ min (Int.toNat 1) IntKind.u64.bits))).toNat []).getD 0 .h).str)), .one (.v (.string y1))] []).bind fun val => bif zag [.bool] val.1 && true then bif (val.1.getD 0 .d).bool then zac.L3 y0 y1 y2 (IntKind.i64.wrap (IntKind.i64.wrap ((IntKind.u64.wrap (IntKind.i64.wrap (y3 + y4))).fdiv (2 ^ min (Int.toNat 1) IntKind.u64.bits)) + 1)) y4 else zac.L3 y0 y1 y2 y3 (IntKind.i64.wrap ((IntKind.u64.wrap (IntKind.i64.wrap (y3 + y4))).fdiv (2 ^ min (Int.toNat 1) IntKind.u64.bits))) else none else none else none else some (zac.x3 y0 y1 y2 y3) := by
 refine (zbi (Y := Y) (c := lim' Y) (fn := 130) (rid := 3) (b := zar 3 zac.c) (by kernel_rfl) _).trans ?_
 delta zac.L3 zbg zac.x3 XX
 generalize lpL (Y.ctx (lim' Y)) 130 = lp
 generalize lim' Y = call
 kernel_rfl
theorem zac.a3x3 (y0:LLD) (y1:BAy) (y2 y3:Int) : zac.A3 (zac.x3 y0 y1 y2 y3) = bif decide (y3 < y2) then bif decide (0 ≤ y3) && decide (y3 < (↑y0.length : Int)) && decide ((y0.getD y3.toNat []).length = 1) then bif zas [.str] (y0.getD y3.toNat []) 0 && decide (1 ≤ (y0.getD y3.toNat []).length) then bif ((y0.getD y3.toNat []).getD 0 .h).str.toList == y1.toList then some ⟨[.v (.int .i64 y3), .v (.bool true)], []⟩ else bif decide (0 ≤ y3) && decide (y3 < (↑y0.length : Int)) && decide ((y0.getD y3.toNat []).length = 1) then bif zas [.str] (y0.getD y3.toNat []) 0 && decide (1 ≤ (y0.getD y3.toNat []).length) then (zaS [.one (.v (.string ((y0.getD y3.toNat []).getD 0 .h).str))] []).bind fun val => bif zag [.bool] val.1 && true then bif (val.1.getD 0 .d).bool then (zaS [.one (.v (.string y1))] []).bind fun val => bif zag [.bool] val.1 && true then some ⟨[.v (.int .i64 y3), .v (.bool (val.1.getD 0 .d).bool)], []⟩ else none else some ⟨[.v (.int .i64 y3), .v (.bool false)], []⟩ else none else none else none else none else none else some ⟨[.v (.int .i64 y3), .v (.bool false)], []⟩ := by
 delta zac.A3 zac.x3 zaS XX
 generalize lpL (Y.ctx (lim' Y)) 130 = lp
 generalize lim' Y = call
 kernel_rfl
noncomputable def zaj.P2 (y0:Int) (y1 y2:Bool) (y3:Int) (y4:BAy) (y5 y6:LLD) : Option Res := evB XX 133 (lpL XX 133) 2 zaj.c (mkG 0 77 [(1, .one (.v (.int .i64 y0))), (2, .one (.p true 2 [] 0)), (23, .one (.v (.bool y1)))] [(2, some ⟨.box, [.v (.bool y2), .v (.int .i64 y3), .v (.string y4), .s y5, .s y6], [.deep, .deep, .deep, .sh, .sh]⟩)] GL) (outE XX 133 Tryz.f133)
noncomputable def zaj.P3 (y0:Int) (y1:Bool) (y2:Int) (y3:BAy) (y4 y5:LLD) : Option Res := evB XX 133 (lpL XX 133) 3 zaj.c (mkG 0 77 [(1, .one (.v (.int .i64 y0))), (2, .one (.p true 2 [] 0))] [(2, some ⟨.box, [.v (.bool y1), .v (.int .i64 y2), .v (.string y3), .s y4, .s y5], [.deep, .deep, .deep, .sh, .sh]⟩)] GL) (outE XX 133 Tryz.f133)
noncomputable def zaj.L8 (y0:Int) (y1:LLD) (y2 y3:Int) (y4:Bool) (y5:Int) (y6:BAy) (y7 y8:LLD) : Option (Ex × St) := lpL XX 133 (zar 8 zaj.c) (mkG 0 77 [(1, .one (.v (.int .i64 y0))), (2, .one (.p true 2 [] 0)), (41, .one (.s y1)), (42, .one (.v (.int .i64 y2))), (43, .one (.v (.int .i64 y3)))] [(2, some ⟨.box, [.v (.bool y4), .v (.int .i64 y5), .v (.string y6), .s y7, .s y8], [.deep, .deep, .deep, .sh, .sh]⟩)] GL)
noncomputable def zaj.A8 : Ex × St → Option Res := fun r => evA XX 133 (lpL XX 133) 8 zaj.c r.fst r.snd (outE XX 133 Tryz.f133)
noncomputable def zaj.P11 (y0:Int) (y1:LLD) (y2 y3:Int) (y4 y5:Bool) (y6:Int) (y7:BAy) (y8 y9:LLD) : Option (Ex × St) := evB XX 133 (lpL XX 133) 11 (zar 8 zaj.c) (mkG 0 77 [(1, .one (.v (.int .i64 y0))), (2, .one (.p true 2 [] 0)), (41, .one (.s y1)), (42, .one (.v (.int .i64 y2))), (43, .one (.v (.int .i64 y3))), (75, .one (.v (.bool y4)))] [(2, some ⟨.box, [.v (.bool y5), .v (.int .i64 y6), .v (.string y7), .s y8, .s y9], [.deep, .deep, .deep, .sh, .sh]⟩)] GL) (backL (lpL XX 133) (zar 8 zaj.c) (XX.live 133 8))
noncomputable def zaj.x8 : Ex × St := (Ex.exit 0, mkG 0 77 [] [] GL)
noncomputable def zaj.q8 (y0:Bool) : Ex × St := (Ex.ret, mkG 0 77 [(4, .one (.v (.bool y0)))] [] GL)
theorem zaj.e (a0:Bool) (a1:Int) (a2:BAy) (a3 a4:LLD) (a5:Int) : zaj [.g [.v (.bool a0), .v (.int .i64 a1), .v (.string a2), .s a3, .s a4], .one (.v (.int .i64 a5))] [] = (zcS [.one (.v (.int .i64 a1))] []).bind fun val => bif zag [.bool] val.1 && true then bif !(val.1.getD 0 .d).bool then zaj.P2 a5 true a0 a1 a2 a3 a4 else bif decide (a5 > 4) then zaj.P2 a5 true a0 a1 a2 a3 a4 else zaj.P2 a5 ((↑a3.length : Int) != (↑a4.length : Int)) a0 a1 a2 a3 a4 else none := by
 refine (zaj.run _ _ (by kernel_rfl)).trans ?_
 delta zaj zcS zaj.P2 XX
 refine zbw [2, 3] (by kernel_rfl) fun J e1 => ?_
 try simp only [← e1]
 clear e1
 generalize lpL (Y.ctx (lim' Y)) 133 = lp
 generalize lim' Y = call
 kernel_rfl
theorem zaj.p2 (y0:Int) (y1 y2:Bool) (y3:Int) (y4:BAy) (y5 y6:LLD) : zaj.P2 y0 y1 y2 y3 y4 y5 y6 = bif y1 then some ⟨[.v (.bool false)], []⟩ else zaj.P3 y0 y2 y3 y4 y5 y6 := by
 delta zaj.P2 zaj.P3 XX
 refine zbk [2, 3] 2 (by kernel_rfl) fun J e1 => ?_
 try simp only [← e1]
 clear e1
 generalize lpL (Y.ctx (lim' Y)) 133 = lp
 generalize lim' Y = call
 kernel_rfl
theorem zaj.p3 (y0:Int) (y1:Bool) (y2:Int) (y3:BAy) (y4 y5:LLD) : zaj.P3 y0 y1 y2 y3 y4 y5 = bif !y1 then bif decide ((↑y3.size : Int) ≤ 24) then some ⟨[.v (.bool ((↑y4.length : Int) == 0))], []⟩ else some ⟨[.v (.bool false)], []⟩ else bif !y3.toList == [] then some ⟨[.v (.bool false)], []⟩ else (zaj.L8 y0 y4 (↑y4.length : Int) 0 y1 y2 y3 y4 y5).bind zaj.A8 := by
 delta zaj.P3 zaj.L8 zaj.A8 XX
 refine zbk [2, 3] 3 (by kernel_rfl) fun J e1 => ?_
 have eA := evA_J [2, 3] 8 (by kernel_rfl) e1
 try simp only [eA]
 clear eA
 try simp only [← e1]
 clear e1
 show _ = _
 generalize lpL (Y.ctx (lim' Y)) 133 = lp
 generalize lim' Y = call
 kernel_rfl
theorem zaj.s8 (y0:Int) (y1:LLD) (y2 y3:Int) (y4:Bool) (y5:Int) (y6:BAy) (y7 y8:LLD) : zaj.L8 y0 y1 y2 y3 y4 y5 y6 y7 y8 = bif decide (y3 < y2) then bif decide (0 ≤ y3) && decide (y3 < (↑y1.length : Int)) && decide ((y1.getD y3.toNat []).length = 1) then bif zas [.str] (y1.getD y3.toNat []) 0 && decide (1 ≤ (y1.getD y3.toNat []).length) then (zaQ [.one (.v (.string ((y1.getD y3.toNat []).getD 0 .h).str))] []).bind fun val => bif zag [.bool] val.1 && true then bif !(val.1.getD 0 .d).bool then zaj.P11 y0 y1 y2 y3 true y4 y5 y6 y7 y8 else bif decide (y3 > 0) then bif decide (0 ≤ IntKind.i64.wrap (y3 - 1)) && decide (IntKind.i64.wrap (y3 - 1) < (↑y7.length : Int)) && decide ((y7.getD (IntKind.i64.wrap (y3 - 1)).toNat []).length = 1) then bif zas [.str] (y7.getD (IntKind.i64.wrap (y3 - 1)).toNat []) 0 && decide (1 ≤ (y7.getD (IntKind.i64.wrap (y3 - 1)).toNat []).length) then bif !Op.bytesLess ((y7.getD (IntKind.i64.wrap (y3 - 1)).toNat []).getD 0 .h).str.toList ((y1.getD y3.toNat []).getD 0 .h).str.toList then zaj.P11 y0 y1 y2 y3 true y4 y5 y6 y7 y8 else bif decide (0 ≤ y3) && decide (y3 < (↑y8.length : Int)) && decide ((y8.getD y3.toNat []).length = 5) then bif zas [.bool, .int .i64, .str, .sl, .sl] (y8.getD y3.toNat []) 0 && decide (5 ≤ (y8.getD y3.toNat []).length) then (zaj [.g [.v (.bool ((y8.getD y3.toNat []).getD 0 .h).bool), .v (.int .i64 ((y8.getD y3.toNat []).getD 1 .h).int), .v (.string ((y8.getD y3.toNat []).getD 2 .h).str), .s ((y8.getD y3.toNat []).getD 3 .h).es, .s ((y8.getD y3.toNat []).getD 4 .h).es], .one (.v (.int .i64 (IntKind.i64.wrap (y0 + 1))))] []).bind fun val => bif zag [.bool] val.1 && true then zaj.P11 y0 y1 y2 y3 (!(val.1.getD 0 .d).bool) y4 y5 y6 y7 y8 else none else none else none else none else none else bif decide (0 ≤ y3) && decide (y3 < (↑y8.length : Int)) && decide ((y8.getD y3.toNat []).length = 5) then bif zas [.bool, .int .i64, .str, .sl, .sl] (y8.getD y3.toNat []) 0 && decide (5 ≤ (y8.getD y3.toNat []).length) then (zaj [.g [.v (.bool ((y8.getD y3.toNat []).getD 0 .h).bool), .v (.int .i64 ((y8.getD y3.toNat []).getD 1 .h).int), .v (.string ((y8.getD y3.toNat []).getD 2 .h).str), .s ((y8.getD y3.toNat []).getD 3 .h).es, .s ((y8.getD y3.toNat []).getD 4 .h).es], .one (.v (.int .i64 (IntKind.i64.wrap (y0 + 1))))] []).bind fun val => bif zag [.bool] val.1 && true then zaj.P11 y0 y1 y2 y3 (!(val.1.getD 0 .d).bool) y4 y5 y6 y7 y8 else none else none else none else none else none else none else some zaj.x8 := by
 refine (zbi (Y := Y) (c := lim' Y) (fn := 133) (rid := 8) (b := zar 8 zaj.c) (by kernel_rfl) _).trans ?_
 delta zaj.L8 zaQ zaj.P11 zaj zaj.x8 XX
 refine zbw [11] (by kernel_rfl) fun J e1 => ?_
 try simp only [← e1]
 clear e1
 generalize lpL (Y.ctx (lim' Y)) 133 = lp
 generalize lim' Y = call
 kernel_rfl
theorem zaj.p11 (y0:Int) (y1:LLD) (y2 y3:Int) (y4 y5:Bool) (y6:Int) (y7:BAy) (y8 y9:LLD) : zaj.P11 y0 y1 y2 y3 y4 y5 y6 y7 y8 y9 = bif y4 then some (zaj.q8 false) else zaj.L8 y0 y1 y2 (IntKind.i64.wrap (y3 + 1)) y5 y6 y7 y8 y9 := by
 delta zaj.P11 zaj.q8 zaj.L8 XX
 refine zbk [11] 11 (by kernel_rfl) fun J e1 => ?_
 try simp only [← e1]
 clear e1
 generalize lpL (Y.ctx (lim' Y)) 133 = lp
 generalize lim' Y = call
 kernel_rfl
theorem zaj.a8x8 : zaj.A8 zaj.x8 = some ⟨[.v (.bool true)], []⟩ := by
 delta zaj.A8 zaj.x8 XX
 refine zbh [2, 3] 8 (by kernel_rfl) fun J e1 => ?_
 have eA := evA_J [2, 3] 8 (by kernel_rfl) e1
 try simp only [eA]
 clear eA
 try simp only [← e1]
 clear e1
 show _ = _
 generalize lpL (Y.ctx (lim' Y)) 133 = lp
 generalize lim' Y = call
 kernel_rfl
theorem zaj.a8q8 (y0:Bool) : zaj.A8 (zaj.q8 y0) = some ⟨[.v (.bool y0)], []⟩ := by
 delta zaj.A8 zaj.q8 XX
 refine zbh [2, 3] 8 (by kernel_rfl) fun J e1 => ?_
 have eA := evA_J [2, 3] 8 (by kernel_rfl) e1
 try simp only [eA]
 clear eA
 try simp only [← e1]
 clear e1
 show _ = _
 generalize lpL (Y.ctx (lim' Y)) 133 = lp
 generalize lim' Y = call
 kernel_rfl
noncomputable def zaz.L3 (y0:Int) (y1:LLD) (y2 y3:Int) : Option (Ex × St) := lpL XX 134 (zar 3 zaz.c) (mkG 0 19 [(3, .one (.v (.int .i64 y0))), (7, .one (.s y1)), (8, .one (.v (.int .i64 y2))), (9, .one (.v (.int .i64 y3)))] [] GL)
noncomputable def zaz.A3 : Ex × St → Option Res := fun r => evA XX 134 (lpL XX 134) 3 zaz.c r.fst r.snd (outE XX 134 Tryz.f134)
noncomputable def zaz.x3 (y0:Int) : Ex × St := (Ex.exit 0, mkG 0 19 [(3, .one (.v (.int .i64 y0)))] [] GL)
theorem zaz.e (a0:Bool) (a1:Int) (a2:BAy) (a3 a4:LLD) : zaz [.g [.v (.bool a0), .v (.int .i64 a1), .v (.string a2), .s a3, .s a4]] [] = (zaz.L3 1 a4 (↑a4.length : Int) 0).bind zaz.A3 := by
 refine (zaz.run _ _ (by kernel_rfl)).trans ?_
 delta zaz zaz.L3 zaz.A3 XX
 generalize lpL (Y.ctx (lim' Y)) 134 = lp
 generalize lim' Y = call
 kernel_rfl
theorem zaz.s3 (y0:Int) (y1:LLD) (y2 y3:Int) : zaz.L3 y0 y1 y2 y3 = bif decide (y3 < y2) then bif decide (0 ≤ y3) && decide (y3 < (↑y1.length : Int)) && decide ((y1.getD y3.toNat []).length = 5) then bif zas [.bool, .int .i64, .str, .sl, .sl] (y1.getD y3.toNat []) 0 && decide (5 ≤ (y1.getD y3.toNat []).length) then (zaz [.g [.v (.bool ((y1.getD y3.toNat []).getD 0 .h).bool), .v (.int .i64 ((y1.getD y3.toNat []).getD 1 .h).int), .v (.string ((y1.getD y3.toNat []).getD 2 .h).str), .s ((y1.getD y3.toNat []).getD 3 .h).es, .s ((y1.getD y3.toNat []).getD 4 .h).es]] []).bind fun val => bif zag [.int .i64] val.1 && true then zaz.L3 (IntKind.i64.wrap (y0 + (val.1.getD 0 .d).int)) y1 y2 (IntKind.i64.wrap (y3 + 1)) else none else none else none else some (zaz.x3 y0) := by
 refine (zbi (Y := Y) (c := lim' Y) (fn := 134) (rid := 3) (b := zar 3 zaz.c) (by kernel_rfl) _).trans ?_
 delta zaz.L3 zaz zaz.x3 XX
 generalize lpL (Y.ctx (lim' Y)) 134 = lp
 generalize lim' Y = call
 kernel_rfl
theorem zaz.a3x3 (y0:Int) : zaz.A3 (zaz.x3 y0) = some ⟨[.v (.int .i64 y0)], []⟩ := by
 delta zaz.A3 zaz.x3 XX
 generalize lpL (Y.ctx (lim' Y)) 134 = lp
 generalize lim' Y = call
 kernel_rfl
noncomputable def iTree_each_show.L3 (y0 y1:LLD) (y2 y3:Int) (y4:BAy) (y5:Bool) (y6:Int) (y7:BAy) (y8 y9:LLD) : Option (Ex × St) := lpL XX 135 (zar 3 zaZ.c) (mkG 1 31 [(1, .one (.s y0)), (2, .f zaW.id [.bx [A0.p true 0 [] 0] 0]), (3, .one (.p true 4 [] 0)), (13, .one (.s y1)), (14, .one (.v (.int .i64 y2))), (15, .one (.v (.int .i64 y3)))] [(0, some ⟨.bld 170 5, [.v (.string y4), .h], [.deep, .deep]⟩), (4, some ⟨.box, [.v (.bool y5), .v (.int .i64 y6), .v (.string y7), .s y8, .s y9], [.deep, .deep, .deep, .sh, .sh]⟩)] GL)
noncomputable def iTree_each_show.A3 : Ex × St → Option Res := fun r => evA XX 135 (lpL XX 135) 3 zaZ.c r.fst r.snd (outE XX 135 Tryz.f135)
noncomputable def iTree_each_show.x3 (y0:BAy) : Ex × St := (Ex.exit 0, mkG 1 31 [] [(0, some ⟨.bld 170 5, [.v (.string y0), .h], [.deep, .deep]⟩)] GL)
theorem iTree_each_show.e (a0:Bool) (a1:Int) (a2:BAy) (a3 a4 a5:LLD) (b:BAy) : zaZ [.g [.v (.bool a0), .v (.int .i64 a1), .v (.string a2), .s a3, .s a4], .one (.s a5), .f zaW.id [.bx [A0.p true 0 [] 0] 0]] [⟨.bld 170 5, [.v (.string b), .h], [.deep, .deep]⟩] = (zaW [.one (.s a5), .g [.v (.bool a0), .v (.int .i64 a1), .v (.string a2), .s a3, .s a4], .one (.bx [A0.p true 0 [] 0] 0)] [⟨.bld 170 5, [.v (.string b), .h], [.deep, .deep]⟩]).bind fun val => bif zag [] val.1 && zbd [⟨⟨.bld 170 5, [.v (.string b), .h], [.deep, .deep]⟩, .box 0⟩] val.2 then (iTree_each_show.L3 a5 a3 (↑a3.length : Int) 0 ((val.2.getD 0 ⟨.ro, [], []⟩).2.getD 0 .h).str a0 a1 a2 a3 a4).bind iTree_each_show.A3 else none := by
 refine (zaZ.run _ _ (by kernel_rfl)).trans ?_
 delta zaZ zaW iTree_each_show.L3 iTree_each_show.A3 zaW.id XX
 generalize lpL (Y.ctx (lim' Y)) 135 = lp
 generalize lim' Y = call
 kernel_rfl
theorem iTree_each_show.s3 (y0 y1:LLD) (y2 y3:Int) (y4:BAy) (y5:Bool) (y6:Int) (y7:BAy) (y8 y9:LLD) : iTree_each_show.L3 y0 y1 y2 y3 y4 y5 y6 y7 y8 y9 = bif decide (y3 < y2) then bif decide (0 ≤ y3) && decide (y3 < (↑y1.length : Int)) && decide ((y1.getD y3.toNat []).length = 1) then bif zas [.str] (y1.getD y3.toNat []) 0 && decide (1 ≤ (y1.getD y3.toNat []).length) then bif decide (0 ≤ y3) && decide (y3 < (↑y9.length : Int)) && decide ((y9.getD y3.toNat []).length = 5) then bif zas [.bool, .int .i64, .str, .sl, .sl] (y9.getD y3.toNat []) 0 && decide (5 ≤ (y9.getD y3.toNat []).length) then (zdh [.one (.s y0), .one (.v (.string ((y1.getD y3.toNat []).getD 0 .h).str))] []).bind fun val => bif zag [.own .deep] val.1 && true then (zaZ [.g [.v (.bool ((y9.getD y3.toNat []).getD 0 .h).bool), .v (.int .i64 ((y9.getD y3.toNat []).getD 1 .h).int), .v (.string ((y9.getD y3.toNat []).getD 2 .h).str), .s ((y9.getD y3.toNat []).getD 3 .h).es, .s ((y9.getD y3.toNat []).getD 4 .h).es], .one (.s (val.1.getD 0 .d).es), .f zaW.id [.bx [A0.p true 0 [] 0] 0]] [⟨.bld 170 5, [.v (.string y4), .h], [.deep, .deep]⟩]).bind fun val => bif zag [] val.1 && zbd [⟨⟨.bld 170 5, [.v (.string y4), .h], [.deep, .deep]⟩, .box 0⟩] val.2 then iTree_each_show.L3 y0 y1 y2 (IntKind.i64.wrap (y3 + 1)) ((val.2.getD 0 ⟨.ro, [], []⟩).2.getD 0 .h).str y5 y6 y7 y8 y9 else none else none else none else none else none else none else some (iTree_each_show.x3 y4) := by
 refine (zbi (Y := Y) (c := lim' Y) (fn := 135) (rid := 3) (b := zar 3 zaZ.c) (by kernel_rfl) _).trans ?_
 delta iTree_each_show.L3 zdh zaZ iTree_each_show.x3 zaW.id XX
 generalize lpL (Y.ctx (lim' Y)) 135 = lp
 generalize lim' Y = call
 kernel_rfl
theorem iTree_each_show.a3x3 (y0:BAy) : iTree_each_show.A3 (iTree_each_show.x3 y0) = some ⟨[], [⟨.bld 170 5, [.v (.string y0), .h], [.deep, .deep]⟩]⟩ := by
 delta iTree_each_show.A3 iTree_each_show.x3 XX
 generalize lpL (Y.ctx (lim' Y)) 135 = lp
 generalize lim' Y = call
 kernel_rfl
noncomputable def iTree_each_table.L3 (y0 y1:LLD) (y2 y3:Int) (y4:LLD) (y5:Bool) (y6:Int) (y7:BAy) (y8 y9:LLD) : Option (Ex × St) := lpL XX 135 (zar 3 zaZ.c) (mkG 1 31 [(1, .one (.s y0)), (2, .f zaR.id [.p true 0 [] 0]), (3, .one (.p true 4 [] 0)), (13, .one (.s y1)), (14, .one (.v (.int .i64 y2))), (15, .one (.v (.int .i64 y3)))] [(0, some ⟨.box, [.s y4], [.deep]⟩), (4, some ⟨.box, [.v (.bool y5), .v (.int .i64 y6), .v (.string y7), .s y8, .s y9], [.deep, .deep, .deep, .sh, .sh]⟩)] GL)
noncomputable def iTree_each_table.A3 : Ex × St → Option Res := fun r => evA XX 135 (lpL XX 135) 3 zaZ.c r.fst r.snd (outE XX 135 Tryz.f135)
noncomputable def iTree_each_table.x3 (y0:LLD) : Ex × St := (Ex.exit 0, mkG 1 31 [] [(0, some ⟨.box, [.s y0], [.deep]⟩)] GL)
theorem iTree_each_table.e (a0:Bool) (a1:Int) (a2:BAy) (a3 a4 a5 a6:LLD) : zaZ [.g [.v (.bool a0), .v (.int .i64 a1), .v (.string a2), .s a3, .s a4], .one (.s a5), .f zaR.id [.p true 0 [] 0]] [⟨.box, [.s a6], [.deep]⟩] = (zaR [.one (.s a5), .g [.v (.bool a0), .v (.int .i64 a1), .v (.string a2), .s a3, .s a4], .one (.p true 0 [] 0)] [⟨.box, [.s a6], [.deep]⟩]).bind fun val => bif zag [] val.1 && zbd [⟨⟨.box, [.s a6], [.deep]⟩, .box 0⟩] val.2 then (iTree_each_table.L3 a5 a3 (↑a3.length : Int) 0 ((val.2.getD 0 ⟨.ro, [], []⟩).2.getD 0 .h).es a0 a1 a2 a3 a4).bind iTree_each_table.A3 else none := by
 refine (zaZ.run _ _ (by kernel_rfl)).trans ?_
 delta zaZ zaR iTree_each_table.L3 iTree_each_table.A3 zaR.id XX
 generalize lpL (Y.ctx (lim' Y)) 135 = lp
 generalize lim' Y = call
 kernel_rfl
theorem iTree_each_table.s3 (y0 y1:LLD) (y2 y3:Int) (y4:LLD) (y5:Bool) (y6:Int) (y7:BAy) (y8 y9:LLD) : iTree_each_table.L3 y0 y1 y2 y3 y4 y5 y6 y7 y8 y9 = bif decide (y3 < y2) then bif decide (0 ≤ y3) && decide (y3 < (↑y1.length : Int)) && decide ((y1.getD y3.toNat []).length = 1) then bif zas [.str] (y1.getD y3.toNat []) 0 && decide (1 ≤ (y1.getD y3.toNat []).length) then bif decide (0 ≤ y3) && decide (y3 < (↑y9.length : Int)) && decide ((y9.getD y3.toNat []).length = 5) then bif zas [.bool, .int .i64, .str, .sl, .sl] (y9.getD y3.toNat []) 0 && decide (5 ≤ (y9.getD y3.toNat []).length) then (zdh [.one (.s y0), .one (.v (.string ((y1.getD y3.toNat []).getD 0 .h).str))] []).bind fun val => bif zag [.own .deep] val.1 && true then (zaZ [.g [.v (.bool ((y9.getD y3.toNat []).getD 0 .h).bool), .v (.int .i64 ((y9.getD y3.toNat []).getD 1 .h).int), .v (.string ((y9.getD y3.toNat []).getD 2 .h).str), .s ((y9.getD y3.toNat []).getD 3 .h).es, .s ((y9.getD y3.toNat []).getD 4 .h).es], .one (.s (val.1.getD 0 .d).es), .f zaR.id [.p true 0 [] 0]] [⟨.box, [.s y4], [.deep]⟩]).bind fun val => bif zag [] val.1 && zbd [⟨⟨.box, [.s y4], [.deep]⟩, .box 0⟩] val.2 then iTree_each_table.L3 y0 y1 y2 (IntKind.i64.wrap (y3 + 1)) ((val.2.getD 0 ⟨.ro, [], []⟩).2.getD 0 .h).es y5 y6 y7 y8 y9 else none else none else none else none else none else none else some (iTree_each_table.x3 y4) := by
 refine (zbi (Y := Y) (c := lim' Y) (fn := 135) (rid := 3) (b := zar 3 zaZ.c) (by kernel_rfl) _).trans ?_
 delta iTree_each_table.L3 zdh zaZ iTree_each_table.x3 zaR.id XX
 generalize lpL (Y.ctx (lim' Y)) 135 = lp
 generalize lim' Y = call
 kernel_rfl
theorem iTree_each_table.a3x3 (y0:LLD) : iTree_each_table.A3 (iTree_each_table.x3 y0) = some ⟨[], [⟨.box, [.s y0], [.deep]⟩]⟩ := by
 delta iTree_each_table.A3 iTree_each_table.x3 XX
 generalize lpL (Y.ctx (lim' Y)) 135 = lp
 generalize lim' Y = call
 kernel_rfl
theorem zaR.e (a0:LLD) (b0:Bool) (b1:Int) (b2:BAy) (b3 b4 a6:LLD) : zaR [.one (.s a0), .g [.v (.bool b0), .v (.int .i64 b1), .v (.string b2), .s b3, .s b4], .one (.p true 0 [] 0)] [⟨.box, [D.s a6], [.deep]⟩] = bif zaA 1 a0 && zaL false a0 && true && decide ((0 + a0.length) * 17 ≤ 70368744177664) then (za3 [.g [.v (.bool b0), .v (.int .i64 b1), .v (.string b2), .s b3, .s b4]] []).bind fun val => bif zag [.int .i64] val.1 && true then bif zaA 5 a6 && true && true && true && decide ((a6.length + 1) * 65 ≤ 70368744177664) then some ⟨[], [⟨.box, [D.s (a6 ++ [[D.s a0, D.v (.bool b0), D.v (.int .i64 b1), D.v (.string b2), D.v (.int .i64 (val.1.getD 0 .d).int)]])], [.deep]⟩]⟩ else none else none else none := by
 refine (zaR.run _ _ (by kernel_rfl)).trans ?_
 delta zaR za3 XX
 generalize lpL (Y.ctx (lim' Y)) 136 = lp
 generalize lim' Y = call
 kernel_rfl
noncomputable def za3.L4 (y0:Int) (y1:BAy) (y2 y3:Int) : Option (Ex × St) := lpL XX 137 (zar 4 za3.c) (mkG 0 23 [(3, .one (.v (.int .i64 y0))), (4, .one (.v (.string y1))), (9, .one (.v (.int .i64 y2))), (10, .one (.v (.int .i64 y3)))] [] GL)
noncomputable def za3.A4 : Ex × St → Option Res := fun r => evA XX 137 (lpL XX 137) 4 za3.c r.fst r.snd (outE XX 137 Tryz.f137)
noncomputable def za3.x4 (y0:Int) : Ex × St := (Ex.exit 0, mkG 0 23 [(3, .one (.v (.int .i64 y0)))] [] GL)
theorem za3.e (a0:Bool) (a1:Int) (a2:BAy) (a3 a4:LLD) : za3 [.g [.v (.bool a0), .v (.int .i64 a1), .v (.string a2), .s a3, .s a4]] [] = (zbK [.g [.v (.bool a0), .v (.int .i64 a1), .v (.string a2), .s a3, .s a4]] []).bind fun val => bif zag [.str] val.1 && true then (za3.L4 7 (val.1.getD 0 .d).str (↑(val.1.getD 0 .d).str.size : Int) 0).bind za3.A4 else none := by
 refine (za3.run _ _ (by kernel_rfl)).trans ?_
 delta za3 zbK za3.L4 za3.A4 XX
 generalize lpL (Y.ctx (lim' Y)) 137 = lp
 generalize lim' Y = call
 kernel_rfl
theorem za3.s4 (y0:Int) (y1:BAy) (y2 y3:Int) : za3.L4 y0 y1 y2 y3 = bif decide (y3 < y2) then bif decide (0 ≤ y3) && decide (y3 < (↑y1.size : Int)) then za3.L4 ((IntKind.i64.wrap (IntKind.i64.wrap (131 * y0) + IntKind.i64.wrap (zbj y1 y3.toNat))).tmod 1000000007) y1 y2 (IntKind.i64.wrap (y3 + 1)) else none else some (za3.x4 y0) := by
 refine (zbi (Y := Y) (c := lim' Y) (fn := 137) (rid := 4) (b := zar 4 za3.c) (by kernel_rfl) _).trans ?_
 delta za3.L4 za3.x4 XX
 generalize lpL (Y.ctx (lim' Y)) 137 = lp
 generalize lim' Y = call
 kernel_rfl
theorem za3.a4x4 (y0:Int) : za3.A4 (za3.x4 y0) = some ⟨[.v (.int .i64 y0)], []⟩ := by
 delta za3.A4 za3.x4 XX
 generalize lpL (Y.ctx (lim' Y)) 137 = lp
 generalize lim' Y = call
 kernel_rfl
noncomputable def zau.P2 (y0:Int) (y1 y2:Bool) (y3:Int) (y4:BAy) (y5 y6:LLD) : Option Res := evB XX 138 (lpL XX 138) 2 zau.c (mkG 0 29 [(1, .one (.v (.int .i64 y0))), (2, .one (.p true 2 [] 0)), (12, .one (.v (.bool y1)))] [(2, some ⟨.box, [.v (.bool y2), .v (.int .i64 y3), .v (.string y4), .s y5, .s y6], [.deep, .deep, .deep, .sh, .sh]⟩)] GL) (outE XX 138 Tryz.f138)
noncomputable def zau.P3 (y0:Int) (y1:Bool) (y2:Int) (y3:BAy) (y4 y5:LLD) : Option Res := evB XX 138 (lpL XX 138) 3 zau.c (mkG 0 29 [(1, .one (.v (.int .i64 y0))), (2, .one (.p true 2 [] 0))] [(2, some ⟨.box, [.v (.bool y1), .v (.int .i64 y2), .v (.string y3), .s y4, .s y5], [.deep, .deep, .deep, .sh, .sh]⟩)] GL) (outE XX 138 Tryz.f138)
noncomputable def zau.L4 (y0 y1:Int) (y2:Bool) (y3:Int) (y4:BAy) (y5 y6:LLD) : Option (Ex × St) := lpL XX 138 (zar 4 zau.c) (mkG 0 29 [(1, .one (.v (.int .i64 y0))), (2, .one (.p true 2 [] 0)), (5, .one (.v (.int .i64 y1)))] [(2, some ⟨.box, [.v (.bool y2), .v (.int .i64 y3), .v (.string y4), .s y5, .s y6], [.deep, .deep, .deep, .sh, .sh]⟩)] GL)
noncomputable def zau.A4 : Ex × St → Option Res := fun r => evA XX 138 (lpL XX 138) 4 zau.c r.fst r.snd (outE XX 138 Tryz.f138)
noncomputable def zau.q4 (y0:Bool) : Ex × St := (Ex.ret, mkG 0 29 [(4, .one (.v (.bool y0)))] [] GL)
noncomputable def zau.x4 : Ex × St := (Ex.exit 0, mkG 0 29 [] [] GL)
theorem zau.e (a0:Bool) (a1:Int) (a2:BAy) (a3 a4:LLD) (a5:Int) : zau [.g [.v (.bool a0), .v (.int .i64 a1), .v (.string a2), .s a3, .s a4], .one (.v (.int .i64 a5))] [] = (zam [.g [.v (.bool a0), .v (.int .i64 a1), .v (.string a2), .s a3, .s a4]] []).bind fun val => bif zag [.bool] val.1 && true then bif !(val.1.getD 0 .d).bool then zau.P2 a5 true a0 a1 a2 a3 a4 else zau.P2 a5 (decide (a5 > 4)) a0 a1 a2 a3 a4 else none := by
 refine (zau.run _ _ (by kernel_rfl)).trans ?_
 delta zau zam zau.P2 XX
 refine zbw [2, 3] (by kernel_rfl) fun J e1 => ?_
 try simp only [← e1]
 clear e1
 generalize lpL (Y.ctx (lim' Y)) 138 = lp
 generalize lim' Y = call
 kernel_rfl
theorem zau.p2 (y0:Int) (y1 y2:Bool) (y3:Int) (y4:BAy) (y5 y6:LLD) : zau.P2 y0 y1 y2 y3 y4 y5 y6 = bif y1 then some ⟨[.v (.bool false)], []⟩ else zau.P3 y0 y2 y3 y4 y5 y6 := by
 delta zau.P2 zau.P3 XX
 refine zbk [2, 3] 2 (by kernel_rfl) fun J e1 => ?_
 try simp only [← e1]
 clear e1
 generalize lpL (Y.ctx (lim' Y)) 138 = lp
 generalize lim' Y = call
 kernel_rfl
theorem zau.p3 (y0:Int) (y1:Bool) (y2:Int) (y3:BAy) (y4 y5:LLD) : zau.P3 y0 y1 y2 y3 y4 y5 = (zau.L4 y0 0 y1 y2 y3 y4 y5).bind zau.A4 := by
 delta zau.P3 zau.L4 zau.A4 XX
 refine zbk [2, 3] 3 (by kernel_rfl) fun J e1 => ?_
 have eA := evA_J [2, 3] 4 (by kernel_rfl) e1
 try simp only [eA]
 clear eA
 try simp only [← e1]
 clear e1
 show _ = _
 generalize lpL (Y.ctx (lim' Y)) 138 = lp
 generalize lim' Y = call
 kernel_rfl
theorem zau.s4 (y0 y1:Int) (y2:Bool) (y3:Int) (y4:BAy) (y5 y6:LLD) : zau.L4 y0 y1 y2 y3 y4 y5 y6 = bif decide (y1 < (↑y6.length : Int)) then bif decide (0 ≤ y1) && decide (y1 < (↑y6.length : Int)) && decide ((y6.getD y1.toNat []).length = 5) then bif zas [.bool, .int .i64, .str, .sl, .sl] (y6.getD y1.toNat []) 0 && decide (5 ≤ (y6.getD y1.toNat []).length) then (zau [.g [.v (.bool ((y6.getD y1.toNat []).getD 0 .h).bool), .v (.int .i64 ((y6.getD y1.toNat []).getD 1 .h).int), .v (.string ((y6.getD y1.toNat []).getD 2 .h).str), .s ((y6.getD y1.toNat []).getD 3 .h).es, .s ((y6.getD y1.toNat []).getD 4 .h).es], .one (.v (.int .i64 (IntKind.i64.wrap (y0 + 1))))] []).bind fun val => bif zag [.bool] val.1 && true then bif !(val.1.getD 0 .d).bool then some (zau.q4 false) else zau.L4 y0 (IntKind.i64.wrap (y1 + 1)) y2 y3 y4 y5 y6 else none else none else none else some zau.x4 := by
 refine (zbi (Y := Y) (c := lim' Y) (fn := 138) (rid := 4) (b := zar 4 zau.c) (by kernel_rfl) _).trans ?_
 delta zau.L4 zau zau.q4 zau.x4 XX
 generalize lpL (Y.ctx (lim' Y)) 138 = lp
 generalize lim' Y = call
 kernel_rfl
theorem zau.a4q4 (y0:Bool) : zau.A4 (zau.q4 y0) = some ⟨[.v (.bool y0)], []⟩ := by
 delta zau.A4 zau.q4 XX
 refine zbh [2, 3] 4 (by kernel_rfl) fun J e1 => ?_
 have eA := evA_J [2, 3] 4 (by kernel_rfl) e1
 try simp only [eA]
 clear eA
 try simp only [← e1]
 clear e1
 show _ = _
 generalize lpL (Y.ctx (lim' Y)) 138 = lp
 generalize lim' Y = call
 kernel_rfl
theorem zau.a4x4 : zau.A4 zau.x4 = some ⟨[.v (.bool true)], []⟩ := by
 delta zau.A4 zau.x4 XX
 refine zbh [2, 3] 4 (by kernel_rfl) fun J e1 => ?_
 have eA := evA_J [2, 3] 4 (by kernel_rfl) e1
 try simp only [eA]
 clear eA
 try simp only [← e1]
 clear e1
 show _ = _
 generalize lpL (Y.ctx (lim' Y)) 138 = lp
 generalize lim' Y = call
 kernel_rfl
noncomputable def zaY.L3 (y0 y1:Int) (y2:Bool) (y3:Int) (y4:BAy) (y5 y6:LLD) : Option (Ex × St) := lpL XX 139 (zar 3 zaY.c) (mkG 0 24 [(1, .one (.p true 1 [] 0)), (3, .one (.v (.int .i64 y0))), (4, .one (.v (.int .i64 y1)))] [(1, some ⟨.box, [.v (.bool y2), .v (.int .i64 y3), .v (.string y4), .s y5, .s y6], [.deep, .deep, .deep, .sh, .sh]⟩)] GL)
noncomputable def zaY.A3 : Ex × St → Option Res := fun r => evA XX 139 (lpL XX 139) 3 zaY.c r.fst r.snd (outE XX 139 Tryz.f139)
noncomputable def zaY.x3 (y0:Int) : Ex × St := (Ex.exit 0, mkG 0 24 [(3, .one (.v (.int .i64 y0)))] [] GL)
theorem zaY.e (a0:Bool) (a1:Int) (a2:BAy) (a3 a4:LLD) : zaY [.g [.v (.bool a0), .v (.int .i64 a1), .v (.string a2), .s a3, .s a4]] [] = (zaY.L3 (↑a4.length : Int) 0 a0 a1 a2 a3 a4).bind zaY.A3 := by
 refine (zaY.run _ _ (by kernel_rfl)).trans ?_
 delta zaY zaY.L3 zaY.A3 XX
 generalize lpL (Y.ctx (lim' Y)) 139 = lp
 generalize lim' Y = call
 kernel_rfl
theorem zaY.s3 (y0 y1:Int) (y2:Bool) (y3:Int) (y4:BAy) (y5 y6:LLD) : zaY.L3 y0 y1 y2 y3 y4 y5 y6 = bif decide (y1 < (↑y6.length : Int)) then bif decide (0 ≤ y1) && decide (y1 < (↑y6.length : Int)) && decide ((y6.getD y1.toNat []).length = 5) then bif zas [.bool, .int .i64, .str, .sl, .sl] (y6.getD y1.toNat []) 0 && decide (5 ≤ (y6.getD y1.toNat []).length) then (zaY [.g [.v (.bool ((y6.getD y1.toNat []).getD 0 .h).bool), .v (.int .i64 ((y6.getD y1.toNat []).getD 1 .h).int), .v (.string ((y6.getD y1.toNat []).getD 2 .h).str), .s ((y6.getD y1.toNat []).getD 3 .h).es, .s ((y6.getD y1.toNat []).getD 4 .h).es]] []).bind fun val => bif zag [.int .i64] val.1 && true then zaY.L3 (IntKind.i64.wrap (y0 + (val.1.getD 0 .d).int)) (IntKind.i64.wrap (y1 + 1)) y2 y3 y4 y5 y6 else none else none else none else some (zaY.x3 y0) := by
 refine (zbi (Y := Y) (c := lim' Y) (fn := 139) (rid := 3) (b := zar 3 zaY.c) (by kernel_rfl) _).trans ?_
 delta zaY.L3 zaY zaY.x3 XX
 generalize lpL (Y.ctx (lim' Y)) 139 = lp
 generalize lim' Y = call
 kernel_rfl
theorem zaY.a3x3 (y0:Int) : zaY.A3 (zaY.x3 y0) = some ⟨[.v (.int .i64 y0)], []⟩ := by
 delta zaY.A3 zaY.x3 XX
 generalize lpL (Y.ctx (lim' Y)) 139 = lp
 generalize lim' Y = call
 kernel_rfl
theorem zcx.e (a0:BAy) (a1:Bool) (a2:Int) (a3:BAy) (a4 a5:LLD) : zcx [.one (.v (.string a0)), .g [.v (.bool a1), .v (.int .i64 a2), .v (.string a3), .s a4, .s a5]] [] = bif a1 then bif decide (4 + a0.size ≤ 70368744177664) then bif decide (((ByteArray.mk #[100, 105, 114, 32]) ++ a0).size + 1 ≤ 70368744177664) then (zc1 [.one (.v (.int .i64 a2))] []).bind fun val => bif zag [.str] val.1 && true then bif decide (((ByteArray.mk #[100, 105, 114, 32]) ++ a0 ++ (ByteArray.mk #[32])).size + (val.1.getD 0 .d).str.size ≤ 70368744177664) then bif decide (((ByteArray.mk #[100, 105, 114, 32]) ++ a0 ++ (ByteArray.mk #[32]) ++ (val.1.getD 0 .d).str).size + 1 ≤ 70368744177664) then some ⟨[.v (.string ((ByteArray.mk #[100, 105, 114, 32]) ++ a0 ++ (ByteArray.mk #[32]) ++ (val.1.getD 0 .d).str ++ (ByteArray.mk #[10])))], []⟩ else none else none else none else none else none else bif decide (5 + a0.size ≤ 70368744177664) then bif decide (((ByteArray.mk #[102, 105, 108, 101, 32]) ++ a0).size + 1 ≤ 70368744177664) then (zc1 [.one (.v (.int .i64 a2))] []).bind fun val => bif zag [.str] val.1 && true then bif decide (((ByteArray.mk #[102, 105, 108, 101, 32]) ++ a0 ++ (ByteArray.mk #[32])).size + (val.1.getD 0 .d).str.size ≤ 70368744177664) then bif decide (((ByteArray.mk #[102, 105, 108, 101, 32]) ++ a0 ++ (ByteArray.mk #[32]) ++ (val.1.getD 0 .d).str).size + 1 ≤ 70368744177664) then (zbr [.one (.v (.string a3))] []).bind fun val_1 => bif zag [.str] val_1.1 && true then bif decide (((ByteArray.mk #[102, 105, 108, 101, 32]) ++ a0 ++ (ByteArray.mk #[32]) ++ (val.1.getD 0 .d).str ++ (ByteArray.mk #[32])).size + (val_1.1.getD 0 .d).str.size ≤ 70368744177664) then bif decide (((ByteArray.mk #[102, 105, 108, 101, 32]) ++ a0 ++ (ByteArray.mk #[32]) ++ (val.1.getD 0 .d).str ++ (ByteArray.mk #[32]) ++ (val_1.1.getD 0 .d).str).size + 1 ≤ 70368744177664) then some ⟨[.v (.string ((ByteArray.mk #[102, 105, 108, 101, 32]) ++ a0 ++ (ByteArray.mk #[32]) ++ (val.1.getD 0 .d).str ++ (ByteArray.mk #[32]) ++ (val_1.1.getD 0 .d).str ++ (ByteArray.mk #[10])))], []⟩ else none else none else none else none else none else none else none else none := by
 refine (zcx.run _ _ (by kernel_rfl)).trans ?_
 delta zcx zc1 zbr XX
 generalize lpL (Y.ctx (lim' Y)) 149 = lp
 generalize lim' Y = call
 kernel_rfl
theorem zbV.e (a0:LLD) : zbV [.one (.s a0)] [] = bif (↑a0.length : Int) == 0 then some ⟨[.v (.string (ByteArray.mk #[47]))], []⟩ else (strings_Join [.one (.s a0), .one (.v (.string (ByteArray.mk #[47])))] []).bind fun val => bif zag [.str] val.1 && true then bif decide (1 + (val.1.getD 0 .d).str.size ≤ 70368744177664) then some ⟨[.v (.string ((ByteArray.mk #[47]) ++ (val.1.getD 0 .d).str))], []⟩ else none else none := by
 refine (zbV.run _ _ (by kernel_rfl)).trans ?_
 delta zbV strings_Join XX
 generalize lpL (Y.ctx (lim' Y)) 157 = lp
 generalize lim' Y = call
 kernel_rfl
theorem zcS.e (a0:Int) : zcS [.one (.v (.int .i64 a0))] [] = (zb8 [.one (.v (.int .i64 a0)), .one (.v (.int .i64 0)), .one (.v (.int .i64 7))] []).bind fun val => bif zag [.bool] val.1 && true then some ⟨[.v (.bool (val.1.getD 0 .d).bool)], []⟩ else none := by
 refine (zcS.run _ _ (by kernel_rfl)).trans ?_
 delta zcS zb8 XX
 generalize lpL (Y.ctx (lim' Y)) 158 = lp
 generalize lim' Y = call
 kernel_rfl
theorem zbJ.e (a0:Bool) (a1:Int) (a2:BAy) (a3 a4 a5:LLD) : zbJ [.g [.v (.bool a0), .v (.int .i64 a1), .v (.string a2), .s a3, .s a4], .one (.s a5)] [] = bif a0 then (zbV [.one (.s a5)] []).bind fun val => bif zag [.str] val.1 && true then bif decide (4 + (val.1.getD 0 .d).str.size ≤ 70368744177664) then bif decide (((ByteArray.mk #[100, 105, 114, 32]) ++ (val.1.getD 0 .d).str).size + 1 ≤ 70368744177664) then (strconv_Itoa [.one (.v (.int .i64 a1))] []).bind fun val_1 => bif zag [.str] val_1.1 && true then bif decide (((ByteArray.mk #[100, 105, 114, 32]) ++ (val.1.getD 0 .d).str ++ (ByteArray.mk #[32])).size + (val_1.1.getD 0 .d).str.size ≤ 70368744177664) then bif decide (((ByteArray.mk #[100, 105, 114, 32]) ++ (val.1.getD 0 .d).str ++ (ByteArray.mk #[32]) ++ (val_1.1.getD 0 .d).str).size + 1 ≤ 70368744177664) then some ⟨[.v (.string ((ByteArray.mk #[100, 105, 114, 32]) ++ (val.1.getD 0 .d).str ++ (ByteArray.mk #[32]) ++ (val_1.1.getD 0 .d).str ++ (ByteArray.mk #[10])))], []⟩ else none else none else none else none else none else none else (zbV [.one (.s a5)] []).bind fun val => bif zag [.str] val.1 && true then bif decide (5 + (val.1.getD 0 .d).str.size ≤ 70368744177664) then bif decide (((ByteArray.mk #[102, 105, 108, 101, 32]) ++ (val.1.getD 0 .d).str).size + 1 ≤ 70368744177664) then (strconv_Itoa [.one (.v (.int .i64 a1))] []).bind fun val_1 => bif zag [.str] val_1.1 && true then bif decide (((ByteArray.mk #[102, 105, 108, 101, 32]) ++ (val.1.getD 0 .d).str ++ (ByteArray.mk #[32])).size + (val_1.1.getD 0 .d).str.size ≤ 70368744177664) then bif decide (((ByteArray.mk #[102, 105, 108, 101, 32]) ++ (val.1.getD 0 .d).str ++ (ByteArray.mk #[32]) ++ (val_1.1.getD 0 .d).str).size + 1 ≤ 70368744177664) then (zb1 [.one (.v (.string a2))] []).bind fun val_2 => bif zag [.str] val_2.1 && true then bif decide (((ByteArray.mk #[102, 105, 108, 101, 32]) ++ (val.1.getD 0 .d).str ++ (ByteArray.mk #[32]) ++ (val_1.1.getD 0 .d).str ++ (ByteArray.mk #[32])).size + (val_2.1.getD 0 .d).str.size ≤ 70368744177664) then bif decide (((ByteArray.mk #[102, 105, 108, 101, 32]) ++ (val.1.getD 0 .d).str ++ (ByteArray.mk #[32]) ++ (val_1.1.getD 0 .d).str ++ (ByteArray.mk #[32]) ++ (val_2.1.getD 0 .d).str).size + 1 ≤ 70368744177664) then some ⟨[.v (.string ((ByteArray.mk #[102, 105, 108, 101, 32]) ++ (val.1.getD 0 .d).str ++ (ByteArray.mk #[32]) ++ (val_1.1.getD 0 .d).str ++ (ByteArray.mk #[32]) ++ (val_2.1.getD 0 .d).str ++ (ByteArray.mk #[10])))], []⟩ else none else none else none else none else none else none else none else none else none := by
 refine (zbJ.run _ _ (by kernel_rfl)).trans ?_
 delta zbJ zbV strconv_Itoa zb1 XX
 generalize lpL (Y.ctx (lim' Y)) 160 = lp
 generalize lim' Y = call
 kernel_rfl
noncomputable def zbf.L3 (y0 y1:BAy) (y2:Int) (y3:Bool) (y4:Int) (y5:BAy) (y6 y7:LLD) : Option (Ex × St) := lpL XX 164 (zar 3 zbf.c) (mkG 0 41 [(0, .one (.v (.string y0))), (3, .one (.p true 3 [] 0)), (5, .one (.v (.string y1))), (6, .one (.v (.int .i64 y2)))] [(3, some ⟨.box, [.v (.bool y3), .v (.int .i64 y4), .v (.string y5), .s y6, .s y7], [.deep, .deep, .deep, .sh, .sh]⟩)] GL)
noncomputable def zbf.A3 : Ex × St → Option Res := fun r => evA XX 164 (lpL XX 164) 3 zbf.c r.fst r.snd (outE XX 164 Tryz.f164)
noncomputable def zbf.x3 (y0:BAy) : Ex × St := (Ex.exit 0, mkG 0 41 [(5, .one (.v (.string y0)))] [] GL)
theorem zbf.e (a0:BAy) (a1:Bool) (a2:Int) (a3:BAy) (a4 a5:LLD) : zbf [.one (.v (.string a0)), .g [.v (.bool a1), .v (.int .i64 a2), .v (.string a3), .s a4, .s a5]] [] = (zbf.L3 a0 (ByteArray.mk #[]) 0 a1 a2 a3 a4 a5).bind zbf.A3 := by
 refine (zbf.run _ _ (by kernel_rfl)).trans ?_
 delta zbf zbf.L3 zbf.A3 XX
 generalize lpL (Y.ctx (lim' Y)) 164 = lp
 generalize lim' Y = call
 kernel_rfl
theorem zbf.s3 (y0 y1:BAy) (y2:Int) (y3:Bool) (y4:Int) (y5:BAy) (y6 y7:LLD) : zbf.L3 y0 y1 y2 y3 y4 y5 y6 y7 = bif decide (y2 < (↑y6.length : Int)) then bif decide (y0.size + 1 ≤ 70368744177664) then bif decide (0 ≤ y2) && decide (y2 < (↑y6.length : Int)) && decide ((y6.getD y2.toNat []).length = 1) then bif zas [.str] (y6.getD y2.toNat []) 0 && decide (1 ≤ (y6.getD y2.toNat []).length) then bif decide ((y0 ++ (ByteArray.mk #[47])).size + ((y6.getD y2.toNat []).getD 0 .h).str.size ≤ 70368744177664) then bif decide (0 ≤ y2) && decide (y2 < (↑y7.length : Int)) && decide ((y7.getD y2.toNat []).length = 5) then bif zas [.bool, .int .i64, .str, .sl, .sl] (y7.getD y2.toNat []) 0 && decide (5 ≤ (y7.getD y2.toNat []).length) then (zcx [.one (.v (.string (y0 ++ (ByteArray.mk #[47]) ++ ((y6.getD y2.toNat []).getD 0 .h).str))), .g [.v (.bool ((y7.getD y2.toNat []).getD 0 .h).bool), .v (.int .i64 ((y7.getD y2.toNat []).getD 1 .h).int), .v (.string ((y7.getD y2.toNat []).getD 2 .h).str), .s ((y7.getD y2.toNat []).getD 3 .h).es, .s ((y7.getD y2.toNat []).getD 4 .h).es]] []).bind fun val => bif zag [.str] val.1 && true then bif decide (y1.size + (val.1.getD 0 .d).str.size ≤ 70368744177664) then bif decide (0 ≤ y2) && decide (y2 < (↑y7.length : Int)) && decide ((y7.getD y2.toNat []).length = 5) then bif zas [.bool, .int .i64, .str, .sl, .sl] (y7.getD y2.toNat []) 0 && decide (5 ≤ (y7.getD y2.toNat []).length) then (zbf [.one (.v (.string (y0 ++ (ByteArray.mk #[47]) ++ ((y6.getD y2.toNat []).getD 0 .h).str))), .g [.v (.bool ((y7.getD y2.toNat []).getD 0 .h).bool), .v (.int .i64 ((y7.getD y2.toNat []).getD 1 .h).int), .v (.string ((y7.getD y2.toNat []).getD 2 .h).str), .s ((y7.getD y2.toNat []).getD 3 .h).es, .s ((y7.getD y2.toNat []).getD 4 .h).es]] []).bind fun val_1 => bif zag [.str] val_1.1 && true then bif decide ((y1 ++ (val.1.getD 0 .d).str).size + (val_1.1.getD 0 .d).str.size ≤ 70368744177664) then zbf.L3 y0 (y1 ++ (val.1.getD 0 .d).str ++ (val_1.1.getD 0 .d).str) (IntKind.i64.wrap (y2 + 1)) y3 y4 y5 y6 y7 else none else none else none else none else none else none else none else none else none else none else none else none else some (zbf.x3 y1) := by
 refine (zbi (Y := Y) (c := lim' Y) (fn := 164) (rid := 3) (b := zar 3 zbf.c) (by kernel_rfl) _).trans ?_
 delta zbf.L3 zcx zbf zbf.x3 XX
 generalize lpL (Y.ctx (lim' Y)) 164 = lp
 generalize lim' Y = call
 kernel_rfl
theorem zbf.a3x3 (y0:BAy) : zbf.A3 (zbf.x3 y0) = some ⟨[.v (.string y0)], []⟩ := by
 delta zbf.A3 zbf.x3 XX
 generalize lpL (Y.ctx (lim' Y)) 164 = lp
 generalize lim' Y = call
 kernel_rfl
theorem zbK.e (a0:Bool) (a1:Int) (a2:BAy) (a3 a4:LLD) : zbK [.g [.v (.bool a0), .v (.int .i64 a1), .v (.string a2), .s a3, .s a4]] [] = (zaZ [.g [.v (.bool a0), .v (.int .i64 a1), .v (.string a2), .s a3, .s a4], .one (.s []), .f zaW.id [.bx [A0.p true 0 [] 0] 0]] [⟨.bld 170 5, [.v (.string (ByteArray.mk #[])), .h], [.deep, .deep]⟩]).bind fun val => bif zag [] val.1 && zbd [⟨⟨.bld 170 5, [.v (.string (ByteArray.mk #[])), .h], [.deep, .deep]⟩, .box 5⟩] val.2 then (zbm [.one (.p true 0 [] 0)] [⟨.bld 170 5, [.v (.string ((val.2.getD 0 ⟨.ro, [], []⟩).2.getD 0 .h).str), .h], [.deep, .deep]⟩]).bind fun val_1 => bif zag [.str] val_1.1 && zbd [⟨⟨.bld 170 5, [.v (.string ((val.2.getD 0 ⟨.ro, [], []⟩).2.getD 0 .h).str), .h], [.deep, .deep]⟩, .box 5⟩] val_1.2 then some ⟨[.v (.string (val_1.1.getD 0 .d).str)], []⟩ else none else none := by
 refine (zbK.run _ _ (by kernel_rfl)).trans ?_
 delta zbK zaZ zbm zaW.id XX
 generalize lpL (Y.ctx (lim' Y)) 165 = lp
 generalize lim' Y = call
 kernel_rfl
theorem zcT.e (a0:LLD) (a1:BAy) : zcT [.one (.s a0), .one (.v (.string a1))] [] = bif zaA 1 a0 && zaL false a0 && true && decide ((0 + a0.length) * 17 ≤ 70368744177664) then bif zaA 1 a0 && true && true && true && decide ((a0.length + 1) * 17 ≤ 70368744177664) then some ⟨[.s (a0 ++ [[D.v (.string a1)]])], []⟩ else none else none := by
 refine (zcT.run _ _ (by kernel_rfl)).trans ?_
 delta zcT XX
 generalize lpL (Y.ctx (lim' Y)) 173 = lp
 generalize lim' Y = call
 kernel_rfl
theorem zdJ.e (a0:Bool) (a1:Int) (a2:BAy) (a3 a4:LLD) : zdJ [.g [.v (.bool a0), .v (.int .i64 a1), .v (.string a2), .s a3, .s a4]] [] = (zcx [.one (.v (.string (ByteArray.mk #[47]))), .g [.v (.bool a0), .v (.int .i64 a1), .v (.string a2), .s a3, .s a4]] []).bind fun val => bif zag [.str] val.1 && true then (zbf [.one (.v (.string (ByteArray.mk #[]))), .g [.v (.bool a0), .v (.int .i64 a1), .v (.string a2), .s a3, .s a4]] []).bind fun val_1 => bif zag [.str] val_1.1 && true then bif decide ((val.1.getD 0 .d).str.size + (val_1.1.getD 0 .d).str.size ≤ 70368744177664) then (zbv [.one (.v (.string ((val.1.getD 0 .d).str ++ (val_1.1.getD 0 .d).str)))] []).bind fun val => bif zag [.int .i64] val.1 && true then some ⟨[.v (.int .i64 (val.1.getD 0 .d).int)], []⟩ else none else none else none else none := by
 refine (zdJ.run _ _ (by kernel_rfl)).trans ?_
 delta zdJ zcx zbf zbv XX
 generalize lpL (Y.ctx (lim' Y)) 179 = lp
 generalize lim' Y = call
 kernel_rfl
noncomputable def zaf.L2 (y0:LLD) (y1:BAy) (y2 y3:Int) : Option (Ex × St) := lpL XX 180 (zar 2 zaf.c) (mkG 0 19 [(0, .one (.s y0)), (1, .one (.v (.string y1))), (7, .one (.v (.int .i64 y2))), (8, .one (.v (.int .i64 y3)))] [] GL)
noncomputable def zaf.A2 : Ex × St → Option Res := fun r => evA XX 180 (lpL XX 180) 2 zaf.c r.fst r.snd (outE XX 180 Tryz.f180)
noncomputable def zaf.q2 (y0:Int) : Ex × St := (Ex.ret, mkG 0 19 [(4, .one (.v (.int .i64 y0)))] [] GL)
noncomputable def zaf.x2 : Ex × St := (Ex.exit 0, mkG 0 19 [] [] GL)
theorem zaf.e (a0:LLD) (a1:BAy) : zaf [.one (.s a0), .one (.v (.string a1))] [] = (zaf.L2 a0 a1 (↑a0.length : Int) 0).bind zaf.A2 := by
 refine (zaf.run _ _ (by kernel_rfl)).trans ?_
 delta zaf zaf.L2 zaf.A2 XX
 generalize lpL (Y.ctx (lim' Y)) 180 = lp
 generalize lim' Y = call
 kernel_rfl
theorem zaf.s2 (y0:LLD) (y1:BAy) (y2 y3:Int) : zaf.L2 y0 y1 y2 y3 = bif decide (y3 < y2) then bif decide (0 ≤ y3) && decide (y3 < (↑y0.length : Int)) && decide ((y0.getD y3.toNat []).length = 1) then bif zas [.str] (y0.getD y3.toNat []) 0 && decide (1 ≤ (y0.getD y3.toNat []).length) then bif y1.toList == ((y0.getD y3.toNat []).getD 0 .h).str.toList then some (zaf.q2 y3) else zaf.L2 y0 y1 y2 (IntKind.i64.wrap (y3 + 1)) else none else none else some zaf.x2 := by
 refine (zbi (Y := Y) (c := lim' Y) (fn := 180) (rid := 2) (b := zar 2 zaf.c) (by kernel_rfl) _).trans ?_
 delta zaf.L2 zaf.q2 zaf.x2 XX
 generalize lpL (Y.ctx (lim' Y)) 180 = lp
 generalize lim' Y = call
 kernel_rfl
theorem zaf.a2q2 (y0:Int) : zaf.A2 (zaf.q2 y0) = some ⟨[.v (.int .i64 y0)], []⟩ := by
 delta zaf.A2 zaf.q2 XX
 generalize lpL (Y.ctx (lim' Y)) 180 = lp
 generalize lim' Y = call
 kernel_rfl
theorem zaf.a2x2 : zaf.A2 zaf.x2 = some ⟨[.v (.int .i64 (-1))], []⟩ := by
 delta zaf.A2 zaf.x2 XX
 generalize lpL (Y.ctx (lim' Y)) 180 = lp
 generalize lim' Y = call
 kernel_rfl
theorem zbg.e (a0 a1:BAy) : zbg [.one (.v (.string a0)), .one (.v (.string a1))] [] = (za6 [.one (.v (.string a0))] []).bind fun val => bif zag [.bool] val.1 && true then bif (val.1.getD 0 .d).bool then (za6 [.one (.v (.string a1))] []).bind fun val => bif zag [.bool] val.1 && true then bif !(val.1.getD 0 .d).bool then some ⟨[.v (.bool true)], []⟩ else some ⟨[.v (.bool (Op.bytesLess a0.toList a1.toList))], []⟩ else none else some ⟨[.v (.bool (Op.bytesLess a0.toList a1.toList))], []⟩ else none := by
 refine (zbg.run _ _ (by kernel_rfl)).trans ?_
 delta zbg za6 XX
 generalize lpL (Y.ctx (lim' Y)) 181 = lp
 generalize lim' Y = call
 kernel_rfl
theorem zaS.e (a0:BAy) : zaS [.one (.v (.string a0))] [] = some ⟨[.v (.bool !a0.toList == a0.toList)], []⟩ := by
 refine (zaS.run _ _ (by kernel_rfl)).trans ?_
 delta zaS XX
 generalize lpL (Y.ctx (lim' Y)) 182 = lp
 generalize lim' Y = call
 kernel_rfl
noncomputable def zaQ.L2 (y0:BAy) (y1 y2:Int) : Option (Ex × St) := lpL XX 187 (zar 2 zaQ.c) (mkG 0 35 [(0, .one (.v (.string y0))), (5, .one (.v (.int .i64 y1))), (6, .one (.v (.int .i64 y2)))] [] GL)
noncomputable def zaQ.A2 : Ex × St → Option Res := fun r => evA XX 187 (lpL XX 187) 2 zaQ.c r.fst r.snd (outE XX 187 Tryz.f187)
noncomputable def zaQ.P5 (y0:BAy) (y1 y2:Int) (y3:Bool) : Option (Ex × St) := evB XX 187 (lpL XX 187) 5 (zar 2 zaQ.c) (mkG 0 35 [(0, .one (.v (.string y0))), (5, .one (.v (.int .i64 y1))), (6, .one (.v (.int .i64 y2))), (30, .one (.v (.bool y3)))] [] GL) (backL (lpL XX 187) (zar 2 zaQ.c) (XX.live 187 2))
noncomputable def zaQ.x2 (y0:BAy) : Ex × St := (Ex.exit 0, mkG 0 35 [(0, .one (.v (.string y0)))] [] GL)
noncomputable def zaQ.q2 (y0:BAy) (y1:Bool) : Ex × St := (Ex.ret, mkG 0 35 [(0, .one (.v (.string y0))), (2, .one (.v (.bool y1)))] [] GL)
theorem zaQ.e (a0:BAy) : zaQ [.one (.v (.string a0))] [] = (zaQ.L2 a0 (↑a0.size : Int) 0).bind zaQ.A2 := by
 refine (zaQ.run _ _ (by kernel_rfl)).trans ?_
 delta zaQ zaQ.L2 zaQ.A2 XX
 generalize lpL (Y.ctx (lim' Y)) 187 = lp
 generalize lim' Y = call
 kernel_rfl
theorem zaQ.s2 (y0:BAy) (y1 y2:Int) : zaQ.L2 y0 y1 y2 = bif decide (y2 < y1) then bif decide (0 ≤ y2) && decide (y2 < (↑y0.size : Int)) then bif decide (zbj y0 y2.toNat < 97) then bif decide (0 ≤ y2) && decide (y2 < (↑y0.size : Int)) then bif decide (zbj y0 y2.toNat < 48) then zaQ.P5 y0 y1 y2 true else bif decide (0 ≤ y2) && decide (y2 < (↑y0.size : Int)) then zaQ.P5 y0 y1 y2 (decide (zbj y0 y2.toNat > 57)) else none else none else bif decide (0 ≤ y2) && decide (y2 < (↑y0.size : Int)) then bif decide (zbj y0 y2.toNat > 122) then bif decide (0 ≤ y2) && decide (y2 < (↑y0.size : Int)) then bif decide (zbj y0 y2.toNat < 48) then zaQ.P5 y0 y1 y2 true else bif decide (0 ≤ y2) && decide (y2 < (↑y0.size : Int)) then zaQ.P5 y0 y1 y2 (decide (zbj y0 y2.toNat > 57)) else none else none else zaQ.P5 y0 y1 y2 false else none else none else some (zaQ.x2 y0) := by
 refine (zbi (Y := Y) (c := lim' Y) (fn := 187) (rid := 2) (b := zar 2 zaQ.c) (by kernel_rfl) _).trans ?_
 delta zaQ.L2 zaQ.P5 zaQ.x2 XX
 refine zbw [5] (by kernel_rfl) fun J e1 => ?_
 try simp only [← e1]
 clear e1
 generalize lpL (Y.ctx (lim' Y)) 187 = lp
 generalize lim' Y = call
 kernel_rfl
theorem zaQ.p5 (y0:BAy) (y1 y2:Int) (y3:Bool) : zaQ.P5 y0 y1 y2 y3 = bif y3 then some (zaQ.q2 y0 false) else zaQ.L2 y0 y1 (IntKind.i64.wrap (y2 + 1)) := by
 delta zaQ.P5 zaQ.q2 zaQ.L2 XX
 refine zbk [5] 5 (by kernel_rfl) fun J e1 => ?_
 try simp only [← e1]
 clear e1
 generalize lpL (Y.ctx (lim' Y)) 187 = lp
 generalize lim' Y = call
 kernel_rfl
theorem zaQ.a2x2 (y0:BAy) : zaQ.A2 (zaQ.x2 y0) = (zb8 [.one (.v (.int .i64 (↑y0.size : Int))), .one (.v (.int .i64 1)), .one (.v (.int .i64 5))] []).bind fun val => bif zag [.bool] val.1 && true then some ⟨[.v (.bool (val.1.getD 0 .d).bool)], []⟩ else none := by
 delta zaQ.A2 zaQ.x2 zb8 XX
 generalize lpL (Y.ctx (lim' Y)) 187 = lp
 generalize lim' Y = call
 kernel_rfl
theorem zaQ.a2q2 (y0:BAy) (y1:Bool) : zaQ.A2 (zaQ.q2 y0 y1) = some ⟨[.v (.bool y1)], []⟩ := by
 delta zaQ.A2 zaQ.q2 XX
 generalize lpL (Y.ctx (lim' Y)) 187 = lp
 generalize lim' Y = call
 kernel_rfl
theorem zdh.e (a0:LLD) (a1:BAy) : zdh [.one (.s a0), .one (.v (.string a1))] [] = bif zaA 1 a0 && zaL false a0 && true && decide ((0 + a0.length) * 17 ≤ 70368744177664) then bif zaA 1 a0 && true && true && true && decide ((a0.length + 1) * 17 ≤ 70368744177664) then some ⟨[.o .deep (a0 ++ [[D.v (.string a1)]])], []⟩ else none else none := by
 refine (zdh.run _ _ (by kernel_rfl)).trans ?_
 delta zdh XX
 generalize lpL (Y.ctx (lim' Y)) 188 = lp
 generalize lim' Y = call
 kernel_rfl
noncomputable def zam.P2 (y0 y1:Bool) (y2:Int) (y3:BAy) (y4 y5:LLD) : Option Res := evB XX 189 (lpL XX 189) 2 zam.c (mkG 0 65 [(1, .one (.p true 1 [] 0)), (16, .one (.v (.bool y0)))] [(1, some ⟨.box, [.v (.bool y1), .v (.int .i64 y2), .v (.string y3), .s y4, .s y5], [.deep, .deep, .deep, .sh, .sh]⟩)] GL) (outE XX 189 Tryz.f189)
noncomputable def zam.P3 (y0:Bool) (y1:Int) (y2:BAy) (y3 y4:LLD) : Option Res := evB XX 189 (lpL XX 189) 3 zam.c (mkG 0 65 [(1, .one (.p true 1 [] 0))] [(1, some ⟨.box, [.v (.bool y0), .v (.int .i64 y1), .v (.string y2), .s y3, .s y4], [.deep, .deep, .deep, .sh, .sh]⟩)] GL) (outE XX 189 Tryz.f189)
noncomputable def zam.L6 (y0:Int) (y1:Bool) (y2:Int) (y3:BAy) (y4 y5:LLD) : Option (Ex × St) := lpL XX 189 (zar 6 zam.c) (mkG 0 65 [(1, .one (.p true 1 [] 0)), (3, .one (.v (.int .i64 y0)))] [(1, some ⟨.box, [.v (.bool y1), .v (.int .i64 y2), .v (.string y3), .s y4, .s y5], [.deep, .deep, .deep, .sh, .sh]⟩)] GL)
noncomputable def zam.A6 : Ex × St → Option Res := fun r => evA XX 189 (lpL XX 189) 6 zam.c r.fst r.snd (outE XX 189 Tryz.f189)
noncomputable def zam.P9 (y0:Int) (y1 y2:Bool) (y3:Int) (y4:BAy) (y5 y6:LLD) : Option (Ex × St) := evB XX 189 (lpL XX 189) 9 (zar 6 zam.c) (mkG 0 65 [(1, .one (.p true 1 [] 0)), (3, .one (.v (.int .i64 y0))), (61, .one (.v (.bool y1)))] [(1, some ⟨.box, [.v (.bool y2), .v (.int .i64 y3), .v (.string y4), .s y5, .s y6], [.deep, .deep, .deep, .sh, .sh]⟩)] GL) (backL (lpL XX 189) (zar 6 zam.c) (XX.live 189 6))
noncomputable def zam.x6 (y0:Bool) (y1:Int) (y2:BAy) (y3 y4:LLD) : Ex × St := (Ex.exit 0, mkG 0 65 [(1, .one (.p true 1 [] 0))] [(1, some ⟨.box, [.v (.bool y0), .v (.int .i64 y1), .v (.string y2), .s y3, .s y4], [.deep, .deep, .deep, .sh, .sh]⟩)] GL)
noncomputable def zam.q6 (y0 y1:Bool) (y2:Int) (y3:BAy) (y4 y5:LLD) : Ex × St := (Ex.ret, mkG 0 65 [(1, .one (.p true 1 [] 0)), (2, .one (.v (.bool y0)))] [(1, some ⟨.box, [.v (.bool y1), .v (.int .i64 y2), .v (.string y3), .s y4, .s y5], [.deep, .deep, .deep, .sh, .sh]⟩)] GL)
theorem zam.e (a0:Bool) (a1:Int) (a2:BAy) (a3 a4:LLD) : zam [.g [.v (.bool a0), .v (.int .i64 a1), .v (.string a2), .s a3, .s a4]] [] = (sl1In [.one (.v (.int .i64 a1)), .one (.v (.int .i64 0)), .one (.v (.int .i64 7))] []).bind fun val => bif zag [.bool] val.1 && true then bif !(val.1.getD 0 .d).bool then zam.P2 true a0 a1 a2 a3 a4 else zam.P2 ((↑a3.length : Int) != (↑a4.length : Int)) a0 a1 a2 a3 a4 else none := by
 refine (zam.run _ _ (by kernel_rfl)).trans ?_
 delta zam sl1In zam.P2 XX
 refine zbw [2, 3] (by kernel_rfl) fun J e1 => ?_
 try simp only [← e1]
 clear e1
 generalize lpL (Y.ctx (lim' Y)) 189 = lp
 generalize lim' Y = call
 kernel_rfl
theorem zam.p2 (y0 y1:Bool) (y2:Int) (y3:BAy) (y4 y5:LLD) : zam.P2 y0 y1 y2 y3 y4 y5 = bif y0 then some ⟨[.v (.bool false)], []⟩ else zam.P3 y1 y2 y3 y4 y5 := by
 delta zam.P2 zam.P3 XX
 refine zbk [2, 3] 2 (by kernel_rfl) fun J e1 => ?_
 try simp only [← e1]
 clear e1
 generalize lpL (Y.ctx (lim' Y)) 189 = lp
 generalize lim' Y = call
 kernel_rfl
theorem zam.p3 (y0:Bool) (y1:Int) (y2:BAy) (y3 y4:LLD) : zam.P3 y0 y1 y2 y3 y4 = bif !y0 then bif decide ((↑y2.size : Int) ≤ 24) then some ⟨[.v (.bool ((↑y3.length : Int) == 0))], []⟩ else some ⟨[.v (.bool false)], []⟩ else (zam.L6 0 y0 y1 y2 y3 y4).bind zam.A6 := by
 delta zam.P3 zam.L6 zam.A6 XX
 refine zbk [2, 3] 3 (by kernel_rfl) fun J e1 => ?_
 have eA := evA_J [2, 3] 6 (by kernel_rfl) e1
 try simp only [eA]
 clear eA
 try simp only [← e1]
 clear e1
 show _ = _
 generalize lpL (Y.ctx (lim' Y)) 189 = lp
 generalize lim' Y = call
 kernel_rfl
theorem zam.s6 (y0:Int) (y1:Bool) (y2:Int) (y3:BAy) (y4 y5:LLD) : zam.L6 y0 y1 y2 y3 y4 y5 = bif decide (y0 < (↑y4.length : Int)) then bif decide (0 ≤ y0) && decide (y0 < (↑y4.length : Int)) && decide ((y4.getD y0.toNat []).length = 1) then bif zas [.str] (y4.getD y0.toNat []) 0 && decide (1 ≤ (y4.getD y0.toNat []).length) then (zan [.one (.v (.string ((y4.getD y0.toNat []).getD 0 .h).str))] []).bind fun val => bif zag [.bool] val.1 && true then bif !(val.1.getD 0 .d).bool then zam.P9 y0 true y1 y2 y3 y4 y5 else bif decide (y0 > 0) then bif decide (0 ≤ IntKind.i64.wrap (y0 - 1)) && decide (IntKind.i64.wrap (y0 - 1) < (↑y4.length : Int)) && decide ((y4.getD (IntKind.i64.wrap (y0 - 1)).toNat []).length = 1) then bif zas [.str] (y4.getD (IntKind.i64.wrap (y0 - 1)).toNat []) 0 && decide (1 ≤ (y4.getD (IntKind.i64.wrap (y0 - 1)).toNat []).length) then bif decide (0 ≤ y0) && decide (y0 < (↑y4.length : Int)) && decide ((y4.getD y0.toNat []).length = 1) then bif zas [.str] (y4.getD y0.toNat []) 0 && decide (1 ≤ (y4.getD y0.toNat []).length) then zam.P9 y0 (!Op.bytesLess ((y4.getD (IntKind.i64.wrap (y0 - 1)).toNat []).getD 0 .h).str.toList ((y4.getD y0.toNat []).getD 0 .h).str.toList) y1 y2 y3 y4 y5 else none else none else none else none else zam.P9 y0 false y1 y2 y3 y4 y5 else none else none else none else some (zam.x6 y1 y2 y3 y4 y5) := by
 refine (zbi (Y := Y) (c := lim' Y) (fn := 189) (rid := 6) (b := zar 6 zam.c) (by kernel_rfl) _).trans ?_
 delta zam.L6 zan zam.P9 zam.x6 XX
 refine zbw [9] (by kernel_rfl) fun J e1 => ?_
 try simp only [← e1]
 clear e1
 generalize lpL (Y.ctx (lim' Y)) 189 = lp
 generalize lim' Y = call
 kernel_rfl
theorem zam.p9 (y0:Int) (y1 y2:Bool) (y3:Int) (y4:BAy) (y5 y6:LLD) : zam.P9 y0 y1 y2 y3 y4 y5 y6 = bif y1 then some (zam.q6 false y2 y3 y4 y5 y6) else zam.L6 (IntKind.i64.wrap (y0 + 1)) y2 y3 y4 y5 y6 := by
 delta zam.P9 zam.q6 zam.L6 XX
 refine zbk [9] 9 (by kernel_rfl) fun J e1 => ?_
 try simp only [← e1]
 clear e1
 generalize lpL (Y.ctx (lim' Y)) 189 = lp
 generalize lim' Y = call
 kernel_rfl
theorem zam.a6x6 (y0:Bool) (y1:Int) (y2:BAy) (y3 y4:LLD) : zam.A6 (zam.x6 y0 y1 y2 y3 y4) = some ⟨[.v (.bool (y2.toList == []))], []⟩ := by
 delta zam.A6 zam.x6 XX
 refine zbh [2, 3] 6 (by kernel_rfl) fun J e1 => ?_
 have eA := evA_J [2, 3] 6 (by kernel_rfl) e1
 try simp only [eA]
 clear eA
 try simp only [← e1]
 clear e1
 show _ = _
 generalize lpL (Y.ctx (lim' Y)) 189 = lp
 generalize lim' Y = call
 kernel_rfl
theorem zam.a6q6 (y0 y1:Bool) (y2:Int) (y3:BAy) (y4 y5:LLD) : zam.A6 (zam.q6 y0 y1 y2 y3 y4 y5) = some ⟨[.v (.bool y0)], []⟩ := by
 delta zam.A6 zam.q6 XX
 refine zbh [2, 3] 6 (by kernel_rfl) fun J e1 => ?_
 have eA := evA_J [2, 3] 6 (by kernel_rfl) e1
 try simp only [eA]
 clear eA
 try simp only [← e1]
 clear e1
 show _ = _
 generalize lpL (Y.ctx (lim' Y)) 189 = lp
 generalize lim' Y = call
 kernel_rfl
theorem zc1.e (a0:Int) : zc1 [.one (.v (.int .i64 a0))] [] = bif decide (a0 < -9223372036854775807) then some ⟨[.v (.string (ByteArray.mk #[45, 57, 50, 50, 51, 51, 55, 50, 48, 51, 54, 56, 53, 52, 55, 55, 53, 56, 48, 56]))], []⟩ else bif decide (a0 < 0) then (zc1 [.one (.v (.int .i64 (IntKind.i64.wrap (0 - a0))))] []).bind fun val => bif zag [.str] val.1 && true then bif decide (1 + (val.1.getD 0 .d).str.size ≤ 70368744177664) then some ⟨[.v (.string ((ByteArray.mk #[45]) ++ (val.1.getD 0 .d).str))], []⟩ else none else none else bif decide (a0 < 10) then some ⟨[.v (.string (strOf [[.v (.int .u8 (IntKind.u8.wrap (IntKind.i64.wrap (48 + a0))))]]))], []⟩ else (zc1 [.one (.v (.int .i64 (IntKind.i64.wrap (a0.tdiv 10))))] []).bind fun val => bif zag [.str] val.1 && true then bif decide ((val.1.getD 0 .d).str.size + 1 ≤ 70368744177664) then some ⟨[.v (.string ((val.1.getD 0 .d).str ++ strOf [[.v (.int .u8 (IntKind.u8.wrap (IntKind.i64.wrap (48 + a0.tmod 10))))]]))], []⟩ else none else none := by
 refine (zc1.run _ _ (by kernel_rfl)).trans ?_
 delta zc1 XX
 generalize lpL (Y.ctx (lim' Y)) 193 = lp
 generalize lim' Y = call
 kernel_rfl
noncomputable def zbr.L3 (y0 y1:BAy) (y2:Int) : Option (Ex × St) := lpL XX 194 (zar 3 zbr.c) (mkG 0 37 [(0, .one (.v (.string y0))), (3, .one (.v (.string y1))), (4, .one (.v (.int .i64 y2)))] [] GL)
noncomputable def zbr.A3 : Ex × St → Option Res := fun r => evA XX 194 (lpL XX 194) 3 zbr.c r.fst r.snd (outE XX 194 Tryz.f194)
noncomputable def zbr.x3 (y0:BAy) : Ex × St := (Ex.exit 0, mkG 0 37 [(3, .one (.v (.string y0)))] [] GL)
theorem zbr.e (a0:BAy) : zbr [.one (.v (.string a0))] [] = (zbr.L3 a0 (ByteArray.mk #[]) 0).bind zbr.A3 := by
 refine (zbr.run _ _ (by kernel_rfl)).trans ?_
 delta zbr zbr.L3 zbr.A3 XX
 generalize lpL (Y.ctx (lim' Y)) 194 = lp
 generalize lim' Y = call
 kernel_rfl
theorem zbr.s3 (y0 y1:BAy) (y2:Int) : zbr.L3 y0 y1 y2 = bif decide (y2 < (↑y0.size : Int)) then bif decide (0 ≤ y2) && decide (y2 < (↑y0.size : Int)) then bif decide (0 ≤ y2) && decide (y2 < (↑y0.size : Int)) then bif decide (IntKind.u8.wrap ((zbj y0 y2.toNat).tdiv 16) ≤ IntKind.u8.wrap (IntKind.u8.wrap ((zbj y0 y2.toNat).tdiv 16) + 1)) && decide (IntKind.u8.wrap (IntKind.u8.wrap ((zbj y0 y2.toNat).tdiv 16) + 1) ≤ (↑(ByteArray.mk #[48, 49, 50, 51, 52, 53, 54, 55, 56, 57, 97, 98, 99, 100, 101, 102]).size : Int)) then bif decide (y1.size + ((ByteArray.mk #[48, 49, 50, 51, 52, 53, 54, 55, 56, 57, 97, 98, 99, 100, 101, 102]).extract (IntKind.u8.wrap ((zbj y0 y2.toNat).tdiv 16)).toNat (IntKind.u8.wrap (IntKind.u8.wrap ((zbj y0 y2.toNat).tdiv 16) + 1)).toNat).size ≤ 70368744177664) then bif decide (0 ≤ y2) && decide (y2 < (↑y0.size : Int)) then bif decide (0 ≤ y2) && decide (y2 < (↑y0.size : Int)) then bif decide ((zbj y0 y2.toNat).tmod 16 ≤ IntKind.u8.wrap ((zbj y0 y2.toNat).tmod 16 + 1)) && decide (IntKind.u8.wrap ((zbj y0 y2.toNat).tmod 16 + 1) ≤ (↑(ByteArray.mk #[48, 49, 50, 51, 52, 53, 54, 55, 56, 57, 97, 98, 99, 100, 101, 102]).size : Int)) then bif decide ((y1 ++ (ByteArray.mk #[48, 49, 50, 51, 52, 53, 54, 55, 56, 57, 97, 98, 99, 100, 101, 102]).extract (IntKind.u8.wrap ((zbj y0 y2.toNat).tdiv 16)).toNat (IntKind.u8.wrap (IntKind.u8.wrap ((zbj y0 y2.toNat).tdiv 16) + 1)).toNat).size + ((ByteArray.mk #[48, 49, 50, 51, 52, 53, 54, 55, 56, 57, 97, 98, 99, 100, 101, 102]).extract ((zbj y0 y2.toNat).tmod 16).toNat (IntKind.u8.wrap ((zbj y0 y2.toNat).tmod 16 + 1)).toNat).size ≤ 70368744177664) then zbr.L3 y0 (y1 ++ (ByteArray.mk #[48, 49, 50, 51, 52, 53, 54, 55, 56, 57, 97, 98, 99, 100, 101, 102]).extract (IntKind.u8.wrap ((zbj y0 y2.toNat).tdiv 16)).toNat (IntKind.u8.wrap (IntKind.u8.wrap ((zbj y0 y2.toNat).tdiv 16) + 1)).toNat ++ (ByteArray.mk #[48, 49, 50, 51, 52, 53, 54, 55, 56, 57, 97, 98, 99, 100, 101, 102]).extract ((zbj y0 y2.toNat).tmod 16).toNat (IntKind.u8.wrap ((zbj y0 y2.toNat).tmod 16 + 1)).toNat) (IntKind.i64.wrap (y2 + 1)) else none else none else none else none else none else none else none else none else some (zbr.x3 y1) := by
 refine (zbi (Y := Y) (c := lim' Y) (fn := 194) (rid := 3) (b := zar 3 zbr.c) (by kernel_rfl) _).trans ?_
 delta zbr.L3 zbr.x3 XX
 generalize lpL (Y.ctx (lim' Y)) 194 = lp
 generalize lim' Y = call
 kernel_rfl
theorem zbr.a3x3 (y0:BAy) : zbr.A3 (zbr.x3 y0) = bif y0.toList == [] then some ⟨[.v (.string (ByteArray.mk #[45]))], []⟩ else some ⟨[.v (.string y0)], []⟩ := by
 delta zbr.A3 zbr.x3 XX
 generalize lpL (Y.ctx (lim' Y)) 194 = lp
 generalize lim' Y = call
 kernel_rfl
theorem zb1.e (a0:BAy) : zb1 [.one (.v (.string a0))] [] = bif a0.toList == [] then some ⟨[.v (.string (ByteArray.mk #[45]))], []⟩ else (zbs [.one (.v (.string a0))] []).bind fun val => bif zag [.str] val.1 && true then some ⟨[.v (.string (val.1.getD 0 .d).str)], []⟩ else none := by
 refine (zb1.run _ _ (by kernel_rfl)).trans ?_
 delta zb1 zbs XX
 generalize lpL (Y.ctx (lim' Y)) 203 = lp
 generalize lim' Y = call
 kernel_rfl
theorem zaW.e (a0:LLD) (b0:Bool) (b1:Int) (b2:BAy) (b3 b4:LLD) (b:BAy) : zaW [.one (.s a0), .g [.v (.bool b0), .v (.int .i64 b1), .v (.string b2), .s b3, .s b4], .one (.bx [A0.p true 0 [] 0] 0)] [⟨.bld 170 5, [.v (.string b), .h], [.deep, .deep]⟩] = (zbJ [.g [.v (.bool b0), .v (.int .i64 b1), .v (.string b2), .s b3, .s b4], .one (.s a0)] []).bind fun val => bif zag [.str] val.1 && true then (zbe [.one (.p true 0 [] 0), .one (.v (.string (val.1.getD 0 .d).str))] [⟨.bld 170 5, [.v (.string b), .h], [.deep, .deep]⟩]).bind fun val => bif zag [.int .i64, .any] val.1 && zbd [⟨⟨.bld 170 5, [.v (.string b), .h], [.deep, .deep]⟩, .box 0⟩] val.2 then some ⟨[], [⟨.bld 170 5, [.v (.string ((val.2.getD 0 ⟨.ro, [], []⟩).2.getD 0 .h).str), .h], [.deep, .deep]⟩]⟩ else none else none := by
 refine (zaW.run _ _ (by kernel_rfl)).trans ?_
 delta zaW zbJ zbe XX
 generalize lpL (Y.ctx (lim' Y)) 204 = lp
 generalize lim' Y = call
 kernel_rfl
noncomputable def zbv.L3 (y0:BAy) (y1 y2:Int) : Option (Ex × St) := lpL XX 223 (zar 3 zbv.c) (mkG 0 20 [(0, .one (.v (.string y0))), (3, .one (.v (.int .i64 y1))), (4, .one (.v (.int .i64 y2)))] [] GL)
noncomputable def zbv.A3 : Ex × St → Option Res := fun r => evA XX 223 (lpL XX 223) 3 zbv.c r.fst r.snd (outE XX 223 Tryz.f223)
noncomputable def zbv.x3 (y0:Int) : Ex × St := (Ex.exit 0, mkG 0 20 [(3, .one (.v (.int .i64 y0)))] [] GL)
theorem zbv.e (a0:BAy) : zbv [.one (.v (.string a0))] [] = (zbv.L3 a0 7 0).bind zbv.A3 := by
 refine (zbv.run _ _ (by kernel_rfl)).trans ?_
 delta zbv zbv.L3 zbv.A3 XX
 generalize lpL (Y.ctx (lim' Y)) 223 = lp
 generalize lim' Y = call
 kernel_rfl
theorem zbv.s3 (y0:BAy) (y1 y2:Int) : zbv.L3 y0 y1 y2 = bif decide (y2 < (↑y0.size : Int)) then bif decide (0 ≤ y2) && decide (y2 < (↑y0.size : Int)) then zbv.L3 y0 ((IntKind.i64.wrap (IntKind.i64.wrap (y1 * 131) + IntKind.i64.wrap (zbj y0 y2.toNat))).tmod 1000000007) (IntKind.i64.wrap (y2 + 1)) else none else some (zbv.x3 y1) := by
 refine (zbi (Y := Y) (c := lim' Y) (fn := 223) (rid := 3) (b := zar 3 zbv.c) (by kernel_rfl) _).trans ?_
 delta zbv.L3 zbv.x3 XX
 generalize lpL (Y.ctx (lim' Y)) 223 = lp
 generalize lim' Y = call
 kernel_rfl
theorem zbv.a3x3 (y0:Int) : zbv.A3 (zbv.x3 y0) = some ⟨[.v (.int .i64 y0)], []⟩ := by
 delta zbv.A3 zbv.x3 XX
 generalize lpL (Y.ctx (lim' Y)) 223 = lp
 generalize lim' Y = call
 kernel_rfl
theorem za6.e (a0:BAy) : za6 [.one (.v (.string a0))] [] = some ⟨[.v (.bool !a0.toList == a0.toList)], []⟩ := by
 refine (za6.run _ _ (by kernel_rfl)).trans ?_
 delta za6 XX
 generalize lpL (Y.ctx (lim' Y)) 224 = lp
 generalize lim' Y = call
 kernel_rfl
noncomputable def zbs.L3 (y0:BAy) (y1:Int) (y2:LLD) : Option (Ex × St) := lpL XX 236 (zar 3 zbs.c) (mkG 0 27 [(0, .one (.v (.string y0))), (3, .one (.r 3 [] 0)), (4, .one (.v (.int .i64 y1)))] [(3, some ⟨.virt, [.s y2], [.deep]⟩)] GL)
noncomputable def zbs.A3 : Ex × St → Option Res := fun r => evA XX 236 (lpL XX 236) 3 zbs.c r.fst r.snd (outE XX 236 Tryz.f236)
noncomputable def zbs.x3 (y0:LLD) : Ex × St := (Ex.exit 0, mkG 0 27 [(3, .one (.r 3 [] 0))] [(3, some ⟨.virt, [.s y0], [.deep]⟩)] GL)
theorem zbs.e (a0:BAy) : zbs [.one (.v (.string a0))] [] = (zbs.L3 a0 0 []).bind zbs.A3 := by
 refine (zbs.run _ _ (by kernel_rfl)).trans ?_
 delta zbs zbs.L3 zbs.A3 XX
 generalize lpL (Y.ctx (lim' Y)) 236 = lp
 generalize lim' Y = call
 kernel_rfl
theorem zbs.s3 (y0:BAy) (y1:Int) (y2:LLD) : zbs.L3 y0 y1 y2 = bif decide (y1 < (↑y0.size : Int)) then bif decide (0 ≤ y1) && decide (y1 < (↑y0.size : Int)) then bif decide (IntKind.u8.wrap ((zbj y0 y1.toNat).tdiv 16) < (↑(ByteArray.mk #[48, 49, 50, 51, 52, 53, 54, 55, 56, 57, 97, 98, 99, 100, 101, 102]).size : Int)) then bif decide (0 ≤ y1) && decide (y1 < (↑y0.size : Int)) then bif decide ((zbj y0 y1.toNat).tmod 16 < (↑(ByteArray.mk #[48, 49, 50, 51, 52, 53, 54, 55, 56, 57, 97, 98, 99, 100, 101, 102]).size : Int)) then bif zaA 1 y2 && true && true && true && decide ((y2.length + 2) * 2 ≤ 70368744177664) then zbs.L3 y0 (IntKind.i64.wrap (y1 + 1)) (y2 ++ [[.v (.int .u8 (zbj (ByteArray.mk #[48, 49, 50, 51, 52, 53, 54, 55, 56, 57, 97, 98, 99, 100, 101, 102]) (IntKind.u8.wrap ((zbj y0 y1.toNat).tdiv 16)).toNat))], [.v (.int .u8 (zbj (ByteArray.mk #[48, 49, 50, 51, 52, 53, 54, 55, 56, 57, 97, 98, 99, 100, 101, 102]) ((zbj y0 y1.toNat).tmod 16).toNat))]]) else none else none else none else none else none else some (zbs.x3 y2) := by
 refine (zbi (Y := Y) (c := lim' Y) (fn := 236) (rid := 3) (b := zar 3 zbs.c) (by kernel_rfl) _).trans ?_
 delta zbs.L3 zbs.x3 XX
 generalize lpL (Y.ctx (lim' Y)) 236 = lp
 generalize lim' Y = call
 kernel_rfl
theorem zbs.a3x3 (y0:LLD) : zbs.A3 (zbs.x3 y0) = bif zf4 y0 then some ⟨[.v (.string (strOf y0))], []⟩ else none := by
 delta zbs.A3 zbs.x3 XX
 generalize lpL (Y.ctx (lim' Y)) 236 = lp
 generalize lim' Y = call
 kernel_rfl
end Go.PVx
