/- A part of the proof: PvTtRes. -/
import Derived.Test.YtkaclcgkndbppaaGreatDoorTab
import Derived.KernelRfl
set_option linter.unusedSimpArgs false
set_option linter.unusedVariables false
namespace Go.PVx
open Go.PV Go.Proofs
set_option maxRecDepth 100000
set_option linter.unusedVariables false
abbrev LLD := List (List D)
abbrev BAy := ByteArray
noncomputable def zan.P9 (y0 y1:LLD) (y2:Int) : Option Res := evB XX 3 (lpL XX 3) 9 zan.c (mkG 0 45 [(0, .one (.s y0)), (1, .one (.s y1)), (6, .one (.v (.int .i64 y2)))] [] GL) (outE XX 3 Tryz.f3)
noncomputable def zan.P16 (y0 y1:LLD) : Option Res := evB XX 3 (lpL XX 3) 16 zan.c (mkG 0 45 [(1, .one (.s y0)), (8, .one (.r 8 [] 0))] [(8, some ⟨.virt, [.s y1], [.deep]⟩)] GL) (outE XX 3 Tryz.f3)
theorem zan.e (a0 a1:LLD) : zan [.one (.s a0), .one (.s a1)] [] = (zaR [.one (.s a0), .one (.v (.int .i64 1048576))] []).bind fun val => bif zag [.int .i64] val.1 && true then bif decide ((val.1.getD 0 .d).int < 0) then some ⟨[.v (.bool true)], []⟩ else (zap [.one (.s a1), .one (.v (.int .i64 (val.1.getD 0 .d).int))] []).bind fun val => bif zag [.int .i64] val.1 && true then bif decide ((val.1.getD 0 .d).int < 0) then some ⟨[.v (.bool true)], []⟩ else (za1 [.one (.s a0)] []).bind fun val => bif zag [.own .deep] val.1 && true then (zay [.one (.s a1)] []).bind fun val_1 => bif zag [.own .deep] val_1.1 && true then (zao [.one (.s (val.1.getD 0 .d).es), .one (.s (val_1.1.getD 0 .d).es)] []).bind fun val => bif zag [.int .i64] val.1 && true then zan.P9 a0 a1 (val.1.getD 0 .d).int else none else none else none else none else none := by
 refine (zan.run _ _ (by kernel_rfl)).trans ?_
 delta zan zaR zap za1 zay zao zan.P9 XX
 refine zbq [9, 16] (by kernel_rfl) fun J e1 => ?_
 try simp only [← e1]
 clear e1
 generalize lpL (Y.ctx (lim' Y)) 3 = lp
 generalize lim' Y = call
 kernel_rfl
theorem zan.p9 (y0 y1:LLD) (y2:Int) : zan.P9 y0 y1 y2 = (za1 [.one (.s y0)] []).bind fun val => bif zag [.own .deep] val.1 && true then (zay [.one (.s y1)] []).bind fun val_1 => bif zag [.own .deep] val_1.1 && true then (zbz [.one (.s (val.1.getD 0 .d).es), .one (.s (val_1.1.getD 0 .d).es)] []).bind fun val_2 => bif zag [.int .i64] val_2.1 && true then bif (val_2.1.getD 0 .d).int != y2 then some ⟨[.v (.bool false)], []⟩ else (za1 [.one (.s y0)] []).bind fun val_3 => bif zag [.own .deep] val_3.1 && true then (za0 [.one (.s (val.1.getD 0 .d).es), .one (.s (val_3.1.getD 0 .d).es)] []).bind fun val => bif zag [.bool] val.1 && true then bif !(val.1.getD 0 .d).bool then some ⟨[.v (.bool false)], []⟩ else zan.P16 y1 (val_1.1.getD 0 .d).es else none else none else none else none else none := by
 delta zan.P9 za1 zay zbz za0 zan.P16 XX
 refine zbf [9, 16] 9 (by kernel_rfl) fun J e1 => ?_
 try simp only [← e1]
 clear e1
 generalize lpL (Y.ctx (lim' Y)) 3 = lp
 generalize lim' Y = call
 kernel_rfl
theorem zan.p16 (y0 y1:LLD) : zan.P16 y0 y1 = (zay [.one (.s y0)] []).bind fun val => bif zag [.own .deep] val.1 && true then (zaz [.one (.s y1), .one (.s (val.1.getD 0 .d).es)] []).bind fun val => bif zag [.bool] val.1 && true then bif !(val.1.getD 0 .d).bool then some ⟨[.v (.bool false)], []⟩ else some ⟨[.v (.bool true)], []⟩ else none else none := by
 delta zan.P16 zay zaz XX
 refine zbf [9, 16] 16 (by kernel_rfl) fun J e1 => ?_
 try simp only [← e1]
 clear e1
 generalize lpL (Y.ctx (lim' Y)) 3 = lp
 generalize lim' Y = call
 kernel_rfl
noncomputable def zaR.L5 (y0:LLD) (y1 y2:Int) : Option (Ex × St) := lpL XX 14 (zaw 5 zaR.c) (mkG 0 27 [(0, .one (.s y0)), (1, .one (.v (.int .i64 y1))), (5, .one (.v (.int .i64 y2)))] [] GL)
noncomputable def zaR.A5 : Ex × St → Option Res := fun r => evA XX 14 (lpL XX 14) 5 zaR.c r.fst r.snd (outE XX 14 Tryz.f14)
noncomputable def zaR.q5 (y0 y1:Int) : Ex × St := (Ex.ret, mkG 0 27 [(1, .one (.v (.int .i64 y0))), (4, .one (.v (.int .i64 y1)))] [] GL)
noncomputable def zaR.x5 (y0:Int) : Ex × St := (Ex.exit 0, mkG 0 27 [(1, .one (.v (.int .i64 y0)))] [] GL)
theorem zaR.e (a0:LLD) (a1:Int) : zaR [.one (.s a0), .one (.v (.int .i64 a1))] [] = bif decide (IntKind.i64.wrap (a1 - (↑a0.length : Int)) < 0) then some ⟨[.v (.int .i64 (-1))], []⟩ else (zaR.L5 a0 (IntKind.i64.wrap (a1 - (↑a0.length : Int))) 0).bind zaR.A5 := by
 refine (zaR.run _ _ (by kernel_rfl)).trans ?_
 delta zaR zaR.L5 zaR.A5 XX
 generalize lpL (Y.ctx (lim' Y)) 14 = lp
 generalize lim' Y = call
 kernel_rfl
theorem zaR.s5 (y0:LLD) (y1 y2:Int) : zaR.L5 y0 y1 y2 = bif decide (y2 < (↑y0.length : Int)) then bif decide (0 ≤ y2) && decide (y2 < (↑y0.length : Int)) && decide ((y0.getD y2.toNat []).length = 5) then bif zav [.sl, .bool, .int .i64, .str, .int .i64] (y0.getD y2.toNat []) 0 && decide (5 ≤ (y0.getD y2.toNat []).length) then (zc6 [.g [.s ((y0.getD y2.toNat []).getD 0 .h).es, .v (.bool ((y0.getD y2.toNat []).getD 1 .h).bool), .v (.int .i64 ((y0.getD y2.toNat []).getD 2 .h).int), .v (.string ((y0.getD y2.toNat []).getD 3 .h).str), .v (.int .i64 ((y0.getD y2.toNat []).getD 4 .h).int)], .one (.v (.int .i64 y1))] []).bind fun val => bif zag [.int .i64] val.1 && true then bif decide ((val.1.getD 0 .d).int < 0) then some (zaR.q5 (val.1.getD 0 .d).int (-1)) else zaR.L5 y0 (val.1.getD 0 .d).int (IntKind.i64.wrap (y2 + 1)) else none else none else none else some (zaR.x5 y1) := by
 refine (zbg (Y := Y) (c := lim' Y) (fn := 14) (rid := 5) (b := zaw 5 zaR.c) (by kernel_rfl) _).trans ?_
 delta zaR.L5 zc6 zaR.q5 zaR.x5 XX
 generalize lpL (Y.ctx (lim' Y)) 14 = lp
 generalize lim' Y = call
 kernel_rfl
theorem zaR.a5q5 (y0 y1:Int) : zaR.A5 (zaR.q5 y0 y1) = some ⟨[.v (.int .i64 y1)], []⟩ := by
 delta zaR.A5 zaR.q5 XX
 generalize lpL (Y.ctx (lim' Y)) 14 = lp
 generalize lim' Y = call
 kernel_rfl
theorem zaR.a5x5 (y0:Int) : zaR.A5 (zaR.x5 y0) = some ⟨[.v (.int .i64 y0)], []⟩ := by
 delta zaR.A5 zaR.x5 XX
 generalize lpL (Y.ctx (lim' Y)) 14 = lp
 generalize lim' Y = call
 kernel_rfl
noncomputable def zap.L5 (y0:LLD) (y1 y2:Int) : Option (Ex × St) := lpL XX 15 (zaw 5 zap.c) (mkG 0 28 [(0, .one (.s y0)), (1, .one (.v (.int .i64 y1))), (5, .one (.v (.int .i64 y2)))] [] GL)
noncomputable def zap.A5 : Ex × St → Option Res := fun r => evA XX 15 (lpL XX 15) 5 zap.c r.fst r.snd (outE XX 15 Tryz.f15)
noncomputable def zap.q5 (y0 y1:Int) : Ex × St := (Ex.ret, mkG 0 28 [(1, .one (.v (.int .i64 y0))), (4, .one (.v (.int .i64 y1)))] [] GL)
noncomputable def zap.x5 (y0:Int) : Ex × St := (Ex.exit 0, mkG 0 28 [(1, .one (.v (.int .i64 y0)))] [] GL)
theorem zap.e (a0:LLD) (a1:Int) : zap [.one (.s a0), .one (.v (.int .i64 a1))] [] = bif decide (IntKind.i64.wrap (a1 - (↑a0.length : Int)) < 0) then some ⟨[.v (.int .i64 (-1))], []⟩ else (zap.L5 a0 (IntKind.i64.wrap (a1 - (↑a0.length : Int))) 0).bind zap.A5 := by
 refine (zap.run _ _ (by kernel_rfl)).trans ?_
 delta zap zap.L5 zap.A5 XX
 generalize lpL (Y.ctx (lim' Y)) 15 = lp
 generalize lim' Y = call
 kernel_rfl
theorem zap.s5 (y0:LLD) (y1 y2:Int) : zap.L5 y0 y1 y2 = bif decide (y2 < (↑y0.length : Int)) then bif decide (0 ≤ y2) && decide (y2 < (↑y0.length : Int)) && decide ((y0.getD y2.toNat []).length = 1) then bif zav [.str] (y0.getD y2.toNat []) 0 && decide (1 ≤ (y0.getD y2.toNat []).length) then bif decide (IntKind.i64.wrap (y1 - (↑((y0.getD y2.toNat []).getD 0 .h).str.size : Int)) < 0) then some (zap.q5 (IntKind.i64.wrap (y1 - (↑((y0.getD y2.toNat []).getD 0 .h).str.size : Int))) (-1)) else zap.L5 y0 (IntKind.i64.wrap (y1 - (↑((y0.getD y2.toNat []).getD 0 .h).str.size : Int))) (IntKind.i64.wrap (y2 + 1)) else none else none else some (zap.x5 y1) := by
 refine (zbg (Y := Y) (c := lim' Y) (fn := 15) (rid := 5) (b := zaw 5 zap.c) (by kernel_rfl) _).trans ?_
 delta zap.L5 zap.q5 zap.x5 XX
 generalize lpL (Y.ctx (lim' Y)) 15 = lp
 generalize lim' Y = call
 kernel_rfl
theorem zap.a5q5 (y0 y1:Int) : zap.A5 (zap.q5 y0 y1) = some ⟨[.v (.int .i64 y1)], []⟩ := by
 delta zap.A5 zap.q5 XX
 generalize lpL (Y.ctx (lim' Y)) 15 = lp
 generalize lim' Y = call
 kernel_rfl
theorem zap.a5x5 (y0:Int) : zap.A5 (zap.x5 y0) = some ⟨[.v (.int .i64 y0)], []⟩ := by
 delta zap.A5 zap.x5 XX
 generalize lpL (Y.ctx (lim' Y)) 15 = lp
 generalize lim' Y = call
 kernel_rfl
noncomputable def zao.L6 (y0 y1:LLD) (y2 y3:Int) : Option (Ex × St) := lpL XX 16 (zaw 6 zao.c) (mkG 0 50 [(0, .one (.s y0)), (1, .one (.s y1)), (7, .one (.v (.int .i64 y2))), (8, .one (.v (.int .i64 y3)))] [] GL)
noncomputable def zao.A6 : Ex × St → Option Res := fun r => evA XX 16 (lpL XX 16) 6 zao.c r.fst r.snd (outE XX 16 Tryz.f16)
noncomputable def zao.x6 (y0 y1:LLD) (y2:Int) : Ex × St := (Ex.exit 0, mkG 0 50 [(0, .one (.s y0)), (1, .one (.s y1)), (7, .one (.v (.int .i64 y2)))] [] GL)
noncomputable def zao.P12 (y0:Int) (y1:Bool) : Option Res := evB XX 16 (lpL XX 16) 12 zao.c (mkG 0 50 [(7, .one (.v (.int .i64 y0))), (48, .one (.v (.bool y1)))] [] GL) (outE XX 16 Tryz.f16)
theorem zao.e (a0 a1:LLD) : zao [.one (.s a0), .one (.s a1)] [] = (zab [.one (.s a0)] []).bind fun val => bif zag [.bool, .int .i64, .str, .own .deep, .own .deep, .bool] val.1 && true then bif !(val.1.getD 5 .d).bool then some ⟨[.v (.int .i64 (-1))], []⟩ else (zao.L6 a0 a1 0 (↑a0.length : Int)).bind zao.A6 else none := by
 refine (zao.run _ _ (by kernel_rfl)).trans ?_
 delta zao zab zao.L6 zao.A6 XX
 refine zbq [12] (by kernel_rfl) fun J e1 => ?_
 have eA := evA_J [12] 6 (by kernel_rfl) e1
 try simp only [eA]
 clear eA
 try simp only [← e1]
 clear e1
 show _ = _
 generalize lpL (Y.ctx (lim' Y)) 16 = lp
 generalize lim' Y = call
 kernel_rfl
theorem zao.s6 (y0 y1:LLD) (y2 y3:Int) : zao.L6 y0 y1 y2 y3 = bif decide (y2 < y3) then bif decide (0 ≤ IntKind.i64.wrap ((IntKind.i64.wrap (y2 + y3)).tdiv 2)) && decide (IntKind.i64.wrap ((IntKind.i64.wrap (y2 + y3)).tdiv 2) < (↑y0.length : Int)) && decide ((y0.getD (IntKind.i64.wrap ((IntKind.i64.wrap (y2 + y3)).tdiv 2)).toNat []).length = 5) then bif zav [.sl] (y0.getD (IntKind.i64.wrap ((IntKind.i64.wrap (y2 + y3)).tdiv 2)).toNat []) 0 && decide (1 ≤ (y0.getD (IntKind.i64.wrap ((IntKind.i64.wrap (y2 + y3)).tdiv 2)).toNat []).length) then (zaB [.one (.s ((y0.getD (IntKind.i64.wrap ((IntKind.i64.wrap (y2 + y3)).tdiv 2)).toNat []).getD 0 .h).es), .one (.s y1)] []).bind fun val => bif zag [.bool] val.1 && true then bif (val.1.getD 0 .d).bool then zao.L6 y0 y1 (IntKind.i64.wrap (IntKind.i64.wrap ((IntKind.i64.wrap (y2 + y3)).tdiv 2) + 1)) y3 else zao.L6 y0 y1 y2 (IntKind.i64.wrap ((IntKind.i64.wrap (y2 + y3)).tdiv 2)) else none else none else none else some (zao.x6 y0 y1 y2) := by
 refine (zbg (Y := Y) (c := lim' Y) (fn := 16) (rid := 6) (b := zaw 6 zao.c) (by kernel_rfl) _).trans ?_
 delta zao.L6 zaB zao.x6 XX
 generalize lpL (Y.ctx (lim' Y)) 16 = lp
 generalize lim' Y = call
 kernel_rfl
theorem zao.a6x6 (y0 y1:LLD) (y2:Int) : zao.A6 (zao.x6 y0 y1 y2) = bif decide (y2 < (↑y0.length : Int)) then bif decide (0 ≤ y2) && decide (y2 < (↑y0.length : Int)) && decide ((y0.getD y2.toNat []).length = 5) then bif zav [.sl] (y0.getD y2.toNat []) 0 && decide (1 ≤ (y0.getD y2.toNat []).length) then (zbU [.one (.s ((y0.getD y2.toNat []).getD 0 .h).es), .one (.s y1)] []).bind fun val => bif zag [.bool] val.1 && true then zao.P12 y2 (val.1.getD 0 .d).bool else none else none else none else zao.P12 y2 false := by
 delta zao.A6 zao.x6 zbU zao.P12 XX
 refine za8 [12] 6 (by kernel_rfl) fun J e1 => ?_
 have eA := evA_J [12] 6 (by kernel_rfl) e1
 try simp only [eA]
 clear eA
 try simp only [← e1]
 clear e1
 show _ = _
 generalize lpL (Y.ctx (lim' Y)) 16 = lp
 generalize lim' Y = call
 kernel_rfl
theorem zao.p12 (y0:Int) (y1:Bool) : zao.P12 y0 y1 = bif y1 then some ⟨[.v (.int .i64 y0)], []⟩ else some ⟨[.v (.int .i64 (-1))], []⟩ := by
 delta zao.P12 XX
 refine zbf [12] 12 (by kernel_rfl) fun J e1 => ?_
 try simp only [← e1]
 clear e1
 generalize lpL (Y.ctx (lim' Y)) 16 = lp
 generalize lim' Y = call
 kernel_rfl
noncomputable def za1.L3 (y0:LLD) (y1:Int) (y2:LLD) : Option (Ex × St) := lpL XX 17 (zaw 3 za1.c) (mkG 0 23 [(0, .one (.s y0)), (3, .one (.r 3 [] 0)), (4, .one (.v (.int .i64 y1)))] [(3, some ⟨.virt, [.s y2], [.deep]⟩)] GL)
noncomputable def za1.A3 : Ex × St → Option Res := fun r => evA XX 17 (lpL XX 17) 3 za1.c r.fst r.snd (outE XX 17 Tryz.f17)
noncomputable def za1.x3 (y0:LLD) : Ex × St := (Ex.exit 0, mkG 0 23 [(3, .one (.r 3 [] 0))] [(3, some ⟨.virt, [.s y0], [.deep]⟩)] GL)
theorem za1.e (a0:LLD) : za1 [.one (.s a0)] [] = bif decide ((↑a0.length : Int) * ((↑64 : Int) + 1) ≤ 2 ^ 46) && true && true then (za1.L3 a0 0 (List.replicate (↑a0.length : Int).toNat [.s [], .v (.bool false), .v (.int .i64 0), .v (.string (ByteArray.mk #[])), .v (.int .i64 0)])).bind za1.A3 else none := by
 refine (za1.run _ _ (by kernel_rfl)).trans ?_
 delta za1 za1.L3 za1.A3 XX
 generalize lpL (Y.ctx (lim' Y)) 17 = lp
 generalize lim' Y = call
 kernel_rfl
theorem za1.s3 (y0:LLD) (y1:Int) (y2:LLD) : za1.L3 y0 y1 y2 = bif decide (y1 < (↑y0.length : Int)) then bif decide (0 ≤ y1) && decide (y1 < (↑y0.length : Int)) && decide ((y0.getD y1.toNat []).length = 5) then bif zav [.sl, .bool, .int .i64, .str, .int .i64] (y0.getD y1.toNat []) 0 && decide (5 ≤ (y0.getD y1.toNat []).length) then (zdi [.g [.s ((y0.getD y1.toNat []).getD 0 .h).es, .v (.bool ((y0.getD y1.toNat []).getD 1 .h).bool), .v (.int .i64 ((y0.getD y1.toNat []).getD 2 .h).int), .v (.string ((y0.getD y1.toNat []).getD 3 .h).str), .v (.int .i64 ((y0.getD y1.toNat []).getD 4 .h).int)]] []).bind fun val => bif zag [.own .deep, .bool, .int .i64, .str, .int .i64] val.1 && true then bif decide (0 ≤ y1) && decide (y1 < (↑y2.length : Int)) && decide ((y2.getD y1.toNat []).length = 5) then bif decide (5 ≤ (y2.getD y1.toNat []).length) && true then za1.L3 y0 (IntKind.i64.wrap (y1 + 1)) (y2.set y1.toNat (.s (val.1.getD 0 .d).es :: .v (.bool (val.1.getD 1 .d).bool) :: .v (.int .i64 (val.1.getD 2 .d).int) :: .v (.string (val.1.getD 3 .d).str) :: .v (.int .i64 (val.1.getD 4 .d).int) :: List.drop 5 (y2.getD y1.toNat []))) else none else none else none else none else none else some (za1.x3 y2) := by
 refine (zbg (Y := Y) (c := lim' Y) (fn := 17) (rid := 3) (b := zaw 3 za1.c) (by kernel_rfl) _).trans ?_
 delta za1.L3 zdi za1.x3 XX
 generalize lpL (Y.ctx (lim' Y)) 17 = lp
 generalize lim' Y = call
 kernel_rfl
theorem za1.a3x3 (y0:LLD) : za1.A3 (za1.x3 y0) = some ⟨[.o .deep y0], []⟩ := by
 delta za1.A3 za1.x3 XX
 generalize lpL (Y.ctx (lim' Y)) 17 = lp
 generalize lim' Y = call
 kernel_rfl
noncomputable def zay.L3 (y0:LLD) (y1:Int) (y2:LLD) : Option (Ex × St) := lpL XX 18 (zaw 3 zay.c) (mkG 0 22 [(0, .one (.s y0)), (3, .one (.r 3 [] 0)), (4, .one (.v (.int .i64 y1)))] [(3, some ⟨.virt, [.s y2], [.deep]⟩)] GL)
noncomputable def zay.A3 : Ex × St → Option Res := fun r => evA XX 18 (lpL XX 18) 3 zay.c r.fst r.snd (outE XX 18 Tryz.f18)
noncomputable def zay.x3 (y0:LLD) : Ex × St := (Ex.exit 0, mkG 0 22 [(3, .one (.r 3 [] 0))] [(3, some ⟨.virt, [.s y0], [.deep]⟩)] GL)
theorem zay.e (a0:LLD) : zay [.one (.s a0)] [] = bif decide ((↑a0.length : Int) * ((↑16 : Int) + 1) ≤ 2 ^ 46) && true && true then (zay.L3 a0 0 (List.replicate (↑a0.length : Int).toNat [.v (.string (ByteArray.mk #[]))])).bind zay.A3 else none := by
 refine (zay.run _ _ (by kernel_rfl)).trans ?_
 delta zay zay.L3 zay.A3 XX
 generalize lpL (Y.ctx (lim' Y)) 18 = lp
 generalize lim' Y = call
 kernel_rfl
theorem zay.s3 (y0:LLD) (y1:Int) (y2:LLD) : zay.L3 y0 y1 y2 = bif decide (y1 < (↑y0.length : Int)) then bif decide (0 ≤ y1) && decide (y1 < (↑y0.length : Int)) && decide ((y0.getD y1.toNat []).length = 1) then bif zav [.str] (y0.getD y1.toNat []) 0 && decide (1 ≤ (y0.getD y1.toNat []).length) then bif decide (0 ≤ y1) && decide (y1 < (↑y2.length : Int)) && decide ((y2.getD y1.toNat []).length = 1) then bif decide (1 ≤ (y2.getD y1.toNat []).length) && true then zay.L3 y0 (IntKind.i64.wrap (y1 + 1)) (y2.set y1.toNat (.v (.string ((y0.getD y1.toNat []).getD 0 .h).str) :: List.drop 1 (y2.getD y1.toNat []))) else none else none else none else none else some (zay.x3 y2) := by
 refine (zbg (Y := Y) (c := lim' Y) (fn := 18) (rid := 3) (b := zaw 3 zay.c) (by kernel_rfl) _).trans ?_
 delta zay.L3 zay.x3 XX
 generalize lpL (Y.ctx (lim' Y)) 18 = lp
 generalize lim' Y = call
 kernel_rfl
theorem zay.a3x3 (y0:LLD) : zay.A3 (zay.x3 y0) = some ⟨[.o .deep y0], []⟩ := by
 delta zay.A3 zay.x3 XX
 generalize lpL (Y.ctx (lim' Y)) 18 = lp
 generalize lim' Y = call
 kernel_rfl
theorem zbz.e (a0 a1:LLD) : zbz [.one (.s a0), .one (.s a1)] [] = (zah [.one (.s a0)] []).bind fun val => bif zag [.bool, .int .i64, .str, .own .deep, .own .deep, .bool] val.1 && true then bif !(val.1.getD 5 .d).bool then some ⟨[.v (.int .i64 (-1))], []⟩ else (zae [.one (.s a0), .f zaY.id [.p true 0 [] 0]] [⟨.box, [.s a1], [.sh]⟩]).bind fun val => bif zag [.int .i64] val.1 && za7 [⟨⟨.box, [.s a1], [.sh]⟩, .box 3⟩] val.2 then some ⟨[.v (.int .i64 (val.1.getD 0 .d).int)], []⟩ else none else none := by
 refine (zbz.run _ _ (by kernel_rfl)).trans ?_
 delta zbz zah zae zaY.id XX
 generalize lpL (Y.ctx (lim' Y)) 19 = lp
 generalize lim' Y = call
 kernel_rfl
noncomputable def za0.L4 (y0 y1:LLD) (y2:Int) : Option (Ex × St) := lpL XX 20 (zaw 4 za0.c) (mkG 0 27 [(0, .one (.s y0)), (1, .one (.s y1)), (5, .one (.v (.int .i64 y2)))] [] GL)
noncomputable def za0.A4 : Ex × St → Option Res := fun r => evA XX 20 (lpL XX 20) 4 za0.c r.fst r.snd (outE XX 20 Tryz.f20)
noncomputable def za0.q4 (y0:Bool) : Ex × St := (Ex.ret, mkG 0 27 [(4, .one (.v (.bool y0)))] [] GL)
noncomputable def za0.x4 : Ex × St := (Ex.exit 0, mkG 0 27 [] [] GL)
theorem za0.e (a0 a1:LLD) : za0 [.one (.s a0), .one (.s a1)] [] = bif (↑a0.length : Int) != (↑a1.length : Int) then some ⟨[.v (.bool false)], []⟩ else (za0.L4 a0 a1 0).bind za0.A4 := by
 refine (za0.run _ _ (by kernel_rfl)).trans ?_
 delta za0 za0.L4 za0.A4 XX
 generalize lpL (Y.ctx (lim' Y)) 20 = lp
 generalize lim' Y = call
 kernel_rfl
theorem za0.s4 (y0 y1:LLD) (y2:Int) : za0.L4 y0 y1 y2 = bif decide (y2 < (↑y0.length : Int)) then bif decide (0 ≤ y2) && decide (y2 < (↑y0.length : Int)) && decide ((y0.getD y2.toNat []).length = 5) then bif zav [.sl, .bool, .int .i64, .str, .int .i64] (y0.getD y2.toNat []) 0 && decide (5 ≤ (y0.getD y2.toNat []).length) then bif decide (0 ≤ y2) && decide (y2 < (↑y1.length : Int)) && decide ((y1.getD y2.toNat []).length = 5) then bif zav [.sl, .bool, .int .i64, .str, .int .i64] (y1.getD y2.toNat []) 0 && decide (5 ≤ (y1.getD y2.toNat []).length) then (zce [.g [.s ((y0.getD y2.toNat []).getD 0 .h).es, .v (.bool ((y0.getD y2.toNat []).getD 1 .h).bool), .v (.int .i64 ((y0.getD y2.toNat []).getD 2 .h).int), .v (.string ((y0.getD y2.toNat []).getD 3 .h).str), .v (.int .i64 ((y0.getD y2.toNat []).getD 4 .h).int)], .g [.s ((y1.getD y2.toNat []).getD 0 .h).es, .v (.bool ((y1.getD y2.toNat []).getD 1 .h).bool), .v (.int .i64 ((y1.getD y2.toNat []).getD 2 .h).int), .v (.string ((y1.getD y2.toNat []).getD 3 .h).str), .v (.int .i64 ((y1.getD y2.toNat []).getD 4 .h).int)]] []).bind fun val => bif zag [.bool] val.1 && true then bif !(val.1.getD 0 .d).bool then some (za0.q4 false) else za0.L4 y0 y1 (IntKind.i64.wrap (y2 + 1)) else none else none else none else none else none else some za0.x4 := by
 refine (zbg (Y := Y) (c := lim' Y) (fn := 20) (rid := 4) (b := zaw 4 za0.c) (by kernel_rfl) _).trans ?_
 delta za0.L4 zce za0.q4 za0.x4 XX
 generalize lpL (Y.ctx (lim' Y)) 20 = lp
 generalize lim' Y = call
 kernel_rfl
theorem za0.a4x4 : za0.A4 za0.x4 = some ⟨[.v (.bool true)], []⟩ := by
 delta za0.A4 za0.x4 XX
 generalize lpL (Y.ctx (lim' Y)) 20 = lp
 generalize lim' Y = call
 kernel_rfl
noncomputable def zaz.L4 (y0 y1:LLD) (y2:Int) : Option (Ex × St) := lpL XX 21 (zaw 4 zaz.c) (mkG 0 26 [(0, .one (.s y0)), (1, .one (.s y1)), (5, .one (.v (.int .i64 y2)))] [] GL)
noncomputable def zaz.A4 : Ex × St → Option Res := fun r => evA XX 21 (lpL XX 21) 4 zaz.c r.fst r.snd (outE XX 21 Tryz.f21)
noncomputable def zaz.q4 (y0:Bool) : Ex × St := (Ex.ret, mkG 0 26 [(4, .one (.v (.bool y0)))] [] GL)
noncomputable def zaz.x4 : Ex × St := (Ex.exit 0, mkG 0 26 [] [] GL)
theorem zaz.e (a0 a1:LLD) : zaz [.one (.s a0), .one (.s a1)] [] = bif (↑a0.length : Int) != (↑a1.length : Int) then some ⟨[.v (.bool false)], []⟩ else (zaz.L4 a0 a1 0).bind zaz.A4 := by
 refine (zaz.run _ _ (by kernel_rfl)).trans ?_
 delta zaz zaz.L4 zaz.A4 XX
 generalize lpL (Y.ctx (lim' Y)) 21 = lp
 generalize lim' Y = call
 kernel_rfl
theorem zaz.s4 (y0 y1:LLD) (y2:Int) : zaz.L4 y0 y1 y2 = bif decide (y2 < (↑y0.length : Int)) then bif decide (0 ≤ y2) && decide (y2 < (↑y0.length : Int)) && decide ((y0.getD y2.toNat []).length = 1) then bif zav [.str] (y0.getD y2.toNat []) 0 && decide (1 ≤ (y0.getD y2.toNat []).length) then bif decide (0 ≤ y2) && decide (y2 < (↑y1.length : Int)) && decide ((y1.getD y2.toNat []).length = 1) then bif zav [.str] (y1.getD y2.toNat []) 0 && decide (1 ≤ (y1.getD y2.toNat []).length) then bif !((y0.getD y2.toNat []).getD 0 .h).str.toList == ((y1.getD y2.toNat []).getD 0 .h).str.toList then some (zaz.q4 false) else zaz.L4 y0 y1 (IntKind.i64.wrap (y2 + 1)) else none else none else none else none else some zaz.x4 := by
 refine (zbg (Y := Y) (c := lim' Y) (fn := 21) (rid := 4) (b := zaw 4 zaz.c) (by kernel_rfl) _).trans ?_
 delta zaz.L4 zaz.q4 zaz.x4 XX
 generalize lpL (Y.ctx (lim' Y)) 21 = lp
 generalize lim' Y = call
 kernel_rfl
theorem zaz.a4x4 : zaz.A4 zaz.x4 = some ⟨[.v (.bool true)], []⟩ := by
 delta zaz.A4 zaz.x4 XX
 generalize lpL (Y.ctx (lim' Y)) 21 = lp
 generalize lim' Y = call
 kernel_rfl
noncomputable def zab.P2 (y0:LLD) (y1 y2:Bool) (y3:Int) (y4:BAy) (y5 y6:LLD) : Option Res := evB XX 24 (lpL XX 24) 2 zab.c (mkG 0 101 [(0, .one (.s y0)), (2, .one (.p true 2 [] 0)), (26, .one (.v (.bool y1)))] [(2, some ⟨.box, [.v (.bool y2), .v (.int .i64 y3), .v (.string y4), .s y5, .s y6], [.deep, .deep, .deep, .deep, .deep]⟩)] GL) (outE XX 24 Tryz.f24)
noncomputable def zab.P3 (y0:LLD) (y1:Bool) (y2:Int) (y3:BAy) (y4 y5:LLD) : Option Res := evB XX 24 (lpL XX 24) 3 zab.c (mkG 0 101 [(0, .one (.s y0)), (2, .one (.p true 2 [] 0))] [(2, some ⟨.box, [.v (.bool y1), .v (.int .i64 y2), .v (.string y3), .s y4, .s y5], [.deep, .deep, .deep, .deep, .deep]⟩)] GL) (outE XX 24 Tryz.f24)
noncomputable def zab.L5 (y0:LLD) (y1:Int) (y2:Bool) (y3:Int) (y4:BAy) (y5 y6:LLD) (y7:Bool) (y8:Int) (y9:BAy) (y10 y11:LLD) : Option (Ex × St) := lpL XX 24 (zaw 5 zab.c) (mkG 0 101 [(0, .one (.s y0)), (2, .one (.p true 2 [] 0)), (4, .one (.p true 4 [] 0)), (5, .one (.v (.int .i64 y1)))] [(2, some ⟨.box, [.v (.bool y2), .v (.int .i64 y3), .v (.string y4), .s y5, .s y6], [.deep, .deep, .deep, .deep, .deep]⟩), (4, some ⟨.box, [.v (.bool y7), .v (.int .i64 y8), .v (.string y9), .s y10, .s y11], [.deep, .deep, .deep, .deep, .deep]⟩)] GL)
noncomputable def zab.A5 : Ex × St → Option Res := fun r => evA XX 24 (lpL XX 24) 5 zab.c r.fst r.snd (outE XX 24 Tryz.f24)
noncomputable def zab.q5 (y0:LLD) (y1 y2:Bool) (y3:Int) (y4:BAy) (y5 y6:LLD) (y7:Bool) (y8:Int) (y9:BAy) (y10 y11:LLD) : Ex × St := (Ex.ret, mkG 0 101 [(0, .one (.s y0)), (2, .one (.p true 2 [] 0)), (3, .one (.v (.bool y1))), (4, .one (.p true 4 [] 0))] [(2, some ⟨.box, [.v (.bool y2), .v (.int .i64 y3), .v (.string y4), .s y5, .s y6], [.deep, .deep, .deep, .deep, .deep]⟩), (4, some ⟨.box, [.v (.bool y7), .v (.int .i64 y8), .v (.string y9), .s y10, .s y11], [.deep, .deep, .deep, .deep, .deep]⟩)] GL)
noncomputable def zab.P11 (y0:LLD) (y1:Int) (y2 y3:Bool) (y4:Int) (y5:BAy) (y6 y7:LLD) (y8:Bool) (y9:Int) (y10:BAy) (y11 y12:LLD) (y13:Bool) (y14:Int) (y15:BAy) (y16 y17:LLD) : Option (Ex × St) := evB XX 24 (lpL XX 24) 11 (zaw 5 zab.c) (mkG 0 101 [(0, .one (.s y0)), (2, .one (.p true 2 [] 0)), (4, .one (.p true 4 [] 0)), (5, .one (.v (.int .i64 y1))), (7, .one (.p true 7 [] 0)), (8, .one (.v (.bool y2)))] [(2, some ⟨.box, [.v (.bool y3), .v (.int .i64 y4), .v (.string y5), .s y6, .s y7], [.deep, .deep, .deep, .deep, .deep]⟩), (4, some ⟨.box, [.v (.bool y8), .v (.int .i64 y9), .v (.string y10), .s y11, .s y12], [.sh, .sh, .sh, .sh, .sh]⟩), (7, some ⟨.box, [.v (.bool y13), .v (.int .i64 y14), .v (.string y15), .s y16, .s y17], [.deep, .deep, .deep, .sh, .sh]⟩)] GL) (backL (lpL XX 24) (zaw 5 zab.c) (XX.live 24 5))
noncomputable def zab.x5 (y0:LLD) (y1:Bool) (y2:Int) (y3:BAy) (y4 y5:LLD) (y6:Bool) (y7:Int) (y8:BAy) (y9 y10:LLD) : Ex × St := (Ex.exit 0, mkG 0 101 [(0, .one (.s y0)), (2, .one (.p true 2 [] 0)), (4, .one (.p true 4 [] 0))] [(2, some ⟨.box, [.v (.bool y1), .v (.int .i64 y2), .v (.string y3), .s y4, .s y5], [.deep, .deep, .deep, .deep, .deep]⟩), (4, some ⟨.box, [.v (.bool y6), .v (.int .i64 y7), .v (.string y8), .s y9, .s y10], [.deep, .deep, .deep, .deep, .deep]⟩)] GL)
noncomputable def zab.q5b (y0:LLD) (y1 y2:Bool) (y3:Int) (y4:BAy) (y5 y6:LLD) (y7:Bool) (y8:Int) (y9:BAy) (y10 y11:LLD) : Ex × St := (Ex.ret, mkG 0 101 [(0, .one (.s y0)), (2, .one (.p true 2 [] 0)), (3, .one (.v (.bool y1))), (4, .one (.p true 4 [] 0))] [(2, some ⟨.box, [.v (.bool y2), .v (.int .i64 y3), .v (.string y4), .s y5, .s y6], [.deep, .deep, .deep, .deep, .deep]⟩), (4, some ⟨.box, [.v (.bool y7), .v (.int .i64 y8), .v (.string y9), .s y10, .s y11], [.sh, .sh, .sh, .sh, .sh]⟩)] GL)
noncomputable def zab.L5b (y0:LLD) (y1:Int) (y2:Bool) (y3:Int) (y4:BAy) (y5 y6:LLD) (y7:Bool) (y8:Int) (y9:BAy) (y10 y11:LLD) : Option (Ex × St) := lpL XX 24 (zaw 5 zab.c) (mkG 0 101 [(0, .one (.s y0)), (2, .one (.p true 2 [] 0)), (4, .one (.p true 4 [] 0)), (5, .one (.v (.int .i64 y1)))] [(2, some ⟨.box, [.v (.bool y2), .v (.int .i64 y3), .v (.string y4), .s y5, .s y6], [.deep, .deep, .deep, .deep, .deep]⟩), (4, some ⟨.box, [.v (.bool y7), .v (.int .i64 y8), .v (.string y9), .s y10, .s y11], [.deep, .deep, .deep, .sh, .sh]⟩)] GL)
noncomputable def zab.L18 (y0:LLD) (y1:Int) (y2:Bool) (y3:Int) (y4:BAy) (y5 y6:LLD) (y7:Bool) (y8:Int) (y9:BAy) (y10 y11 y12:LLD) : Option (Ex × St) := lpL XX 24 (zaw 18 zab.c) (mkG 0 101 [(0, .one (.s y0)), (2, .one (.p true 2 [] 0)), (4, .one (.p true 4 [] 0)), (9, .one (.r 9 [] 0)), (10, .one (.v (.int .i64 y1)))] [(2, some ⟨.box, [.v (.bool y2), .v (.int .i64 y3), .v (.string y4), .s y5, .s y6], [.deep, .deep, .deep, .deep, .deep]⟩), (4, some ⟨.box, [.v (.bool y7), .v (.int .i64 y8), .v (.string y9), .s y10, .s y11], [.deep, .deep, .deep, .deep, .deep]⟩), (9, some ⟨.virt, [.s y12], [.deep]⟩)] GL)
noncomputable def zab.A18 : Ex × St → Option Res := fun r => evA XX 24 (lpL XX 24) 18 zab.c r.fst r.snd (outE XX 24 Tryz.f24)
noncomputable def zab.q5c (y0:LLD) (y1 y2:Bool) (y3:Int) (y4:BAy) (y5 y6:LLD) (y7:Bool) (y8:Int) (y9:BAy) (y10 y11:LLD) : Ex × St := (Ex.ret, mkG 0 101 [(0, .one (.s y0)), (2, .one (.p true 2 [] 0)), (3, .one (.v (.bool y1))), (4, .one (.p true 4 [] 0))] [(2, some ⟨.box, [.v (.bool y2), .v (.int .i64 y3), .v (.string y4), .s y5, .s y6], [.deep, .deep, .deep, .deep, .deep]⟩), (4, some ⟨.box, [.v (.bool y7), .v (.int .i64 y8), .v (.string y9), .s y10, .s y11], [.deep, .deep, .deep, .sh, .sh]⟩)] GL)
noncomputable def zab.P11b (y0:LLD) (y1:Int) (y2 y3:Bool) (y4:Int) (y5:BAy) (y6 y7:LLD) (y8:Bool) (y9:Int) (y10:BAy) (y11 y12:LLD) (y13:Bool) (y14:Int) (y15:BAy) (y16 y17:LLD) : Option (Ex × St) := evB XX 24 (lpL XX 24) 11 (zaw 5 zab.c) (mkG 0 101 [(0, .one (.s y0)), (2, .one (.p true 2 [] 0)), (4, .one (.p true 4 [] 0)), (5, .one (.v (.int .i64 y1))), (7, .one (.p true 7 [] 0)), (8, .one (.v (.bool y2)))] [(2, some ⟨.box, [.v (.bool y3), .v (.int .i64 y4), .v (.string y5), .s y6, .s y7], [.deep, .deep, .deep, .deep, .deep]⟩), (4, some ⟨.box, [.v (.bool y8), .v (.int .i64 y9), .v (.string y10), .s y11, .s y12], [.deep, .deep, .deep, .sh, .sh]⟩), (7, some ⟨.box, [.v (.bool y13), .v (.int .i64 y14), .v (.string y15), .s y16, .s y17], [.deep, .deep, .deep, .sh, .sh]⟩)] GL) (backL (lpL XX 24) (zaw 5 zab.c) (XX.live 24 5))
noncomputable def zab.x5b (y0:LLD) (y1:Bool) (y2:Int) (y3:BAy) (y4 y5:LLD) (y6:Bool) (y7:Int) (y8:BAy) (y9 y10:LLD) : Ex × St := (Ex.exit 0, mkG 0 101 [(0, .one (.s y0)), (2, .one (.p true 2 [] 0)), (4, .one (.p true 4 [] 0))] [(2, some ⟨.box, [.v (.bool y1), .v (.int .i64 y2), .v (.string y3), .s y4, .s y5], [.deep, .deep, .deep, .deep, .deep]⟩), (4, some ⟨.box, [.v (.bool y6), .v (.int .i64 y7), .v (.string y8), .s y9, .s y10], [.deep, .deep, .deep, .sh, .sh]⟩)] GL)
noncomputable def zab.q18 (y0 y1:Bool) (y2:Int) (y3:BAy) (y4 y5:LLD) (y6:Bool) (y7:Int) (y8:BAy) (y9 y10:LLD) : Ex × St := (Ex.ret, mkG 0 101 [(2, .one (.p true 2 [] 0)), (3, .one (.v (.bool y0))), (4, .one (.p true 4 [] 0))] [(2, some ⟨.box, [.v (.bool y1), .v (.int .i64 y2), .v (.string y3), .s y4, .s y5], [.deep, .deep, .deep, .deep, .deep]⟩), (4, some ⟨.box, [.v (.bool y6), .v (.int .i64 y7), .v (.string y8), .s y9, .s y10], [.deep, .deep, .deep, .deep, .deep]⟩)] GL)
noncomputable def zab.x18 (y0:Bool) (y1:Int) (y2:BAy) (y3 y4:LLD) (y5:Bool) (y6:Int) (y7:BAy) (y8 y9:LLD) : Ex × St := (Ex.exit 2, mkG 0 101 [(2, .one (.p true 2 [] 0)), (4, .one (.p true 4 [] 0))] [(2, some ⟨.box, [.v (.bool y0), .v (.int .i64 y1), .v (.string y2), .s y3, .s y4], [.deep, .deep, .deep, .deep, .deep]⟩), (4, some ⟨.box, [.v (.bool y5), .v (.int .i64 y6), .v (.string y7), .s y8, .s y9], [.deep, .deep, .deep, .deep, .deep]⟩)] GL)
noncomputable def zab.L18b (y0:LLD) (y1:Int) (y2:Bool) (y3:Int) (y4:BAy) (y5 y6:LLD) (y7:Bool) (y8:Int) (y9:BAy) (y10 y11 y12:LLD) : Option (Ex × St) := lpL XX 24 (zaw 18 zab.c) (mkG 0 101 [(0, .one (.s y0)), (2, .one (.p true 2 [] 0)), (4, .one (.p true 4 [] 0)), (9, .one (.r 9 [] 0)), (10, .one (.v (.int .i64 y1)))] [(2, some ⟨.box, [.v (.bool y2), .v (.int .i64 y3), .v (.string y4), .s y5, .s y6], [.deep, .deep, .deep, .deep, .deep]⟩), (4, some ⟨.box, [.v (.bool y7), .v (.int .i64 y8), .v (.string y9), .s y10, .s y11], [.deep, .deep, .deep, .sh, .sh]⟩), (9, some ⟨.virt, [.s y12], [.deep]⟩)] GL)
noncomputable def zab.q18b (y0 y1:Bool) (y2:Int) (y3:BAy) (y4 y5:LLD) (y6:Bool) (y7:Int) (y8:BAy) (y9 y10:LLD) : Ex × St := (Ex.ret, mkG 0 101 [(2, .one (.p true 2 [] 0)), (3, .one (.v (.bool y0))), (4, .one (.p true 4 [] 0))] [(2, some ⟨.box, [.v (.bool y1), .v (.int .i64 y2), .v (.string y3), .s y4, .s y5], [.deep, .deep, .deep, .deep, .deep]⟩), (4, some ⟨.box, [.v (.bool y6), .v (.int .i64 y7), .v (.string y8), .s y9, .s y10], [.deep, .deep, .deep, .sh, .sh]⟩)] GL)
noncomputable def zab.x18b (y0:Bool) (y1:Int) (y2:BAy) (y3 y4:LLD) (y5:Bool) (y6:Int) (y7:BAy) (y8 y9:LLD) : Ex × St := (Ex.exit 2, mkG 0 101 [(2, .one (.p true 2 [] 0)), (4, .one (.p true 4 [] 0))] [(2, some ⟨.box, [.v (.bool y0), .v (.int .i64 y1), .v (.string y2), .s y3, .s y4], [.deep, .deep, .deep, .deep, .deep]⟩), (4, some ⟨.box, [.v (.bool y5), .v (.int .i64 y6), .v (.string y7), .s y8, .s y9], [.deep, .deep, .deep, .sh, .sh]⟩)] GL)
theorem zab.e (a0:LLD) : zab [.one (.s a0)] [] = bif (↑a0.length : Int) == 0 then zab.P2 a0 true false 0 (ByteArray.mk #[]) [] [] else bif decide ((↑a0.length : Int) > 31) then zab.P2 a0 true false 0 (ByteArray.mk #[]) [] [] else bif decide (0 < (↑a0.length : Int)) && decide ((a0.getD 0 []).length = 5) then bif zav [.sl] (a0.getD 0 []) 0 && decide (1 ≤ (a0.getD 0 []).length) then zab.P2 a0 ((↑((a0.getD 0 []).getD 0 .h).es.length : Int) != 0) false 0 (ByteArray.mk #[]) [] [] else none else none := by
 refine (zab.run _ _ (by kernel_rfl)).trans ?_
 delta zab zab.P2 XX
 refine zbq [2, 3] (by kernel_rfl) fun J e1 => ?_
 try simp only [← e1]
 clear e1
 generalize lpL (Y.ctx (lim' Y)) 24 = lp
 generalize lim' Y = call
 kernel_rfl
theorem zab.p2 (y0:LLD) (y1 y2:Bool) (y3:Int) (y4:BAy) (y5 y6:LLD) : zab.P2 y0 y1 y2 y3 y4 y5 y6 = bif y1 then some ⟨[.v (.bool false), .v (.int .i64 0), .v (.string (ByteArray.mk #[])), .o .deep [], .o .deep [], .v (.bool false)], []⟩ else zab.P3 y0 y2 y3 y4 y5 y6 := by
 delta zab.P2 zab.P3 XX
 refine zbf [2, 3] 2 (by kernel_rfl) fun J e1 => ?_
 try simp only [← e1]
 clear e1
 generalize lpL (Y.ctx (lim' Y)) 24 = lp
 generalize lim' Y = call
 kernel_rfl
theorem zab.p3 (y0:LLD) (y1:Bool) (y2:Int) (y3:BAy) (y4 y5:LLD) : zab.P3 y0 y1 y2 y3 y4 y5 = bif decide (0 < (↑y0.length : Int)) && decide ((y0.getD 0 []).length = 5) then bif zav [.bool] (y0.getD 0 []) 1 && decide (2 ≤ (y0.getD 0 []).length) then bif decide (0 < (↑y0.length : Int)) && decide ((y0.getD 0 []).length = 5) then bif zav [.int .i64] (y0.getD 0 []) 2 && decide (3 ≤ (y0.getD 0 []).length) then bif decide (0 < (↑y0.length : Int)) && decide ((y0.getD 0 []).length = 5) then bif zav [.str] (y0.getD 0 []) 3 && decide (4 ≤ (y0.getD 0 []).length) then (zab.L5 y0 1 y1 y2 y3 y4 y5 ((y0.getD 0 []).getD 1 .h).bool ((y0.getD 0 []).getD 2 .h).int ((y0.getD 0 []).getD 3 .h).str [] []).bind zab.A5 else none else none else none else none else none else none := by
 delta zab.P3 zab.L5 zab.A5 XX
 refine zbf [2, 3] 3 (by kernel_rfl) fun J e1 => ?_
 have eA := evA_J [2, 3] 5 (by kernel_rfl) e1
 try simp only [eA]
 clear eA
 try simp only [← e1]
 clear e1
 show _ = _
 generalize lpL (Y.ctx (lim' Y)) 24 = lp
 generalize lim' Y = call
 kernel_rfl
theorem zab.s5 (y0:LLD) (y1:Int) (y2:Bool) (y3:Int) (y4:BAy) (y5 y6:LLD) (y7:Bool) (y8:Int) (y9:BAy) (y10 y11:LLD) : zab.L5 y0 y1 y2 y3 y4 y5 y6 y7 y8 y9 y10 y11 = bif decide (y1 < (↑y0.length : Int)) then bif decide (0 ≤ y1) && decide (y1 < (↑y0.length : Int)) && decide ((y0.getD y1.toNat []).length = 5) then bif zav [.sl, .bool, .int .i64, .str, .int .i64] (y0.getD y1.toNat []) 0 && decide (5 ≤ (y0.getD y1.toNat []).length) then (zax [.one (.s ((y0.getD y1.toNat []).getD 0 .h).es)] []).bind fun val => bif zag [.bool] val.1 && true then bif !(val.1.getD 0 .d).bool then some (zab.q5 y0 false false 0 (ByteArray.mk #[]) [] [] y7 y8 y9 y10 y11) else (zbh [.g [.v (.bool y7), .v (.int .i64 y8), .v (.string y9), .s y10, .s y11], .one (.s ((y0.getD y1.toNat []).getD 0 .h).es), .g [.v (.bool ((y0.getD y1.toNat []).getD 1 .h).bool), .v (.int .i64 ((y0.getD y1.toNat []).getD 2 .h).int), .v (.string ((y0.getD y1.toNat []).getD 3 .h).str), .s [], .s []]] []).bind fun val => bif zag [.bool, .int .i64, .str, .sh, .sh, .bool] val.1 && true then zab.P11 y0 y1 (val.1.getD 5 .d).bool y2 y3 y4 y5 y6 y7 y8 y9 y10 y11 (val.1.getD 0 .d).bool (val.1.getD 1 .d).int (val.1.getD 2 .d).str (val.1.getD 3 .d).es (val.1.getD 4 .d).es else none else none else none else none else some (zab.x5 y0 y2 y3 y4 y5 y6 y7 y8 y9 y10 y11) := by
 refine (zbg (Y := Y) (c := lim' Y) (fn := 24) (rid := 5) (b := zaw 5 zab.c) (by kernel_rfl) _).trans ?_
 delta zab.L5 zax zab.q5 zbh zab.P11 zab.x5 XX
 refine zbq [11] (by kernel_rfl) fun J e1 => ?_
 try simp only [← e1]
 clear e1
 generalize lpL (Y.ctx (lim' Y)) 24 = lp
 generalize lim' Y = call
 kernel_rfl
theorem zab.a5q5 (y0:LLD) (y1 y2:Bool) (y3:Int) (y4:BAy) (y5 y6:LLD) (y7:Bool) (y8:Int) (y9:BAy) (y10 y11:LLD) : zab.A5 (zab.q5 y0 y1 y2 y3 y4 y5 y6 y7 y8 y9 y10 y11) = some ⟨[.v (.bool y2), .v (.int .i64 y3), .v (.string y4), .o .deep y5, .o .deep y6, .v (.bool y1)], []⟩ := by
 delta zab.A5 zab.q5 XX
 refine za8 [2, 3] 5 (by kernel_rfl) fun J e1 => ?_
 have eA := evA_J [2, 3] 5 (by kernel_rfl) e1
 try simp only [eA]
 clear eA
 try simp only [← e1]
 clear e1
 show _ = _
 generalize lpL (Y.ctx (lim' Y)) 24 = lp
 generalize lim' Y = call
 kernel_rfl
theorem zab.p11 (y0:LLD) (y1:Int) (y2 y3:Bool) (y4:Int) (y5:BAy) (y6 y7:LLD) (y8:Bool) (y9:Int) (y10:BAy) (y11 y12:LLD) (y13:Bool) (y14:Int) (y15:BAy) (y16 y17:LLD) : zab.P11 y0 y1 y2 y3 y4 y5 y6 y7 y8 y9 y10 y11 y12 y13 y14 y15 y16 y17 = bif !y2 then some (zab.q5b y0 false false 0 (ByteArray.mk #[]) [] [] y8 y9 y10 y11 y12) else zab.L5b y0 (IntKind.i64.wrap (y1 + 1)) y3 y4 y5 y6 y7 y13 y14 y15 y16 y17 := by
 delta zab.P11 zab.q5b zab.L5b XX
 refine zbf [11] 11 (by kernel_rfl) fun J e1 => ?_
 try simp only [← e1]
 clear e1
 generalize lpL (Y.ctx (lim' Y)) 24 = lp
 generalize lim' Y = call
 kernel_rfl
theorem zab.a5x5 (y0:LLD) (y1:Bool) (y2:Int) (y3:BAy) (y4 y5:LLD) (y6:Bool) (y7:Int) (y8:BAy) (y9 y10:LLD) : zab.A5 (zab.x5 y0 y1 y2 y3 y4 y5 y6 y7 y8 y9 y10) = (zbn [.g [.v (.bool y6), .v (.int .i64 y7), .v (.string y8), .s y9, .s y10]] []).bind fun val => bif zag [.own .deep] val.1 && true then bif (↑(val.1.getD 0 .d).es.length : Int) != (↑y0.length : Int) then some ⟨[.v (.bool false), .v (.int .i64 0), .v (.string (ByteArray.mk #[])), .o .deep [], .o .deep [], .v (.bool false)], []⟩ else (zab.L18 y0 0 y1 y2 y3 y4 y5 y6 y7 y8 y9 y10 (val.1.getD 0 .d).es).bind zab.A18 else none := by
 delta zab.A5 zab.x5 zbn zab.L18 zab.A18 XX
 refine za8 [2, 3] 5 (by kernel_rfl) fun J e1 => ?_
 have eA := evA_J [2, 3] 5 (by kernel_rfl) e1
 try simp only [eA]
 clear eA
 have eA := evA_J [2, 3] 18 (by kernel_rfl) e1
 try simp only [eA]
 clear eA
 try simp only [← e1]
 clear e1
 show _ = _
 generalize lpL (Y.ctx (lim' Y)) 24 = lp
 generalize lim' Y = call
 kernel_rfl
theorem zab.a5q5b (y0:LLD) (y1 y2:Bool) (y3:Int) (y4:BAy) (y5 y6:LLD) (y7:Bool) (y8:Int) (y9:BAy) (y10 y11:LLD) : zab.A5 (zab.q5b y0 y1 y2 y3 y4 y5 y6 y7 y8 y9 y10 y11) = some ⟨[.v (.bool y2), .v (.int .i64 y3), .v (.string y4), .o .deep y5, .o .deep y6, .v (.bool y1)], []⟩ := by
 delta zab.A5 zab.q5b XX
 refine za8 [2, 3] 5 (by kernel_rfl) fun J e1 => ?_
 have eA := evA_J [2, 3] 5 (by kernel_rfl) e1
 try simp only [eA]
 clear eA
 try simp only [← e1]
 clear e1
 show _ = _
 generalize lpL (Y.ctx (lim' Y)) 24 = lp
 generalize lim' Y = call
 kernel_rfl
theorem zab.s5b (y0:LLD) (y1:Int) (y2:Bool) (y3:Int) (y4:BAy) (y5 y6:LLD) (y7:Bool) (y8:Int) (y9:BAy) (y10 y11:LLD) : zab.L5b y0 y1 y2 y3 y4 y5 y6 y7 y8 y9 y10 y11 = bif decide (y1 < (↑y0.length : Int)) then bif decide (0 ≤ y1) && decide (y1 < (↑y0.length : Int)) && decide ((y0.getD y1.toNat []).length = 5) then bif zav [.sl, .bool, .int .i64, .str, .int .i64] (y0.getD y1.toNat []) 0 && decide (5 ≤ (y0.getD y1.toNat []).length) then (zax [.one (.s ((y0.getD y1.toNat []).getD 0 .h).es)] []).bind fun val => bif zag [.bool] val.1 && true then bif !(val.1.getD 0 .d).bool then some (zab.q5c y0 false false 0 (ByteArray.mk #[]) [] [] y7 y8 y9 y10 y11) else (zbh [.g [.v (.bool y7), .v (.int .i64 y8), .v (.string y9), .s y10, .s y11], .one (.s ((y0.getD y1.toNat []).getD 0 .h).es), .g [.v (.bool ((y0.getD y1.toNat []).getD 1 .h).bool), .v (.int .i64 ((y0.getD y1.toNat []).getD 2 .h).int), .v (.string ((y0.getD y1.toNat []).getD 3 .h).str), .s [], .s []]] []).bind fun val => bif zag [.bool, .int .i64, .str, .sh, .sh, .bool] val.1 && true then zab.P11b y0 y1 (val.1.getD 5 .d).bool y2 y3 y4 y5 y6 y7 y8 y9 y10 y11 (val.1.getD 0 .d).bool (val.1.getD 1 .d).int (val.1.getD 2 .d).str (val.1.getD 3 .d).es (val.1.getD 4 .d).es else none else none else none else none else some (zab.x5b y0 y2 y3 y4 y5 y6 y7 y8 y9 y10 y11) := by
 refine (zbg (Y := Y) (c := lim' Y) (fn := 24) (rid := 5) (b := zaw 5 zab.c) (by kernel_rfl) _).trans ?_
 delta zab.L5b zax zab.q5c zbh zab.P11b zab.x5b XX
 refine zbq [11] (by kernel_rfl) fun J e1 => ?_
 try simp only [← e1]
 clear e1
 generalize lpL (Y.ctx (lim' Y)) 24 = lp
 generalize lim' Y = call
 kernel_rfl
theorem zab.s18 (y0:LLD) (y1:Int) (y2:Bool) (y3:Int) (y4:BAy) (y5 y6:LLD) (y7:Bool) (y8:Int) (y9:BAy) (y10 y11 y12:LLD) : zab.L18 y0 y1 y2 y3 y4 y5 y6 y7 y8 y9 y10 y11 y12 = bif decide (y1 < (↑y0.length : Int)) then bif decide (0 ≤ y1) && decide (y1 < (↑y12.length : Int)) && decide ((y12.getD y1.toNat []).length = 5) then bif zav [.sl, .bool, .int .i64, .str, .int .i64] (y12.getD y1.toNat []) 0 && decide (5 ≤ (y12.getD y1.toNat []).length) then bif decide (0 ≤ y1) && decide (y1 < (↑y0.length : Int)) && decide ((y0.getD y1.toNat []).length = 5) then bif zav [.sl, .bool, .int .i64, .str, .int .i64] (y0.getD y1.toNat []) 0 && decide (5 ≤ (y0.getD y1.toNat []).length) then (zbV [.g [.s ((y12.getD y1.toNat []).getD 0 .h).es, .v (.bool ((y12.getD y1.toNat []).getD 1 .h).bool), .v (.int .i64 ((y12.getD y1.toNat []).getD 2 .h).int), .v (.string ((y12.getD y1.toNat []).getD 3 .h).str), .v (.int .i64 ((y12.getD y1.toNat []).getD 4 .h).int)], .g [.s ((y0.getD y1.toNat []).getD 0 .h).es, .v (.bool ((y0.getD y1.toNat []).getD 1 .h).bool), .v (.int .i64 ((y0.getD y1.toNat []).getD 2 .h).int), .v (.string ((y0.getD y1.toNat []).getD 3 .h).str), .v (.int .i64 ((y0.getD y1.toNat []).getD 4 .h).int)]] []).bind fun val => bif zag [.bool] val.1 && true then bif !(val.1.getD 0 .d).bool then some (zab.q18 false false 0 (ByteArray.mk #[]) [] [] y7 y8 y9 y10 y11) else zab.L18 y0 (IntKind.i64.wrap (y1 + 1)) y2 y3 y4 y5 y6 y7 y8 y9 y10 y11 y12 else none else none else none else none else none else some (zab.x18 y2 y3 y4 y5 y6 y7 y8 y9 y10 y11) := by
 refine (zbg (Y := Y) (c := lim' Y) (fn := 24) (rid := 18) (b := zaw 18 zab.c) (by kernel_rfl) _).trans ?_
 delta zab.L18 zbV zab.q18 zab.x18 XX
 generalize lpL (Y.ctx (lim' Y)) 24 = lp
 generalize lim' Y = call
 kernel_rfl
theorem zab.a5q5c (y0:LLD) (y1 y2:Bool) (y3:Int) (y4:BAy) (y5 y6:LLD) (y7:Bool) (y8:Int) (y9:BAy) (y10 y11:LLD) : zab.A5 (zab.q5c y0 y1 y2 y3 y4 y5 y6 y7 y8 y9 y10 y11) = some ⟨[.v (.bool y2), .v (.int .i64 y3), .v (.string y4), .o .deep y5, .o .deep y6, .v (.bool y1)], []⟩ := by
 delta zab.A5 zab.q5c XX
 refine za8 [2, 3] 5 (by kernel_rfl) fun J e1 => ?_
 have eA := evA_J [2, 3] 5 (by kernel_rfl) e1
 try simp only [eA]
 clear eA
 try simp only [← e1]
 clear e1
 show _ = _
 generalize lpL (Y.ctx (lim' Y)) 24 = lp
 generalize lim' Y = call
 kernel_rfl
theorem zab.p11b (y0:LLD) (y1:Int) (y2 y3:Bool) (y4:Int) (y5:BAy) (y6 y7:LLD) (y8:Bool) (y9:Int) (y10:BAy) (y11 y12:LLD) (y13:Bool) (y14:Int) (y15:BAy) (y16 y17:LLD) : zab.P11b y0 y1 y2 y3 y4 y5 y6 y7 y8 y9 y10 y11 y12 y13 y14 y15 y16 y17 = bif !y2 then some (zab.q5c y0 false false 0 (ByteArray.mk #[]) [] [] y8 y9 y10 y11 y12) else zab.L5b y0 (IntKind.i64.wrap (y1 + 1)) y3 y4 y5 y6 y7 y13 y14 y15 y16 y17 := by
 delta zab.P11b zab.q5c zab.L5b XX
 refine zbf [11] 11 (by kernel_rfl) fun J e1 => ?_
 try simp only [← e1]
 clear e1
 generalize lpL (Y.ctx (lim' Y)) 24 = lp
 generalize lim' Y = call
 kernel_rfl
theorem zab.a5x5b (y0:LLD) (y1:Bool) (y2:Int) (y3:BAy) (y4 y5:LLD) (y6:Bool) (y7:Int) (y8:BAy) (y9 y10:LLD) : zab.A5 (zab.x5b y0 y1 y2 y3 y4 y5 y6 y7 y8 y9 y10) = (zbn [.g [.v (.bool y6), .v (.int .i64 y7), .v (.string y8), .s y9, .s y10]] []).bind fun val => bif zag [.own .deep] val.1 && true then bif (↑(val.1.getD 0 .d).es.length : Int) != (↑y0.length : Int) then some ⟨[.v (.bool false), .v (.int .i64 0), .v (.string (ByteArray.mk #[])), .o .deep [], .o .deep [], .v (.bool false)], []⟩ else (zab.L18b y0 0 y1 y2 y3 y4 y5 y6 y7 y8 y9 y10 (val.1.getD 0 .d).es).bind zab.A18 else none := by
 delta zab.A5 zab.x5b zbn zab.L18b zab.A18 XX
 refine za8 [2, 3] 5 (by kernel_rfl) fun J e1 => ?_
 have eA := evA_J [2, 3] 5 (by kernel_rfl) e1
 try simp only [eA]
 clear eA
 have eA := evA_J [2, 3] 18 (by kernel_rfl) e1
 try simp only [eA]
 clear eA
 try simp only [← e1]
 clear e1
 show _ = _
 generalize lpL (Y.ctx (lim' Y)) 24 = lp
 generalize lim' Y = call
 kernel_rfl
theorem zab.a18q18 (y0 y1:Bool) (y2:Int) (y3:BAy) (y4 y5:LLD) (y6:Bool) (y7:Int) (y8:BAy) (y9 y10:LLD) : zab.A18 (zab.q18 y0 y1 y2 y3 y4 y5 y6 y7 y8 y9 y10) = some ⟨[.v (.bool y1), .v (.int .i64 y2), .v (.string y3), .o .deep y4, .o .deep y5, .v (.bool y0)], []⟩ := by
 delta zab.A18 zab.q18 XX
 refine za8 [2, 3] 18 (by kernel_rfl) fun J e1 => ?_
 have eA := evA_J [2, 3] 18 (by kernel_rfl) e1
 try simp only [eA]
 clear eA
 try simp only [← e1]
 clear e1
 show _ = _
 generalize lpL (Y.ctx (lim' Y)) 24 = lp
 generalize lim' Y = call
 kernel_rfl
theorem zab.a18x18 (y0:Bool) (y1:Int) (y2:BAy) (y3 y4:LLD) (y5:Bool) (y6:Int) (y7:BAy) (y8 y9:LLD) : zab.A18 (zab.x18 y0 y1 y2 y3 y4 y5 y6 y7 y8 y9) = (za2 [.g [.v (.bool y5), .v (.int .i64 y6), .v (.string y7), .s y8, .s y9]] []).bind fun val => bif zag [.bool, .int .i64, .str, .own .deep, .own .deep] val.1 && true then some ⟨[.v (.bool (val.1.getD 0 .d).bool), .v (.int .i64 (val.1.getD 1 .d).int), .v (.string (val.1.getD 2 .d).str), .o .deep (val.1.getD 3 .d).es, .o .deep (val.1.getD 4 .d).es, .v (.bool true)], []⟩ else none := by
 delta zab.A18 zab.x18 za2 XX
 refine za8 [2, 3] 18 (by kernel_rfl) fun J e1 => ?_
 have eA := evA_J [2, 3] 18 (by kernel_rfl) e1
 try simp only [eA]
 clear eA
 try simp only [← e1]
 clear e1
 show _ = _
 generalize lpL (Y.ctx (lim' Y)) 24 = lp
 generalize lim' Y = call
 kernel_rfl
theorem zab.s18b (y0:LLD) (y1:Int) (y2:Bool) (y3:Int) (y4:BAy) (y5 y6:LLD) (y7:Bool) (y8:Int) (y9:BAy) (y10 y11 y12:LLD) : zab.L18b y0 y1 y2 y3 y4 y5 y6 y7 y8 y9 y10 y11 y12 = bif decide (y1 < (↑y0.length : Int)) then bif decide (0 ≤ y1) && decide (y1 < (↑y12.length : Int)) && decide ((y12.getD y1.toNat []).length = 5) then bif zav [.sl, .bool, .int .i64, .str, .int .i64] (y12.getD y1.toNat []) 0 && decide (5 ≤ (y12.getD y1.toNat []).length) then bif decide (0 ≤ y1) && decide (y1 < (↑y0.length : Int)) && decide ((y0.getD y1.toNat []).length = 5) then bif zav [.sl, .bool, .int .i64, .str, .int .i64] (y0.getD y1.toNat []) 0 && decide (5 ≤ (y0.getD y1.toNat []).length) then (zbV [.g [.s ((y12.getD y1.toNat []).getD 0 .h).es, .v (.bool ((y12.getD y1.toNat []).getD 1 .h).bool), .v (.int .i64 ((y12.getD y1.toNat []).getD 2 .h).int), .v (.string ((y12.getD y1.toNat []).getD 3 .h).str), .v (.int .i64 ((y12.getD y1.toNat []).getD 4 .h).int)], .g [.s ((y0.getD y1.toNat []).getD 0 .h).es, .v (.bool ((y0.getD y1.toNat []).getD 1 .h).bool), .v (.int .i64 ((y0.getD y1.toNat []).getD 2 .h).int), .v (.string ((y0.getD y1.toNat []).getD 3 .h).str), .v (.int .i64 ((y0.getD y1.toNat []).getD 4 .h).int)]] []).bind fun val => bif zag [.bool] val.1 && true then bif !(val.1.getD 0 .d).bool then some (zab.q18b false false 0 (ByteArray.mk #[]) [] [] y7 y8 y9 y10 y11) else zab.L18b y0 (IntKind.i64.wrap (y1 + 1)) y2 y3 y4 y5 y6 y7 y8 y9 y10 y11 y12 else none else none else none else none else none else some (zab.x18b y2 y3 y4 y5 y6 y7 y8 y9 y10 y11) := by
 refine (zbg (Y := Y) (c := lim' Y) (fn := 24) (rid := 18) (b := zaw 18 zab.c) (by kernel_rfl) _).trans ?_
 delta zab.L18b zbV zab.q18b zab.x18b XX
 generalize lpL (Y.ctx (lim' Y)) 24 = lp
 generalize lim' Y = call
 kernel_rfl
theorem zab.a18q18b (y0 y1:Bool) (y2:Int) (y3:BAy) (y4 y5:LLD) (y6:Bool) (y7:Int) (y8:BAy) (y9 y10:LLD) : zab.A18 (zab.q18b y0 y1 y2 y3 y4 y5 y6 y7 y8 y9 y10) = some ⟨[.v (.bool y1), .v (.int .i64 y2), .v (.string y3), .o .deep y4, .o .deep y5, .v (.bool y0)], []⟩ := by
 delta zab.A18 zab.q18b XX
 refine za8 [2, 3] 18 (by kernel_rfl) fun J e1 => ?_
 have eA := evA_J [2, 3] 18 (by kernel_rfl) e1
 try simp only [eA]
 clear eA
 try simp only [← e1]
 clear e1
 show _ = _
 generalize lpL (Y.ctx (lim' Y)) 24 = lp
 generalize lim' Y = call
 kernel_rfl
theorem zab.a18x18b (y0:Bool) (y1:Int) (y2:BAy) (y3 y4:LLD) (y5:Bool) (y6:Int) (y7:BAy) (y8 y9:LLD) : zab.A18 (zab.x18b y0 y1 y2 y3 y4 y5 y6 y7 y8 y9) = (za2 [.g [.v (.bool y5), .v (.int .i64 y6), .v (.string y7), .s y8, .s y9]] []).bind fun val => bif zag [.bool, .int .i64, .str, .own .deep, .own .deep] val.1 && true then some ⟨[.v (.bool (val.1.getD 0 .d).bool), .v (.int .i64 (val.1.getD 1 .d).int), .v (.string (val.1.getD 2 .d).str), .o .deep (val.1.getD 3 .d).es, .o .deep (val.1.getD 4 .d).es, .v (.bool true)], []⟩ else none := by
 delta zab.A18 zab.x18b za2 XX
 refine za8 [2, 3] 18 (by kernel_rfl) fun J e1 => ?_
 have eA := evA_J [2, 3] 18 (by kernel_rfl) e1
 try simp only [eA]
 clear eA
 try simp only [← e1]
 clear e1
 show _ = _
 generalize lpL (Y.ctx (lim' Y)) 24 = lp
 generalize lim' Y = call
 kernel_rfl
noncomputable def zah.P5 (y0 y1:LLD) (y2 y3:Int) (y4:Bool) (y5:Int) (y6:BAy) (y7 y8:LLD) (y9:Bool) (y10:Int) (y11:BAy) (y12 y13:LLD) : Option Res := evB XX 25 (lpL XX 25) 5 zah.c (mkG 0 79 [(0, .one (.s y0)), (2, .one (.p true 2 [] 0)), (4, .one (.p true 4 [] 0)), (28, .one (.s y1)), (29, .one (.v (.int .i64 y2))), (30, .one (.v (.int .i64 y3)))] [(2, some ⟨.box, [.v (.bool y4), .v (.int .i64 y5), .v (.string y6), .s y7, .s y8], [.deep, .deep, .deep, .deep, .deep]⟩), (4, some ⟨.box, [.v (.bool y9), .v (.int .i64 y10), .v (.string y11), .s y12, .s y13], [.deep, .deep, .deep, .deep, .deep]⟩)] GL) (outE XX 25 Tryz.f25)
noncomputable def zah.L5 (y0 y1:LLD) (y2 y3:Int) (y4:Bool) (y5:Int) (y6:BAy) (y7 y8:LLD) (y9:Bool) (y10:Int) (y11:BAy) (y12 y13:LLD) : Option (Ex × St) := lpL XX 25 (zaw 5 zah.c) (mkG 0 79 [(0, .one (.s y0)), (2, .one (.p true 2 [] 0)), (4, .one (.p true 4 [] 0)), (28, .one (.s y1)), (29, .one (.v (.int .i64 y2))), (30, .one (.v (.int .i64 y3)))] [(2, some ⟨.box, [.v (.bool y4), .v (.int .i64 y5), .v (.string y6), .s y7, .s y8], [.deep, .deep, .deep, .deep, .deep]⟩), (4, some ⟨.box, [.v (.bool y9), .v (.int .i64 y10), .v (.string y11), .s y12, .s y13], [.deep, .deep, .deep, .deep, .deep]⟩)] GL)
noncomputable def zah.A5 : Ex × St → Option Res := fun r => evA XX 25 (lpL XX 25) 5 zah.c r.fst r.snd (outE XX 25 Tryz.f25)
noncomputable def zah.q5 (y0:LLD) (y1 y2:Bool) (y3:Int) (y4:BAy) (y5 y6:LLD) (y7:Bool) (y8:Int) (y9:BAy) (y10 y11:LLD) : Ex × St := (Ex.ret, mkG 0 79 [(0, .one (.s y0)), (2, .one (.p true 2 [] 0)), (3, .one (.v (.bool y1))), (4, .one (.p true 4 [] 0))] [(2, some ⟨.box, [.v (.bool y2), .v (.int .i64 y3), .v (.string y4), .s y5, .s y6], [.deep, .deep, .deep, .deep, .deep]⟩), (4, some ⟨.box, [.v (.bool y7), .v (.int .i64 y8), .v (.string y9), .s y10, .s y11], [.deep, .deep, .deep, .deep, .deep]⟩)] GL)
noncomputable def zah.P11 (y0:LLD) (y1:Int) (y2:Bool) (y3:LLD) (y4 y5:Int) (y6:Bool) (y7:Int) (y8:BAy) (y9 y10:LLD) (y11:Bool) (y12:Int) (y13:BAy) (y14 y15 y16:LLD) (y17:Bool) (y18:Int) (y19:BAy) (y20:Int) : Option (Ex × St) := evB XX 25 (lpL XX 25) 11 (zaw 5 zah.c) (mkG 0 79 [(0, .one (.s y0)), (2, .one (.p true 2 [] 0)), (4, .one (.p true 4 [] 0)), (6, .one (.p true 6 [] 0)), (7, .one (.v (.int .i64 y1))), (8, .one (.p y2 4 [] 0)), (28, .one (.s y3)), (29, .one (.v (.int .i64 y4))), (30, .one (.v (.int .i64 y5)))] [(2, some ⟨.box, [.v (.bool y6), .v (.int .i64 y7), .v (.string y8), .s y9, .s y10], [.deep, .deep, .deep, .deep, .deep]⟩), (4, some ⟨.box, [.v (.bool y11), .v (.int .i64 y12), .v (.string y13), .s y14, .s y15], [.deep, .deep, .deep, .deep, .deep]⟩), (6, some ⟨.box, [.s y16, .v (.bool y17), .v (.int .i64 y18), .v (.string y19), .v (.int .i64 y20)], [.sh, .deep, .deep, .deep, .deep]⟩)] GL) (backL (lpL XX 25) (zaw 5 zah.c) (XX.live 25 5))
noncomputable def zah.P11b (y0:LLD) (y1:Int) (y2:Bool) (y3:Nat) (y4:List (Nat × Nat)) (y5:LLD) (y6 y7:Int) (y8:Bool) (y9:Int) (y10:BAy) (y11 y12:LLD) (y13:Bool) (y14:Int) (y15:BAy) (y16 y17 y18:LLD) (y19:Bool) (y20:Int) (y21:BAy) (y22:Int) : Option (Ex × St) := evB XX 25 (lpL XX 25) 11 (zaw 5 zah.c) (mkG 0 79 [(0, .one (.s y0)), (2, .one (.p true 2 [] 0)), (4, .one (.p true 4 [] 0)), (6, .one (.p true 6 [] 0)), (7, .one (.v (.int .i64 y1))), (8, .one (.p y2 4 ((4, y3) :: y4) 0)), (28, .one (.s y5)), (29, .one (.v (.int .i64 y6))), (30, .one (.v (.int .i64 y7)))] [(2, some ⟨.box, [.v (.bool y8), .v (.int .i64 y9), .v (.string y10), .s y11, .s y12], [.deep, .deep, .deep, .deep, .deep]⟩), (4, some ⟨.box, [.v (.bool y13), .v (.int .i64 y14), .v (.string y15), .s y16, .s y17], [.deep, .deep, .deep, .deep, .deep]⟩), (6, some ⟨.box, [.s y18, .v (.bool y19), .v (.int .i64 y20), .v (.string y21), .v (.int .i64 y22)], [.sh, .deep, .deep, .deep, .deep]⟩)] GL) (backL (lpL XX 25) (zaw 5 zah.c) (XX.live 25 5))
noncomputable def zah.x5 (y0:LLD) (y1:Bool) (y2:Int) (y3:BAy) (y4 y5:LLD) (y6:Bool) (y7:Int) (y8:BAy) (y9 y10:LLD) : Ex × St := (Ex.exit 0, mkG 0 79 [(0, .one (.s y0)), (2, .one (.p true 2 [] 0)), (4, .one (.p true 4 [] 0))] [(2, some ⟨.box, [.v (.bool y1), .v (.int .i64 y2), .v (.string y3), .s y4, .s y5], [.deep, .deep, .deep, .deep, .deep]⟩), (4, some ⟨.box, [.v (.bool y6), .v (.int .i64 y7), .v (.string y8), .s y9, .s y10], [.deep, .deep, .deep, .deep, .deep]⟩)] GL)
noncomputable def zah.P16 (y0 y1:Bool) (y2:Int) (y3:BAy) (y4 y5:LLD) (y6:Bool) (y7:Int) (y8:BAy) (y9 y10:LLD) : Option Res := evB XX 25 (lpL XX 25) 16 zah.c (mkG 0 79 [(2, .one (.p true 2 [] 0)), (4, .one (.p true 4 [] 0)), (75, .one (.v (.bool y0)))] [(2, some ⟨.box, [.v (.bool y1), .v (.int .i64 y2), .v (.string y3), .s y4, .s y5], [.deep, .deep, .deep, .deep, .deep]⟩), (4, some ⟨.box, [.v (.bool y6), .v (.int .i64 y7), .v (.string y8), .s y9, .s y10], [.deep, .deep, .deep, .deep, .deep]⟩)] GL) (outE XX 25 Tryz.f25)
noncomputable def zah.P17 (y0:Bool) (y1:Int) (y2:BAy) (y3 y4:LLD) (y5:Bool) (y6:Int) (y7:BAy) (y8 y9:LLD) : Option Res := evB XX 25 (lpL XX 25) 17 zah.c (mkG 0 79 [(2, .one (.p true 2 [] 0)), (4, .one (.p true 4 [] 0))] [(2, some ⟨.box, [.v (.bool y0), .v (.int .i64 y1), .v (.string y2), .s y3, .s y4], [.deep, .deep, .deep, .deep, .deep]⟩), (4, some ⟨.box, [.v (.bool y5), .v (.int .i64 y6), .v (.string y7), .s y8, .s y9], [.deep, .deep, .deep, .deep, .deep]⟩)] GL) (outE XX 25 Tryz.f25)
theorem zah.e (a0:LLD) : zah [.one (.s a0)] [] = (zbY [.one (.v (.int .i64 (↑a0.length : Int))), .one (.v (.int .i64 1)), .one (.v (.int .i64 31))] []).bind fun val => bif zag [.bool] val.1 && true then bif !(val.1.getD 0 .d).bool then some ⟨[.v (.bool false), .v (.int .i64 0), .v (.string (ByteArray.mk #[])), .o .deep [], .o .deep [], .v (.bool false)], []⟩ else bif decide (0 < (↑a0.length : Int)) && decide ((a0.getD 0 []).length = 5) then bif zav [.bool] (a0.getD 0 []) 1 && decide (2 ≤ (a0.getD 0 []).length) then bif decide (0 < (↑a0.length : Int)) && decide ((a0.getD 0 []).length = 5) then bif zav [.int .i64] (a0.getD 0 []) 2 && decide (3 ≤ (a0.getD 0 []).length) then bif decide (0 < (↑a0.length : Int)) && decide ((a0.getD 0 []).length = 5) then bif zav [.str] (a0.getD 0 []) 3 && decide (4 ≤ (a0.getD 0 []).length) then bif decide ((some 1).getD 0 ≤ (↑a0.length : Int)) && decide ((↑a0.length : Int) ≤ (↑a0.length : Int)) && (false || decide ((a0.getD 0 []).length = 5)) then zah.P5 a0 (List.drop 1 (List.take (↑a0.length : Int).toNat a0)) (↑(List.drop 1 (List.take (↑a0.length : Int).toNat a0)).length : Int) 0 false 0 (ByteArray.mk #[]) [] [] ((a0.getD 0 []).getD 1 .h).bool ((a0.getD 0 []).getD 2 .h).int ((a0.getD 0 []).getD 3 .h).str [] [] else none else none else none else none else none else none else none else none := by
 refine (zah.run _ _ (by kernel_rfl)).trans ?_
 delta zah zbY zah.P5 XX
 refine zbq [5, 16, 17] (by kernel_rfl) fun J e1 => ?_
 try simp only [← e1]
 clear e1
 generalize lpL (Y.ctx (lim' Y)) 25 = lp
 generalize lim' Y = call
 kernel_rfl
theorem zah.p5 (y0 y1:LLD) (y2 y3:Int) (y4:Bool) (y5:Int) (y6:BAy) (y7 y8:LLD) (y9:Bool) (y10:Int) (y11:BAy) (y12 y13:LLD) : zah.P5 y0 y1 y2 y3 y4 y5 y6 y7 y8 y9 y10 y11 y12 y13 = (zah.L5 y0 y1 y2 y3 y4 y5 y6 y7 y8 y9 y10 y11 y12 y13).bind zah.A5 := by
 delta zah.P5 zah.L5 zah.A5 XX
 refine zbf [5, 16, 17] 5 (by kernel_rfl) fun J e1 => ?_
 have eA := evA_J [5, 16, 17] 5 (by kernel_rfl) e1
 try simp only [eA]
 clear eA
 try simp only [← e1]
 clear e1
 show _ = _
 generalize lpL (Y.ctx (lim' Y)) 25 = lp
 generalize lim' Y = call
 kernel_rfl
theorem zah.s5 (y0 y1:LLD) (y2 y3:Int) (y4:Bool) (y5:Int) (y6:BAy) (y7 y8:LLD) (y9:Bool) (y10:Int) (y11:BAy) (y12 y13:LLD) : zah.L5 y0 y1 y2 y3 y4 y5 y6 y7 y8 y9 y10 y11 y12 y13 = bif decide (y3 < y2) then bif decide (0 ≤ y3) && decide (y3 < (↑y1.length : Int)) && decide ((y1.getD y3.toNat []).length = 5) then bif zav [.sl, .bool, .int .i64, .str, .int .i64] (y1.getD y3.toNat []) 0 && decide (5 ≤ (y1.getD y3.toNat []).length) then bif (↑((y1.getD y3.toNat []).getD 0 .h).es.length : Int) == 0 then some (zah.q5 y0 false false 0 (ByteArray.mk #[]) [] [] y9 y10 y11 y12 y13) else bif decide (none.getD 0 ≤ IntKind.i64.wrap ((↑((y1.getD y3.toNat []).getD 0 .h).es.length : Int) - 1)) && decide (IntKind.i64.wrap ((↑((y1.getD y3.toNat []).getD 0 .h).es.length : Int) - 1) ≤ (↑((y1.getD y3.toNat []).getD 0 .h).es.length : Int)) && true then (zak [.one (.p true 0 [] 0), .one (.s (List.drop 0 (List.take (IntKind.i64.wrap ((↑((y1.getD y3.toNat []).getD 0 .h).es.length : Int) - 1)).toNat ((y1.getD y3.toNat []).getD 0 .h).es)))] [⟨.ro, [.v (.bool y9), .v (.int .i64 y10), .v (.string y11), .s y12, .s y13], [.sh, .sh, .sh, .sh, .sh]⟩]).bind fun val => bif zag [.ptr 0] val.1 && true then bif List.isEmpty (val.1.getD 0 .d).path then zah.P11 y0 (IntKind.i64.wrap ((↑((y1.getD y3.toNat []).getD 0 .h).es.length : Int) - 1)) (val.1.getD 0 .d).ok y1 y2 y3 y4 y5 y6 y7 y8 y9 y10 y11 y12 y13 ((y1.getD y3.toNat []).getD 0 .h).es ((y1.getD y3.toNat []).getD 1 .h).bool ((y1.getD y3.toNat []).getD 2 .h).int ((y1.getD y3.toNat []).getD 3 .h).str ((y1.getD y3.toNat []).getD 4 .h).int else zah.P11b y0 (IntKind.i64.wrap ((↑((y1.getD y3.toNat []).getD 0 .h).es.length : Int) - 1)) (val.1.getD 0 .d).ok (List.headD (val.1.getD 0 .d).path (0, 0)).2 (List.tail (val.1.getD 0 .d).path) y1 y2 y3 y4 y5 y6 y7 y8 y9 y10 y11 y12 y13 ((y1.getD y3.toNat []).getD 0 .h).es ((y1.getD y3.toNat []).getD 1 .h).bool ((y1.getD y3.toNat []).getD 2 .h).int ((y1.getD y3.toNat []).getD 3 .h).str ((y1.getD y3.toNat []).getD 4 .h).int else none else none else none else none else some (zah.x5 y0 y4 y5 y6 y7 y8 y9 y10 y11 y12 y13) := by
 refine (zbg (Y := Y) (c := lim' Y) (fn := 25) (rid := 5) (b := zaw 5 zah.c) (by kernel_rfl) _).trans ?_
 delta zah.L5 zah.q5 zak zah.P11 zah.P11b zah.x5 XX
 refine zbq [11] (by kernel_rfl) fun J e1 => ?_
 try simp only [← e1]
 clear e1
 generalize lpL (Y.ctx (lim' Y)) 25 = lp
 generalize lim' Y = call
 kernel_rfl
theorem zah.a5q5 (y0:LLD) (y1 y2:Bool) (y3:Int) (y4:BAy) (y5 y6:LLD) (y7:Bool) (y8:Int) (y9:BAy) (y10 y11:LLD) : zah.A5 (zah.q5 y0 y1 y2 y3 y4 y5 y6 y7 y8 y9 y10 y11) = some ⟨[.v (.bool y2), .v (.int .i64 y3), .v (.string y4), .o .deep y5, .o .deep y6, .v (.bool y1)], []⟩ := by
 delta zah.A5 zah.q5 XX
 refine za8 [5, 16, 17] 5 (by kernel_rfl) fun J e1 => ?_
 have eA := evA_J [5, 16, 17] 5 (by kernel_rfl) e1
 try simp only [eA]
 clear eA
 try simp only [← e1]
 clear e1
 show _ = _
 generalize lpL (Y.ctx (lim' Y)) 25 = lp
 generalize lim' Y = call
 kernel_rfl
theorem zah.p11 (y0:LLD) (y1:Int) (y2:Bool) (y3:LLD) (y4 y5:Int) (y6:Bool) (y7:Int) (y8:BAy) (y9 y10:LLD) (y11:Bool) (y12:Int) (y13:BAy) (y14 y15 y16:LLD) (y17:Bool) (y18:Int) (y19:BAy) (y20:Int) : zah.P11 y0 y1 y2 y3 y4 y5 y6 y7 y8 y9 y10 y11 y12 y13 y14 y15 y16 y17 y18 y19 y20 = bif !y2 then some (zah.q5 y0 false false 0 (ByteArray.mk #[]) [] [] y11 y12 y13 y14 y15) else bif decide (0 ≤ y1) && decide (y1 < (↑y16.length : Int)) && decide ((y16.getD y1.toNat []).length = 1) then bif zav [.str] (y16.getD y1.toNat []) 0 && decide (1 ≤ (y16.getD y1.toNat []).length) then (zbL [.one (.p y2 0 [] 0), .one (.v (.string ((y16.getD y1.toNat []).getD 0 .h).str)), .g [.v (.bool y17), .v (.int .i64 y18), .v (.string y19), .v (.slice none 0 0), .v (.slice none 0 0)]] [⟨.box, [.v (.bool y11), .v (.int .i64 y12), .v (.string y13), .s y14, .s y15], [.deep, .deep, .deep, .deep, .deep]⟩]).bind fun val => bif zag [] val.1 && za7 [⟨⟨.box, [.v (.bool y11), .v (.int .i64 y12), .v (.string y13), .s y14, .s y15], [.deep, .deep, .deep, .deep, .deep]⟩, .box 4⟩] val.2 then zah.L5 y0 y3 y4 (IntKind.i64.wrap (y5 + 1)) y6 y7 y8 y9 y10 ((val.2.getD 0 ⟨.ro, [], []⟩).2.getD 0 .h).bool ((val.2.getD 0 ⟨.ro, [], []⟩).2.getD 1 .h).int ((val.2.getD 0 ⟨.ro, [], []⟩).2.getD 2 .h).str ((val.2.getD 0 ⟨.ro, [], []⟩).2.getD 3 .h).es ((val.2.getD 0 ⟨.ro, [], []⟩).2.getD 4 .h).es else none else none else none := by
 delta zah.P11 zah.q5 zbL zah.L5 XX
 refine zbf [11] 11 (by kernel_rfl) fun J e1 => ?_
 try simp only [← e1]
 clear e1
 generalize lpL (Y.ctx (lim' Y)) 25 = lp
 generalize lim' Y = call
 kernel_rfl
theorem zah.p11b (y0:LLD) (y1:Int) (y2:Bool) (y3:Nat) (y4:List (Nat × Nat)) (y5:LLD) (y6 y7:Int) (y8:Bool) (y9:Int) (y10:BAy) (y11 y12:LLD) (y13:Bool) (y14:Int) (y15:BAy) (y16 y17 y18:LLD) (y19:Bool) (y20:Int) (y21:BAy) (y22:Int) : zah.P11b y0 y1 y2 y3 y4 y5 y6 y7 y8 y9 y10 y11 y12 y13 y14 y15 y16 y17 y18 y19 y20 y21 y22 = bif !y2 then some (zah.q5 y0 false false 0 (ByteArray.mk #[]) [] [] y13 y14 y15 y16 y17) else bif decide (0 ≤ y1) && decide (y1 < (↑y18.length : Int)) && decide ((y18.getD y1.toNat []).length = 1) then bif zav [.str] (y18.getD y1.toNat []) 0 && decide (1 ≤ (y18.getD y1.toNat []).length) then bif y2 && true && !(zaj (y17.getD y3 []) y4).isEmpty then (zbL [.one (.p true 0 [] 0), .one (.v (.string ((y18.getD y1.toNat []).getD 0 .h).str)), .g [.v (.bool y19), .v (.int .i64 y20), .v (.string y21), .v (.slice none 0 0), .v (.slice none 0 0)]] [⟨.box, zaj (y17.getD y3 []) y4, List.map (fun x => .deep) (zaj (y17.getD y3 []) y4)⟩]).bind fun val => bif zag [] val.1 && za7 [⟨⟨.box, zaj (y17.getD y3 []) y4, List.map (fun x => .deep) (zaj (y17.getD y3 []) y4)⟩, .row 4 ((4, y3) :: y4)⟩] val.2 then zah.L5 y0 y5 y6 (IntKind.i64.wrap (y7 + 1)) y8 y9 y10 y11 y12 y13 y14 y15 y16 (y17.set y3 (zar (y17.getD y3 []) y4 (List.map (fun x => zkp x.1 ((val.2.getD 0 ⟨.ro, [], []⟩).2.getD x.2 .h)) (zaj (y17.getD y3 []) y4).zipIdx))) else none else none else none else none := by
 delta zah.P11b zah.q5 zbL zah.L5 XX
 refine zbf [11] 11 (by kernel_rfl) fun J e1 => ?_
 try simp only [← e1]
 clear e1
 generalize lpL (Y.ctx (lim' Y)) 25 = lp
 generalize lim' Y = call
 kernel_rfl
theorem zah.a5x5 (y0:LLD) (y1:Bool) (y2:Int) (y3:BAy) (y4 y5:LLD) (y6:Bool) (y7:Int) (y8:BAy) (y9 y10:LLD) : zah.A5 (zah.x5 y0 y1 y2 y3 y4 y5 y6 y7 y8 y9 y10) = (zcG [.g [.v (.bool y6), .v (.int .i64 y7), .v (.string y8), .s y9, .s y10]] []).bind fun val => bif zag [.bool] val.1 && true then bif !(val.1.getD 0 .d).bool then zah.P16 true y1 y2 y3 y4 y5 y6 y7 y8 y9 y10 else (zbo [.g [.v (.bool y6), .v (.int .i64 y7), .v (.string y8), .s y9, .s y10]] []).bind fun val => bif zag [.own .deep] val.1 && true then (zaa [.one (.s (val.1.getD 0 .d).es), .one (.s y0), .f zbt.id []] []).bind fun val => bif zag [.bool] val.1 && true then zah.P16 (!(val.1.getD 0 .d).bool) y1 y2 y3 y4 y5 y6 y7 y8 y9 y10 else none else none else none := by
 delta zah.A5 zah.x5 zcG zah.P16 zbo zaa zbt.id XX
 refine za8 [5, 16, 17] 5 (by kernel_rfl) fun J e1 => ?_
 have eA := evA_J [5, 16, 17] 5 (by kernel_rfl) e1
 try simp only [eA]
 clear eA
 try simp only [← e1]
 clear e1
 show _ = _
 generalize lpL (Y.ctx (lim' Y)) 25 = lp
 generalize lim' Y = call
 kernel_rfl
theorem zah.p16 (y0 y1:Bool) (y2:Int) (y3:BAy) (y4 y5:LLD) (y6:Bool) (y7:Int) (y8:BAy) (y9 y10:LLD) : zah.P16 y0 y1 y2 y3 y4 y5 y6 y7 y8 y9 y10 = bif y0 then some ⟨[.v (.bool false), .v (.int .i64 0), .v (.string (ByteArray.mk #[])), .o .deep [], .o .deep [], .v (.bool false)], []⟩ else zah.P17 y1 y2 y3 y4 y5 y6 y7 y8 y9 y10 := by
 delta zah.P16 zah.P17 XX
 refine zbf [5, 16, 17] 16 (by kernel_rfl) fun J e1 => ?_
 try simp only [← e1]
 clear e1
 generalize lpL (Y.ctx (lim' Y)) 25 = lp
 generalize lim' Y = call
 kernel_rfl
theorem zah.p17 (y0:Bool) (y1:Int) (y2:BAy) (y3 y4:LLD) (y5:Bool) (y6:Int) (y7:BAy) (y8 y9:LLD) : zah.P17 y0 y1 y2 y3 y4 y5 y6 y7 y8 y9 = (zau [.g [.v (.bool y5), .v (.int .i64 y6), .v (.string y7), .s y8, .s y9]] []).bind fun val => bif zag [.bool, .int .i64, .str, .own .deep, .own .deep] val.1 && true then some ⟨[.v (.bool (val.1.getD 0 .d).bool), .v (.int .i64 (val.1.getD 1 .d).int), .v (.string (val.1.getD 2 .d).str), .o .deep (val.1.getD 3 .d).es, .o .deep (val.1.getD 4 .d).es, .v (.bool true)], []⟩ else none := by
 delta zah.P17 zau XX
 refine zbf [5, 16, 17] 17 (by kernel_rfl) fun J e1 => ?_
 try simp only [← e1]
 clear e1
 generalize lpL (Y.ctx (lim' Y)) 25 = lp
 generalize lim' Y = call
 kernel_rfl
theorem zc6.e (a0:LLD) (a1:Bool) (a2:Int) (a3:BAy) (a4 a5:Int) : zc6 [.g [.s a0, .v (.bool a1), .v (.int .i64 a2), .v (.string a3), .v (.int .i64 a4)], .one (.v (.int .i64 a5))] [] = (zap [.one (.s a0), .one (.v (.int .i64 a5))] []).bind fun val => bif zag [.int .i64] val.1 && true then bif decide ((val.1.getD 0 .d).int < 0) then some ⟨[.v (.int .i64 (-1))], []⟩ else bif decide (IntKind.i64.wrap ((val.1.getD 0 .d).int - (↑a3.size : Int)) < 0) then some ⟨[.v (.int .i64 (-1))], []⟩ else some ⟨[.v (.int .i64 (IntKind.i64.wrap ((val.1.getD 0 .d).int - (↑a3.size : Int))))], []⟩ else none := by
 refine (zc6.run _ _ (by kernel_rfl)).trans ?_
 delta zc6 zap XX
 generalize lpL (Y.ctx (lim' Y)) 58 = lp
 generalize lim' Y = call
 kernel_rfl
noncomputable def zaB.L2 (y0 y1:LLD) (y2:Int) : Option (Ex × St) := lpL XX 59 (zaw 2 zaB.c) (mkG 0 41 [(0, .one (.s y0)), (1, .one (.s y1)), (5, .one (.v (.int .i64 y2)))] [] GL)
noncomputable def zaB.A2 : Ex × St → Option Res := fun r => evA XX 59 (lpL XX 59) 2 zaB.c r.fst r.snd (outE XX 59 Tryz.f59)
noncomputable def zaB.P4 (y0 y1:LLD) (y2:Int) : Option (Ex × St) := evB XX 59 (lpL XX 59) 4 (zaw 2 zaB.c) (mkG 0 41 [(0, .one (.s y0)), (1, .one (.s y1)), (5, .one (.v (.int .i64 y2)))] [] GL) (backL (lpL XX 59) (zaw 2 zaB.c) (XX.live 59 2))
noncomputable def zaB.x2 (y0 y1:LLD) : Ex × St := (Ex.exit 0, mkG 0 41 [(0, .one (.s y0)), (1, .one (.s y1))] [] GL)
noncomputable def zaB.q2 (y0 y1:LLD) (y2:Bool) : Ex × St := (Ex.ret, mkG 0 41 [(0, .one (.s y0)), (1, .one (.s y1)), (4, .one (.v (.bool y2)))] [] GL)
theorem zaB.e (a0 a1:LLD) : zaB [.one (.s a0), .one (.s a1)] [] = (zaB.L2 a0 a1 0).bind zaB.A2 := by
 refine (zaB.run _ _ (by kernel_rfl)).trans ?_
 delta zaB zaB.L2 zaB.A2 XX
 generalize lpL (Y.ctx (lim' Y)) 59 = lp
 generalize lim' Y = call
 kernel_rfl
theorem zaB.s2 (y0 y1:LLD) (y2:Int) : zaB.L2 y0 y1 y2 = bif decide (y2 < (↑y0.length : Int)) then bif decide (y2 < (↑y1.length : Int)) then zaB.P4 y0 y1 y2 else some (zaB.x2 y0 y1) else some (zaB.x2 y0 y1) := by
 refine (zbg (Y := Y) (c := lim' Y) (fn := 59) (rid := 2) (b := zaw 2 zaB.c) (by kernel_rfl) _).trans ?_
 delta zaB.L2 zaB.P4 zaB.x2 XX
 refine zbq [4] (by kernel_rfl) fun J e1 => ?_
 try simp only [← e1]
 clear e1
 generalize lpL (Y.ctx (lim' Y)) 59 = lp
 generalize lim' Y = call
 kernel_rfl
theorem zaB.p4 (y0 y1:LLD) (y2:Int) : zaB.P4 y0 y1 y2 = bif decide (0 ≤ y2) && decide (y2 < (↑y0.length : Int)) && decide ((y0.getD y2.toNat []).length = 1) then bif zav [.str] (y0.getD y2.toNat []) 0 && decide (1 ≤ (y0.getD y2.toNat []).length) then bif decide (0 ≤ y2) && decide (y2 < (↑y1.length : Int)) && decide ((y1.getD y2.toNat []).length = 1) then bif zav [.str] (y1.getD y2.toNat []) 0 && decide (1 ≤ (y1.getD y2.toNat []).length) then bif !((y0.getD y2.toNat []).getD 0 .h).str.toList == ((y1.getD y2.toNat []).getD 0 .h).str.toList then bif decide (0 ≤ y2) && decide (y2 < (↑y0.length : Int)) && decide ((y0.getD y2.toNat []).length = 1) then bif zav [.str] (y0.getD y2.toNat []) 0 && decide (1 ≤ (y0.getD y2.toNat []).length) then bif decide (0 ≤ y2) && decide (y2 < (↑y1.length : Int)) && decide ((y1.getD y2.toNat []).length = 1) then bif zav [.str] (y1.getD y2.toNat []) 0 && decide (1 ≤ (y1.getD y2.toNat []).length) then some (zaB.q2 y0 y1 (Op.bytesLess ((y0.getD y2.toNat []).getD 0 .h).str.toList ((y1.getD y2.toNat []).getD 0 .h).str.toList)) else none else none else none else none else zaB.L2 y0 y1 (IntKind.i64.wrap (y2 + 1)) else none else none else none else none := by
 delta zaB.P4 zaB.q2 zaB.L2 XX
 refine zbf [4] 4 (by kernel_rfl) fun J e1 => ?_
 try simp only [← e1]
 clear e1
 generalize lpL (Y.ctx (lim' Y)) 59 = lp
 generalize lim' Y = call
 kernel_rfl
theorem zaB.a2x2 (y0 y1:LLD) : zaB.A2 (zaB.x2 y0 y1) = some ⟨[.v (.bool (decide ((↑y0.length : Int) < (↑y1.length : Int))))], []⟩ := by
 delta zaB.A2 zaB.x2 XX
 generalize lpL (Y.ctx (lim' Y)) 59 = lp
 generalize lim' Y = call
 kernel_rfl
theorem zaB.a2q2 (y0 y1:LLD) (y2:Bool) : zaB.A2 (zaB.q2 y0 y1 y2) = some ⟨[.v (.bool y2)], []⟩ := by
 delta zaB.A2 zaB.q2 XX
 generalize lpL (Y.ctx (lim' Y)) 59 = lp
 generalize lim' Y = call
 kernel_rfl
theorem zbU.e (a0 a1:LLD) : zbU [.one (.s a0), .one (.s a1)] [] = bif (↑a0.length : Int) == (↑a1.length : Int) then (zaC [.one (.s a0), .one (.s a1)] []).bind fun val => bif zag [.bool] val.1 && true then some ⟨[.v (.bool (val.1.getD 0 .d).bool)], []⟩ else none else some ⟨[.v (.bool false)], []⟩ := by
 refine (zbU.run _ _ (by kernel_rfl)).trans ?_
 delta zbU zaC XX
 generalize lpL (Y.ctx (lim' Y)) 60 = lp
 generalize lim' Y = call
 kernel_rfl
theorem zdi.e (a0:LLD) (a1:Bool) (a2:Int) (a3:BAy) (a4:Int) : zdi [.g [.s a0, .v (.bool a1), .v (.int .i64 a2), .v (.string a3), .v (.int .i64 a4)]] [] = (zay [.one (.s a0)] []).bind fun val => bif zag [.own .deep] val.1 && true then some ⟨[.o .deep (val.1.getD 0 .d).es, .v (.bool a1), .v (.int .i64 a2), .v (.string a3), .v (.int .i64 a4)], []⟩ else none := by
 refine (zdi.run _ _ (by kernel_rfl)).trans ?_
 delta zdi zay XX
 generalize lpL (Y.ctx (lim' Y)) 61 = lp
 generalize lim' Y = call
 kernel_rfl
noncomputable def zae.L2 (y0:LLD) (y1 y2:Int) (y3:LLD) : Option (Ex × St) := lpL XX 62 (zaw 2 zae.c) (mkG 1 19 [(0, .one (.s y0)), (1, .f zaY.id [.p true 0 [] 0]), (7, .one (.v (.int .i64 y1))), (8, .one (.v (.int .i64 y2)))] [(0, some ⟨.box, [.s y3], [.sh]⟩)] GL)
noncomputable def zae.A2 : Ex × St → Option Res := fun r => evA XX 62 (lpL XX 62) 2 zae.c r.fst r.snd (outE XX 62 Tryz.f62)
noncomputable def zae.q2 (y0:Int) (y1:LLD) : Ex × St := (Ex.ret, mkG 1 19 [(4, .one (.v (.int .i64 y0)))] [(0, some ⟨.box, [.s y1], [.sh]⟩)] GL)
noncomputable def zae.x2 (y0:LLD) : Ex × St := (Ex.exit 0, mkG 1 19 [] [(0, some ⟨.box, [.s y0], [.sh]⟩)] GL)
theorem zae.e (l : List (List D)) (c0 : List (List D)) : zae [.one (.s l), .f zaY.id [.p true 0 [] 0]] [⟨.box, [.s c0], [.sh]⟩] = (zae.L2 l (↑l.length : Int) 0 c0).bind zae.A2 := by
 refine (zae.run _ _ (by kernel_rfl)).trans ?_
 delta zae zae.L2 zae.A2 zaY.id XX
 generalize lpL (Y.ctx (lim' Y)) 62 = lp
 generalize lim' Y = call
 kernel_rfl
theorem zae.s2 (y0:LLD) (y1 y2:Int) (y3:LLD) : zae.L2 y0 y1 y2 y3 = bif decide (y2 < y1) then bif decide (0 ≤ y2) && decide (y2 < (↑y0.length : Int)) && decide ((y0.getD y2.toNat []).length = 5) then bif zav [.sl, .bool, .int .i64, .str, .int .i64] (y0.getD y2.toNat []) 0 && decide (5 ≤ (y0.getD y2.toNat []).length) then (zaY [.g [.s ((y0.getD y2.toNat []).getD 0 .h).es, .v (.bool ((y0.getD y2.toNat []).getD 1 .h).bool), .v (.int .i64 ((y0.getD y2.toNat []).getD 2 .h).int), .v (.string ((y0.getD y2.toNat []).getD 3 .h).str), .v (.int .i64 ((y0.getD y2.toNat []).getD 4 .h).int)], .one (.p true 0 [] 0)] [⟨.ro, [.s y3], [.sh]⟩]).bind fun val => bif zag [.bool] val.1 && true then bif (val.1.getD 0 .d).bool then some (zae.q2 y2 y3) else zae.L2 y0 y1 (IntKind.i64.wrap (y2 + 1)) y3 else none else none else none else some (zae.x2 y3) := by
 refine (zbg (Y := Y) (c := lim' Y) (fn := 62) (rid := 2) (b := zaw 2 zae.c) (by kernel_rfl) _).trans ?_
 delta zae.L2 zaY zae.q2 zae.x2 XX
 generalize lpL (Y.ctx (lim' Y)) 62 = lp
 generalize lim' Y = call
 kernel_rfl
theorem zae.a2q2 (y0:Int) (y1:LLD) : zae.A2 (zae.q2 y0 y1) = some ⟨[.v (.int .i64 y0)], [⟨.box, [.s y1], [.sh]⟩]⟩ := by
 delta zae.A2 zae.q2 XX
 generalize lpL (Y.ctx (lim' Y)) 62 = lp
 generalize lim' Y = call
 kernel_rfl
theorem zae.a2x2 (y0:LLD) : zae.A2 (zae.x2 y0) = some ⟨[.v (.int .i64 (-1))], [⟨.box, [.s y0], [.sh]⟩]⟩ := by
 delta zae.A2 zae.x2 XX
 generalize lpL (Y.ctx (lim' Y)) 62 = lp
 generalize lim' Y = call
 kernel_rfl
theorem zaY.e (a0 : List (List D)) (a1 : Bool) (a2 : Int) (a3 : ByteArray) (a4 : Int) (c0 : List (List D)) : zaY [.g [.s a0, .v (.bool a1), .v (.int .i64 a2), .v (.string a3), .v (.int .i64 a4)], .one (.p true 0 [] 0)] [⟨.ro, [.s c0], [.sh]⟩] = (zad [.one (.s a0), .one (.s c0)] []).bind fun val => bif zag [.bool] val.1 && true then some ⟨[.v (.bool (val.1.getD 0 .d).bool)], [⟨.ro, [.s c0], [.sh]⟩]⟩ else none := by
 refine (zaY.run _ _ (by kernel_rfl)).trans ?_
 delta zaY zad XX
 generalize lpL (Y.ctx (lim' Y)) 63 = lp
 generalize lim' Y = call
 kernel_rfl
noncomputable def zad.L4 (y0 y1:LLD) (y2 y3:Int) : Option (Ex × St) := lpL XX 64 (zaw 4 zad.c) (mkG 0 26 [(0, .one (.s y0)), (1, .one (.s y1)), (12, .one (.v (.int .i64 y2))), (13, .one (.v (.int .i64 y3)))] [] GL)
noncomputable def zad.A4 : Ex × St → Option Res := fun r => evA XX 64 (lpL XX 64) 4 zad.c r.fst r.snd (outE XX 64 Tryz.f64)
noncomputable def zad.q4 (y0:Bool) : Ex × St := (Ex.ret, mkG 0 26 [(4, .one (.v (.bool y0)))] [] GL)
noncomputable def zad.x4 : Ex × St := (Ex.exit 0, mkG 0 26 [] [] GL)
theorem zad.e (a0 a1:LLD) : zad [.one (.s a0), .one (.s a1)] [] = bif (↑a0.length : Int) != (↑a1.length : Int) then some ⟨[.v (.bool false)], []⟩ else (zad.L4 a0 a1 (↑a0.length : Int) 0).bind zad.A4 := by
 refine (zad.run _ _ (by kernel_rfl)).trans ?_
 delta zad zad.L4 zad.A4 XX
 generalize lpL (Y.ctx (lim' Y)) 64 = lp
 generalize lim' Y = call
 kernel_rfl
theorem zad.s4 (y0 y1:LLD) (y2 y3:Int) : zad.L4 y0 y1 y2 y3 = bif decide (y3 < y2) then bif decide (0 ≤ y3) && decide (y3 < (↑y0.length : Int)) && decide ((y0.getD y3.toNat []).length = 1) then bif zav [.str] (y0.getD y3.toNat []) 0 && decide (1 ≤ (y0.getD y3.toNat []).length) then bif decide (0 ≤ y3) && decide (y3 < (↑y1.length : Int)) && decide ((y1.getD y3.toNat []).length = 1) then bif zav [.str] (y1.getD y3.toNat []) 0 && decide (1 ≤ (y1.getD y3.toNat []).length) then bif !((y0.getD y3.toNat []).getD 0 .h).str.toList == ((y1.getD y3.toNat []).getD 0 .h).str.toList then some (zad.q4 false) else zad.L4 y0 y1 y2 (IntKind.i64.wrap (y3 + 1)) else none else none else none else none else some zad.x4 := by
 refine (zbg (Y := Y) (c := lim' Y) (fn := 64) (rid := 4) (b := zaw 4 zad.c) (by kernel_rfl) _).trans ?_
 delta zad.L4 zad.q4 zad.x4 XX
 generalize lpL (Y.ctx (lim' Y)) 64 = lp
 generalize lim' Y = call
 kernel_rfl
theorem zad.a4q4 (y0:Bool) : zad.A4 (zad.q4 y0) = some ⟨[.v (.bool y0)], []⟩ := by
 delta zad.A4 zad.q4 XX
 generalize lpL (Y.ctx (lim' Y)) 64 = lp
 generalize lim' Y = call
 kernel_rfl
theorem zad.a4x4 : zad.A4 zad.x4 = some ⟨[.v (.bool true)], []⟩ := by
 delta zad.A4 zad.x4 XX
 generalize lpL (Y.ctx (lim' Y)) 64 = lp
 generalize lim' Y = call
 kernel_rfl
noncomputable def zce.P9 (y0:LLD) (y1:Bool) (y2:Int) (y3:BAy) (y4:Int) (y5:LLD) (y6:Bool) (y7:Int) (y8:BAy) (y9:Int) : Option Res := evB XX 65 (lpL XX 65) 9 zce.c (mkG 0 31 [(2, .one (.p true 2 [] 0)), (3, .one (.p true 3 [] 0))] [(2, some ⟨.box, [.s y0, .v (.bool y1), .v (.int .i64 y2), .v (.string y3), .v (.int .i64 y4)], [.sh, .deep, .deep, .deep, .deep]⟩), (3, some ⟨.box, [.s y5, .v (.bool y6), .v (.int .i64 y7), .v (.string y8), .v (.int .i64 y9)], [.sh, .deep, .deep, .deep, .deep]⟩)] GL) (outE XX 65 Tryz.f65)
theorem zce.e (a0:LLD) (a1:Bool) (a2:Int) (a3:BAy) (a4:Int) (a5:LLD) (a6:Bool) (a7:Int) (a8:BAy) (a9:Int) : zce [.g [.s a0, .v (.bool a1), .v (.int .i64 a2), .v (.string a3), .v (.int .i64 a4)], .g [.s a5, .v (.bool a6), .v (.int .i64 a7), .v (.string a8), .v (.int .i64 a9)]] [] = (zaz [.one (.s a0), .one (.s a5)] []).bind fun val => bif zag [.bool] val.1 && true then bif !(val.1.getD 0 .d).bool then some ⟨[.v (.bool false)], []⟩ else bif !a1 == a6 then some ⟨[.v (.bool false)], []⟩ else bif a2 != a7 then some ⟨[.v (.bool false)], []⟩ else bif !a3.toList == a8.toList then some ⟨[.v (.bool false)], []⟩ else zce.P9 a0 a1 a2 a3 a4 a5 a6 a7 a8 a9 else none := by
 refine (zce.run _ _ (by kernel_rfl)).trans ?_
 delta zce zaz zce.P9 XX
 refine zbq [9] (by kernel_rfl) fun J e1 => ?_
 try simp only [← e1]
 clear e1
 generalize lpL (Y.ctx (lim' Y)) 65 = lp
 generalize lim' Y = call
 kernel_rfl
theorem zce.p9 (y0:LLD) (y1:Bool) (y2:Int) (y3:BAy) (y4:Int) (y5:LLD) (y6:Bool) (y7:Int) (y8:BAy) (y9:Int) : zce.P9 y0 y1 y2 y3 y4 y5 y6 y7 y8 y9 = bif y4 != y9 then some ⟨[.v (.bool false)], []⟩ else some ⟨[.v (.bool true)], []⟩ := by
 delta zce.P9 XX
 refine zbf [9] 9 (by kernel_rfl) fun J e1 => ?_
 try simp only [← e1]
 clear e1
 generalize lpL (Y.ctx (lim' Y)) 65 = lp
 generalize lim' Y = call
 kernel_rfl
noncomputable def zaC.L4 (y0 y1:LLD) (y2:Int) : Option (Ex × St) := lpL XX 66 (zaw 4 zaC.c) (mkG 0 26 [(0, .one (.s y0)), (1, .one (.s y1)), (5, .one (.v (.int .i64 y2)))] [] GL)
noncomputable def zaC.A4 : Ex × St → Option Res := fun r => evA XX 66 (lpL XX 66) 4 zaC.c r.fst r.snd (outE XX 66 Tryz.f66)
noncomputable def zaC.q4 (y0:Bool) : Ex × St := (Ex.ret, mkG 0 26 [(4, .one (.v (.bool y0)))] [] GL)
noncomputable def zaC.x4 : Ex × St := (Ex.exit 0, mkG 0 26 [] [] GL)
theorem zaC.e (a0 a1:LLD) : zaC [.one (.s a0), .one (.s a1)] [] = bif decide ((↑a0.length : Int) < (↑a1.length : Int)) then some ⟨[.v (.bool false)], []⟩ else (zaC.L4 a0 a1 0).bind zaC.A4 := by
 refine (zaC.run _ _ (by kernel_rfl)).trans ?_
 delta zaC zaC.L4 zaC.A4 XX
 generalize lpL (Y.ctx (lim' Y)) 66 = lp
 generalize lim' Y = call
 kernel_rfl
theorem zaC.s4 (y0 y1:LLD) (y2:Int) : zaC.L4 y0 y1 y2 = bif decide (y2 < (↑y1.length : Int)) then bif decide (0 ≤ y2) && decide (y2 < (↑y0.length : Int)) && decide ((y0.getD y2.toNat []).length = 1) then bif zav [.str] (y0.getD y2.toNat []) 0 && decide (1 ≤ (y0.getD y2.toNat []).length) then bif decide (0 ≤ y2) && decide (y2 < (↑y1.length : Int)) && decide ((y1.getD y2.toNat []).length = 1) then bif zav [.str] (y1.getD y2.toNat []) 0 && decide (1 ≤ (y1.getD y2.toNat []).length) then bif !((y0.getD y2.toNat []).getD 0 .h).str.toList == ((y1.getD y2.toNat []).getD 0 .h).str.toList then some (zaC.q4 false) else zaC.L4 y0 y1 (IntKind.i64.wrap (y2 + 1)) else none else none else none else none else some zaC.x4 := by
 refine (zbg (Y := Y) (c := lim' Y) (fn := 66) (rid := 4) (b := zaw 4 zaC.c) (by kernel_rfl) _).trans ?_
 delta zaC.L4 zaC.q4 zaC.x4 XX
 generalize lpL (Y.ctx (lim' Y)) 66 = lp
 generalize lim' Y = call
 kernel_rfl
theorem zaC.a4q4 (y0:Bool) : zaC.A4 (zaC.q4 y0) = some ⟨[.v (.bool y0)], []⟩ := by
 delta zaC.A4 zaC.q4 XX
 generalize lpL (Y.ctx (lim' Y)) 66 = lp
 generalize lim' Y = call
 kernel_rfl
theorem zaC.a4x4 : zaC.A4 zaC.x4 = some ⟨[.v (.bool true)], []⟩ := by
 delta zaC.A4 zaC.x4 XX
 generalize lpL (Y.ctx (lim' Y)) 66 = lp
 generalize lim' Y = call
 kernel_rfl
noncomputable def zax.L2 (y0:LLD) (y1:Int) : Option (Ex × St) := lpL XX 68 (zaw 2 zax.c) (mkG 0 19 [(0, .one (.s y0)), (3, .one (.v (.int .i64 y1)))] [] GL)
noncomputable def zax.A2 : Ex × St → Option Res := fun r => evA XX 68 (lpL XX 68) 2 zax.c r.fst r.snd (outE XX 68 Tryz.f68)
noncomputable def zax.q2 (y0:LLD) (y1:Bool) : Ex × St := (Ex.ret, mkG 0 19 [(0, .one (.s y0)), (2, .one (.v (.bool y1)))] [] GL)
noncomputable def zax.x2 (y0:LLD) : Ex × St := (Ex.exit 0, mkG 0 19 [(0, .one (.s y0))] [] GL)
theorem zax.e (a0:LLD) : zax [.one (.s a0)] [] = (zax.L2 a0 0).bind zax.A2 := by
 refine (zax.run _ _ (by kernel_rfl)).trans ?_
 delta zax zax.L2 zax.A2 XX
 generalize lpL (Y.ctx (lim' Y)) 68 = lp
 generalize lim' Y = call
 kernel_rfl
theorem zax.s2 (y0:LLD) (y1:Int) : zax.L2 y0 y1 = bif decide (y1 < (↑y0.length : Int)) then bif decide (0 ≤ y1) && decide (y1 < (↑y0.length : Int)) && decide ((y0.getD y1.toNat []).length = 1) then bif zav [.str] (y0.getD y1.toNat []) 0 && decide (1 ≤ (y0.getD y1.toNat []).length) then (zam [.one (.v (.string ((y0.getD y1.toNat []).getD 0 .h).str))] []).bind fun val => bif zag [.bool] val.1 && true then bif !(val.1.getD 0 .d).bool then some (zax.q2 y0 false) else zax.L2 y0 (IntKind.i64.wrap (y1 + 1)) else none else none else none else some (zax.x2 y0) := by
 refine (zbg (Y := Y) (c := lim' Y) (fn := 68) (rid := 2) (b := zaw 2 zax.c) (by kernel_rfl) _).trans ?_
 delta zax.L2 zam zax.q2 zax.x2 XX
 generalize lpL (Y.ctx (lim' Y)) 68 = lp
 generalize lim' Y = call
 kernel_rfl
theorem zax.a2q2 (y0:LLD) (y1:Bool) : zax.A2 (zax.q2 y0 y1) = some ⟨[.v (.bool y1)], []⟩ := by
 delta zax.A2 zax.q2 XX
 generalize lpL (Y.ctx (lim' Y)) 68 = lp
 generalize lim' Y = call
 kernel_rfl
theorem zax.a2x2 (y0:LLD) : zax.A2 (zax.x2 y0) = (sl1In [.one (.v (.int .i64 (↑y0.length : Int))), .one (.v (.int .i64 1)), .one (.v (.int .i64 4))] []).bind fun val => bif zag [.bool] val.1 && true then some ⟨[.v (.bool (val.1.getD 0 .d).bool)], []⟩ else none := by
 delta zax.A2 zax.x2 sl1In XX
 generalize lpL (Y.ctx (lim' Y)) 68 = lp
 generalize lim' Y = call
 kernel_rfl
noncomputable def zbh.P3 (y0:LLD) (y1 y2:Bool) (y3:Int) (y4:BAy) (y5 y6:LLD) (y7:Bool) (y8:Int) (y9:BAy) (y10 y11:LLD) (y12:Bool) (y13:Int) (y14:BAy) (y15 y16:LLD) (y17:Bool) (y18:Int) (y19:BAy) (y20 y21:LLD) : Option Res := evB XX 69 (lpL XX 69) 3 zbh.c (mkG 0 72 [(1, .one (.s y0)), (3, .one (.p true 3 [] 0)), (5, .one (.p true 5 [] 0)), (6, .one (.p true 6 [] 0)), (8, .one (.p true 8 [] 0)), (29, .one (.v (.bool y1)))] [(3, some ⟨.box, [.v (.bool y2), .v (.int .i64 y3), .v (.string y4), .s y5, .s y6], [.deep, .deep, .deep, .sh, .sh]⟩), (5, some ⟨.box, [.v (.bool y7), .v (.int .i64 y8), .v (.string y9), .s y10, .s y11], [.deep, .deep, .deep, .sh, .sh]⟩), (6, some ⟨.box, [.v (.bool y12), .v (.int .i64 y13), .v (.string y14), .s y15, .s y16], [.deep, .deep, .deep, .deep, .deep]⟩), (8, some ⟨.box, [.v (.bool y17), .v (.int .i64 y18), .v (.string y19), .s y20, .s y21], [.deep, .deep, .deep, .deep, .top]⟩)] GL) (outE XX 69 Tryz.f69)
noncomputable def zbh.P7 (y0:LLD) (y1:Int) (y2:Bool) (y3:Int) (y4:BAy) (y5 y6:LLD) (y7:Bool) (y8:Int) (y9:BAy) (y10 y11:LLD) (y12:Bool) (y13:Int) (y14:BAy) (y15 y16:LLD) (y17:Bool) (y18:Int) (y19:BAy) (y20 y21:LLD) : Option Res := evB XX 69 (lpL XX 69) 7 zbh.c (mkG 0 72 [(1, .one (.s y0)), (3, .one (.p true 3 [] 0)), (5, .one (.p true 5 [] 0)), (6, .one (.p true 6 [] 0)), (8, .one (.p true 8 [] 0)), (9, .one (.v (.int .i64 y1)))] [(3, some ⟨.box, [.v (.bool y2), .v (.int .i64 y3), .v (.string y4), .s y5, .s y6], [.deep, .deep, .deep, .sh, .sh]⟩), (5, some ⟨.box, [.v (.bool y7), .v (.int .i64 y8), .v (.string y9), .s y10, .s y11], [.deep, .deep, .deep, .sh, .sh]⟩), (6, some ⟨.box, [.v (.bool y12), .v (.int .i64 y13), .v (.string y14), .s y15, .s y16], [.deep, .deep, .deep, .deep, .deep]⟩), (8, some ⟨.box, [.v (.bool y17), .v (.int .i64 y18), .v (.string y19), .s y20, .s y21], [.deep, .deep, .deep, .deep, .top]⟩)] GL) (outE XX 69 Tryz.f69)
theorem zbh.e (a0:Bool) (a1:Int) (a2:BAy) (a3 a4 a5:LLD) (a6:Bool) (a7:Int) (a8:BAy) (a9 a10:LLD) : zbh [.g [.v (.bool a0), .v (.int .i64 a1), .v (.string a2), .s a3, .s a4], .one (.s a5), .g [.v (.bool a6), .v (.int .i64 a7), .v (.string a8), .s a9, .s a10]] [] = bif zaA 1 a3 && zaE false a3 && true && decide ((0 + a3.length) * 17 ≤ 70368744177664) then bif zaA 5 a4 && zaE true a4 && true && decide ((0 + a4.length) * 81 ≤ 70368744177664) then zbh.P3 a5 ((↑a5.length : Int) == 1) a0 a1 a2 a3 a4 a6 a7 a8 a9 a10 false 0 (ByteArray.mk #[]) [] [] a0 a1 a2 a3 a4 else none else none := by
 refine (zbh.run _ _ (by kernel_rfl)).trans ?_
 delta zbh zbh.P3 XX
 refine zbq [3, 7] (by kernel_rfl) fun J e1 => ?_
 try simp only [← e1]
 clear e1
 generalize lpL (Y.ctx (lim' Y)) 69 = lp
 generalize lim' Y = call
 kernel_rfl
theorem zbh.p3 (y0:LLD) (y1 y2:Bool) (y3:Int) (y4:BAy) (y5 y6:LLD) (y7:Bool) (y8:Int) (y9:BAy) (y10 y11:LLD) (y12:Bool) (y13:Int) (y14:BAy) (y15 y16:LLD) (y17:Bool) (y18:Int) (y19:BAy) (y20 y21:LLD) : zbh.P3 y0 y1 y2 y3 y4 y5 y6 y7 y8 y9 y10 y11 y12 y13 y14 y15 y16 y17 y18 y19 y20 y21 = bif y1 then bif decide (0 < (↑y0.length : Int)) && decide ((y0.getD 0 []).length = 1) then bif zav [.str] (y0.getD 0 []) 0 && decide (1 ≤ (y0.getD 0 []).length) then bif zaA 1 y20 && true && true && true && decide ((y20.length + 1) * 17 ≤ 70368744177664) then bif zaA 5 y21 && true && true && true && decide ((y21.length + 1) * 81 ≤ 70368744177664) then some ⟨[.v (.bool y17), .v (.int .i64 y18), .v (.string y19), .s (y20 ++ [[D.v (.string ((y0.getD 0 []).getD 0 D.h).str)]]), .s (y21 ++ [[D.v (.bool y7), D.v (.int .i64 y8), D.v (.string y9), D.s y10, D.s y11]]), .v (.bool true)], []⟩ else none else none else none else none else bif decide (0 < (↑y0.length : Int)) && decide ((y0.getD 0 []).length = 1) then bif zav [.str] (y0.getD 0 []) 0 && decide (1 ≤ (y0.getD 0 []).length) then (zaW [.g [.v (.bool y2), .v (.int .i64 y3), .v (.string y4), .s y5, .s y6], .one (.v (.string ((y0.getD 0 []).getD 0 D.h).str))] []).bind fun val => bif zag [.int .i64] val.1 && true then zbh.P7 y0 (val.1.getD 0 .d).int y2 y3 y4 y5 y6 y7 y8 y9 y10 y11 y12 y13 y14 y15 y16 y17 y18 y19 y20 y21 else none else none else none := by
 delta zbh.P3 zaW zbh.P7 XX
 refine zbf [3, 7] 3 (by kernel_rfl) fun J e1 => ?_
 try simp only [← e1]
 clear e1
 generalize lpL (Y.ctx (lim' Y)) 69 = lp
 generalize lim' Y = call
 kernel_rfl
theorem zbh.p7 (y0:LLD) (y1:Int) (y2:Bool) (y3:Int) (y4:BAy) (y5 y6:LLD) (y7:Bool) (y8:Int) (y9:BAy) (y10 y11:LLD) (y12:Bool) (y13:Int) (y14:BAy) (y15 y16:LLD) (y17:Bool) (y18:Int) (y19:BAy) (y20 y21:LLD) : zbh.P7 y0 y1 y2 y3 y4 y5 y6 y7 y8 y9 y10 y11 y12 y13 y14 y15 y16 y17 y18 y19 y20 y21 = bif decide (y1 < 0) then some ⟨[.v (.bool y17), .v (.int .i64 y18), .v (.string y19), .s y20, .s y21, .v (.bool false)], []⟩ else bif decide (0 ≤ y1) && decide (y1 < (↑y6.length : Int)) && decide ((y6.getD y1.toNat []).length = 5) then bif zav [.bool, .int .i64, .str, .sl, .sl] (y6.getD y1.toNat []) 0 && decide (5 ≤ (y6.getD y1.toNat []).length) then bif decide ((some 1).getD 0 ≤ (↑y0.length : Int)) && decide ((↑y0.length : Int) ≤ (↑y0.length : Int)) && (false || decide ((y0.getD 0 []).length = 1)) then (zbh [.g [.v (.bool ((y6.getD y1.toNat []).getD 0 .h).bool), .v (.int .i64 ((y6.getD y1.toNat []).getD 1 .h).int), .v (.string ((y6.getD y1.toNat []).getD 2 .h).str), .s ((y6.getD y1.toNat []).getD 3 .h).es, .s ((y6.getD y1.toNat []).getD 4 .h).es], .one (.s (List.drop 1 (List.take (↑y0.length : Int).toNat y0))), .g [.v (.bool y7), .v (.int .i64 y8), .v (.string y9), .s y10, .s y11]] []).bind fun val => bif zag [.bool, .int .i64, .str, .sh, .sh, .bool] val.1 && true then bif decide (0 ≤ y1) && decide (y1 < (↑y21.length : Int)) && decide ((y21.getD y1.toNat []).length = 5) then bif decide (5 ≤ (y21.getD y1.toNat []).length) && true then some ⟨[.v (.bool y17), .v (.int .i64 y18), .v (.string y19), .s y20, .s (y21.set y1.toNat (.v (.bool (val.1.getD 0 .d).bool) :: .v (.int .i64 (val.1.getD 1 .d).int) :: .v (.string (val.1.getD 2 .d).str) :: .s (val.1.getD 3 .d).es :: .s (val.1.getD 4 .d).es :: List.drop 5 (y21.getD y1.toNat []))), .v (.bool (val.1.getD 5 .d).bool)], []⟩ else none else none else none else none else none else none := by
 delta zbh.P7 zbh XX
 refine zbf [3, 7] 7 (by kernel_rfl) fun J e1 => ?_
 try simp only [← e1]
 clear e1
 generalize lpL (Y.ctx (lim' Y)) 69 = lp
 generalize lim' Y = call
 kernel_rfl
theorem zbn.e (a0:Bool) (a1:Int) (a2:BAy) (a3 a4:LLD) : zbn [.g [.v (.bool a0), .v (.int .i64 a1), .v (.string a2), .s a3, .s a4]] [] = (zcH [.g [.v (.bool a0), .v (.int .i64 a1), .v (.string a2), .s a3, .s a4]] []).bind fun val => bif zag [.bool] val.1 && true then bif !(val.1.getD 0 .d).bool then some ⟨[.o .deep []], []⟩ else (zaN [.one (.s []), .g [.v (.bool a0), .v (.int .i64 a1), .v (.string a2), .s a3, .s a4]] []).bind fun val => bif zag [.own .deep] val.1 && true then some ⟨[.o .deep (val.1.getD 0 .d).es], []⟩ else none else none := by
 refine (zbn.run _ _ (by kernel_rfl)).trans ?_
 delta zbn zcH zaN XX
 generalize lpL (Y.ctx (lim' Y)) 70 = lp
 generalize lim' Y = call
 kernel_rfl
theorem zbV.e (a0:LLD) (a1:Bool) (a2:Int) (a3:BAy) (a4:Int) (a5:LLD) (a6:Bool) (a7:Int) (a8:BAy) (a9:Int) : zbV [.g [.s a0, .v (.bool a1), .v (.int .i64 a2), .v (.string a3), .v (.int .i64 a4)], .g [.s a5, .v (.bool a6), .v (.int .i64 a7), .v (.string a8), .v (.int .i64 a9)]] [] = (zbU [.one (.s a0), .one (.s a5)] []).bind fun val => bif zag [.bool] val.1 && true then bif (val.1.getD 0 .d).bool then bif a1 == a6 then bif a2 == a7 then bif a3.toList == a8.toList then some ⟨[.v (.bool (a4 == a9))], []⟩ else some ⟨[.v (.bool false)], []⟩ else some ⟨[.v (.bool false)], []⟩ else some ⟨[.v (.bool false)], []⟩ else some ⟨[.v (.bool false)], []⟩ else none := by
 refine (zbV.run _ _ (by kernel_rfl)).trans ?_
 delta zbV zbU XX
 generalize lpL (Y.ctx (lim' Y)) 71 = lp
 generalize lim' Y = call
 kernel_rfl
noncomputable def za2.L3 (y0:Int) (y1:Bool) (y2:Int) (y3:BAy) (y4 y5:LLD) (y6:Bool) (y7:Int) (y8:BAy) (y9 y10:LLD) (y11:Bool) (y12:Int) (y13:BAy) (y14 y15:LLD) : Option (Ex × St) := lpL XX 72 (zaw 3 za2.c) (mkG 0 35 [(1, .one (.p true 1 [] 0)), (2, .one (.p true 2 [] 0)), (3, .one (.p true 3 [] 0)), (4, .one (.v (.int .i64 y0)))] [(1, some ⟨.box, [.v (.bool y1), .v (.int .i64 y2), .v (.string y3), .s y4, .s y5], [.deep, .deep, .deep, .sh, .sh]⟩), (2, some ⟨.box, [.v (.bool y6), .v (.int .i64 y7), .v (.string y8), .s y9, .s y10], [.deep, .deep, .deep, .deep, .deep]⟩), (3, some ⟨.box, [.v (.bool y11), .v (.int .i64 y12), .v (.string y13), .s y14, .s y15], [.deep, .deep, .deep, .deep, .deep]⟩)] GL)
noncomputable def za2.A3 : Ex × St → Option Res := fun r => evA XX 72 (lpL XX 72) 3 za2.c r.fst r.snd (outE XX 72 Tryz.f72)
noncomputable def za2.x3 (y0:Bool) (y1:Int) (y2:BAy) (y3 y4:LLD) (y5:Bool) (y6:Int) (y7:BAy) (y8 y9:LLD) : Ex × St := (Ex.exit 0, mkG 0 35 [(2, .one (.p true 2 [] 0)), (3, .one (.p true 3 [] 0))] [(2, some ⟨.box, [.v (.bool y0), .v (.int .i64 y1), .v (.string y2), .s y3, .s y4], [.deep, .deep, .deep, .deep, .deep]⟩), (3, some ⟨.box, [.v (.bool y5), .v (.int .i64 y6), .v (.string y7), .s y8, .s y9], [.deep, .deep, .deep, .deep, .deep]⟩)] GL)
theorem za2.e (a0:Bool) (a1:Int) (a2:BAy) (a3 a4:LLD) : za2 [.g [.v (.bool a0), .v (.int .i64 a1), .v (.string a2), .s a3, .s a4]] [] = bif zaA 1 a3 && zaE false a3 && true && decide ((0 + a3.length) * 17 ≤ 70368744177664) then (za2.L3 0 a0 a1 a2 a3 a4 false 0 (ByteArray.mk #[]) [] [] a0 a1 a2 a3 []).bind za2.A3 else none := by
 refine (za2.run _ _ (by kernel_rfl)).trans ?_
 delta za2 za2.L3 za2.A3 XX
 generalize lpL (Y.ctx (lim' Y)) 72 = lp
 generalize lim' Y = call
 kernel_rfl
theorem za2.s3 (y0:Int) (y1:Bool) (y2:Int) (y3:BAy) (y4 y5:LLD) (y6:Bool) (y7:Int) (y8:BAy) (y9 y10:LLD) (y11:Bool) (y12:Int) (y13:BAy) (y14 y15:LLD) : za2.L3 y0 y1 y2 y3 y4 y5 y6 y7 y8 y9 y10 y11 y12 y13 y14 y15 = bif decide (y0 < (↑y5.length : Int)) then bif decide (0 ≤ y0) && decide (y0 < (↑y5.length : Int)) && decide ((y5.getD y0.toNat []).length = 5) then bif zav [.bool, .int .i64, .str, .sl, .sl] (y5.getD y0.toNat []) 0 && decide (5 ≤ (y5.getD y0.toNat []).length) then (za2 [.g [.v (.bool ((y5.getD y0.toNat []).getD 0 .h).bool), .v (.int .i64 ((y5.getD y0.toNat []).getD 1 .h).int), .v (.string ((y5.getD y0.toNat []).getD 2 .h).str), .s ((y5.getD y0.toNat []).getD 3 .h).es, .s ((y5.getD y0.toNat []).getD 4 .h).es]] []).bind fun val => bif zag [.bool, .int .i64, .str, .own .deep, .own .deep] val.1 && true then bif zaA 5 y15 && true && true && true && decide ((y15.length + 1) * 81 ≤ 70368744177664) then za2.L3 (IntKind.i64.wrap (y0 + 1)) y1 y2 y3 y4 y5 y6 y7 y8 y9 y10 y11 y12 y13 y14 (y15 ++ [[.v (.bool (val.1.getD 0 .d).bool), .v (.int .i64 (val.1.getD 1 .d).int), .v (.string (val.1.getD 2 .d).str), .s (val.1.getD 3 .d).es, .s (val.1.getD 4 .d).es]]) else none else none else none else none else some (za2.x3 y6 y7 y8 y9 y10 y11 y12 y13 y14 y15) := by
 refine (zbg (Y := Y) (c := lim' Y) (fn := 72) (rid := 3) (b := zaw 3 za2.c) (by kernel_rfl) _).trans ?_
 delta za2.L3 za2 za2.x3 XX
 generalize lpL (Y.ctx (lim' Y)) 72 = lp
 generalize lim' Y = call
 kernel_rfl
theorem za2.a3x3 (y0:Bool) (y1:Int) (y2:BAy) (y3 y4:LLD) (y5:Bool) (y6:Int) (y7:BAy) (y8 y9:LLD) : za2.A3 (za2.x3 y0 y1 y2 y3 y4 y5 y6 y7 y8 y9) = some ⟨[.v (.bool y5), .v (.int .i64 y6), .v (.string y7), .o .deep y8, .o .deep y9], []⟩ := by
 delta za2.A3 za2.x3 XX
 generalize lpL (Y.ctx (lim' Y)) 72 = lp
 generalize lim' Y = call
 kernel_rfl
theorem zbY.e (a0 a1 a2:Int) : zbY [.one (.v (.int .i64 a0)), .one (.v (.int .i64 a1)), .one (.v (.int .i64 a2))] [] = bif decide (a0 ≥ a1) then some ⟨[.v (.bool (decide (a0 ≤ a2)))], []⟩ else some ⟨[.v (.bool false)], []⟩ := by
 refine (zbY.run _ _ (by kernel_rfl)).trans ?_
 delta zbY XX
 generalize lpL (Y.ctx (lim' Y)) 73 = lp
 generalize lim' Y = call
 kernel_rfl
noncomputable def zak.L2 (y0:LLD) (y1 y2:Int) (y3:Bool) (y4:Int) (y5:BAy) (y6 y7:LLD) : Option (Ex × St) := lpL XX 74 (zaw 2 zak.c) (mkG 1 20 [(0, .one (.p true 0 [] 0)), (7, .one (.s y0)), (8, .one (.v (.int .i64 y1))), (9, .one (.v (.int .i64 y2)))] [(0, some ⟨.ro, [.v (.bool y3), .v (.int .i64 y4), .v (.string y5), .s y6, .s y7], [.sh, .sh, .sh, .sh, .sh]⟩)] GL)
noncomputable def zak.A2 : Ex × St → Option Res := fun r => evA XX 74 (lpL XX 74) 2 zak.c r.fst r.snd (outE XX 74 Tryz.f74)
noncomputable def zak.P5 (y0:Bool) (y1:LLD) (y2 y3:Int) (y4:Bool) (y5:Int) (y6:BAy) (y7 y8:LLD) : Option (Ex × St) := evB XX 74 (lpL XX 74) 5 (zaw 2 zak.c) (mkG 1 20 [(0, .one (.p y0 0 [] 0)), (7, .one (.s y1)), (8, .one (.v (.int .i64 y2))), (9, .one (.v (.int .i64 y3)))] [(0, some ⟨.ro, [.v (.bool y4), .v (.int .i64 y5), .v (.string y6), .s y7, .s y8], [.sh, .sh, .sh, .sh, .sh]⟩)] GL) (backL (lpL XX 74) (zaw 2 zak.c) (XX.live 74 2))
noncomputable def zak.P5b (y0:Bool) (y1:Nat) (y2:List (Nat × Nat)) (y3:LLD) (y4 y5:Int) (y6:Bool) (y7:Int) (y8:BAy) (y9 y10:LLD) : Option (Ex × St) := evB XX 74 (lpL XX 74) 5 (zaw 2 zak.c) (mkG 1 20 [(0, .one (.p y0 0 ((4, y1) :: y2) 0)), (7, .one (.s y3)), (8, .one (.v (.int .i64 y4))), (9, .one (.v (.int .i64 y5)))] [(0, some ⟨.ro, [.v (.bool y6), .v (.int .i64 y7), .v (.string y8), .s y9, .s y10], [.sh, .sh, .sh, .sh, .sh]⟩)] GL) (backL (lpL XX 74) (zaw 2 zak.c) (XX.live 74 2))
noncomputable def zak.x2 (y0:Bool) (y1:Int) (y2:BAy) (y3 y4:LLD) : Ex × St := (Ex.exit 0, mkG 1 20 [(0, .one (.p true 0 [] 0))] [(0, some ⟨.ro, [.v (.bool y0), .v (.int .i64 y1), .v (.string y2), .s y3, .s y4], [.sh, .sh, .sh, .sh, .sh]⟩)] GL)
noncomputable def zak.q2 (y0 y1:Bool) (y2:Int) (y3:BAy) (y4 y5:LLD) : Ex × St := (Ex.ret, mkG 1 20 [(0, .one (.p y0 0 [] 0)), (4, .one (.v (.pointer none)))] [(0, some ⟨.ro, [.v (.bool y1), .v (.int .i64 y2), .v (.string y3), .s y4, .s y5], [.sh, .sh, .sh, .sh, .sh]⟩)] GL)
noncomputable def zak.L2b (y0:Bool) (y1:LLD) (y2 y3:Int) (y4:Bool) (y5:Int) (y6:BAy) (y7 y8:LLD) : Option (Ex × St) := lpL XX 74 (zaw 2 zak.c) (mkG 1 20 [(0, .one (.p y0 0 [] 0)), (7, .one (.s y1)), (8, .one (.v (.int .i64 y2))), (9, .one (.v (.int .i64 y3)))] [(0, some ⟨.ro, [.v (.bool y4), .v (.int .i64 y5), .v (.string y6), .s y7, .s y8], [.sh, .sh, .sh, .sh, .sh]⟩)] GL)
noncomputable def zak.q2b (y0:Bool) (y1:Nat) (y2:List (Nat × Nat)) (y3:Bool) (y4:Int) (y5:BAy) (y6 y7:LLD) : Ex × St := (Ex.ret, mkG 1 20 [(0, .one (.p y0 0 ((4, y1) :: y2) 0)), (4, .one (.v (.pointer none)))] [(0, some ⟨.ro, [.v (.bool y3), .v (.int .i64 y4), .v (.string y5), .s y6, .s y7], [.sh, .sh, .sh, .sh, .sh]⟩)] GL)
noncomputable def zak.L2c (y0:Bool) (y1:Nat) (y2:List (Nat × Nat)) (y3:LLD) (y4 y5:Int) (y6:Bool) (y7:Int) (y8:BAy) (y9 y10:LLD) : Option (Ex × St) := lpL XX 74 (zaw 2 zak.c) (mkG 1 20 [(0, .one (.p y0 0 ((4, y1) :: y2) 0)), (7, .one (.s y3)), (8, .one (.v (.int .i64 y4))), (9, .one (.v (.int .i64 y5)))] [(0, some ⟨.ro, [.v (.bool y6), .v (.int .i64 y7), .v (.string y8), .s y9, .s y10], [.sh, .sh, .sh, .sh, .sh]⟩)] GL)
noncomputable def zak.x2c (y0:Bool) (y1:Nat) (y2:List (Nat × Nat)) (y3:Bool) (y4:Int) (y5:BAy) (y6 y7:LLD) : Ex × St := (Ex.exit 0, mkG 1 20 [(0, .one (.p y0 0 ((4, y1) :: y2) 0))] [(0, some ⟨.ro, [.v (.bool y3), .v (.int .i64 y4), .v (.string y5), .s y6, .s y7], [.sh, .sh, .sh, .sh, .sh]⟩)] GL)
theorem zak.e (a0:Bool) (a1:Int) (a2:BAy) (a3 a4 a5:LLD) : zak [.one (.p true 0 [] 0), .one (.s a5)] [⟨.ro, [.v (.bool a0), .v (.int .i64 a1), .v (.string a2), .s a3, .s a4], [.sh, .sh, .sh, .sh, .sh]⟩] = (zak.L2 a5 (↑a5.length : Int) 0 a0 a1 a2 a3 a4).bind zak.A2 := by
 refine (zak.run _ _ (by kernel_rfl)).trans ?_
 delta zak zak.L2 zak.A2 XX
 generalize lpL (Y.ctx (lim' Y)) 74 = lp
 generalize lim' Y = call
 kernel_rfl
theorem zak.s2 (y0:LLD) (y1 y2:Int) (y3:Bool) (y4:Int) (y5:BAy) (y6 y7:LLD) : zak.L2 y0 y1 y2 y3 y4 y5 y6 y7 = bif decide (y2 < y1) then bif decide (0 ≤ y2) && decide (y2 < (↑y0.length : Int)) && decide ((y0.getD y2.toNat []).length = 1) then bif zav [.str] (y0.getD y2.toNat []) 0 && decide (1 ≤ (y0.getD y2.toNat []).length) then (zaU [.one (.p true 0 [] 0), .one (.v (.string ((y0.getD y2.toNat []).getD 0 .h).str))] [⟨.ro, [.v (.bool y3), .v (.int .i64 y4), .v (.string y5), .s y6, .s y7], [.sh, .sh, .sh, .sh, .sh]⟩]).bind fun val => bif zag [.ptr 0] val.1 && true then bif List.isEmpty (val.1.getD 0 .d).path then zak.P5 (val.1.getD 0 .d).ok y0 y1 y2 y3 y4 y5 y6 y7 else zak.P5b (val.1.getD 0 .d).ok (List.headD (val.1.getD 0 .d).path (0, 0)).2 (List.tail (val.1.getD 0 .d).path) y0 y1 y2 y3 y4 y5 y6 y7 else none else none else none else some (zak.x2 y3 y4 y5 y6 y7) := by
 refine (zbg (Y := Y) (c := lim' Y) (fn := 74) (rid := 2) (b := zaw 2 zak.c) (by kernel_rfl) _).trans ?_
 delta zak.L2 zaU zak.P5 zak.P5b zak.x2 XX
 refine zbq [5] (by kernel_rfl) fun J e1 => ?_
 try simp only [← e1]
 clear e1
 generalize lpL (Y.ctx (lim' Y)) 74 = lp
 generalize lim' Y = call
 kernel_rfl
theorem zak.p5 (y0:Bool) (y1:LLD) (y2 y3:Int) (y4:Bool) (y5:Int) (y6:BAy) (y7 y8:LLD) : zak.P5 y0 y1 y2 y3 y4 y5 y6 y7 y8 = bif !y0 then some (zak.q2 y0 y4 y5 y6 y7 y8) else zak.L2b y0 y1 y2 (IntKind.i64.wrap (y3 + 1)) y4 y5 y6 y7 y8 := by
 delta zak.P5 zak.q2 zak.L2b XX
 refine zbf [5] 5 (by kernel_rfl) fun J e1 => ?_
 try simp only [← e1]
 clear e1
 generalize lpL (Y.ctx (lim' Y)) 74 = lp
 generalize lim' Y = call
 kernel_rfl
theorem zak.p5b (y0:Bool) (y1:Nat) (y2:List (Nat × Nat)) (y3:LLD) (y4 y5:Int) (y6:Bool) (y7:Int) (y8:BAy) (y9 y10:LLD) : zak.P5b y0 y1 y2 y3 y4 y5 y6 y7 y8 y9 y10 = bif !y0 then some (zak.q2b y0 y1 y2 y6 y7 y8 y9 y10) else zak.L2c y0 y1 y2 y3 y4 (IntKind.i64.wrap (y5 + 1)) y6 y7 y8 y9 y10 := by
 delta zak.P5b zak.q2b zak.L2c XX
 refine zbf [5] 5 (by kernel_rfl) fun J e1 => ?_
 try simp only [← e1]
 clear e1
 generalize lpL (Y.ctx (lim' Y)) 74 = lp
 generalize lim' Y = call
 kernel_rfl
theorem zak.a2x2 (y0:Bool) (y1:Int) (y2:BAy) (y3 y4:LLD) : zak.A2 (zak.x2 y0 y1 y2 y3 y4) = some ⟨[.p true 0 [] 0], [⟨.ro, [.v (.bool y0), .v (.int .i64 y1), .v (.string y2), .s y3, .s y4], [.sh, .sh, .sh, .sh, .sh]⟩]⟩ := by
 delta zak.A2 zak.x2 XX
 generalize lpL (Y.ctx (lim' Y)) 74 = lp
 generalize lim' Y = call
 kernel_rfl
theorem zak.a2q2 (y0 y1:Bool) (y2:Int) (y3:BAy) (y4 y5:LLD) : zak.A2 (zak.q2 y0 y1 y2 y3 y4 y5) = some ⟨[.p false 0 [] 0], [⟨.ro, [.v (.bool y1), .v (.int .i64 y2), .v (.string y3), .s y4, .s y5], [.sh, .sh, .sh, .sh, .sh]⟩]⟩ := by
 delta zak.A2 zak.q2 XX
 generalize lpL (Y.ctx (lim' Y)) 74 = lp
 generalize lim' Y = call
 kernel_rfl
theorem zak.a2q2b (y0:Bool) (y1:Nat) (y2:List (Nat × Nat)) (y3:Bool) (y4:Int) (y5:BAy) (y6 y7:LLD) : zak.A2 (zak.q2b y0 y1 y2 y3 y4 y5 y6 y7) = some ⟨[.p false 0 [] 0], [⟨.ro, [.v (.bool y3), .v (.int .i64 y4), .v (.string y5), .s y6, .s y7], [.sh, .sh, .sh, .sh, .sh]⟩]⟩ := by
 delta zak.A2 zak.q2b XX
 generalize lpL (Y.ctx (lim' Y)) 74 = lp
 generalize lim' Y = call
 kernel_rfl
theorem zak.s2c (y0:Bool) (y1:Nat) (y2:List (Nat × Nat)) (y3:LLD) (y4 y5:Int) (y6:Bool) (y7:Int) (y8:BAy) (y9 y10:LLD) : zak.L2c y0 y1 y2 y3 y4 y5 y6 y7 y8 y9 y10 = bif decide (y5 < y4) then bif decide (0 ≤ y5) && decide (y5 < (↑y3.length : Int)) && decide ((y3.getD y5.toNat []).length = 1) then bif zav [.str] (y3.getD y5.toNat []) 0 && decide (1 ≤ (y3.getD y5.toNat []).length) then (zaU [.one (.p y0 0 [] 0), .one (.v (.string ((y3.getD y5.toNat []).getD 0 .h).str))] [⟨.ro, zaj (y10.getD y1 []) y2, List.map (fun x => .sh) (zaj (y10.getD y1 []) y2)⟩]).bind fun val => bif zag [.ptr 0] val.1 && true then bif List.isEmpty (val.1.getD 0 .d).path then zak.P5b (val.1.getD 0 .d).ok y1 (y2 ++ []) y3 y4 y5 y6 y7 y8 y9 y10 else zak.P5b (val.1.getD 0 .d).ok y1 (y2 ++ (4, (List.headD (val.1.getD 0 .d).path (0, 0)).2) :: List.tail (val.1.getD 0 .d).path) y3 y4 y5 y6 y7 y8 y9 y10 else none else none else none else some (zak.x2c y0 y1 y2 y6 y7 y8 y9 y10) := by
 refine (zbg (Y := Y) (c := lim' Y) (fn := 74) (rid := 2) (b := zaw 2 zak.c) (by kernel_rfl) _).trans ?_
 delta zak.L2c zaU zak.P5b zak.x2c XX
 refine zbq [5] (by kernel_rfl) fun J e1 => ?_
 try simp only [← e1]
 clear e1
 generalize lpL (Y.ctx (lim' Y)) 74 = lp
 generalize lim' Y = call
 kernel_rfl
theorem zak.a2x2c (y0:Bool) (y1:Nat) (y2:List (Nat × Nat)) (y3:Bool) (y4:Int) (y5:BAy) (y6 y7:LLD) : zak.A2 (zak.x2c y0 y1 y2 y3 y4 y5 y6 y7) = some ⟨[.p y0 0 ((4, y1) :: y2) 0], [⟨.ro, [.v (.bool y3), .v (.int .i64 y4), .v (.string y5), .s y6, .s y7], [.sh, .sh, .sh, .sh, .sh]⟩]⟩ := by
 delta zak.A2 zak.x2c XX
 generalize lpL (Y.ctx (lim' Y)) 74 = lp
 generalize lim' Y = call
 kernel_rfl
noncomputable def iTree_putn.P5 (y0:Int) (y1:Bool) (y2:Int) (y3:BAy) (y4 y5:LLD) (y6:Bool) (y7:Int) (y8:BAy) (y9 y10:LLD) : Option Res := evB XX 75 (lpL XX 75) 5 zbL.c (mkG 1 47 [(0, .one (.p true 0 [] 0)), (5, .one (.p true 6 [] 0)), (6, .one (.v (.int .i64 y0)))] [(0, some ⟨.box, [.v (.bool y1), .v (.int .i64 y2), .v (.string y3), .s y4, .s y5], [.deep, .deep, .deep, .deep, .deep]⟩), (6, some ⟨.box, [.v (.bool y6), .v (.int .i64 y7), .v (.string y8), .s y9, .s y10], [.deep, .deep, .deep, .deep, .deep]⟩)] GL) (outE XX 75 Tryz.f75)
theorem iTree_putn.e (a0:Bool) (a1:Int) (a2:BAy) (a3 a4:LLD) (n:BAy) (b0:Bool) (b1:Int) (b2:BAy) : zbL [.one (.p true 0 [] 0), .one (.v (.string n)), .g [.v (.bool b0), .v (.int .i64 b1), .v (.string b2), .v (.slice none 0 0), .v (.slice none 0 0)]] [⟨.box, [.v (.bool a0), .v (.int .i64 a1), .v (.string a2), .s a3, .s a4], [.deep, .deep, .deep, .deep, .deep]⟩] = (zac [.one (.s a3), .one (.v (.string n))] []).bind fun val => bif zag [.int .i64, .bool] val.1 && true then bif (val.1.getD 1 .d).bool then bif decide (0 ≤ (val.1.getD 0 .d).int) && decide ((val.1.getD 0 .d).int < (↑a4.length : Int)) && decide ((a4.getD (val.1.getD 0 .d).int.toNat []).length = 5) then bif decide (5 ≤ (a4.getD (val.1.getD 0 .d).int.toNat []).length) && true then some ⟨[], [⟨.box, [.v (.bool a0), .v (.int .i64 a1), .v (.string a2), .s a3, .s (a4.set (val.1.getD 0 .d).int.toNat (.v (.bool b0) :: .v (.int .i64 b1) :: .v (.string b2) :: .s [] :: .s [] :: List.drop 5 (a4.getD (val.1.getD 0 .d).int.toNat [])))], [.deep, .deep, .deep, .deep, .deep]⟩]⟩ else none else none else (za3 [.one (.r 0 [] 0), .one (.v (.int .i64 (val.1.getD 0 .d).int)), .one (.r 1 [] 0)] [⟨.virt, [.s a3], [.deep]⟩, ⟨.virt, [.s [[.v (.string n)]]], [.deep]⟩]).bind fun val_1 => bif zag [.own .deep] val_1.1 && true then iTree_putn.P5 (val.1.getD 0 .d).int a0 a1 a2 (val_1.1.getD 0 .d).es a4 b0 b1 b2 [] [] else none else none := by
 refine (zbL.run _ _ (by kernel_rfl)).trans ?_
 delta zbL zac za3 iTree_putn.P5 XX
 refine zbq [5] (by kernel_rfl) fun J e1 => ?_
 try simp only [← e1]
 clear e1
 generalize lpL (Y.ctx (lim' Y)) 75 = lp
 generalize lim' Y = call
 kernel_rfl
theorem iTree_putn.p5 (y0:Int) (y1:Bool) (y2:Int) (y3:BAy) (y4 y5:LLD) (y6:Bool) (y7:Int) (y8:BAy) (y9 y10:LLD) : iTree_putn.P5 y0 y1 y2 y3 y4 y5 y6 y7 y8 y9 y10 = (zaZ [.one (.r 0 [] 0), .one (.v (.int .i64 y0)), .one (.r 1 [] 0)] [⟨.virt, [.s y5], [.deep]⟩, ⟨.virt, [.s [[.v (.bool y6), .v (.int .i64 y7), .v (.string y8), .s y9, .s y10]]], [.deep]⟩]).bind fun val => bif zag [.own .deep] val.1 && true then some ⟨[], [⟨.box, [.v (.bool y1), .v (.int .i64 y2), .v (.string y3), .s y4, .s (val.1.getD 0 .d).es], [.deep, .deep, .deep, .deep, .deep]⟩]⟩ else none := by
 delta iTree_putn.P5 zaZ XX
 refine zbf [5] 5 (by kernel_rfl) fun J e1 => ?_
 try simp only [← e1]
 clear e1
 generalize lpL (Y.ctx (lim' Y)) 75 = lp
 generalize lim' Y = call
 kernel_rfl
theorem zcG.e (a0:Bool) (a1:Int) (a2:BAy) (a3 a4:LLD) : zcG [.g [.v (.bool a0), .v (.int .i64 a1), .v (.string a2), .s a3, .s a4]] [] = bif a0 then (zai [.g [.v (.bool a0), .v (.int .i64 a1), .v (.string a2), .s a3, .s a4], .one (.v (.int .i64 0))] []).bind fun val => bif zag [.bool] val.1 && true then bif (val.1.getD 0 .d).bool then (zat [.g [.v (.bool a0), .v (.int .i64 a1), .v (.string a2), .s a3, .s a4]] []).bind fun val => bif zag [.int .i64] val.1 && true then some ⟨[.v (.bool (decide ((val.1.getD 0 .d).int ≤ 31)))], []⟩ else none else some ⟨[.v (.bool false)], []⟩ else none else some ⟨[.v (.bool false)], []⟩ := by
 refine (zcG.run _ _ (by kernel_rfl)).trans ?_
 delta zcG zai zat XX
 generalize lpL (Y.ctx (lim' Y)) 76 = lp
 generalize lim' Y = call
 kernel_rfl
noncomputable def zaa.L4 (y0 y1:LLD) (y2 y3:Int) : Option (Ex × St) := lpL XX 77 (zaw 4 zaa.c) (mkG 0 32 [(1, .one (.s y0)), (2, .f zbt.id []), (15, .one (.s y1)), (16, .one (.v (.int .i64 y2))), (17, .one (.v (.int .i64 y3)))] [] GL)
noncomputable def zaa.A4 : Ex × St → Option Res := fun r => evA XX 77 (lpL XX 77) 4 zaa.c r.fst r.snd (outE XX 77 Tryz.f77)
noncomputable def zaa.q4 (y0:Bool) : Ex × St := (Ex.ret, mkG 0 32 [(6, .one (.v (.bool y0)))] [] GL)
noncomputable def zaa.x4 : Ex × St := (Ex.exit 0, mkG 0 32 [] [] GL)
theorem zaa.e (a0 a1:LLD) : zaa [.one (.s a0), .one (.s a1), .f zbt.id []] [] = bif (↑a0.length : Int) != (↑a1.length : Int) then some ⟨[.v (.bool false)], []⟩ else (zaa.L4 a1 a0 (↑a0.length : Int) 0).bind zaa.A4 := by
 refine (zaa.run _ _ (by kernel_rfl)).trans ?_
 delta zaa zaa.L4 zaa.A4 zbt.id XX
 generalize lpL (Y.ctx (lim' Y)) 77 = lp
 generalize lim' Y = call
 kernel_rfl
theorem zaa.s4 (y0 y1:LLD) (y2 y3:Int) : zaa.L4 y0 y1 y2 y3 = bif decide (y3 < y2) then bif decide (0 ≤ y3) && decide (y3 < (↑y1.length : Int)) && decide ((y1.getD y3.toNat []).length = 5) then bif zav [.sl, .bool, .int .i64, .str, .int .i64] (y1.getD y3.toNat []) 0 && decide (5 ≤ (y1.getD y3.toNat []).length) then bif decide (0 ≤ y3) && decide (y3 < (↑y0.length : Int)) && decide ((y0.getD y3.toNat []).length = 5) then bif zav [.sl, .bool, .int .i64, .str, .int .i64] (y0.getD y3.toNat []) 0 && decide (5 ≤ (y0.getD y3.toNat []).length) then (zbt [.g [.s ((y1.getD y3.toNat []).getD 0 .h).es, .v (.bool ((y1.getD y3.toNat []).getD 1 .h).bool), .v (.int .i64 ((y1.getD y3.toNat []).getD 2 .h).int), .v (.string ((y1.getD y3.toNat []).getD 3 .h).str), .v (.int .i64 ((y1.getD y3.toNat []).getD 4 .h).int)], .g [.s ((y0.getD y3.toNat []).getD 0 .h).es, .v (.bool ((y0.getD y3.toNat []).getD 1 .h).bool), .v (.int .i64 ((y0.getD y3.toNat []).getD 2 .h).int), .v (.string ((y0.getD y3.toNat []).getD 3 .h).str), .v (.int .i64 ((y0.getD y3.toNat []).getD 4 .h).int)]] []).bind fun val => bif zag [.bool] val.1 && true then bif !(val.1.getD 0 .d).bool then some (zaa.q4 false) else zaa.L4 y0 y1 y2 (IntKind.i64.wrap (y3 + 1)) else none else none else none else none else none else some zaa.x4 := by
 refine (zbg (Y := Y) (c := lim' Y) (fn := 77) (rid := 4) (b := zaw 4 zaa.c) (by kernel_rfl) _).trans ?_
 delta zaa.L4 zbt zaa.q4 zaa.x4 XX
 generalize lpL (Y.ctx (lim' Y)) 77 = lp
 generalize lim' Y = call
 kernel_rfl
theorem zaa.a4q4 (y0:Bool) : zaa.A4 (zaa.q4 y0) = some ⟨[.v (.bool y0)], []⟩ := by
 delta zaa.A4 zaa.q4 XX
 generalize lpL (Y.ctx (lim' Y)) 77 = lp
 generalize lim' Y = call
 kernel_rfl
theorem zaa.a4x4 : zaa.A4 zaa.x4 = some ⟨[.v (.bool true)], []⟩ := by
 delta zaa.A4 zaa.x4 XX
 generalize lpL (Y.ctx (lim' Y)) 77 = lp
 generalize lim' Y = call
 kernel_rfl
theorem zbo.e (a0:Bool) (a1:Int) (a2:BAy) (a3 a4:LLD) : zbo [.g [.v (.bool a0), .v (.int .i64 a1), .v (.string a2), .s a3, .s a4]] [] = (zaP [.g [.v (.bool a0), .v (.int .i64 a1), .v (.string a2), .s a3, .s a4], .one (.s []), .f zaI.id [.p true 0 [] 0]] [⟨.box, [.s []], [.deep]⟩]).bind fun val => bif zag [] val.1 && za7 [⟨⟨.box, [.s []], [.deep]⟩, .box 3⟩] val.2 then some ⟨[.o .deep ((val.2.getD 0 ⟨.ro, [], []⟩).2.getD 0 .h).es], []⟩ else none := by
 refine (zbo.run _ _ (by kernel_rfl)).trans ?_
 delta zbo zaP zaI.id XX
 generalize lpL (Y.ctx (lim' Y)) 78 = lp
 generalize lim' Y = call
 kernel_rfl
theorem zbt.e (a0:LLD) (a1:Bool) (a2:Int) (a3:BAy) (a4:Int) (a5:LLD) (a6:Bool) (a7:Int) (a8:BAy) (a9:Int) : zbt [.g [.s a0, .v (.bool a1), .v (.int .i64 a2), .v (.string a3), .v (.int .i64 a4)], .g [.s a5, .v (.bool a6), .v (.int .i64 a7), .v (.string a8), .v (.int .i64 a9)]] [] = (zad [.one (.s a0), .one (.s a5)] []).bind fun val => bif zag [.bool] val.1 && true then bif (val.1.getD 0 .d).bool then bif a1 == a6 then bif a2 == a7 then bif a3.toList == a8.toList then some ⟨[.v (.bool (a4 == a9))], []⟩ else some ⟨[.v (.bool false)], []⟩ else some ⟨[.v (.bool false)], []⟩ else some ⟨[.v (.bool false)], []⟩ else some ⟨[.v (.bool false)], []⟩ else none := by
 refine (zbt.run _ _ (by kernel_rfl)).trans ?_
 delta zbt zad XX
 generalize lpL (Y.ctx (lim' Y)) 79 = lp
 generalize lim' Y = call
 kernel_rfl
noncomputable def zau.L3 (y0:LLD) (y1 y2:Int) (y3:Bool) (y4:Int) (y5:BAy) (y6 y7:LLD) (y8:Bool) (y9:Int) (y10:BAy) (y11 y12 y13:LLD) : Option (Ex × St) := lpL XX 80 (zaw 3 zau.c) (mkG 0 28 [(1, .one (.p true 1 [] 0)), (2, .one (.p true 2 [] 0)), (3, .one (.r 3 [] 0)), (8, .one (.s y0)), (9, .one (.v (.int .i64 y1))), (10, .one (.v (.int .i64 y2)))] [(1, some ⟨.box, [.v (.bool y3), .v (.int .i64 y4), .v (.string y5), .s y6, .s y7], [.deep, .deep, .deep, .sh, .sh]⟩), (2, some ⟨.box, [.v (.bool y8), .v (.int .i64 y9), .v (.string y10), .s y11, .s y12], [.deep, .deep, .deep, .deep, .deep]⟩), (3, some ⟨.virt, [.s y13], [.deep]⟩)] GL)
noncomputable def zau.A3 : Ex × St → Option Res := fun r => evA XX 80 (lpL XX 80) 3 zau.c r.fst r.snd (outE XX 80 Tryz.f80)
noncomputable def zau.x3 (y0:Bool) (y1:Int) (y2:BAy) (y3 y4:LLD) (y5:Bool) (y6:Int) (y7:BAy) (y8 y9 y10:LLD) : Ex × St := (Ex.exit 0, mkG 0 28 [(1, .one (.p true 1 [] 0)), (2, .one (.p true 2 [] 0)), (3, .one (.r 3 [] 0))] [(1, some ⟨.box, [.v (.bool y0), .v (.int .i64 y1), .v (.string y2), .s y3, .s y4], [.deep, .deep, .deep, .sh, .sh]⟩), (2, some ⟨.box, [.v (.bool y5), .v (.int .i64 y6), .v (.string y7), .s y8, .s y9], [.deep, .deep, .deep, .deep, .deep]⟩), (3, some ⟨.virt, [.s y10], [.deep]⟩)] GL)
theorem zau.e (a0:Bool) (a1:Int) (a2:BAy) (a3 a4:LLD) : zau [.g [.v (.bool a0), .v (.int .i64 a1), .v (.string a2), .s a3, .s a4]] [] = (zau.L3 a4 (↑a4.length : Int) 0 a0 a1 a2 a3 a4 false 0 (ByteArray.mk #[]) [] [] []).bind zau.A3 := by
 refine (zau.run _ _ (by kernel_rfl)).trans ?_
 delta zau zau.L3 zau.A3 XX
 generalize lpL (Y.ctx (lim' Y)) 80 = lp
 generalize lim' Y = call
 kernel_rfl
theorem zau.s3 (y0:LLD) (y1 y2:Int) (y3:Bool) (y4:Int) (y5:BAy) (y6 y7:LLD) (y8:Bool) (y9:Int) (y10:BAy) (y11 y12 y13:LLD) : zau.L3 y0 y1 y2 y3 y4 y5 y6 y7 y8 y9 y10 y11 y12 y13 = bif decide (y2 < y1) then bif decide (0 ≤ y2) && decide (y2 < (↑y0.length : Int)) && decide ((y0.getD y2.toNat []).length = 5) then bif zav [.bool, .int .i64, .str, .sl, .sl] (y0.getD y2.toNat []) 0 && decide (5 ≤ (y0.getD y2.toNat []).length) then (zau [.g [.v (.bool ((y0.getD y2.toNat []).getD 0 .h).bool), .v (.int .i64 ((y0.getD y2.toNat []).getD 1 .h).int), .v (.string ((y0.getD y2.toNat []).getD 2 .h).str), .s ((y0.getD y2.toNat []).getD 3 .h).es, .s ((y0.getD y2.toNat []).getD 4 .h).es]] []).bind fun val => bif zag [.bool, .int .i64, .str, .own .deep, .own .deep] val.1 && true then bif zaA 5 y13 && true && true && true && decide ((y13.length + 1) * 81 ≤ 70368744177664) then zau.L3 y0 y1 (IntKind.i64.wrap (y2 + 1)) y3 y4 y5 y6 y7 y8 y9 y10 y11 y12 (y13 ++ [[.v (.bool (val.1.getD 0 .d).bool), .v (.int .i64 (val.1.getD 1 .d).int), .v (.string (val.1.getD 2 .d).str), .s (val.1.getD 3 .d).es, .s (val.1.getD 4 .d).es]]) else none else none else none else none else some (zau.x3 y3 y4 y5 y6 y7 y8 y9 y10 y11 y12 y13) := by
 refine (zbg (Y := Y) (c := lim' Y) (fn := 80) (rid := 3) (b := zaw 3 zau.c) (by kernel_rfl) _).trans ?_
 delta zau.L3 zau zau.x3 XX
 generalize lpL (Y.ctx (lim' Y)) 80 = lp
 generalize lim' Y = call
 kernel_rfl
theorem zau.a3x3 (y0:Bool) (y1:Int) (y2:BAy) (y3 y4:LLD) (y5:Bool) (y6:Int) (y7:BAy) (y8 y9 y10:LLD) : zau.A3 (zau.x3 y0 y1 y2 y3 y4 y5 y6 y7 y8 y9 y10) = bif zaA 1 y3 && zaE false y3 && true && decide ((0 + y3.length) * 17 ≤ 70368744177664) then some ⟨[.v (.bool y0), .v (.int .i64 y1), .v (.string y2), .o .deep y3, .o .deep y10], []⟩ else none := by
 delta zau.A3 zau.x3 XX
 generalize lpL (Y.ctx (lim' Y)) 80 = lp
 generalize lim' Y = call
 kernel_rfl
theorem zcH.e (a0:Bool) (a1:Int) (a2:BAy) (a3 a4:LLD) : zcH [.g [.v (.bool a0), .v (.int .i64 a1), .v (.string a2), .s a3, .s a4]] [] = bif a0 then (zaq [.g [.v (.bool a0), .v (.int .i64 a1), .v (.string a2), .s a3, .s a4], .one (.v (.int .i64 0))] []).bind fun val => bif zag [.bool] val.1 && true then bif (val.1.getD 0 .d).bool then (zaO [.g [.v (.bool a0), .v (.int .i64 a1), .v (.string a2), .s a3, .s a4]] []).bind fun val => bif zag [.int .i64] val.1 && true then some ⟨[.v (.bool (decide ((val.1.getD 0 .d).int ≤ 30)))], []⟩ else none else some ⟨[.v (.bool false)], []⟩ else none else some ⟨[.v (.bool false)], []⟩ := by
 refine (zcH.run _ _ (by kernel_rfl)).trans ?_
 delta zcH zaq zaO XX
 generalize lpL (Y.ctx (lim' Y)) 86 = lp
 generalize lim' Y = call
 kernel_rfl
noncomputable def zam.L2 (y0:BAy) (y1:Int) : Option (Ex × St) := lpL XX 125 (zaw 2 zam.c) (mkG 0 36 [(0, .one (.v (.string y0))), (3, .one (.v (.int .i64 y1)))] [] GL)
noncomputable def zam.A2 : Ex × St → Option Res := fun r => evA XX 125 (lpL XX 125) 2 zam.c r.fst r.snd (outE XX 125 Tryz.f125)
noncomputable def zam.P5 (y0:BAy) (y1:Int) (y2:Bool) : Option (Ex × St) := evB XX 125 (lpL XX 125) 5 (zaw 2 zam.c) (mkG 0 36 [(0, .one (.v (.string y0))), (3, .one (.v (.int .i64 y1))), (32, .one (.v (.bool y2)))] [] GL) (backL (lpL XX 125) (zaw 2 zam.c) (XX.live 125 2))
noncomputable def zam.x2 (y0:BAy) : Ex × St := (Ex.exit 0, mkG 0 36 [(0, .one (.v (.string y0)))] [] GL)
noncomputable def zam.q2 (y0:BAy) (y1:Bool) : Ex × St := (Ex.ret, mkG 0 36 [(0, .one (.v (.string y0))), (2, .one (.v (.bool y1)))] [] GL)
theorem zam.e (a0:BAy) : zam [.one (.v (.string a0))] [] = (zam.L2 a0 0).bind zam.A2 := by
 refine (zam.run _ _ (by kernel_rfl)).trans ?_
 delta zam zam.L2 zam.A2 XX
 generalize lpL (Y.ctx (lim' Y)) 125 = lp
 generalize lim' Y = call
 kernel_rfl
theorem zam.s2 (y0:BAy) (y1:Int) : zam.L2 y0 y1 = bif decide (y1 < (↑y0.size : Int)) then bif decide (0 ≤ y1) && decide (y1 < (↑y0.size : Int)) then bif decide (za9 y0 y1.toNat ≥ 97) then bif decide (0 ≤ y1) && decide (y1 < (↑y0.size : Int)) then bif decide (za9 y0 y1.toNat ≤ 122) then zam.P5 y0 y1 false else bif decide (0 ≤ y1) && decide (y1 < (↑y0.size : Int)) then bif decide (za9 y0 y1.toNat ≥ 48) then bif decide (0 ≤ y1) && decide (y1 < (↑y0.size : Int)) then zam.P5 y0 y1 !decide (za9 y0 y1.toNat ≤ 57) else none else zam.P5 y0 y1 true else none else none else bif decide (0 ≤ y1) && decide (y1 < (↑y0.size : Int)) then bif decide (za9 y0 y1.toNat ≥ 48) then bif decide (0 ≤ y1) && decide (y1 < (↑y0.size : Int)) then zam.P5 y0 y1 !decide (za9 y0 y1.toNat ≤ 57) else none else zam.P5 y0 y1 true else none else none else some (zam.x2 y0) := by
 refine (zbg (Y := Y) (c := lim' Y) (fn := 125) (rid := 2) (b := zaw 2 zam.c) (by kernel_rfl) _).trans ?_
 delta zam.L2 zam.P5 zam.x2 XX
 refine zbq [5] (by kernel_rfl) fun J e1 => ?_
 try simp only [← e1]
 clear e1
 generalize lpL (Y.ctx (lim' Y)) 125 = lp
 generalize lim' Y = call
 kernel_rfl
theorem zam.p5 (y0:BAy) (y1:Int) (y2:Bool) : zam.P5 y0 y1 y2 = bif y2 then some (zam.q2 y0 false) else zam.L2 y0 (IntKind.i64.wrap (y1 + 1)) := by
 delta zam.P5 zam.q2 zam.L2 XX
 refine zbf [5] 5 (by kernel_rfl) fun J e1 => ?_
 try simp only [← e1]
 clear e1
 generalize lpL (Y.ctx (lim' Y)) 125 = lp
 generalize lim' Y = call
 kernel_rfl
theorem zam.a2x2 (y0:BAy) : zam.A2 (zam.x2 y0) = (sl1In [.one (.v (.int .i64 (↑y0.size : Int))), .one (.v (.int .i64 1)), .one (.v (.int .i64 5))] []).bind fun val => bif zag [.bool] val.1 && true then some ⟨[.v (.bool (val.1.getD 0 .d).bool)], []⟩ else none := by
 delta zam.A2 zam.x2 sl1In XX
 generalize lpL (Y.ctx (lim' Y)) 125 = lp
 generalize lim' Y = call
 kernel_rfl
theorem zam.a2q2 (y0:BAy) (y1:Bool) : zam.A2 (zam.q2 y0 y1) = some ⟨[.v (.bool y1)], []⟩ := by
 delta zam.A2 zam.q2 XX
 generalize lpL (Y.ctx (lim' Y)) 125 = lp
 generalize lim' Y = call
 kernel_rfl
theorem sl1In.e (a0 a1 a2:Int) : sl1In [.one (.v (.int .i64 a0)), .one (.v (.int .i64 a1)), .one (.v (.int .i64 a2))] [] = bif decide (a0 ≥ a1) then some ⟨[.v (.bool (decide (a0 ≤ a2)))], []⟩ else some ⟨[.v (.bool false)], []⟩ := by
 refine (sl1In.run _ _ (by kernel_rfl)).trans ?_
 delta sl1In XX
 generalize lpL (Y.ctx (lim' Y)) 126 = lp
 generalize lim' Y = call
 kernel_rfl
noncomputable def zaW.L2 (y0:BAy) (y1:Int) (y2:Bool) (y3:Int) (y4:BAy) (y5 y6:LLD) : Option (Ex × St) := lpL XX 127 (zaw 2 zaW.c) (mkG 0 21 [(1, .one (.v (.string y0))), (2, .one (.p true 2 [] 0)), (5, .one (.v (.int .i64 y1)))] [(2, some ⟨.box, [.v (.bool y2), .v (.int .i64 y3), .v (.string y4), .s y5, .s y6], [.deep, .deep, .deep, .sh, .sh]⟩)] GL)
noncomputable def zaW.A2 : Ex × St → Option Res := fun r => evA XX 127 (lpL XX 127) 2 zaW.c r.fst r.snd (outE XX 127 Tryz.f127)
noncomputable def zaW.q2 (y0:Int) : Ex × St := (Ex.ret, mkG 0 21 [(4, .one (.v (.int .i64 y0)))] [] GL)
noncomputable def zaW.x2 : Ex × St := (Ex.exit 0, mkG 0 21 [] [] GL)
theorem zaW.e (a0:Bool) (a1:Int) (a2:BAy) (a3 a4:LLD) (a5:BAy) : zaW [.g [.v (.bool a0), .v (.int .i64 a1), .v (.string a2), .s a3, .s a4], .one (.v (.string a5))] [] = (zaW.L2 a5 0 a0 a1 a2 a3 a4).bind zaW.A2 := by
 refine (zaW.run _ _ (by kernel_rfl)).trans ?_
 delta zaW zaW.L2 zaW.A2 XX
 generalize lpL (Y.ctx (lim' Y)) 127 = lp
 generalize lim' Y = call
 kernel_rfl
theorem zaW.s2 (y0:BAy) (y1:Int) (y2:Bool) (y3:Int) (y4:BAy) (y5 y6:LLD) : zaW.L2 y0 y1 y2 y3 y4 y5 y6 = bif decide (y1 < (↑y5.length : Int)) then bif decide (0 ≤ y1) && decide (y1 < (↑y5.length : Int)) && decide ((y5.getD y1.toNat []).length = 1) then bif zav [.str] (y5.getD y1.toNat []) 0 && decide (1 ≤ (y5.getD y1.toNat []).length) then bif ((y5.getD y1.toNat []).getD 0 .h).str.toList == y0.toList then some (zaW.q2 y1) else zaW.L2 y0 (IntKind.i64.wrap (y1 + 1)) y2 y3 y4 y5 y6 else none else none else some zaW.x2 := by
 refine (zbg (Y := Y) (c := lim' Y) (fn := 127) (rid := 2) (b := zaw 2 zaW.c) (by kernel_rfl) _).trans ?_
 delta zaW.L2 zaW.q2 zaW.x2 XX
 generalize lpL (Y.ctx (lim' Y)) 127 = lp
 generalize lim' Y = call
 kernel_rfl
theorem zaW.a2q2 (y0:Int) : zaW.A2 (zaW.q2 y0) = some ⟨[.v (.int .i64 y0)], []⟩ := by
 delta zaW.A2 zaW.q2 XX
 generalize lpL (Y.ctx (lim' Y)) 127 = lp
 generalize lim' Y = call
 kernel_rfl
theorem zaW.a2x2 : zaW.A2 zaW.x2 = some ⟨[.v (.int .i64 (-1))], []⟩ := by
 delta zaW.A2 zaW.x2 XX
 generalize lpL (Y.ctx (lim' Y)) 127 = lp
 generalize lim' Y = call
 kernel_rfl
noncomputable def zaN.L3 (y0:LLD) (y1:Int) (y2:Bool) (y3:Int) (y4:BAy) (y5 y6 y7:LLD) : Option (Ex × St) := lpL XX 128 (zaw 3 zaN.c) (mkG 0 43 [(0, .one (.s y0)), (3, .one (.p true 3 [] 0)), (5, .one (.r 5 [] 0)), (6, .one (.v (.int .i64 y1)))] [(3, some ⟨.box, [.v (.bool y2), .v (.int .i64 y3), .v (.string y4), .s y5, .s y6], [.deep, .deep, .deep, .sh, .sh]⟩), (5, some ⟨.virt, [.s y7], [.deep]⟩)] GL)
noncomputable def zaN.A3 : Ex × St → Option Res := fun r => evA XX 128 (lpL XX 128) 3 zaN.c r.fst r.snd (outE XX 128 Tryz.f128)
noncomputable def zaN.x3 (y0:LLD) : Ex × St := (Ex.exit 0, mkG 0 43 [(5, .one (.r 5 [] 0))] [(5, some ⟨.virt, [.s y0], [.deep]⟩)] GL)
theorem zaN.e (a0:LLD) (a1:Bool) (a2:Int) (a3:BAy) (a4 a5:LLD) : zaN [.one (.s a0), .g [.v (.bool a1), .v (.int .i64 a2), .v (.string a3), .s a4, .s a5]] [] = bif zaA 1 a0 && zaE false a0 && true && decide ((0 + a0.length) * 17 ≤ 70368744177664) then (zdy [.g [.v (.bool a1), .v (.int .i64 a2), .v (.string a3), .s a4, .s a5]] []).bind fun val => bif zag [.int .i64] val.1 && true then (zaN.L3 a0 0 a1 a2 a3 a4 a5 [[.s a0, .v (.bool a1), .v (.int .i64 a2), .v (.string a3), .v (.int .i64 (val.1.getD 0 .d).int)]]).bind zaN.A3 else none else none := by
 refine (zaN.run _ _ (by kernel_rfl)).trans ?_
 delta zaN zdy zaN.L3 zaN.A3 XX
 generalize lpL (Y.ctx (lim' Y)) 128 = lp
 generalize lim' Y = call
 kernel_rfl
theorem zaN.s3 (y0:LLD) (y1:Int) (y2:Bool) (y3:Int) (y4:BAy) (y5 y6 y7:LLD) : zaN.L3 y0 y1 y2 y3 y4 y5 y6 y7 = bif decide (y1 < (↑y5.length : Int)) then bif decide (0 ≤ y1) && decide (y1 < (↑y5.length : Int)) && decide ((y5.getD y1.toNat []).length = 1) then bif zav [.str] (y5.getD y1.toNat []) 0 && decide (1 ≤ (y5.getD y1.toNat []).length) then (zcJ [.one (.s y0), .one (.v (.string ((y5.getD y1.toNat []).getD 0 .h).str))] []).bind fun val => bif zag [.sh] val.1 && true then bif decide (0 ≤ y1) && decide (y1 < (↑y6.length : Int)) && decide ((y6.getD y1.toNat []).length = 5) then bif zav [.bool, .int .i64, .str, .sl, .sl] (y6.getD y1.toNat []) 0 && decide (5 ≤ (y6.getD y1.toNat []).length) then (zaN [.one (.s (val.1.getD 0 .d).es), .g [.v (.bool ((y6.getD y1.toNat []).getD 0 .h).bool), .v (.int .i64 ((y6.getD y1.toNat []).getD 1 .h).int), .v (.string ((y6.getD y1.toNat []).getD 2 .h).str), .s ((y6.getD y1.toNat []).getD 3 .h).es, .s ((y6.getD y1.toNat []).getD 4 .h).es]] []).bind fun val => bif zag [.own .deep] val.1 && true then bif zaA 5 y7 && zaA 5 (val.1.getD 0 .d).es && zaE true (val.1.getD 0 .d).es && true && decide ((y7.length + (val.1.getD 0 .d).es.length) * 65 ≤ 70368744177664) then zaN.L3 y0 (IntKind.i64.wrap (y1 + 1)) y2 y3 y4 y5 y6 (y7 ++ (val.1.getD 0 .d).es) else none else none else none else none else none else none else none else some (zaN.x3 y7) := by
 refine (zbg (Y := Y) (c := lim' Y) (fn := 128) (rid := 3) (b := zaw 3 zaN.c) (by kernel_rfl) _).trans ?_
 delta zaN.L3 zcJ zaN zaN.x3 XX
 generalize lpL (Y.ctx (lim' Y)) 128 = lp
 generalize lim' Y = call
 kernel_rfl
theorem zaN.a3x3 (y0:LLD) : zaN.A3 (zaN.x3 y0) = some ⟨[.o .deep y0], []⟩ := by
 delta zaN.A3 zaN.x3 XX
 generalize lpL (Y.ctx (lim' Y)) 128 = lp
 generalize lim' Y = call
 kernel_rfl
noncomputable def zaU.P3 (y0:Int) (y1 y2:Bool) (y3:Int) (y4:BAy) (y5 y6:LLD) : Option Res := evB XX 129 (lpL XX 129) 3 zaU.c (mkG 1 29 [(0, .one (.p true 0 [] 0)), (5, .one (.v (.int .i64 y0))), (22, .one (.v (.bool y1)))] [(0, some ⟨.ro, [.v (.bool y2), .v (.int .i64 y3), .v (.string y4), .s y5, .s y6], [.sh, .sh, .sh, .sh, .sh]⟩)] GL) (outE XX 129 Tryz.f129)
noncomputable def zaU.P4 (y0:Int) (y1:Bool) (y2:Int) (y3:BAy) (y4 y5:LLD) : Option Res := evB XX 129 (lpL XX 129) 4 zaU.c (mkG 1 29 [(0, .one (.p true 0 [] 0)), (5, .one (.v (.int .i64 y0)))] [(0, some ⟨.ro, [.v (.bool y1), .v (.int .i64 y2), .v (.string y3), .s y4, .s y5], [.sh, .sh, .sh, .sh, .sh]⟩)] GL) (outE XX 129 Tryz.f129)
theorem zaU.e (a0:Bool) (a1:Int) (a2:BAy) (a3 a4:LLD) (a5:BAy) : zaU [.one (.p true 0 [] 0), .one (.v (.string a5))] [⟨.ro, [.v (.bool a0), .v (.int .i64 a1), .v (.string a2), .s a3, .s a4], [.sh, .sh, .sh, .sh, .sh]⟩] = (zaf [.one (.s a3), .one (.v (.string a5))] []).bind fun val => bif zag [.int .i64] val.1 && true then bif decide ((val.1.getD 0 .d).int < 0) then zaU.P3 (val.1.getD 0 .d).int true a0 a1 a2 a3 a4 else zaU.P3 (val.1.getD 0 .d).int (decide ((val.1.getD 0 .d).int ≥ (↑a4.length : Int))) a0 a1 a2 a3 a4 else none := by
 refine (zaU.run _ _ (by kernel_rfl)).trans ?_
 delta zaU zaf zaU.P3 XX
 refine zbq [3, 4] (by kernel_rfl) fun J e1 => ?_
 try simp only [← e1]
 clear e1
 generalize lpL (Y.ctx (lim' Y)) 129 = lp
 generalize lim' Y = call
 kernel_rfl
theorem zaU.p3 (y0:Int) (y1 y2:Bool) (y3:Int) (y4:BAy) (y5 y6:LLD) : zaU.P3 y0 y1 y2 y3 y4 y5 y6 = bif y1 then some ⟨[.p false 0 [] 0], [⟨.ro, [.v (.bool y2), .v (.int .i64 y3), .v (.string y4), .s y5, .s y6], [.sh, .sh, .sh, .sh, .sh]⟩]⟩ else zaU.P4 y0 y2 y3 y4 y5 y6 := by
 delta zaU.P3 zaU.P4 XX
 refine zbf [3, 4] 3 (by kernel_rfl) fun J e1 => ?_
 try simp only [← e1]
 clear e1
 generalize lpL (Y.ctx (lim' Y)) 129 = lp
 generalize lim' Y = call
 kernel_rfl
theorem zaU.p4 (y0:Int) (y1:Bool) (y2:Int) (y3:BAy) (y4 y5:LLD) : zaU.P4 y0 y1 y2 y3 y4 y5 = bif decide (0 ≤ y0) && decide (y0 < (↑y5.length : Int)) && decide ((y5.getD y0.toNat []).length = 5) then some ⟨[.p true 0 [(4, y0.toNat)] 0], [⟨.ro, [.v (.bool y1), .v (.int .i64 y2), .v (.string y3), .s y4, .s y5], [.sh, .sh, .sh, .sh, .sh]⟩]⟩ else none := by
 delta zaU.P4 XX
 refine zbf [3, 4] 4 (by kernel_rfl) fun J e1 => ?_
 try simp only [← e1]
 clear e1
 generalize lpL (Y.ctx (lim' Y)) 129 = lp
 generalize lim' Y = call
 kernel_rfl
noncomputable def zac.L3 (y0:LLD) (y1:BAy) (y2 y3 y4:Int) : Option (Ex × St) := lpL XX 130 (zaw 3 zac.c) (mkG 0 54 [(0, .one (.s y0)), (1, .one (.v (.string y1))), (6, .one (.v (.int .i64 y2))), (7, .one (.v (.int .i64 y3))), (8, .one (.v (.int .i64 y4)))] [] GL)
noncomputable def zac.A3 : Ex × St → Option Res := fun r => evA XX 130 (lpL XX 130) 3 zac.c r.fst r.snd (outE XX 130 Tryz.f130)
noncomputable def zac.x3 (y0:LLD) (y1:BAy) (y2 y3:Int) : Ex × St := (Ex.exit 0, mkG 0 54 [(0, .one (.s y0)), (1, .one (.v (.string y1))), (6, .one (.v (.int .i64 y2))), (7, .one (.v (.int .i64 y3)))] [] GL)
theorem zac.e (a0:LLD) (a1:BAy) : zac [.one (.s a0), .one (.v (.string a1))] [] = (zac.L3 a0 a1 (↑a0.length : Int) 0 (↑a0.length : Int)).bind zac.A3 := by
 refine (zac.run _ _ (by kernel_rfl)).trans ?_
 delta zac zac.L3 zac.A3 XX
 generalize lpL (Y.ctx (lim' Y)) 130 = lp
 generalize lim' Y = call
 kernel_rfl
theorem zac.s3 (y0:LLD) (y1:BAy) (y2 y3 y4:Int) : zac.L3 y0 y1 y2 y3 y4 = bif decide (y3 < y4) then bif decide (0 ≤ IntKind.i64.wrap ((IntKind.u64.wrap (IntKind.i64.wrap (y3 + y4))).fdiv (2 ^ min (Int.toNat 1) IntKind.u64.bits))) && decide (IntKind.i64.wrap ((IntKind.u64.wrap (IntKind.i64.wrap (y3 + y4))).fdiv (2 ^ min (Int.toNat 1) IntKind.u64.bits)) < (↑y0.length : Int)) && decide ((y0.getD (IntKind.i64.wrap ((IntKind.u64.wrap (IntKind.i64.wrap (y3 + y4))).fdiv (2 ^ min (Int.toNat 1) IntKind.u64.bits))).toNat []).length = 1) then bif zav [.str] (y0.getD (IntKind.i64.wrap ((IntKind.u64.wrap (IntKind.i64.wrap (y3 + y4))).fdiv (2 ^ min (Int.toNat 1) IntKind.u64.bits))).toNat []) 0 && decide (1 ≤ (y0.getD (IntKind.i64.wrap ((IntKind.u64.wrap (IntKind.i64.wrap (y3 + y4))).fdiv (2 ^ min (Int.toNat 1) IntKind.u64.bits))).toNat []).length) then (za6 [.one (.v (.string ((y0.getD (IntKind.i64.wrap ((IntKind.u64.wrap (IntKind.i64.wrap (y3 + y4))).fdiv (2 ^ min (Int.toNat 1) IntKind.u64.bits))).toNat []).getD 0 .h).str)), .one (.v (.string y1))] []).bind fun val => bif zag [.bool] val.1 && true then bif (val.1.getD 0 .d).bool then zac.L3 y0 y1 y2 (IntKind.i64.wrap (IntKind.i64.wrap ((IntKind.u64.wrap (IntKind.i64.wrap (y3 + y4))).fdiv (2 ^ min (Int.toNat 1) IntKind.u64.bits)) + 1)) y4 else zac.L3 y0 y1 y2 y3 (IntKind.i64.wrap ((IntKind.u64.wrap (IntKind.i64.wrap (y3 + y4))).fdiv (2 ^ min (Int.toNat 1) IntKind.u64.bits))) else none else none else none else some (zac.x3 y0 y1 y2 y3) := by
 refine (zbg (Y := Y) (c := lim' Y) (fn := 130) (rid := 3) (b := zaw 3 zac.c) (by kernel_rfl) _).trans ?_
 delta zac.L3 za6 zac.x3 XX
 generalize lpL (Y.ctx (lim' Y)) 130 = lp
 generalize lim' Y = call
 kernel_rfl
theorem zac.a3x3 (y0:LLD) (y1:BAy) (y2 y3:Int) : zac.A3 (zac.x3 y0 y1 y2 y3) = bif decide (y3 < y2) then bif decide (0 ≤ y3) && decide (y3 < (↑y0.length : Int)) && decide ((y0.getD y3.toNat []).length = 1) then bif zav [.str] (y0.getD y3.toNat []) 0 && decide (1 ≤ (y0.getD y3.toNat []).length) then bif ((y0.getD y3.toNat []).getD 0 .h).str.toList == y1.toList then some ⟨[.v (.int .i64 y3), .v (.bool true)], []⟩ else bif decide (0 ≤ y3) && decide (y3 < (↑y0.length : Int)) && decide ((y0.getD y3.toNat []).length = 1) then bif zav [.str] (y0.getD y3.toNat []) 0 && decide (1 ≤ (y0.getD y3.toNat []).length) then (zaJ [.one (.v (.string ((y0.getD y3.toNat []).getD 0 .h).str))] []).bind fun val => bif zag [.bool] val.1 && true then bif (val.1.getD 0 .d).bool then (zaJ [.one (.v (.string y1))] []).bind fun val => bif zag [.bool] val.1 && true then some ⟨[.v (.int .i64 y3), .v (.bool (val.1.getD 0 .d).bool)], []⟩ else none else some ⟨[.v (.int .i64 y3), .v (.bool false)], []⟩ else none else none else none else none else none else some ⟨[.v (.int .i64 y3), .v (.bool false)], []⟩ := by
 delta zac.A3 zac.x3 zaJ XX
 generalize lpL (Y.ctx (lim' Y)) 130 = lp
 generalize lim' Y = call
 kernel_rfl
noncomputable def zai.P2 (y0:Int) (y1 y2:Bool) (y3:Int) (y4:BAy) (y5 y6:LLD) : Option Res := evB XX 133 (lpL XX 133) 2 zai.c (mkG 0 77 [(1, .one (.v (.int .i64 y0))), (2, .one (.p true 2 [] 0)), (23, .one (.v (.bool y1)))] [(2, some ⟨.box, [.v (.bool y2), .v (.int .i64 y3), .v (.string y4), .s y5, .s y6], [.deep, .deep, .deep, .sh, .sh]⟩)] GL) (outE XX 133 Tryz.f133)
noncomputable def zai.P3 (y0:Int) (y1:Bool) (y2:Int) (y3:BAy) (y4 y5:LLD) : Option Res := evB XX 133 (lpL XX 133) 3 zai.c (mkG 0 77 [(1, .one (.v (.int .i64 y0))), (2, .one (.p true 2 [] 0))] [(2, some ⟨.box, [.v (.bool y1), .v (.int .i64 y2), .v (.string y3), .s y4, .s y5], [.deep, .deep, .deep, .sh, .sh]⟩)] GL) (outE XX 133 Tryz.f133)
noncomputable def zai.L8 (y0:Int) (y1:LLD) (y2 y3:Int) (y4:Bool) (y5:Int) (y6:BAy) (y7 y8:LLD) : Option (Ex × St) := lpL XX 133 (zaw 8 zai.c) (mkG 0 77 [(1, .one (.v (.int .i64 y0))), (2, .one (.p true 2 [] 0)), (41, .one (.s y1)), (42, .one (.v (.int .i64 y2))), (43, .one (.v (.int .i64 y3)))] [(2, some ⟨.box, [.v (.bool y4), .v (.int .i64 y5), .v (.string y6), .s y7, .s y8], [.deep, .deep, .deep, .sh, .sh]⟩)] GL)
noncomputable def zai.A8 : Ex × St → Option Res := fun r => evA XX 133 (lpL XX 133) 8 zai.c r.fst r.snd (outE XX 133 Tryz.f133)
noncomputable def zai.P11 (y0:Int) (y1:LLD) (y2 y3:Int) (y4 y5:Bool) (y6:Int) (y7:BAy) (y8 y9:LLD) : Option (Ex × St) := evB XX 133 (lpL XX 133) 11 (zaw 8 zai.c) (mkG 0 77 [(1, .one (.v (.int .i64 y0))), (2, .one (.p true 2 [] 0)), (41, .one (.s y1)), (42, .one (.v (.int .i64 y2))), (43, .one (.v (.int .i64 y3))), (75, .one (.v (.bool y4)))] [(2, some ⟨.box, [.v (.bool y5), .v (.int .i64 y6), .v (.string y7), .s y8, .s y9], [.deep, .deep, .deep, .sh, .sh]⟩)] GL) (backL (lpL XX 133) (zaw 8 zai.c) (XX.live 133 8))
noncomputable def zai.x8 : Ex × St := (Ex.exit 0, mkG 0 77 [] [] GL)
noncomputable def zai.q8 (y0:Bool) : Ex × St := (Ex.ret, mkG 0 77 [(4, .one (.v (.bool y0)))] [] GL)
theorem zai.e (a0:Bool) (a1:Int) (a2:BAy) (a3 a4:LLD) (a5:Int) : zai [.g [.v (.bool a0), .v (.int .i64 a1), .v (.string a2), .s a3, .s a4], .one (.v (.int .i64 a5))] [] = (zcI [.one (.v (.int .i64 a1))] []).bind fun val => bif zag [.bool] val.1 && true then bif !(val.1.getD 0 .d).bool then zai.P2 a5 true a0 a1 a2 a3 a4 else bif decide (a5 > 4) then zai.P2 a5 true a0 a1 a2 a3 a4 else zai.P2 a5 ((↑a3.length : Int) != (↑a4.length : Int)) a0 a1 a2 a3 a4 else none := by
 refine (zai.run _ _ (by kernel_rfl)).trans ?_
 delta zai zcI zai.P2 XX
 refine zbq [2, 3] (by kernel_rfl) fun J e1 => ?_
 try simp only [← e1]
 clear e1
 generalize lpL (Y.ctx (lim' Y)) 133 = lp
 generalize lim' Y = call
 kernel_rfl
theorem zai.p2 (y0:Int) (y1 y2:Bool) (y3:Int) (y4:BAy) (y5 y6:LLD) : zai.P2 y0 y1 y2 y3 y4 y5 y6 = bif y1 then some ⟨[.v (.bool false)], []⟩ else zai.P3 y0 y2 y3 y4 y5 y6 := by
 delta zai.P2 zai.P3 XX
 refine zbf [2, 3] 2 (by kernel_rfl) fun J e1 => ?_
 try simp only [← e1]
 clear e1
 generalize lpL (Y.ctx (lim' Y)) 133 = lp
 generalize lim' Y = call
 kernel_rfl
theorem zai.p3 (y0:Int) (y1:Bool) (y2:Int) (y3:BAy) (y4 y5:LLD) : zai.P3 y0 y1 y2 y3 y4 y5 = bif !y1 then bif decide ((↑y3.size : Int) ≤ 24) then some ⟨[.v (.bool ((↑y4.length : Int) == 0))], []⟩ else some ⟨[.v (.bool false)], []⟩ else bif !y3.toList == [] then some ⟨[.v (.bool false)], []⟩ else (zai.L8 y0 y4 (↑y4.length : Int) 0 y1 y2 y3 y4 y5).bind zai.A8 := by
 delta zai.P3 zai.L8 zai.A8 XX
 refine zbf [2, 3] 3 (by kernel_rfl) fun J e1 => ?_
 have eA := evA_J [2, 3] 8 (by kernel_rfl) e1
 try simp only [eA]
 clear eA
 try simp only [← e1]
 clear e1
 show _ = _
 generalize lpL (Y.ctx (lim' Y)) 133 = lp
 generalize lim' Y = call
 kernel_rfl
theorem zai.s8 (y0:Int) (y1:LLD) (y2 y3:Int) (y4:Bool) (y5:Int) (y6:BAy) (y7 y8:LLD) : zai.L8 y0 y1 y2 y3 y4 y5 y6 y7 y8 = bif decide (y3 < y2) then bif decide (0 ≤ y3) && decide (y3 < (↑y1.length : Int)) && decide ((y1.getD y3.toNat []).length = 1) then bif zav [.str] (y1.getD y3.toNat []) 0 && decide (1 ≤ (y1.getD y3.toNat []).length) then (zaG [.one (.v (.string ((y1.getD y3.toNat []).getD 0 .h).str))] []).bind fun val => bif zag [.bool] val.1 && true then bif !(val.1.getD 0 .d).bool then zai.P11 y0 y1 y2 y3 true y4 y5 y6 y7 y8 else bif decide (y3 > 0) then bif decide (0 ≤ IntKind.i64.wrap (y3 - 1)) && decide (IntKind.i64.wrap (y3 - 1) < (↑y7.length : Int)) && decide ((y7.getD (IntKind.i64.wrap (y3 - 1)).toNat []).length = 1) then bif zav [.str] (y7.getD (IntKind.i64.wrap (y3 - 1)).toNat []) 0 && decide (1 ≤ (y7.getD (IntKind.i64.wrap (y3 - 1)).toNat []).length) then bif !Op.bytesLess ((y7.getD (IntKind.i64.wrap (y3 - 1)).toNat []).getD 0 .h).str.toList ((y1.getD y3.toNat []).getD 0 .h).str.toList then zai.P11 y0 y1 y2 y3 true y4 y5 y6 y7 y8 else bif decide (0 ≤ y3) && decide (y3 < (↑y8.length : Int)) && decide ((y8.getD y3.toNat []).length = 5) then bif zav [.bool, .int .i64, .str, .sl, .sl] (y8.getD y3.toNat []) 0 && decide (5 ≤ (y8.getD y3.toNat []).length) then (zai [.g [.v (.bool ((y8.getD y3.toNat []).getD 0 .h).bool), .v (.int .i64 ((y8.getD y3.toNat []).getD 1 .h).int), .v (.string ((y8.getD y3.toNat []).getD 2 .h).str), .s ((y8.getD y3.toNat []).getD 3 .h).es, .s ((y8.getD y3.toNat []).getD 4 .h).es], .one (.v (.int .i64 (IntKind.i64.wrap (y0 + 1))))] []).bind fun val => bif zag [.bool] val.1 && true then zai.P11 y0 y1 y2 y3 (!(val.1.getD 0 .d).bool) y4 y5 y6 y7 y8 else none else none else none else none else none else bif decide (0 ≤ y3) && decide (y3 < (↑y8.length : Int)) && decide ((y8.getD y3.toNat []).length = 5) then bif zav [.bool, .int .i64, .str, .sl, .sl] (y8.getD y3.toNat []) 0 && decide (5 ≤ (y8.getD y3.toNat []).length) then (zai [.g [.v (.bool ((y8.getD y3.toNat []).getD 0 .h).bool), .v (.int .i64 ((y8.getD y3.toNat []).getD 1 .h).int), .v (.string ((y8.getD y3.toNat []).getD 2 .h).str), .s ((y8.getD y3.toNat []).getD 3 .h).es, .s ((y8.getD y3.toNat []).getD 4 .h).es], .one (.v (.int .i64 (IntKind.i64.wrap (y0 + 1))))] []).bind fun val => bif zag [.bool] val.1 && true then zai.P11 y0 y1 y2 y3 (!(val.1.getD 0 .d).bool) y4 y5 y6 y7 y8 else none else none else none else none else none else none else some zai.x8 := by
 refine (zbg (Y := Y) (c := lim' Y) (fn := 133) (rid := 8) (b := zaw 8 zai.c) (by kernel_rfl) _).trans ?_
 delta zai.L8 zaG zai.P11 zai zai.x8 XX
 refine zbq [11] (by kernel_rfl) fun J e1 => ?_
 try simp only [← e1]
 clear e1
 generalize lpL (Y.ctx (lim' Y)) 133 = lp
 generalize lim' Y = call
 kernel_rfl
theorem zai.p11 (y0:Int) (y1:LLD) (y2 y3:Int) (y4 y5:Bool) (y6:Int) (y7:BAy) (y8 y9:LLD) : zai.P11 y0 y1 y2 y3 y4 y5 y6 y7 y8 y9 = bif y4 then some (zai.q8 false) else zai.L8 y0 y1 y2 (IntKind.i64.wrap (y3 + 1)) y5 y6 y7 y8 y9 := by
 delta zai.P11 zai.q8 zai.L8 XX
 refine zbf [11] 11 (by kernel_rfl) fun J e1 => ?_
 try simp only [← e1]
 clear e1
 generalize lpL (Y.ctx (lim' Y)) 133 = lp
 generalize lim' Y = call
 kernel_rfl
theorem zai.a8x8 : zai.A8 zai.x8 = some ⟨[.v (.bool true)], []⟩ := by
 delta zai.A8 zai.x8 XX
 refine za8 [2, 3] 8 (by kernel_rfl) fun J e1 => ?_
 have eA := evA_J [2, 3] 8 (by kernel_rfl) e1
 try simp only [eA]
 clear eA
 try simp only [← e1]
 clear e1
 show _ = _
 generalize lpL (Y.ctx (lim' Y)) 133 = lp
 generalize lim' Y = call
 kernel_rfl
theorem zai.a8q8 (y0:Bool) : zai.A8 (zai.q8 y0) = some ⟨[.v (.bool y0)], []⟩ := by
 delta zai.A8 zai.q8 XX
 refine za8 [2, 3] 8 (by kernel_rfl) fun J e1 => ?_
 have eA := evA_J [2, 3] 8 (by kernel_rfl) e1
 try simp only [eA]
 clear eA
 try simp only [← e1]
 clear e1
 show _ = _
 generalize lpL (Y.ctx (lim' Y)) 133 = lp
 generalize lim' Y = call
 kernel_rfl
noncomputable def zat.L3 (y0:Int) (y1:LLD) (y2 y3:Int) : Option (Ex × St) := lpL XX 134 (zaw 3 zat.c) (mkG 0 19 [(3, .one (.v (.int .i64 y0))), (7, .one (.s y1)), (8, .one (.v (.int .i64 y2))), (9, .one (.v (.int .i64 y3)))] [] GL)
noncomputable def zat.A3 : Ex × St → Option Res := fun r => evA XX 134 (lpL XX 134) 3 zat.c r.fst r.snd (outE XX 134 Tryz.f134)
noncomputable def zat.x3 (y0:Int) : Ex × St := (Ex.exit 0, mkG 0 19 [(3, .one (.v (.int .i64 y0)))] [] GL)
theorem zat.e (a0:Bool) (a1:Int) (a2:BAy) (a3 a4:LLD) : zat [.g [.v (.bool a0), .v (.int .i64 a1), .v (.string a2), .s a3, .s a4]] [] = (zat.L3 1 a4 (↑a4.length : Int) 0).bind zat.A3 := by
 refine (zat.run _ _ (by kernel_rfl)).trans ?_
 delta zat zat.L3 zat.A3 XX
 generalize lpL (Y.ctx (lim' Y)) 134 = lp
 generalize lim' Y = call
 kernel_rfl
theorem zat.s3 (y0:Int) (y1:LLD) (y2 y3:Int) : zat.L3 y0 y1 y2 y3 = bif decide (y3 < y2) then bif decide (0 ≤ y3) && decide (y3 < (↑y1.length : Int)) && decide ((y1.getD y3.toNat []).length = 5) then bif zav [.bool, .int .i64, .str, .sl, .sl] (y1.getD y3.toNat []) 0 && decide (5 ≤ (y1.getD y3.toNat []).length) then (zat [.g [.v (.bool ((y1.getD y3.toNat []).getD 0 .h).bool), .v (.int .i64 ((y1.getD y3.toNat []).getD 1 .h).int), .v (.string ((y1.getD y3.toNat []).getD 2 .h).str), .s ((y1.getD y3.toNat []).getD 3 .h).es, .s ((y1.getD y3.toNat []).getD 4 .h).es]] []).bind fun val => bif zag [.int .i64] val.1 && true then zat.L3 (IntKind.i64.wrap (y0 + (val.1.getD 0 .d).int)) y1 y2 (IntKind.i64.wrap (y3 + 1)) else none else none else none else some (zat.x3 y0) := by
 refine (zbg (Y := Y) (c := lim' Y) (fn := 134) (rid := 3) (b := zaw 3 zat.c) (by kernel_rfl) _).trans ?_
 delta zat.L3 zat zat.x3 XX
 generalize lpL (Y.ctx (lim' Y)) 134 = lp
 generalize lim' Y = call
 kernel_rfl
theorem zat.a3x3 (y0:Int) : zat.A3 (zat.x3 y0) = some ⟨[.v (.int .i64 y0)], []⟩ := by
 delta zat.A3 zat.x3 XX
 generalize lpL (Y.ctx (lim' Y)) 134 = lp
 generalize lim' Y = call
 kernel_rfl
noncomputable def iTree_each_show.L3 (y0 y1:LLD) (y2 y3:Int) (y4:BAy) (y5:Bool) (y6:Int) (y7:BAy) (y8 y9:LLD) : Option (Ex × St) := lpL XX 135 (zaw 3 zaP.c) (mkG 1 31 [(1, .one (.s y0)), (2, .f zaM.id [.bx [A0.p true 0 [] 0] 0]), (3, .one (.p true 4 [] 0)), (13, .one (.s y1)), (14, .one (.v (.int .i64 y2))), (15, .one (.v (.int .i64 y3)))] [(0, some ⟨.bld 170 5, [.v (.string y4), .h], [.deep, .deep]⟩), (4, some ⟨.box, [.v (.bool y5), .v (.int .i64 y6), .v (.string y7), .s y8, .s y9], [.deep, .deep, .deep, .sh, .sh]⟩)] GL)
noncomputable def iTree_each_show.A3 : Ex × St → Option Res := fun r => evA XX 135 (lpL XX 135) 3 zaP.c r.fst r.snd (outE XX 135 Tryz.f135)
noncomputable def iTree_each_show.x3 (y0:BAy) : Ex × St := (Ex.exit 0, mkG 1 31 [] [(0, some ⟨.bld 170 5, [.v (.string y0), .h], [.deep, .deep]⟩)] GL)
theorem iTree_each_show.e (a0:Bool) (a1:Int) (a2:BAy) (a3 a4 a5:LLD) (b:BAy) : zaP [.g [.v (.bool a0), .v (.int .i64 a1), .v (.string a2), .s a3, .s a4], .one (.s a5), .f zaM.id [.bx [A0.p true 0 [] 0] 0]] [⟨.bld 170 5, [.v (.string b), .h], [.deep, .deep]⟩] = (zaM [.one (.s a5), .g [.v (.bool a0), .v (.int .i64 a1), .v (.string a2), .s a3, .s a4], .one (.bx [A0.p true 0 [] 0] 0)] [⟨.bld 170 5, [.v (.string b), .h], [.deep, .deep]⟩]).bind fun val => bif zag [] val.1 && za7 [⟨⟨.bld 170 5, [.v (.string b), .h], [.deep, .deep]⟩, .box 0⟩] val.2 then (iTree_each_show.L3 a5 a3 (↑a3.length : Int) 0 ((val.2.getD 0 ⟨.ro, [], []⟩).2.getD 0 .h).str a0 a1 a2 a3 a4).bind iTree_each_show.A3 else none := by
 refine (zaP.run _ _ (by kernel_rfl)).trans ?_
 delta zaP zaM iTree_each_show.L3 iTree_each_show.A3 zaM.id XX
 generalize lpL (Y.ctx (lim' Y)) 135 = lp
 generalize lim' Y = call
 kernel_rfl
theorem iTree_each_show.s3 (y0 y1:LLD) (y2 y3:Int) (y4:BAy) (y5:Bool) (y6:Int) (y7:BAy) (y8 y9:LLD) : iTree_each_show.L3 y0 y1 y2 y3 y4 y5 y6 y7 y8 y9 = bif decide (y3 < y2) then bif decide (0 ≤ y3) && decide (y3 < (↑y1.length : Int)) && decide ((y1.getD y3.toNat []).length = 1) then bif zav [.str] (y1.getD y3.toNat []) 0 && decide (1 ≤ (y1.getD y3.toNat []).length) then bif decide (0 ≤ y3) && decide (y3 < (↑y9.length : Int)) && decide ((y9.getD y3.toNat []).length = 5) then bif zav [.bool, .int .i64, .str, .sl, .sl] (y9.getD y3.toNat []) 0 && decide (5 ≤ (y9.getD y3.toNat []).length) then (zc7 [.one (.s y0), .one (.v (.string ((y1.getD y3.toNat []).getD 0 .h).str))] []).bind fun val => bif zag [.own .deep] val.1 && true then (zaP [.g [.v (.bool ((y9.getD y3.toNat []).getD 0 .h).bool), .v (.int .i64 ((y9.getD y3.toNat []).getD 1 .h).int), .v (.string ((y9.getD y3.toNat []).getD 2 .h).str), .s ((y9.getD y3.toNat []).getD 3 .h).es, .s ((y9.getD y3.toNat []).getD 4 .h).es], .one (.s (val.1.getD 0 .d).es), .f zaM.id [.bx [A0.p true 0 [] 0] 0]] [⟨.bld 170 5, [.v (.string y4), .h], [.deep, .deep]⟩]).bind fun val => bif zag [] val.1 && za7 [⟨⟨.bld 170 5, [.v (.string y4), .h], [.deep, .deep]⟩, .box 0⟩] val.2 then iTree_each_show.L3 y0 y1 y2 (IntKind.i64.wrap (y3 + 1)) ((val.2.getD 0 ⟨.ro, [], []⟩).2.getD 0 .h).str y5 y6 y7 y8 y9 else none else none else none else none else none else none else some (iTree_each_show.x3 y4) := by
 refine (zbg (Y := Y) (c := lim' Y) (fn := 135) (rid := 3) (b := zaw 3 zaP.c) (by kernel_rfl) _).trans ?_
 delta iTree_each_show.L3 zc7 zaP iTree_each_show.x3 zaM.id XX
 generalize lpL (Y.ctx (lim' Y)) 135 = lp
 generalize lim' Y = call
 kernel_rfl
theorem iTree_each_show.a3x3 (y0:BAy) : iTree_each_show.A3 (iTree_each_show.x3 y0) = some ⟨[], [⟨.bld 170 5, [.v (.string y0), .h], [.deep, .deep]⟩]⟩ := by
 delta iTree_each_show.A3 iTree_each_show.x3 XX
 generalize lpL (Y.ctx (lim' Y)) 135 = lp
 generalize lim' Y = call
 kernel_rfl
noncomputable def iTree_each_table.L3 (y0 y1:LLD) (y2 y3:Int) (y4:LLD) (y5:Bool) (y6:Int) (y7:BAy) (y8 y9:LLD) : Option (Ex × St) := lpL XX 135 (zaw 3 zaP.c) (mkG 1 31 [(1, .one (.s y0)), (2, .f zaI.id [.p true 0 [] 0]), (3, .one (.p true 4 [] 0)), (13, .one (.s y1)), (14, .one (.v (.int .i64 y2))), (15, .one (.v (.int .i64 y3)))] [(0, some ⟨.box, [.s y4], [.deep]⟩), (4, some ⟨.box, [.v (.bool y5), .v (.int .i64 y6), .v (.string y7), .s y8, .s y9], [.deep, .deep, .deep, .sh, .sh]⟩)] GL)
noncomputable def iTree_each_table.A3 : Ex × St → Option Res := fun r => evA XX 135 (lpL XX 135) 3 zaP.c r.fst r.snd (outE XX 135 Tryz.f135)
noncomputable def iTree_each_table.x3 (y0:LLD) : Ex × St := (Ex.exit 0, mkG 1 31 [] [(0, some ⟨.box, [.s y0], [.deep]⟩)] GL)
theorem iTree_each_table.e (a0:Bool) (a1:Int) (a2:BAy) (a3 a4 a5 a6:LLD) : zaP [.g [.v (.bool a0), .v (.int .i64 a1), .v (.string a2), .s a3, .s a4], .one (.s a5), .f zaI.id [.p true 0 [] 0]] [⟨.box, [.s a6], [.deep]⟩] = (zaI [.one (.s a5), .g [.v (.bool a0), .v (.int .i64 a1), .v (.string a2), .s a3, .s a4], .one (.p true 0 [] 0)] [⟨.box, [.s a6], [.deep]⟩]).bind fun val => bif zag [] val.1 && za7 [⟨⟨.box, [.s a6], [.deep]⟩, .box 0⟩] val.2 then (iTree_each_table.L3 a5 a3 (↑a3.length : Int) 0 ((val.2.getD 0 ⟨.ro, [], []⟩).2.getD 0 .h).es a0 a1 a2 a3 a4).bind iTree_each_table.A3 else none := by
 refine (zaP.run _ _ (by kernel_rfl)).trans ?_
 delta zaP zaI iTree_each_table.L3 iTree_each_table.A3 zaI.id XX
 generalize lpL (Y.ctx (lim' Y)) 135 = lp
 generalize lim' Y = call
 kernel_rfl
theorem iTree_each_table.s3 (y0 y1:LLD) (y2 y3:Int) (y4:LLD) (y5:Bool) (y6:Int) (y7:BAy) (y8 y9:LLD) : iTree_each_table.L3 y0 y1 y2 y3 y4 y5 y6 y7 y8 y9 = bif decide (y3 < y2) then bif decide (0 ≤ y3) && decide (y3 < (↑y1.length : Int)) && decide ((y1.getD y3.toNat []).length = 1) then bif zav [.str] (y1.getD y3.toNat []) 0 && decide (1 ≤ (y1.getD y3.toNat []).length) then bif decide (0 ≤ y3) && decide (y3 < (↑y9.length : Int)) && decide ((y9.getD y3.toNat []).length = 5) then bif zav [.bool, .int .i64, .str, .sl, .sl] (y9.getD y3.toNat []) 0 && decide (5 ≤ (y9.getD y3.toNat []).length) then (zc7 [.one (.s y0), .one (.v (.string ((y1.getD y3.toNat []).getD 0 .h).str))] []).bind fun val => bif zag [.own .deep] val.1 && true then (zaP [.g [.v (.bool ((y9.getD y3.toNat []).getD 0 .h).bool), .v (.int .i64 ((y9.getD y3.toNat []).getD 1 .h).int), .v (.string ((y9.getD y3.toNat []).getD 2 .h).str), .s ((y9.getD y3.toNat []).getD 3 .h).es, .s ((y9.getD y3.toNat []).getD 4 .h).es], .one (.s (val.1.getD 0 .d).es), .f zaI.id [.p true 0 [] 0]] [⟨.box, [.s y4], [.deep]⟩]).bind fun val => bif zag [] val.1 && za7 [⟨⟨.box, [.s y4], [.deep]⟩, .box 0⟩] val.2 then iTree_each_table.L3 y0 y1 y2 (IntKind.i64.wrap (y3 + 1)) ((val.2.getD 0 ⟨.ro, [], []⟩).2.getD 0 .h).es y5 y6 y7 y8 y9 else none else none else none else none else none else none else some (iTree_each_table.x3 y4) := by
 refine (zbg (Y := Y) (c := lim' Y) (fn := 135) (rid := 3) (b := zaw 3 zaP.c) (by kernel_rfl) _).trans ?_
 delta iTree_each_table.L3 zc7 zaP iTree_each_table.x3 zaI.id XX
 generalize lpL (Y.ctx (lim' Y)) 135 = lp
 generalize lim' Y = call
 kernel_rfl
theorem iTree_each_table.a3x3 (y0:LLD) : iTree_each_table.A3 (iTree_each_table.x3 y0) = some ⟨[], [⟨.box, [.s y0], [.deep]⟩]⟩ := by
 delta iTree_each_table.A3 iTree_each_table.x3 XX
 generalize lpL (Y.ctx (lim' Y)) 135 = lp
 generalize lim' Y = call
 kernel_rfl
theorem zaI.e (a0:LLD) (b0:Bool) (b1:Int) (b2:BAy) (b3 b4 a6:LLD) : zaI [.one (.s a0), .g [.v (.bool b0), .v (.int .i64 b1), .v (.string b2), .s b3, .s b4], .one (.p true 0 [] 0)] [⟨.box, [D.s a6], [.deep]⟩] = bif zaA 1 a0 && zaE false a0 && true && decide ((0 + a0.length) * 17 ≤ 70368744177664) then (zaV [.g [.v (.bool b0), .v (.int .i64 b1), .v (.string b2), .s b3, .s b4]] []).bind fun val => bif zag [.int .i64] val.1 && true then bif zaA 5 a6 && true && true && true && decide ((a6.length + 1) * 65 ≤ 70368744177664) then some ⟨[], [⟨.box, [D.s (a6 ++ [[D.s a0, D.v (.bool b0), D.v (.int .i64 b1), D.v (.string b2), D.v (.int .i64 (val.1.getD 0 .d).int)]])], [.deep]⟩]⟩ else none else none else none := by
 refine (zaI.run _ _ (by kernel_rfl)).trans ?_
 delta zaI zaV XX
 generalize lpL (Y.ctx (lim' Y)) 136 = lp
 generalize lim' Y = call
 kernel_rfl
noncomputable def zaV.L4 (y0:Int) (y1:BAy) (y2 y3:Int) : Option (Ex × St) := lpL XX 137 (zaw 4 zaV.c) (mkG 0 23 [(3, .one (.v (.int .i64 y0))), (4, .one (.v (.string y1))), (9, .one (.v (.int .i64 y2))), (10, .one (.v (.int .i64 y3)))] [] GL)
noncomputable def zaV.A4 : Ex × St → Option Res := fun r => evA XX 137 (lpL XX 137) 4 zaV.c r.fst r.snd (outE XX 137 Tryz.f137)
noncomputable def zaV.x4 (y0:Int) : Ex × St := (Ex.exit 0, mkG 0 23 [(3, .one (.v (.int .i64 y0)))] [] GL)
theorem zaV.e (a0:Bool) (a1:Int) (a2:BAy) (a3 a4:LLD) : zaV [.g [.v (.bool a0), .v (.int .i64 a1), .v (.string a2), .s a3, .s a4]] [] = (zbB [.g [.v (.bool a0), .v (.int .i64 a1), .v (.string a2), .s a3, .s a4]] []).bind fun val => bif zag [.str] val.1 && true then (zaV.L4 7 (val.1.getD 0 .d).str (↑(val.1.getD 0 .d).str.size : Int) 0).bind zaV.A4 else none := by
 refine (zaV.run _ _ (by kernel_rfl)).trans ?_
 delta zaV zbB zaV.L4 zaV.A4 XX
 generalize lpL (Y.ctx (lim' Y)) 137 = lp
 generalize lim' Y = call
 kernel_rfl
theorem zaV.s4 (y0:Int) (y1:BAy) (y2 y3:Int) : zaV.L4 y0 y1 y2 y3 = bif decide (y3 < y2) then bif decide (0 ≤ y3) && decide (y3 < (↑y1.size : Int)) then zaV.L4 ((IntKind.i64.wrap (IntKind.i64.wrap (131 * y0) + IntKind.i64.wrap (za9 y1 y3.toNat))).tmod 1000000007) y1 y2 (IntKind.i64.wrap (y3 + 1)) else none else some (zaV.x4 y0) := by
 refine (zbg (Y := Y) (c := lim' Y) (fn := 137) (rid := 4) (b := zaw 4 zaV.c) (by kernel_rfl) _).trans ?_
 delta zaV.L4 zaV.x4 XX
 generalize lpL (Y.ctx (lim' Y)) 137 = lp
 generalize lim' Y = call
 kernel_rfl
theorem zaV.a4x4 (y0:Int) : zaV.A4 (zaV.x4 y0) = some ⟨[.v (.int .i64 y0)], []⟩ := by
 delta zaV.A4 zaV.x4 XX
 generalize lpL (Y.ctx (lim' Y)) 137 = lp
 generalize lim' Y = call
 kernel_rfl
noncomputable def zaq.P2 (y0:Int) (y1 y2:Bool) (y3:Int) (y4:BAy) (y5 y6:LLD) : Option Res := evB XX 138 (lpL XX 138) 2 zaq.c (mkG 0 29 [(1, .one (.v (.int .i64 y0))), (2, .one (.p true 2 [] 0)), (12, .one (.v (.bool y1)))] [(2, some ⟨.box, [.v (.bool y2), .v (.int .i64 y3), .v (.string y4), .s y5, .s y6], [.deep, .deep, .deep, .sh, .sh]⟩)] GL) (outE XX 138 Tryz.f138)
noncomputable def zaq.P3 (y0:Int) (y1:Bool) (y2:Int) (y3:BAy) (y4 y5:LLD) : Option Res := evB XX 138 (lpL XX 138) 3 zaq.c (mkG 0 29 [(1, .one (.v (.int .i64 y0))), (2, .one (.p true 2 [] 0))] [(2, some ⟨.box, [.v (.bool y1), .v (.int .i64 y2), .v (.string y3), .s y4, .s y5], [.deep, .deep, .deep, .sh, .sh]⟩)] GL) (outE XX 138 Tryz.f138)
noncomputable def zaq.L4 (y0 y1:Int) (y2:Bool) (y3:Int) (y4:BAy) (y5 y6:LLD) : Option (Ex × St) := lpL XX 138 (zaw 4 zaq.c) (mkG 0 29 [(1, .one (.v (.int .i64 y0))), (2, .one (.p true 2 [] 0)), (5, .one (.v (.int .i64 y1)))] [(2, some ⟨.box, [.v (.bool y2), .v (.int .i64 y3), .v (.string y4), .s y5, .s y6], [.deep, .deep, .deep, .sh, .sh]⟩)] GL)
noncomputable def zaq.A4 : Ex × St → Option Res := fun r => evA XX 138 (lpL XX 138) 4 zaq.c r.fst r.snd (outE XX 138 Tryz.f138)
noncomputable def zaq.q4 (y0:Bool) : Ex × St := (Ex.ret, mkG 0 29 [(4, .one (.v (.bool y0)))] [] GL)
noncomputable def zaq.x4 : Ex × St := (Ex.exit 0, mkG 0 29 [] [] GL)
theorem zaq.e (a0:Bool) (a1:Int) (a2:BAy) (a3 a4:LLD) (a5:Int) : zaq [.g [.v (.bool a0), .v (.int .i64 a1), .v (.string a2), .s a3, .s a4], .one (.v (.int .i64 a5))] [] = (zal [.g [.v (.bool a0), .v (.int .i64 a1), .v (.string a2), .s a3, .s a4]] []).bind fun val => bif zag [.bool] val.1 && true then bif !(val.1.getD 0 .d).bool then zaq.P2 a5 true a0 a1 a2 a3 a4 else zaq.P2 a5 (decide (a5 > 4)) a0 a1 a2 a3 a4 else none := by
 refine (zaq.run _ _ (by kernel_rfl)).trans ?_
 delta zaq zal zaq.P2 XX
 refine zbq [2, 3] (by kernel_rfl) fun J e1 => ?_
 try simp only [← e1]
 clear e1
 generalize lpL (Y.ctx (lim' Y)) 138 = lp
 generalize lim' Y = call
 kernel_rfl
theorem zaq.p2 (y0:Int) (y1 y2:Bool) (y3:Int) (y4:BAy) (y5 y6:LLD) : zaq.P2 y0 y1 y2 y3 y4 y5 y6 = bif y1 then some ⟨[.v (.bool false)], []⟩ else zaq.P3 y0 y2 y3 y4 y5 y6 := by
 delta zaq.P2 zaq.P3 XX
 refine zbf [2, 3] 2 (by kernel_rfl) fun J e1 => ?_
 try simp only [← e1]
 clear e1
 generalize lpL (Y.ctx (lim' Y)) 138 = lp
 generalize lim' Y = call
 kernel_rfl
theorem zaq.p3 (y0:Int) (y1:Bool) (y2:Int) (y3:BAy) (y4 y5:LLD) : zaq.P3 y0 y1 y2 y3 y4 y5 = (zaq.L4 y0 0 y1 y2 y3 y4 y5).bind zaq.A4 := by
 delta zaq.P3 zaq.L4 zaq.A4 XX
 refine zbf [2, 3] 3 (by kernel_rfl) fun J e1 => ?_
 have eA := evA_J [2, 3] 4 (by kernel_rfl) e1
 try simp only [eA]
 clear eA
 try simp only [← e1]
 clear e1
 show _ = _
 generalize lpL (Y.ctx (lim' Y)) 138 = lp
 generalize lim' Y = call
 kernel_rfl
theorem zaq.s4 (y0 y1:Int) (y2:Bool) (y3:Int) (y4:BAy) (y5 y6:LLD) : zaq.L4 y0 y1 y2 y3 y4 y5 y6 = bif decide (y1 < (↑y6.length : Int)) then bif decide (0 ≤ y1) && decide (y1 < (↑y6.length : Int)) && decide ((y6.getD y1.toNat []).length = 5) then bif zav [.bool, .int .i64, .str, .sl, .sl] (y6.getD y1.toNat []) 0 && decide (5 ≤ (y6.getD y1.toNat []).length) then (zaq [.g [.v (.bool ((y6.getD y1.toNat []).getD 0 .h).bool), .v (.int .i64 ((y6.getD y1.toNat []).getD 1 .h).int), .v (.string ((y6.getD y1.toNat []).getD 2 .h).str), .s ((y6.getD y1.toNat []).getD 3 .h).es, .s ((y6.getD y1.toNat []).getD 4 .h).es], .one (.v (.int .i64 (IntKind.i64.wrap (y0 + 1))))] []).bind fun val => bif zag [.bool] val.1 && true then bif !(val.1.getD 0 .d).bool then some (zaq.q4 false) else zaq.L4 y0 (IntKind.i64.wrap (y1 + 1)) y2 y3 y4 y5 y6 else none else none else none else some zaq.x4 := by
 refine (zbg (Y := Y) (c := lim' Y) (fn := 138) (rid := 4) (b := zaw 4 zaq.c) (by kernel_rfl) _).trans ?_
 delta zaq.L4 zaq zaq.q4 zaq.x4 XX
 generalize lpL (Y.ctx (lim' Y)) 138 = lp
 generalize lim' Y = call
 kernel_rfl
theorem zaq.a4q4 (y0:Bool) : zaq.A4 (zaq.q4 y0) = some ⟨[.v (.bool y0)], []⟩ := by
 delta zaq.A4 zaq.q4 XX
 refine za8 [2, 3] 4 (by kernel_rfl) fun J e1 => ?_
 have eA := evA_J [2, 3] 4 (by kernel_rfl) e1
 try simp only [eA]
 clear eA
 try simp only [← e1]
 clear e1
 show _ = _
 generalize lpL (Y.ctx (lim' Y)) 138 = lp
 generalize lim' Y = call
 kernel_rfl
theorem zaq.a4x4 : zaq.A4 zaq.x4 = some ⟨[.v (.bool true)], []⟩ := by
 delta zaq.A4 zaq.x4 XX
 refine za8 [2, 3] 4 (by kernel_rfl) fun J e1 => ?_
 have eA := evA_J [2, 3] 4 (by kernel_rfl) e1
 try simp only [eA]
 clear eA
 try simp only [← e1]
 clear e1
 show _ = _
 generalize lpL (Y.ctx (lim' Y)) 138 = lp
 generalize lim' Y = call
 kernel_rfl
noncomputable def zaO.L3 (y0 y1:Int) (y2:Bool) (y3:Int) (y4:BAy) (y5 y6:LLD) : Option (Ex × St) := lpL XX 139 (zaw 3 zaO.c) (mkG 0 24 [(1, .one (.p true 1 [] 0)), (3, .one (.v (.int .i64 y0))), (4, .one (.v (.int .i64 y1)))] [(1, some ⟨.box, [.v (.bool y2), .v (.int .i64 y3), .v (.string y4), .s y5, .s y6], [.deep, .deep, .deep, .sh, .sh]⟩)] GL)
noncomputable def zaO.A3 : Ex × St → Option Res := fun r => evA XX 139 (lpL XX 139) 3 zaO.c r.fst r.snd (outE XX 139 Tryz.f139)
noncomputable def zaO.x3 (y0:Int) : Ex × St := (Ex.exit 0, mkG 0 24 [(3, .one (.v (.int .i64 y0)))] [] GL)
theorem zaO.e (a0:Bool) (a1:Int) (a2:BAy) (a3 a4:LLD) : zaO [.g [.v (.bool a0), .v (.int .i64 a1), .v (.string a2), .s a3, .s a4]] [] = (zaO.L3 (↑a4.length : Int) 0 a0 a1 a2 a3 a4).bind zaO.A3 := by
 refine (zaO.run _ _ (by kernel_rfl)).trans ?_
 delta zaO zaO.L3 zaO.A3 XX
 generalize lpL (Y.ctx (lim' Y)) 139 = lp
 generalize lim' Y = call
 kernel_rfl
theorem zaO.s3 (y0 y1:Int) (y2:Bool) (y3:Int) (y4:BAy) (y5 y6:LLD) : zaO.L3 y0 y1 y2 y3 y4 y5 y6 = bif decide (y1 < (↑y6.length : Int)) then bif decide (0 ≤ y1) && decide (y1 < (↑y6.length : Int)) && decide ((y6.getD y1.toNat []).length = 5) then bif zav [.bool, .int .i64, .str, .sl, .sl] (y6.getD y1.toNat []) 0 && decide (5 ≤ (y6.getD y1.toNat []).length) then (zaO [.g [.v (.bool ((y6.getD y1.toNat []).getD 0 .h).bool), .v (.int .i64 ((y6.getD y1.toNat []).getD 1 .h).int), .v (.string ((y6.getD y1.toNat []).getD 2 .h).str), .s ((y6.getD y1.toNat []).getD 3 .h).es, .s ((y6.getD y1.toNat []).getD 4 .h).es]] []).bind fun val => bif zag [.int .i64] val.1 && true then zaO.L3 (IntKind.i64.wrap (y0 + (val.1.getD 0 .d).int)) (IntKind.i64.wrap (y1 + 1)) y2 y3 y4 y5 y6 else none else none else none else some (zaO.x3 y0) := by
 refine (zbg (Y := Y) (c := lim' Y) (fn := 139) (rid := 3) (b := zaw 3 zaO.c) (by kernel_rfl) _).trans ?_
 delta zaO.L3 zaO zaO.x3 XX
 generalize lpL (Y.ctx (lim' Y)) 139 = lp
 generalize lim' Y = call
 kernel_rfl
theorem zaO.a3x3 (y0:Int) : zaO.A3 (zaO.x3 y0) = some ⟨[.v (.int .i64 y0)], []⟩ := by
 delta zaO.A3 zaO.x3 XX
 generalize lpL (Y.ctx (lim' Y)) 139 = lp
 generalize lim' Y = call
 kernel_rfl
theorem zco.e (a0:BAy) (a1:Bool) (a2:Int) (a3:BAy) (a4 a5:LLD) : zco [.one (.v (.string a0)), .g [.v (.bool a1), .v (.int .i64 a2), .v (.string a3), .s a4, .s a5]] [] = bif a1 then bif decide (4 + a0.size ≤ 70368744177664) then bif decide (((ByteArray.mk #[100, 105, 114, 32]) ++ a0).size + 1 ≤ 70368744177664) then (zcR [.one (.v (.int .i64 a2))] []).bind fun val => bif zag [.str] val.1 && true then bif decide (((ByteArray.mk #[100, 105, 114, 32]) ++ a0 ++ (ByteArray.mk #[32])).size + (val.1.getD 0 .d).str.size ≤ 70368744177664) then bif decide (((ByteArray.mk #[100, 105, 114, 32]) ++ a0 ++ (ByteArray.mk #[32]) ++ (val.1.getD 0 .d).str).size + 1 ≤ 70368744177664) then some ⟨[.v (.string ((ByteArray.mk #[100, 105, 114, 32]) ++ a0 ++ (ByteArray.mk #[32]) ++ (val.1.getD 0 .d).str ++ (ByteArray.mk #[10])))], []⟩ else none else none else none else none else none else bif decide (5 + a0.size ≤ 70368744177664) then bif decide (((ByteArray.mk #[102, 105, 108, 101, 32]) ++ a0).size + 1 ≤ 70368744177664) then (zcR [.one (.v (.int .i64 a2))] []).bind fun val => bif zag [.str] val.1 && true then bif decide (((ByteArray.mk #[102, 105, 108, 101, 32]) ++ a0 ++ (ByteArray.mk #[32])).size + (val.1.getD 0 .d).str.size ≤ 70368744177664) then bif decide (((ByteArray.mk #[102, 105, 108, 101, 32]) ++ a0 ++ (ByteArray.mk #[32]) ++ (val.1.getD 0 .d).str).size + 1 ≤ 70368744177664) then (zbi [.one (.v (.string a3))] []).bind fun val_1 => bif zag [.str] val_1.1 && true then bif decide (((ByteArray.mk #[102, 105, 108, 101, 32]) ++ a0 ++ (ByteArray.mk #[32]) ++ (val.1.getD 0 .d).str ++ (ByteArray.mk #[32])).size + (val_1.1.getD 0 .d).str.size ≤ 70368744177664) then bif decide (((ByteArray.mk #[102, 105, 108, 101, 32]) ++ a0 ++ (ByteArray.mk #[32]) ++ (val.1.getD 0 .d).str ++ (ByteArray.mk #[32]) ++ (val_1.1.getD 0 .d).str).size + 1 ≤ 70368744177664) then some ⟨[.v (.string ((ByteArray.mk #[102, 105, 108, 101, 32]) ++ a0 ++ (ByteArray.mk #[32]) ++ (val.1.getD 0 .d).str ++ (ByteArray.mk #[32]) ++ (val_1.1.getD 0 .d).str ++ (ByteArray.mk #[10])))], []⟩ else none else none else none else none else none else none else none else none := by
 refine (zco.run _ _ (by kernel_rfl)).trans ?_
 delta zco zcR zbi XX
 generalize lpL (Y.ctx (lim' Y)) 149 = lp
 generalize lim' Y = call
 kernel_rfl
theorem zbM.e (a0:LLD) : zbM [.one (.s a0)] [] = bif (↑a0.length : Int) == 0 then some ⟨[.v (.string (ByteArray.mk #[47]))], []⟩ else (strings_Join [.one (.s a0), .one (.v (.string (ByteArray.mk #[47])))] []).bind fun val => bif zag [.str] val.1 && true then bif decide (1 + (val.1.getD 0 .d).str.size ≤ 70368744177664) then some ⟨[.v (.string ((ByteArray.mk #[47]) ++ (val.1.getD 0 .d).str))], []⟩ else none else none := by
 refine (zbM.run _ _ (by kernel_rfl)).trans ?_
 delta zbM strings_Join XX
 generalize lpL (Y.ctx (lim' Y)) 157 = lp
 generalize lim' Y = call
 kernel_rfl
theorem zcI.e (a0:Int) : zcI [.one (.v (.int .i64 a0))] [] = (zbY [.one (.v (.int .i64 a0)), .one (.v (.int .i64 0)), .one (.v (.int .i64 7))] []).bind fun val => bif zag [.bool] val.1 && true then some ⟨[.v (.bool (val.1.getD 0 .d).bool)], []⟩ else none := by
 refine (zcI.run _ _ (by kernel_rfl)).trans ?_
 delta zcI zbY XX
 generalize lpL (Y.ctx (lim' Y)) 158 = lp
 generalize lim' Y = call
 kernel_rfl
theorem zbA.e (a0:Bool) (a1:Int) (a2:BAy) (a3 a4 a5:LLD) : zbA [.g [.v (.bool a0), .v (.int .i64 a1), .v (.string a2), .s a3, .s a4], .one (.s a5)] [] = bif a0 then (zbM [.one (.s a5)] []).bind fun val => bif zag [.str] val.1 && true then bif decide (4 + (val.1.getD 0 .d).str.size ≤ 70368744177664) then bif decide (((ByteArray.mk #[100, 105, 114, 32]) ++ (val.1.getD 0 .d).str).size + 1 ≤ 70368744177664) then (strconv_Itoa [.one (.v (.int .i64 a1))] []).bind fun val_1 => bif zag [.str] val_1.1 && true then bif decide (((ByteArray.mk #[100, 105, 114, 32]) ++ (val.1.getD 0 .d).str ++ (ByteArray.mk #[32])).size + (val_1.1.getD 0 .d).str.size ≤ 70368744177664) then bif decide (((ByteArray.mk #[100, 105, 114, 32]) ++ (val.1.getD 0 .d).str ++ (ByteArray.mk #[32]) ++ (val_1.1.getD 0 .d).str).size + 1 ≤ 70368744177664) then some ⟨[.v (.string ((ByteArray.mk #[100, 105, 114, 32]) ++ (val.1.getD 0 .d).str ++ (ByteArray.mk #[32]) ++ (val_1.1.getD 0 .d).str ++ (ByteArray.mk #[10])))], []⟩ else none else none else none else none else none else none else (zbM [.one (.s a5)] []).bind fun val => bif zag [.str] val.1 && true then bif decide (5 + (val.1.getD 0 .d).str.size ≤ 70368744177664) then bif decide (((ByteArray.mk #[102, 105, 108, 101, 32]) ++ (val.1.getD 0 .d).str).size + 1 ≤ 70368744177664) then (strconv_Itoa [.one (.v (.int .i64 a1))] []).bind fun val_1 => bif zag [.str] val_1.1 && true then bif decide (((ByteArray.mk #[102, 105, 108, 101, 32]) ++ (val.1.getD 0 .d).str ++ (ByteArray.mk #[32])).size + (val_1.1.getD 0 .d).str.size ≤ 70368744177664) then bif decide (((ByteArray.mk #[102, 105, 108, 101, 32]) ++ (val.1.getD 0 .d).str ++ (ByteArray.mk #[32]) ++ (val_1.1.getD 0 .d).str).size + 1 ≤ 70368744177664) then (zbR [.one (.v (.string a2))] []).bind fun val_2 => bif zag [.str] val_2.1 && true then bif decide (((ByteArray.mk #[102, 105, 108, 101, 32]) ++ (val.1.getD 0 .d).str ++ (ByteArray.mk #[32]) ++ (val_1.1.getD 0 .d).str ++ (ByteArray.mk #[32])).size + (val_2.1.getD 0 .d).str.size ≤ 70368744177664) then bif decide (((ByteArray.mk #[102, 105, 108, 101, 32]) ++ (val.1.getD 0 .d).str ++ (ByteArray.mk #[32]) ++ (val_1.1.getD 0 .d).str ++ (ByteArray.mk #[32]) ++ (val_2.1.getD 0 .d).str).size + 1 ≤ 70368744177664) then some ⟨[.v (.string ((ByteArray.mk #[102, 105, 108, 101, 32]) ++ (val.1.getD 0 .d).str ++ (ByteArray.mk #[32]) ++ (val_1.1.getD 0 .d).str ++ (ByteArray.mk #[32]) ++ (val_2.1.getD 0 .d).str ++ (ByteArray.mk #[10])))], []⟩ else none else none else none else none else none else none else none else none else none := by
 refine (zbA.run _ _ (by kernel_rfl)).trans ?_
 delta zbA zbM strconv_Itoa zbR XX
 generalize lpL (Y.ctx (lim' Y)) 160 = lp
 generalize lim' Y = call
 kernel_rfl
noncomputable def za5.L3 (y0 y1:BAy) (y2:Int) (y3:Bool) (y4:Int) (y5:BAy) (y6 y7:LLD) : Option (Ex × St) := lpL XX 164 (zaw 3 za5.c) (mkG 0 41 [(0, .one (.v (.string y0))), (3, .one (.p true 3 [] 0)), (5, .one (.v (.string y1))), (6, .one (.v (.int .i64 y2)))] [(3, some ⟨.box, [.v (.bool y3), .v (.int .i64 y4), .v (.string y5), .s y6, .s y7], [.deep, .deep, .deep, .sh, .sh]⟩)] GL)
noncomputable def za5.A3 : Ex × St → Option Res := fun r => evA XX 164 (lpL XX 164) 3 za5.c r.fst r.snd (outE XX 164 Tryz.f164)
noncomputable def za5.x3 (y0:BAy) : Ex × St := (Ex.exit 0, mkG 0 41 [(5, .one (.v (.string y0)))] [] GL)
theorem za5.e (a0:BAy) (a1:Bool) (a2:Int) (a3:BAy) (a4 a5:LLD) : za5 [.one (.v (.string a0)), .g [.v (.bool a1), .v (.int .i64 a2), .v (.string a3), .s a4, .s a5]] [] = (za5.L3 a0 (ByteArray.mk #[]) 0 a1 a2 a3 a4 a5).bind za5.A3 := by
 refine (za5.run _ _ (by kernel_rfl)).trans ?_
 delta za5 za5.L3 za5.A3 XX
 generalize lpL (Y.ctx (lim' Y)) 164 = lp
 generalize lim' Y = call
 kernel_rfl
theorem za5.s3 (y0 y1:BAy) (y2:Int) (y3:Bool) (y4:Int) (y5:BAy) (y6 y7:LLD) : za5.L3 y0 y1 y2 y3 y4 y5 y6 y7 = bif decide (y2 < (↑y6.length : Int)) then bif decide (y0.size + 1 ≤ 70368744177664) then bif decide (0 ≤ y2) && decide (y2 < (↑y6.length : Int)) && decide ((y6.getD y2.toNat []).length = 1) then bif zav [.str] (y6.getD y2.toNat []) 0 && decide (1 ≤ (y6.getD y2.toNat []).length) then bif decide ((y0 ++ (ByteArray.mk #[47])).size + ((y6.getD y2.toNat []).getD 0 .h).str.size ≤ 70368744177664) then bif decide (0 ≤ y2) && decide (y2 < (↑y7.length : Int)) && decide ((y7.getD y2.toNat []).length = 5) then bif zav [.bool, .int .i64, .str, .sl, .sl] (y7.getD y2.toNat []) 0 && decide (5 ≤ (y7.getD y2.toNat []).length) then (zco [.one (.v (.string (y0 ++ (ByteArray.mk #[47]) ++ ((y6.getD y2.toNat []).getD 0 .h).str))), .g [.v (.bool ((y7.getD y2.toNat []).getD 0 .h).bool), .v (.int .i64 ((y7.getD y2.toNat []).getD 1 .h).int), .v (.string ((y7.getD y2.toNat []).getD 2 .h).str), .s ((y7.getD y2.toNat []).getD 3 .h).es, .s ((y7.getD y2.toNat []).getD 4 .h).es]] []).bind fun val => bif zag [.str] val.1 && true then bif decide (y1.size + (val.1.getD 0 .d).str.size ≤ 70368744177664) then bif decide (0 ≤ y2) && decide (y2 < (↑y7.length : Int)) && decide ((y7.getD y2.toNat []).length = 5) then bif zav [.bool, .int .i64, .str, .sl, .sl] (y7.getD y2.toNat []) 0 && decide (5 ≤ (y7.getD y2.toNat []).length) then (za5 [.one (.v (.string (y0 ++ (ByteArray.mk #[47]) ++ ((y6.getD y2.toNat []).getD 0 .h).str))), .g [.v (.bool ((y7.getD y2.toNat []).getD 0 .h).bool), .v (.int .i64 ((y7.getD y2.toNat []).getD 1 .h).int), .v (.string ((y7.getD y2.toNat []).getD 2 .h).str), .s ((y7.getD y2.toNat []).getD 3 .h).es, .s ((y7.getD y2.toNat []).getD 4 .h).es]] []).bind fun val_1 => bif zag [.str] val_1.1 && true then bif decide ((y1 ++ (val.1.getD 0 .d).str).size + (val_1.1.getD 0 .d).str.size ≤ 70368744177664) then za5.L3 y0 (y1 ++ (val.1.getD 0 .d).str ++ (val_1.1.getD 0 .d).str) (IntKind.i64.wrap (y2 + 1)) y3 y4 y5 y6 y7 else none else none else none else none else none else none else none else none else none else none else none else none else some (za5.x3 y1) := by
 refine (zbg (Y := Y) (c := lim' Y) (fn := 164) (rid := 3) (b := zaw 3 za5.c) (by kernel_rfl) _).trans ?_
 delta za5.L3 zco za5 za5.x3 XX
 generalize lpL (Y.ctx (lim' Y)) 164 = lp
 generalize lim' Y = call
 kernel_rfl
theorem za5.a3x3 (y0:BAy) : za5.A3 (za5.x3 y0) = some ⟨[.v (.string y0)], []⟩ := by
 delta za5.A3 za5.x3 XX
 generalize lpL (Y.ctx (lim' Y)) 164 = lp
 generalize lim' Y = call
 kernel_rfl
theorem zbB.e (a0:Bool) (a1:Int) (a2:BAy) (a3 a4:LLD) : zbB [.g [.v (.bool a0), .v (.int .i64 a1), .v (.string a2), .s a3, .s a4]] [] = (zaP [.g [.v (.bool a0), .v (.int .i64 a1), .v (.string a2), .s a3, .s a4], .one (.s []), .f zaM.id [.bx [A0.p true 0 [] 0] 0]] [⟨.bld 170 5, [.v (.string (ByteArray.mk #[])), .h], [.deep, .deep]⟩]).bind fun val => bif zag [] val.1 && za7 [⟨⟨.bld 170 5, [.v (.string (ByteArray.mk #[])), .h], [.deep, .deep]⟩, .box 5⟩] val.2 then (zbb [.one (.p true 0 [] 0)] [⟨.bld 170 5, [.v (.string ((val.2.getD 0 ⟨.ro, [], []⟩).2.getD 0 .h).str), .h], [.deep, .deep]⟩]).bind fun val_1 => bif zag [.str] val_1.1 && za7 [⟨⟨.bld 170 5, [.v (.string ((val.2.getD 0 ⟨.ro, [], []⟩).2.getD 0 .h).str), .h], [.deep, .deep]⟩, .box 5⟩] val_1.2 then some ⟨[.v (.string (val_1.1.getD 0 .d).str)], []⟩ else none else none := by
 refine (zbB.run _ _ (by kernel_rfl)).trans ?_
 delta zbB zaP zbb zaM.id XX
 generalize lpL (Y.ctx (lim' Y)) 165 = lp
 generalize lim' Y = call
 kernel_rfl
theorem zcJ.e (a0:LLD) (a1:BAy) : zcJ [.one (.s a0), .one (.v (.string a1))] [] = bif zaA 1 a0 && zaE false a0 && true && decide ((0 + a0.length) * 17 ≤ 70368744177664) then bif zaA 1 a0 && true && true && true && decide ((a0.length + 1) * 17 ≤ 70368744177664) then some ⟨[.s (a0 ++ [[D.v (.string a1)]])], []⟩ else none else none := by
 refine (zcJ.run _ _ (by kernel_rfl)).trans ?_
 delta zcJ XX
 generalize lpL (Y.ctx (lim' Y)) 173 = lp
 generalize lim' Y = call
 kernel_rfl
theorem zdy.e (a0:Bool) (a1:Int) (a2:BAy) (a3 a4:LLD) : zdy [.g [.v (.bool a0), .v (.int .i64 a1), .v (.string a2), .s a3, .s a4]] [] = (zco [.one (.v (.string (ByteArray.mk #[47]))), .g [.v (.bool a0), .v (.int .i64 a1), .v (.string a2), .s a3, .s a4]] []).bind fun val => bif zag [.str] val.1 && true then (za5 [.one (.v (.string (ByteArray.mk #[]))), .g [.v (.bool a0), .v (.int .i64 a1), .v (.string a2), .s a3, .s a4]] []).bind fun val_1 => bif zag [.str] val_1.1 && true then bif decide ((val.1.getD 0 .d).str.size + (val_1.1.getD 0 .d).str.size ≤ 70368744177664) then (zbm [.one (.v (.string ((val.1.getD 0 .d).str ++ (val_1.1.getD 0 .d).str)))] []).bind fun val => bif zag [.int .i64] val.1 && true then some ⟨[.v (.int .i64 (val.1.getD 0 .d).int)], []⟩ else none else none else none else none := by
 refine (zdy.run _ _ (by kernel_rfl)).trans ?_
 delta zdy zco za5 zbm XX
 generalize lpL (Y.ctx (lim' Y)) 179 = lp
 generalize lim' Y = call
 kernel_rfl
noncomputable def zaf.L2 (y0:LLD) (y1:BAy) (y2 y3:Int) : Option (Ex × St) := lpL XX 180 (zaw 2 zaf.c) (mkG 0 19 [(0, .one (.s y0)), (1, .one (.v (.string y1))), (7, .one (.v (.int .i64 y2))), (8, .one (.v (.int .i64 y3)))] [] GL)
noncomputable def zaf.A2 : Ex × St → Option Res := fun r => evA XX 180 (lpL XX 180) 2 zaf.c r.fst r.snd (outE XX 180 Tryz.f180)
noncomputable def zaf.q2 (y0:Int) : Ex × St := (Ex.ret, mkG 0 19 [(4, .one (.v (.int .i64 y0)))] [] GL)
noncomputable def zaf.x2 : Ex × St := (Ex.exit 0, mkG 0 19 [] [] GL)
theorem zaf.e (a0:LLD) (a1:BAy) : zaf [.one (.s a0), .one (.v (.string a1))] [] = (zaf.L2 a0 a1 (↑a0.length : Int) 0).bind zaf.A2 := by
 refine (zaf.run _ _ (by kernel_rfl)).trans ?_
 delta zaf zaf.L2 zaf.A2 XX
 generalize lpL (Y.ctx (lim' Y)) 180 = lp
 generalize lim' Y = call
 kernel_rfl
theorem zaf.s2 (y0:LLD) (y1:BAy) (y2 y3:Int) : zaf.L2 y0 y1 y2 y3 = bif decide (y3 < y2) then bif decide (0 ≤ y3) && decide (y3 < (↑y0.length : Int)) && decide ((y0.getD y3.toNat []).length = 1) then bif zav [.str] (y0.getD y3.toNat []) 0 && decide (1 ≤ (y0.getD y3.toNat []).length) then bif y1.toList == ((y0.getD y3.toNat []).getD 0 .h).str.toList then some (zaf.q2 y3) else zaf.L2 y0 y1 y2 (IntKind.i64.wrap (y3 + 1)) else none else none else some zaf.x2 := by
 refine (zbg (Y := Y) (c := lim' Y) (fn := 180) (rid := 2) (b := zaw 2 zaf.c) (by kernel_rfl) _).trans ?_
 delta zaf.L2 zaf.q2 zaf.x2 XX
 generalize lpL (Y.ctx (lim' Y)) 180 = lp
 generalize lim' Y = call
 kernel_rfl
theorem zaf.a2q2 (y0:Int) : zaf.A2 (zaf.q2 y0) = some ⟨[.v (.int .i64 y0)], []⟩ := by
 delta zaf.A2 zaf.q2 XX
 generalize lpL (Y.ctx (lim' Y)) 180 = lp
 generalize lim' Y = call
 kernel_rfl
theorem zaf.a2x2 : zaf.A2 zaf.x2 = some ⟨[.v (.int .i64 (-1))], []⟩ := by
 delta zaf.A2 zaf.x2 XX
 generalize lpL (Y.ctx (lim' Y)) 180 = lp
 generalize lim' Y = call
 kernel_rfl
theorem za6.e (a0 a1:BAy) : za6 [.one (.v (.string a0)), .one (.v (.string a1))] [] = (zaX [.one (.v (.string a0))] []).bind fun val => bif zag [.bool] val.1 && true then bif (val.1.getD 0 .d).bool then (zaX [.one (.v (.string a1))] []).bind fun val => bif zag [.bool] val.1 && true then bif !(val.1.getD 0 .d).bool then some ⟨[.v (.bool true)], []⟩ else some ⟨[.v (.bool (Op.bytesLess a0.toList a1.toList))], []⟩ else none else some ⟨[.v (.bool (Op.bytesLess a0.toList a1.toList))], []⟩ else none := by
 refine (za6.run _ _ (by kernel_rfl)).trans ?_
 delta za6 zaX XX
 generalize lpL (Y.ctx (lim' Y)) 181 = lp
 generalize lim' Y = call
 kernel_rfl
theorem zaJ.e (a0:BAy) : zaJ [.one (.v (.string a0))] [] = some ⟨[.v (.bool !a0.toList == a0.toList)], []⟩ := by
 refine (zaJ.run _ _ (by kernel_rfl)).trans ?_
 delta zaJ XX
 generalize lpL (Y.ctx (lim' Y)) 182 = lp
 generalize lim' Y = call
 kernel_rfl
noncomputable def zaG.L2 (y0:BAy) (y1 y2:Int) : Option (Ex × St) := lpL XX 187 (zaw 2 zaG.c) (mkG 0 35 [(0, .one (.v (.string y0))), (5, .one (.v (.int .i64 y1))), (6, .one (.v (.int .i64 y2)))] [] GL)
noncomputable def zaG.A2 : Ex × St → Option Res := fun r => evA XX 187 (lpL XX 187) 2 zaG.c r.fst r.snd (outE XX 187 Tryz.f187)
noncomputable def zaG.P5 (y0:BAy) (y1 y2:Int) (y3:Bool) : Option (Ex × St) := evB XX 187 (lpL XX 187) 5 (zaw 2 zaG.c) (mkG 0 35 [(0, .one (.v (.string y0))), (5, .one (.v (.int .i64 y1))), (6, .one (.v (.int .i64 y2))), (30, .one (.v (.bool y3)))] [] GL) (backL (lpL XX 187) (zaw 2 zaG.c) (XX.live 187 2))
noncomputable def zaG.x2 (y0:BAy) : Ex × St := (Ex.exit 0, mkG 0 35 [(0, .one (.v (.string y0)))] [] GL)
noncomputable def zaG.q2 (y0:BAy) (y1:Bool) : Ex × St := (Ex.ret, mkG 0 35 [(0, .one (.v (.string y0))), (2, .one (.v (.bool y1)))] [] GL)
theorem zaG.e (a0:BAy) : zaG [.one (.v (.string a0))] [] = (zaG.L2 a0 (↑a0.size : Int) 0).bind zaG.A2 := by
 refine (zaG.run _ _ (by kernel_rfl)).trans ?_
 delta zaG zaG.L2 zaG.A2 XX
 generalize lpL (Y.ctx (lim' Y)) 187 = lp
 generalize lim' Y = call
 kernel_rfl
theorem zaG.s2 (y0:BAy) (y1 y2:Int) : zaG.L2 y0 y1 y2 = bif decide (y2 < y1) then bif decide (0 ≤ y2) && decide (y2 < (↑y0.size : Int)) then bif decide (za9 y0 y2.toNat < 97) then bif decide (0 ≤ y2) && decide (y2 < (↑y0.size : Int)) then bif decide (za9 y0 y2.toNat < 48) then zaG.P5 y0 y1 y2 true else bif decide (0 ≤ y2) && decide (y2 < (↑y0.size : Int)) then zaG.P5 y0 y1 y2 (decide (za9 y0 y2.toNat > 57)) else none else none else bif decide (0 ≤ y2) && decide (y2 < (↑y0.size : Int)) then bif decide (za9 y0 y2.toNat > 122) then bif decide (0 ≤ y2) && decide (y2 < (↑y0.size : Int)) then bif decide (za9 y0 y2.toNat < 48) then zaG.P5 y0 y1 y2 true else bif decide (0 ≤ y2) && decide (y2 < (↑y0.size : Int)) then zaG.P5 y0 y1 y2 (decide (za9 y0 y2.toNat > 57)) else none else none else zaG.P5 y0 y1 y2 false else none else none else some (zaG.x2 y0) := by
 refine (zbg (Y := Y) (c := lim' Y) (fn := 187) (rid := 2) (b := zaw 2 zaG.c) (by kernel_rfl) _).trans ?_
 delta zaG.L2 zaG.P5 zaG.x2 XX
 refine zbq [5] (by kernel_rfl) fun J e1 => ?_
 try simp only [← e1]
 clear e1
 generalize lpL (Y.ctx (lim' Y)) 187 = lp
 generalize lim' Y = call
 kernel_rfl
theorem zaG.p5 (y0:BAy) (y1 y2:Int) (y3:Bool) : zaG.P5 y0 y1 y2 y3 = bif y3 then some (zaG.q2 y0 false) else zaG.L2 y0 y1 (IntKind.i64.wrap (y2 + 1)) := by
 delta zaG.P5 zaG.q2 zaG.L2 XX
 refine zbf [5] 5 (by kernel_rfl) fun J e1 => ?_
 try simp only [← e1]
 clear e1
 generalize lpL (Y.ctx (lim' Y)) 187 = lp
 generalize lim' Y = call
 kernel_rfl
theorem zaG.a2x2 (y0:BAy) : zaG.A2 (zaG.x2 y0) = (zbY [.one (.v (.int .i64 (↑y0.size : Int))), .one (.v (.int .i64 1)), .one (.v (.int .i64 5))] []).bind fun val => bif zag [.bool] val.1 && true then some ⟨[.v (.bool (val.1.getD 0 .d).bool)], []⟩ else none := by
 delta zaG.A2 zaG.x2 zbY XX
 generalize lpL (Y.ctx (lim' Y)) 187 = lp
 generalize lim' Y = call
 kernel_rfl
theorem zaG.a2q2 (y0:BAy) (y1:Bool) : zaG.A2 (zaG.q2 y0 y1) = some ⟨[.v (.bool y1)], []⟩ := by
 delta zaG.A2 zaG.q2 XX
 generalize lpL (Y.ctx (lim' Y)) 187 = lp
 generalize lim' Y = call
 kernel_rfl
theorem zc7.e (a0:LLD) (a1:BAy) : zc7 [.one (.s a0), .one (.v (.string a1))] [] = bif zaA 1 a0 && zaE false a0 && true && decide ((0 + a0.length) * 17 ≤ 70368744177664) then bif zaA 1 a0 && true && true && true && decide ((a0.length + 1) * 17 ≤ 70368744177664) then some ⟨[.o .deep (a0 ++ [[D.v (.string a1)]])], []⟩ else none else none := by
 refine (zc7.run _ _ (by kernel_rfl)).trans ?_
 delta zc7 XX
 generalize lpL (Y.ctx (lim' Y)) 188 = lp
 generalize lim' Y = call
 kernel_rfl
noncomputable def zal.P2 (y0 y1:Bool) (y2:Int) (y3:BAy) (y4 y5:LLD) : Option Res := evB XX 189 (lpL XX 189) 2 zal.c (mkG 0 65 [(1, .one (.p true 1 [] 0)), (16, .one (.v (.bool y0)))] [(1, some ⟨.box, [.v (.bool y1), .v (.int .i64 y2), .v (.string y3), .s y4, .s y5], [.deep, .deep, .deep, .sh, .sh]⟩)] GL) (outE XX 189 Tryz.f189)
noncomputable def zal.P3 (y0:Bool) (y1:Int) (y2:BAy) (y3 y4:LLD) : Option Res := evB XX 189 (lpL XX 189) 3 zal.c (mkG 0 65 [(1, .one (.p true 1 [] 0))] [(1, some ⟨.box, [.v (.bool y0), .v (.int .i64 y1), .v (.string y2), .s y3, .s y4], [.deep, .deep, .deep, .sh, .sh]⟩)] GL) (outE XX 189 Tryz.f189)
noncomputable def zal.L6 (y0:Int) (y1:Bool) (y2:Int) (y3:BAy) (y4 y5:LLD) : Option (Ex × St) := lpL XX 189 (zaw 6 zal.c) (mkG 0 65 [(1, .one (.p true 1 [] 0)), (3, .one (.v (.int .i64 y0)))] [(1, some ⟨.box, [.v (.bool y1), .v (.int .i64 y2), .v (.string y3), .s y4, .s y5], [.deep, .deep, .deep, .sh, .sh]⟩)] GL)
noncomputable def zal.A6 : Ex × St → Option Res := fun r => evA XX 189 (lpL XX 189) 6 zal.c r.fst r.snd (outE XX 189 Tryz.f189)
noncomputable def zal.P9 (y0:Int) (y1 y2:Bool) (y3:Int) (y4:BAy) (y5 y6:LLD) : Option (Ex × St) := evB XX 189 (lpL XX 189) 9 (zaw 6 zal.c) (mkG 0 65 [(1, .one (.p true 1 [] 0)), (3, .one (.v (.int .i64 y0))), (61, .one (.v (.bool y1)))] [(1, some ⟨.box, [.v (.bool y2), .v (.int .i64 y3), .v (.string y4), .s y5, .s y6], [.deep, .deep, .deep, .sh, .sh]⟩)] GL) (backL (lpL XX 189) (zaw 6 zal.c) (XX.live 189 6))
noncomputable def zal.x6 (y0:Bool) (y1:Int) (y2:BAy) (y3 y4:LLD) : Ex × St := (Ex.exit 0, mkG 0 65 [(1, .one (.p true 1 [] 0))] [(1, some ⟨.box, [.v (.bool y0), .v (.int .i64 y1), .v (.string y2), .s y3, .s y4], [.deep, .deep, .deep, .sh, .sh]⟩)] GL)
noncomputable def zal.q6 (y0 y1:Bool) (y2:Int) (y3:BAy) (y4 y5:LLD) : Ex × St := (Ex.ret, mkG 0 65 [(1, .one (.p true 1 [] 0)), (2, .one (.v (.bool y0)))] [(1, some ⟨.box, [.v (.bool y1), .v (.int .i64 y2), .v (.string y3), .s y4, .s y5], [.deep, .deep, .deep, .sh, .sh]⟩)] GL)
theorem zal.e (a0:Bool) (a1:Int) (a2:BAy) (a3 a4:LLD) : zal [.g [.v (.bool a0), .v (.int .i64 a1), .v (.string a2), .s a3, .s a4]] [] = (sl1In [.one (.v (.int .i64 a1)), .one (.v (.int .i64 0)), .one (.v (.int .i64 7))] []).bind fun val => bif zag [.bool] val.1 && true then bif !(val.1.getD 0 .d).bool then zal.P2 true a0 a1 a2 a3 a4 else zal.P2 ((↑a3.length : Int) != (↑a4.length : Int)) a0 a1 a2 a3 a4 else none := by
 refine (zal.run _ _ (by kernel_rfl)).trans ?_
 delta zal sl1In zal.P2 XX
 refine zbq [2, 3] (by kernel_rfl) fun J e1 => ?_
 try simp only [← e1]
 clear e1
 generalize lpL (Y.ctx (lim' Y)) 189 = lp
 generalize lim' Y = call
 kernel_rfl
theorem zal.p2 (y0 y1:Bool) (y2:Int) (y3:BAy) (y4 y5:LLD) : zal.P2 y0 y1 y2 y3 y4 y5 = bif y0 then some ⟨[.v (.bool false)], []⟩ else zal.P3 y1 y2 y3 y4 y5 := by
 delta zal.P2 zal.P3 XX
 refine zbf [2, 3] 2 (by kernel_rfl) fun J e1 => ?_
 try simp only [← e1]
 clear e1
 generalize lpL (Y.ctx (lim' Y)) 189 = lp
 generalize lim' Y = call
 kernel_rfl
theorem zal.p3 (y0:Bool) (y1:Int) (y2:BAy) (y3 y4:LLD) : zal.P3 y0 y1 y2 y3 y4 = bif !y0 then bif decide ((↑y2.size : Int) ≤ 24) then some ⟨[.v (.bool ((↑y3.length : Int) == 0))], []⟩ else some ⟨[.v (.bool false)], []⟩ else (zal.L6 0 y0 y1 y2 y3 y4).bind zal.A6 := by
 delta zal.P3 zal.L6 zal.A6 XX
 refine zbf [2, 3] 3 (by kernel_rfl) fun J e1 => ?_
 have eA := evA_J [2, 3] 6 (by kernel_rfl) e1
 try simp only [eA]
 clear eA
 try simp only [← e1]
 clear e1
 show _ = _
 generalize lpL (Y.ctx (lim' Y)) 189 = lp
 generalize lim' Y = call
 kernel_rfl
theorem zal.s6 (y0:Int) (y1:Bool) (y2:Int) (y3:BAy) (y4 y5:LLD) : zal.L6 y0 y1 y2 y3 y4 y5 = bif decide (y0 < (↑y4.length : Int)) then bif decide (0 ≤ y0) && decide (y0 < (↑y4.length : Int)) && decide ((y4.getD y0.toNat []).length = 1) then bif zav [.str] (y4.getD y0.toNat []) 0 && decide (1 ≤ (y4.getD y0.toNat []).length) then (zam [.one (.v (.string ((y4.getD y0.toNat []).getD 0 .h).str))] []).bind fun val => bif zag [.bool] val.1 && true then bif !(val.1.getD 0 .d).bool then zal.P9 y0 true y1 y2 y3 y4 y5 else bif decide (y0 > 0) then bif decide (0 ≤ IntKind.i64.wrap (y0 - 1)) && decide (IntKind.i64.wrap (y0 - 1) < (↑y4.length : Int)) && decide ((y4.getD (IntKind.i64.wrap (y0 - 1)).toNat []).length = 1) then bif zav [.str] (y4.getD (IntKind.i64.wrap (y0 - 1)).toNat []) 0 && decide (1 ≤ (y4.getD (IntKind.i64.wrap (y0 - 1)).toNat []).length) then bif decide (0 ≤ y0) && decide (y0 < (↑y4.length : Int)) && decide ((y4.getD y0.toNat []).length = 1) then bif zav [.str] (y4.getD y0.toNat []) 0 && decide (1 ≤ (y4.getD y0.toNat []).length) then zal.P9 y0 (!Op.bytesLess ((y4.getD (IntKind.i64.wrap (y0 - 1)).toNat []).getD 0 .h).str.toList ((y4.getD y0.toNat []).getD 0 .h).str.toList) y1 y2 y3 y4 y5 else none else none else none else none else zal.P9 y0 false y1 y2 y3 y4 y5 else none else none else none else some (zal.x6 y1 y2 y3 y4 y5) := by
 refine (zbg (Y := Y) (c := lim' Y) (fn := 189) (rid := 6) (b := zaw 6 zal.c) (by kernel_rfl) _).trans ?_
 delta zal.L6 zam zal.P9 zal.x6 XX
 refine zbq [9] (by kernel_rfl) fun J e1 => ?_
 try simp only [← e1]
 clear e1
 generalize lpL (Y.ctx (lim' Y)) 189 = lp
 generalize lim' Y = call
 kernel_rfl
theorem zal.p9 (y0:Int) (y1 y2:Bool) (y3:Int) (y4:BAy) (y5 y6:LLD) : zal.P9 y0 y1 y2 y3 y4 y5 y6 = bif y1 then some (zal.q6 false y2 y3 y4 y5 y6) else zal.L6 (IntKind.i64.wrap (y0 + 1)) y2 y3 y4 y5 y6 := by
 delta zal.P9 zal.q6 zal.L6 XX
 refine zbf [9] 9 (by kernel_rfl) fun J e1 => ?_
 try simp only [← e1]
 clear e1
 generalize lpL (Y.ctx (lim' Y)) 189 = lp
 generalize lim' Y = call
 kernel_rfl
theorem zal.a6x6 (y0:Bool) (y1:Int) (y2:BAy) (y3 y4:LLD) : zal.A6 (zal.x6 y0 y1 y2 y3 y4) = some ⟨[.v (.bool (y2.toList == []))], []⟩ := by
 delta zal.A6 zal.x6 XX
 refine za8 [2, 3] 6 (by kernel_rfl) fun J e1 => ?_
 have eA := evA_J [2, 3] 6 (by kernel_rfl) e1
 try simp only [eA]
 clear eA
 try simp only [← e1]
 clear e1
 show _ = _
 generalize lpL (Y.ctx (lim' Y)) 189 = lp
 generalize lim' Y = call
 kernel_rfl
theorem zal.a6q6 (y0 y1:Bool) (y2:Int) (y3:BAy) (y4 y5:LLD) : zal.A6 (zal.q6 y0 y1 y2 y3 y4 y5) = some ⟨[.v (.bool y0)], []⟩ := by
 delta zal.A6 zal.q6 XX
 refine za8 [2, 3] 6 (by kernel_rfl) fun J e1 => ?_
 have eA := evA_J [2, 3] 6 (by kernel_rfl) e1
 try simp only [eA]
 clear eA
 try simp only [← e1]
 clear e1
 show _ = _
 generalize lpL (Y.ctx (lim' Y)) 189 = lp
 generalize lim' Y = call
 kernel_rfl
theorem zcR.e (a0:Int) : zcR [.one (.v (.int .i64 a0))] [] = bif decide (a0 < -9223372036854775807) then some ⟨[.v (.string (ByteArray.mk #[45, 57, 50, 50, 51, 51, 55, 50, 48, 51, 54, 56, 53, 52, 55, 55, 53, 56, 48, 56]))], []⟩ else bif decide (a0 < 0) then (zcR [.one (.v (.int .i64 (IntKind.i64.wrap (0 - a0))))] []).bind fun val => bif zag [.str] val.1 && true then bif decide (1 + (val.1.getD 0 .d).str.size ≤ 70368744177664) then some ⟨[.v (.string ((ByteArray.mk #[45]) ++ (val.1.getD 0 .d).str))], []⟩ else none else none else bif decide (a0 < 10) then some ⟨[.v (.string (strOf [[.v (.int .u8 (IntKind.u8.wrap (IntKind.i64.wrap (48 + a0))))]]))], []⟩ else (zcR [.one (.v (.int .i64 (IntKind.i64.wrap (a0.tdiv 10))))] []).bind fun val => bif zag [.str] val.1 && true then bif decide ((val.1.getD 0 .d).str.size + 1 ≤ 70368744177664) then some ⟨[.v (.string ((val.1.getD 0 .d).str ++ strOf [[.v (.int .u8 (IntKind.u8.wrap (IntKind.i64.wrap (48 + a0.tmod 10))))]]))], []⟩ else none else none := by
 refine (zcR.run _ _ (by kernel_rfl)).trans ?_
 delta zcR XX
 generalize lpL (Y.ctx (lim' Y)) 193 = lp
 generalize lim' Y = call
 kernel_rfl
noncomputable def zbi.L3 (y0 y1:BAy) (y2:Int) : Option (Ex × St) := lpL XX 194 (zaw 3 zbi.c) (mkG 0 37 [(0, .one (.v (.string y0))), (3, .one (.v (.string y1))), (4, .one (.v (.int .i64 y2)))] [] GL)
noncomputable def zbi.A3 : Ex × St → Option Res := fun r => evA XX 194 (lpL XX 194) 3 zbi.c r.fst r.snd (outE XX 194 Tryz.f194)
noncomputable def zbi.x3 (y0:BAy) : Ex × St := (Ex.exit 0, mkG 0 37 [(3, .one (.v (.string y0)))] [] GL)
theorem zbi.e (a0:BAy) : zbi [.one (.v (.string a0))] [] = (zbi.L3 a0 (ByteArray.mk #[]) 0).bind zbi.A3 := by
 refine (zbi.run _ _ (by kernel_rfl)).trans ?_
 delta zbi zbi.L3 zbi.A3 XX
 generalize lpL (Y.ctx (lim' Y)) 194 = lp
 generalize lim' Y = call
 kernel_rfl
theorem zbi.s3 (y0 y1:BAy) (y2:Int) : zbi.L3 y0 y1 y2 = bif decide (y2 < (↑y0.size : Int)) then bif decide (0 ≤ y2) && decide (y2 < (↑y0.size : Int)) then bif decide (0 ≤ y2) && decide (y2 < (↑y0.size : Int)) then bif decide (IntKind.u8.wrap ((za9 y0 y2.toNat).tdiv 16) ≤ IntKind.u8.wrap (IntKind.u8.wrap ((za9 y0 y2.toNat).tdiv 16) + 1)) && decide (IntKind.u8.wrap (IntKind.u8.wrap ((za9 y0 y2.toNat).tdiv 16) + 1) ≤ (↑(ByteArray.mk #[48, 49, 50, 51, 52, 53, 54, 55, 56, 57, 97, 98, 99, 100, 101, 102]).size : Int)) then bif decide (y1.size + ((ByteArray.mk #[48, 49, 50, 51, 52, 53, 54, 55, 56, 57, 97, 98, 99, 100, 101, 102]).extract (IntKind.u8.wrap ((za9 y0 y2.toNat).tdiv 16)).toNat (IntKind.u8.wrap (IntKind.u8.wrap ((za9 y0 y2.toNat).tdiv 16) + 1)).toNat).size ≤ 70368744177664) then bif decide (0 ≤ y2) && decide (y2 < (↑y0.size : Int)) then bif decide (0 ≤ y2) && decide (y2 < (↑y0.size : Int)) then bif decide ((za9 y0 y2.toNat).tmod 16 ≤ IntKind.u8.wrap ((za9 y0 y2.toNat).tmod 16 + 1)) && decide (IntKind.u8.wrap ((za9 y0 y2.toNat).tmod 16 + 1) ≤ (↑(ByteArray.mk #[48, 49, 50, 51, 52, 53, 54, 55, 56, 57, 97, 98, 99, 100, 101, 102]).size : Int)) then bif decide ((y1 ++ (ByteArray.mk #[48, 49, 50, 51, 52, 53, 54, 55, 56, 57, 97, 98, 99, 100, 101, 102]).extract (IntKind.u8.wrap ((za9 y0 y2.toNat).tdiv 16)).toNat (IntKind.u8.wrap (IntKind.u8.wrap ((za9 y0 y2.toNat).tdiv 16) + 1)).toNat).size + ((ByteArray.mk #[48, 49, 50, 51, 52, 53, 54, 55, 56, 57, 97, 98, 99, 100, 101, 102]).extract ((za9 y0 y2.toNat).tmod 16).toNat (IntKind.u8.wrap ((za9 y0 y2.toNat).tmod 16 + 1)).toNat).size ≤ 70368744177664) then zbi.L3 y0 (y1 ++ (ByteArray.mk #[48, 49, 50, 51, 52, 53, 54, 55, 56, 57, 97, 98, 99, 100, 101, 102]).extract (IntKind.u8.wrap ((za9 y0 y2.toNat).tdiv 16)).toNat (IntKind.u8.wrap (IntKind.u8.wrap ((za9 y0 y2.toNat).tdiv 16) + 1)).toNat ++ (ByteArray.mk #[48, 49, 50, 51, 52, 53, 54, 55, 56, 57, 97, 98, 99, 100, 101, 102]).extract ((za9 y0 y2.toNat).tmod 16).toNat (IntKind.u8.wrap ((za9 y0 y2.toNat).tmod 16 + 1)).toNat) (IntKind.i64.wrap (y2 + 1)) else none else none else none else none else none else none else none else none else some (zbi.x3 y1) := by
 refine (zbg (Y := Y) (c := lim' Y) (fn := 194) (rid := 3) (b := zaw 3 zbi.c) (by kernel_rfl) _).trans ?_
 delta zbi.L3 zbi.x3 XX
 generalize lpL (Y.ctx (lim' Y)) 194 = lp
 generalize lim' Y = call
 kernel_rfl
theorem zbi.a3x3 (y0:BAy) : zbi.A3 (zbi.x3 y0) = bif y0.toList == [] then some ⟨[.v (.string (ByteArray.mk #[45]))], []⟩ else some ⟨[.v (.string y0)], []⟩ := by
 delta zbi.A3 zbi.x3 XX
 generalize lpL (Y.ctx (lim' Y)) 194 = lp
 generalize lim' Y = call
 kernel_rfl
theorem zbR.e (a0:BAy) : zbR [.one (.v (.string a0))] [] = bif a0.toList == [] then some ⟨[.v (.string (ByteArray.mk #[45]))], []⟩ else (zbj [.one (.v (.string a0))] []).bind fun val => bif zag [.str] val.1 && true then some ⟨[.v (.string (val.1.getD 0 .d).str)], []⟩ else none := by
 refine (zbR.run _ _ (by kernel_rfl)).trans ?_
 delta zbR zbj XX
 generalize lpL (Y.ctx (lim' Y)) 203 = lp
 generalize lim' Y = call
 kernel_rfl
theorem zaM.e (a0:LLD) (b0:Bool) (b1:Int) (b2:BAy) (b3 b4:LLD) (b:BAy) : zaM [.one (.s a0), .g [.v (.bool b0), .v (.int .i64 b1), .v (.string b2), .s b3, .s b4], .one (.bx [A0.p true 0 [] 0] 0)] [⟨.bld 170 5, [.v (.string b), .h], [.deep, .deep]⟩] = (zbA [.g [.v (.bool b0), .v (.int .i64 b1), .v (.string b2), .s b3, .s b4], .one (.s a0)] []).bind fun val => bif zag [.str] val.1 && true then (za4 [.one (.p true 0 [] 0), .one (.v (.string (val.1.getD 0 .d).str))] [⟨.bld 170 5, [.v (.string b), .h], [.deep, .deep]⟩]).bind fun val => bif zag [.int .i64, .any] val.1 && za7 [⟨⟨.bld 170 5, [.v (.string b), .h], [.deep, .deep]⟩, .box 0⟩] val.2 then some ⟨[], [⟨.bld 170 5, [.v (.string ((val.2.getD 0 ⟨.ro, [], []⟩).2.getD 0 .h).str), .h], [.deep, .deep]⟩]⟩ else none else none := by
 refine (zaM.run _ _ (by kernel_rfl)).trans ?_
 delta zaM zbA za4 XX
 generalize lpL (Y.ctx (lim' Y)) 204 = lp
 generalize lim' Y = call
 kernel_rfl
noncomputable def zbm.L3 (y0:BAy) (y1 y2:Int) : Option (Ex × St) := lpL XX 223 (zaw 3 zbm.c) (mkG 0 20 [(0, .one (.v (.string y0))), (3, .one (.v (.int .i64 y1))), (4, .one (.v (.int .i64 y2)))] [] GL)
noncomputable def zbm.A3 : Ex × St → Option Res := fun r => evA XX 223 (lpL XX 223) 3 zbm.c r.fst r.snd (outE XX 223 Tryz.f223)
noncomputable def zbm.x3 (y0:Int) : Ex × St := (Ex.exit 0, mkG 0 20 [(3, .one (.v (.int .i64 y0)))] [] GL)
theorem zbm.e (a0:BAy) : zbm [.one (.v (.string a0))] [] = (zbm.L3 a0 7 0).bind zbm.A3 := by
 refine (zbm.run _ _ (by kernel_rfl)).trans ?_
 delta zbm zbm.L3 zbm.A3 XX
 generalize lpL (Y.ctx (lim' Y)) 223 = lp
 generalize lim' Y = call
 kernel_rfl
theorem zbm.s3 (y0:BAy) (y1 y2:Int) : zbm.L3 y0 y1 y2 = bif decide (y2 < (↑y0.size : Int)) then bif decide (0 ≤ y2) && decide (y2 < (↑y0.size : Int)) then zbm.L3 y0 ((IntKind.i64.wrap (IntKind.i64.wrap (y1 * 131) + IntKind.i64.wrap (za9 y0 y2.toNat))).tmod 1000000007) (IntKind.i64.wrap (y2 + 1)) else none else some (zbm.x3 y1) := by
 refine (zbg (Y := Y) (c := lim' Y) (fn := 223) (rid := 3) (b := zaw 3 zbm.c) (by kernel_rfl) _).trans ?_
 delta zbm.L3 zbm.x3 XX
 generalize lpL (Y.ctx (lim' Y)) 223 = lp
 generalize lim' Y = call
 kernel_rfl
theorem zbm.a3x3 (y0:Int) : zbm.A3 (zbm.x3 y0) = some ⟨[.v (.int .i64 y0)], []⟩ := by
 delta zbm.A3 zbm.x3 XX
 generalize lpL (Y.ctx (lim' Y)) 223 = lp
 generalize lim' Y = call
 kernel_rfl
theorem zaX.e (a0:BAy) : zaX [.one (.v (.string a0))] [] = some ⟨[.v (.bool !a0.toList == a0.toList)], []⟩ := by
 refine (zaX.run _ _ (by kernel_rfl)).trans ?_
 delta zaX XX
 generalize lpL (Y.ctx (lim' Y)) 224 = lp
 generalize lim' Y = call
 kernel_rfl
noncomputable def zbj.L3 (y0:BAy) (y1:Int) (y2:LLD) : Option (Ex × St) := lpL XX 236 (zaw 3 zbj.c) (mkG 0 27 [(0, .one (.v (.string y0))), (3, .one (.r 3 [] 0)), (4, .one (.v (.int .i64 y1)))] [(3, some ⟨.virt, [.s y2], [.deep]⟩)] GL)
noncomputable def zbj.A3 : Ex × St → Option Res := fun r => evA XX 236 (lpL XX 236) 3 zbj.c r.fst r.snd (outE XX 236 Tryz.f236)
noncomputable def zbj.x3 (y0:LLD) : Ex × St := (Ex.exit 0, mkG 0 27 [(3, .one (.r 3 [] 0))] [(3, some ⟨.virt, [.s y0], [.deep]⟩)] GL)
theorem zbj.e (a0:BAy) : zbj [.one (.v (.string a0))] [] = (zbj.L3 a0 0 []).bind zbj.A3 := by
 refine (zbj.run _ _ (by kernel_rfl)).trans ?_
 delta zbj zbj.L3 zbj.A3 XX
 generalize lpL (Y.ctx (lim' Y)) 236 = lp
 generalize lim' Y = call
 kernel_rfl
theorem zbj.s3 (y0:BAy) (y1:Int) (y2:LLD) : zbj.L3 y0 y1 y2 = bif decide (y1 < (↑y0.size : Int)) then bif decide (0 ≤ y1) && decide (y1 < (↑y0.size : Int)) then bif decide (IntKind.u8.wrap ((za9 y0 y1.toNat).tdiv 16) < (↑(ByteArray.mk #[48, 49, 50, 51, 52, 53, 54, 55, 56, 57, 97, 98, 99, 100, 101, 102]).size : Int)) then bif decide (0 ≤ y1) && decide (y1 < (↑y0.size : Int)) then bif decide ((za9 y0 y1.toNat).tmod 16 < (↑(ByteArray.mk #[48, 49, 50, 51, 52, 53, 54, 55, 56, 57, 97, 98, 99, 100, 101, 102]).size : Int)) then bif zaA 1 y2 && true && true && true && decide ((y2.length + 2) * 2 ≤ 70368744177664) then zbj.L3 y0 (IntKind.i64.wrap (y1 + 1)) (y2 ++ [[.v (.int .u8 (za9 (ByteArray.mk #[48, 49, 50, 51, 52, 53, 54, 55, 56, 57, 97, 98, 99, 100, 101, 102]) (IntKind.u8.wrap ((za9 y0 y1.toNat).tdiv 16)).toNat))], [.v (.int .u8 (za9 (ByteArray.mk #[48, 49, 50, 51, 52, 53, 54, 55, 56, 57, 97, 98, 99, 100, 101, 102]) ((za9 y0 y1.toNat).tmod 16).toNat))]]) else none else none else none else none else none else some (zbj.x3 y2) := by
 refine (zbg (Y := Y) (c := lim' Y) (fn := 236) (rid := 3) (b := zaw 3 zbj.c) (by kernel_rfl) _).trans ?_
 delta zbj.L3 zbj.x3 XX
 generalize lpL (Y.ctx (lim' Y)) 236 = lp
 generalize lim' Y = call
 kernel_rfl
theorem zbj.a3x3 (y0:LLD) : zbj.A3 (zbj.x3 y0) = bif zfQ y0 then some ⟨[.v (.string (strOf y0))], []⟩ else none := by
 delta zbj.A3 zbj.x3 XX
 generalize lpL (Y.ctx (lim' Y)) 236 = lp
 generalize lim' Y = call
 kernel_rfl
end Go.PVx
