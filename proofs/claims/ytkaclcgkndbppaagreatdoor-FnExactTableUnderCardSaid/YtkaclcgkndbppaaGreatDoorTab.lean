/- A part of the proof: PvTtTab. -/
import Derived.Test.YtkaclcgkndbppaaGreatDoorProg
import Derived.Test.YtkaclcgkndbppaaGreatDoorPvC
import Derived.KernelRfl
import Derived.Test.YtkaclcgkndbppaaGreatDoorExt
import Derived.Test.YtkaclcgkndbppaaGreatDoorBld
import Derived.Test.YtkaclcgkndbppaaGreatDoorIns
set_option linter.unusedSimpArgs false
set_option linter.unusedVariables false
namespace Go.PVx
open Go.PV Go.Proofs
abbrev runOk (fn : Go.Func) (xs : List AV) (os : List PV.Obj) : Bool := decide (xs.length ≤ fn.ntmps) && decide (os.length + fn.ntmps < 1000000000) && !(fn.name == "runtime.NumGoroutine")
def sigs : FuncId → Sig
 | 131 => { con := [0, 2], res := .one (.own .deep) }
 | 132 => { con := [0, 2], res := .one (.own .deep) }
 | 156 => { mu := [0], res := .tup [(false, [.int .i64]), (false, [.any])] }
 | 162 => { mu := [0], res := .one (.str) }
 | 201 => { res := .one (.str) }
 | 202 => { res := .one (.str) }
 | 3 => { res := .one (.bool) }
 | 4 => { res := .one (.bool) }
 | 5 => { res := .one (.bool) }
 | 6 => { res := .one (.bool) }
 | 14 => { res := .one (.int .i64) }
 | 15 => { res := .one (.int .i64) }
 | 16 => { res := .one (.int .i64) }
 | 17 => { res := .one (.own .deep) }
 | 18 => { res := .one (.own .deep) }
 | 19 => { res := .one (.int .i64) }
 | 20 => { res := .one (.bool) }
 | 21 => { res := .one (.bool) }
 | 22 => { res := .tup [(false, [.int .i64]), (false, [.int .i64])] }
 | 23 => { res := .tup [(false, [.int .i64]), (false, [.int .i64])] }
 | 24 => { res := .tup [(true, [.bool, .int .i64, .str, .own .deep, .own .deep]), (false, [.bool])] }
 | 25 => { res := .tup [(true, [.bool, .int .i64, .str, .own .deep, .own .deep]), (false, [.bool])] }
 | 26 => { res := .one (.bool) }
 | 27 => { mu := [0], res := .one (.int .i64) }
 | 28 => { mu := [0], res := .one (.int .i64) }
 | 29 => { res := .one (.int .i64) }
 | 30 => { res := .one (.own .deep) }
 | 31 => { res := .one (.own .deep) }
 | 32 => { mu := [0], res := .one (.int .i64) }
 | 33 => { res := .one (.int .i64) }
 | 58 => { res := .one (.int .i64) }
 | 59 => { res := .one (.bool) }
 | 60 => { res := .one (.bool) }
 | 61 => { res := .agg [.own .deep, .bool, .int .i64, .str, .int .i64] }
 | 62 => { res := .one (.int .i64) }
 | 63 => { res := .one (.bool) }
 | 64 => { res := .one (.bool) }
 | 65 => { res := .one (.bool) }
 | 66 => { res := .one (.bool) }
 | 67 => { res := .one (.bool) }
 | 68 => { res := .one (.bool) }
 | 69 => { res := .tup [(true, [.bool, .int .i64, .str, .sh, .sh]), (false, [.bool])] }
 | 70 => { res := .one (.own .deep) }
 | 71 => { res := .one (.bool) }
 | 72 => { res := .agg [.bool, .int .i64, .str, .own .deep, .own .deep] }
 | 73 => { res := .one (.bool) }
 | 74 => { res := .one (.ptr 0) }
 | 75 => { mu := [0], con := [2], res := .none }
 | 76 => { res := .one (.bool) }
 | 77 => { res := .one (.bool) }
 | 78 => { res := .one (.own .deep) }
 | 79 => { res := .one (.bool) }
 | 80 => { res := .agg [.bool, .int .i64, .str, .own .deep, .own .deep] }
 | 81 => { res := .one (.bool) }
 | 82 => { res := .one (.str) }
 | 83 => { mu := [0], res := .one (.int .i64) }
 | 84 => { res := .one (.int .i64) }
 | 86 => { res := .one (.bool) }
 | 125 => { res := .one (.bool) }
 | 126 => { res := .one (.bool) }
 | 127 => { res := .one (.int .i64) }
 | 128 => { res := .one (.own .deep) }
 | 129 => { res := .one (.ptr 0) }
 | 130 => { res := .tup [(false, [.int .i64]), (false, [.bool])] }
 | 133 => { res := .one (.bool) }
 | 134 => { res := .one (.int .i64) }
 | 135 => { mu := [2], res := .none }
 | 136 => { mu := [2], res := .none }
 | 137 => { res := .one (.int .i64) }
 | 138 => { res := .one (.bool) }
 | 139 => { res := .one (.int .i64) }
 | 149 => { res := .one (.str) }
 | 157 => { res := .one (.str) }
 | 158 => { res := .one (.bool) }
 | 160 => { res := .one (.str) }
 | 164 => { res := .one (.str) }
 | 165 => { res := .one (.str) }
 | 173 => { res := .one .sh }
 | 179 => { res := .one (.int .i64) }
 | 180 => { res := .one (.int .i64) }
 | 181 => { res := .one (.bool) }
 | 182 => { res := .one (.bool) }
 | 187 => { res := .one (.bool) }
 | 188 => { res := .one (.own .deep) }
 | 189 => { res := .one (.bool) }
 | 193 => { res := .one (.str) }
 | 194 => { res := .one (.str) }
 | 203 => { res := .one (.str) }
 | 204 => { res := .none }
 | 223 => { res := .one (.int .i64) }
 | 224 => { res := .one (.bool) }
 | 236 => { res := .one (.str) }
 | _ => { res := .none }
def lives : FuncId → Nat → List Nat × List Nat
 | 3, 100009 => ([0, 1, 6], [1])
 | 3, 100016 => ([1, 8], [1])
 | 4, 100009 => ([0, 1, 6, 7], [1])
 | 4, 100013 => ([0, 1, 8, 9, 47], [1])
 | 4, 100014 => ([0, 1, 8, 9], [1])
 | 5, 100008 => ([0, 4, 5, 6, 7, 8], [1])
 | 5, 100009 => ([0, 4, 5, 6, 7, 8, 40], [1])
 | 5, 100010 => ([0, 4, 5, 6, 7, 8], [1])
 | 5, 100015 => ([0, 4, 5, 7, 61], [1])
 | 5, 100016 => ([0, 4, 5, 7], [1])
 | 5, 100025 => ([4, 5, 7, 10, 12, 13], [1])
 | 5, 100026 => ([7, 10, 87], [1])
 | 5, 100027 => ([7, 10], [1])
 | 6, 100009 => ([0, 1, 6], [1])
 | 6, 100015 => ([0, 1, 6, 7, 8, 9, 44], [1])
 | 6, 100022 => ([0, 1, 6, 9, 63], [1])
 | 6, 100023 => ([0, 1, 6, 9], [1])
 | 6, 100032 => ([6, 9, 11, 13], [1])
 | 14, 5 => ([0, 1, 5], [1, 4])
 | 15, 5 => ([0, 1, 5], [1, 4])
 | 16, 6 => ([0, 1, 7, 8], [0, 1, 7])
 | 16, 100012 => ([7, 48], [1])
 | 17, 3 => ([0, 3, 4], [3])
 | 18, 3 => ([0, 3, 4], [3])
 | 20, 4 => ([0, 1, 5], [4])
 | 21, 4 => ([0, 1, 5], [4])
 | 22, 5 => ([0, 1, 6, 7], [6, 7])
 | 23, 5 => ([0, 1, 6, 7], [6, 7])
 | 24, 5 => ([0, 2, 4, 5], [0, 2, 3, 4])
 | 24, 18 => ([0, 2, 4, 9, 10], [2, 3, 4])
 | 24, 100002 => ([0, 2, 26], [1])
 | 24, 100003 => ([0, 2], [1])
 | 24, 100011 => ([0, 2, 4, 5, 7, 8], [1])
 | 25, 5 => ([0, 2, 4, 28, 29, 30], [0, 2, 3, 4])
 | 25, 100005 => ([0, 2, 4, 28, 29, 30], [1])
 | 25, 100011 => ([0, 2, 4, 6, 7, 8, 28, 29, 30], [1])
 | 25, 100016 => ([2, 4, 75], [1])
 | 25, 100017 => ([2, 4], [1])
 | 26, 100009 => ([2, 3], [1])
 | 27, 2 => ([0, 1, 5], [1])
 | 27, 100008 => ([0, 1, 5], [1])
 | 30, 4 => ([0, 1, 6, 7, 8], [7])
 | 31, 4 => ([1, 5, 20, 21, 22], [5])
 | 32, 2 => ([0, 1, 5], [1])
 | 33, 2 => ([0, 1, 5], [1, 4])
 | 59, 2 => ([0, 1, 5], [0, 1, 4])
 | 59, 100004 => ([0, 1, 5], [1])
 | 62, 2 => ([0, 1, 7, 8], [4])
 | 64, 4 => ([0, 1, 12, 13], [4])
 | 65, 100009 => ([2, 3], [1])
 | 66, 4 => ([0, 1, 5], [4])
 | 67, 4 => ([0, 1, 12, 13], [4])
 | 68, 2 => ([0, 3], [0, 2])
 | 69, 100003 => ([1, 3, 5, 6, 8, 29], [1])
 | 69, 100007 => ([1, 3, 5, 6, 8, 9], [1])
 | 72, 3 => ([1, 2, 3, 4], [2, 3])
 | 74, 2 => ([0, 7, 8, 9], [0, 4])
 | 74, 100005 => ([0, 7, 8, 9], [1])
 | 75, 100005 => ([0, 5, 6], [1])
 | 77, 4 => ([1, 2, 15, 16, 17], [6])
 | 80, 3 => ([1, 2, 3, 8, 9, 10], [1, 2, 3])
 | 81, 4 => ([0, 1, 5], [4])
 | 82, 4 => ([0, 3], [3])
 | 83, 2 => ([0, 1, 5], [1])
 | 83, 100009 => ([0, 1, 5], [1])
 | 84, 2 => ([0, 1, 5], [1, 4])
 | 84, 100010 => ([0, 1, 5], [1])
 | 84, 100017 => ([0, 1, 5], [1])
 | 125, 2 => ([0, 3], [0, 2])
 | 125, 100005 => ([0, 3, 32], [1])
 | 127, 2 => ([1, 2, 5], [4])
 | 128, 3 => ([0, 3, 5, 6], [5])
 | 129, 100003 => ([0, 5, 22], [1])
 | 129, 100004 => ([0, 5], [1])
 | 130, 3 => ([0, 1, 6, 7, 8], [0, 1, 6, 7])
 | 133, 8 => ([1, 2, 41, 42, 43], [4])
 | 133, 100002 => ([1, 2, 23], [1])
 | 133, 100003 => ([1, 2], [1])
 | 133, 100011 => ([1, 2, 41, 42, 43, 75], [1])
 | 134, 3 => ([3, 7, 8, 9], [3])
 | 135, 3 => ([1, 2, 3, 13, 14, 15], [])
 | 137, 4 => ([3, 4, 9, 10], [3])
 | 138, 4 => ([1, 2, 5], [4])
 | 138, 100002 => ([1, 2, 12], [1])
 | 138, 100003 => ([1, 2], [1])
 | 139, 3 => ([1, 3, 4], [3])
 | 164, 3 => ([0, 3, 5, 6], [5])
 | 180, 2 => ([0, 1, 7, 8], [4])
 | 187, 2 => ([0, 5, 6], [0, 2])
 | 187, 100005 => ([0, 5, 6, 30], [1])
 | 189, 6 => ([1, 3], [1, 2])
 | 189, 100002 => ([1, 16], [1])
 | 189, 100003 => ([1], [1])
 | 189, 100009 => ([1, 3, 61], [1])
 | 194, 3 => ([0, 3, 4], [3])
 | 223, 3 => ([0, 3, 4], [3])
 | 236, 3 => ([0, 3, 4], [3])
 | _, _ => ([], [])
def mvs : FuncId → Nat → Nat → Bool
 | 24, 2, 1 => true
 | 24, 9, 1 => true
 | 24, 12, 1 => true
 | 24, 16, 1 => true
 | 24, 21, 1 => true
 | 24, 22, 2 => true
 | 25, 2, 1 => true
 | 25, 8, 1 => true
 | 25, 12, 1 => true
 | 25, 16, 1 => true
 | 25, 17, 2 => true
 | 28, 0, 0 => true
 | 61, 7, 1 => true
 | 69, 5, 1 => true
 | 69, 8, 1 => true
 | 69, 11, 2 => true
 | 72, 6, 1 => true
 | 75, 3, 7 => true
 | 75, 5, 7 => true
 | 80, 9, 1 => true
 | 165, 1, 2 => true
 | 165, 1, 3 => true
 | _, _, _ => false
noncomputable def exts : FuncId → Option (List AV → List PV.Obj → Option Res)
 | 131 => some (zcu 1)
 | 132 => some (zcu 5)
 | 156 => some (zdR 170 5)
 | 162 => some (zdA 170 5)
 | 201 => some zfi
 | 202 => some zgB
 | _ => none
def GL : List (Nat × List D) := [(5, Lib.pow10Tab.map fun z => .v (.int .u64 z))]
noncomputable def Y : Prm := { P := Tryz.prog, sig := sigs, mv := mvs, live := lives, ext := exts, gl := GL, bt := fun t => bif t == 170 then some 5 else none }
noncomputable def XX : Ctx := Y.ctx (lim' Y)
noncomputable def zak (xs : List AV) (os : List PV.Obj) : Option Res := lim' Y 4 xs os
noncomputable def zak.c : Code := zaO Tryz.f4
theorem zak.run (xs : List AV) (os : List PV.Obj) (hc : runOk Tryz.f4 xs os = true) :
 zak xs os = evK XX 4 (lpL XX 4) zak.c (zaI Tryz.f4 xs os GL) (outE XX 4 Tryz.f4) :=
 zaP (Y := Y) (f := 4) (fn := Tryz.f4) (cd := zak.c) rfl Tryz.func4 (by kernel_rfl) xs os hc
noncomputable def zaV (xs : List AV) (os : List PV.Obj) : Option Res := lim' Y 14 xs os
noncomputable def zaV.c : Code := zaO Tryz.f14
theorem zaV.run (xs : List AV) (os : List PV.Obj) (hc : runOk Tryz.f14 xs os = true) :
 zaV xs os = evK XX 14 (lpL XX 14) zaV.c (zaI Tryz.f14 xs os GL) (outE XX 14 Tryz.f14) :=
 zaP (Y := Y) (f := 14) (fn := Tryz.f14) (cd := zaV.c) rfl Tryz.func14 (by kernel_rfl) xs os hc
noncomputable def zap (xs : List AV) (os : List PV.Obj) : Option Res := lim' Y 15 xs os
noncomputable def zap.c : Code := zaO Tryz.f15
theorem zap.run (xs : List AV) (os : List PV.Obj) (hc : runOk Tryz.f15 xs os = true) :
 zap xs os = evK XX 15 (lpL XX 15) zap.c (zaI Tryz.f15 xs os GL) (outE XX 15 Tryz.f15) :=
 zaP (Y := Y) (f := 15) (fn := Tryz.f15) (cd := zap.c) rfl Tryz.func15 (by kernel_rfl) xs os hc
noncomputable def zao (xs : List AV) (os : List PV.Obj) : Option Res := lim' Y 16 xs os
noncomputable def zao.c : Code := zaO Tryz.f16
theorem zao.run (xs : List AV) (os : List PV.Obj) (hc : runOk Tryz.f16 xs os = true) :
 zao xs os = evK XX 16 (lpL XX 16) zao.c (zaI Tryz.f16 xs os GL) (outE XX 16 Tryz.f16) :=
 zaP (Y := Y) (f := 16) (fn := Tryz.f16) (cd := zao.c) rfl Tryz.func16 (by kernel_rfl) xs os hc
noncomputable def za3 (xs : List AV) (os : List PV.Obj) : Option Res := lim' Y 17 xs os
noncomputable def za3.c : Code := zaO Tryz.f17
theorem za3.run (xs : List AV) (os : List PV.Obj) (hc : runOk Tryz.f17 xs os = true) :
 za3 xs os = evK XX 17 (lpL XX 17) za3.c (zaI Tryz.f17 xs os GL) (outE XX 17 Tryz.f17) :=
 zaP (Y := Y) (f := 17) (fn := Tryz.f17) (cd := za3.c) rfl Tryz.func17 (by kernel_rfl) xs os hc
noncomputable def zaB (xs : List AV) (os : List PV.Obj) : Option Res := lim' Y 18 xs os
noncomputable def zaB.c : Code := zaO Tryz.f18
theorem zaB.run (xs : List AV) (os : List PV.Obj) (hc : runOk Tryz.f18 xs os = true) :
 zaB xs os = evK XX 18 (lpL XX 18) zaB.c (zaI Tryz.f18 xs os GL) (outE XX 18 Tryz.f18) :=
 zaP (Y := Y) (f := 18) (fn := Tryz.f18) (cd := zaB.c) rfl Tryz.func18 (by kernel_rfl) xs os hc
noncomputable def zbC (xs : List AV) (os : List PV.Obj) : Option Res := lim' Y 19 xs os
noncomputable def zbC.c : Code := zaO Tryz.f19
theorem zbC.run (xs : List AV) (os : List PV.Obj) (hc : runOk Tryz.f19 xs os = true) :
 zbC xs os = evK XX 19 (lpL XX 19) zbC.c (zaI Tryz.f19 xs os GL) (outE XX 19 Tryz.f19) :=
 zaP (Y := Y) (f := 19) (fn := Tryz.f19) (cd := zbC.c) rfl Tryz.func19 (by kernel_rfl) xs os hc
noncomputable def za4 (xs : List AV) (os : List PV.Obj) : Option Res := lim' Y 20 xs os
noncomputable def za4.c : Code := zaO Tryz.f20
theorem za4.run (xs : List AV) (os : List PV.Obj) (hc : runOk Tryz.f20 xs os = true) :
 za4 xs os = evK XX 20 (lpL XX 20) za4.c (zaI Tryz.f20 xs os GL) (outE XX 20 Tryz.f20) :=
 zaP (Y := Y) (f := 20) (fn := Tryz.f20) (cd := za4.c) rfl Tryz.func20 (by kernel_rfl) xs os hc
noncomputable def zaC (xs : List AV) (os : List PV.Obj) : Option Res := lim' Y 21 xs os
noncomputable def zaC.c : Code := zaO Tryz.f21
theorem zaC.run (xs : List AV) (os : List PV.Obj) (hc : runOk Tryz.f21 xs os = true) :
 zaC xs os = evK XX 21 (lpL XX 21) zaC.c (zaI Tryz.f21 xs os GL) (outE XX 21 Tryz.f21) :=
 zaP (Y := Y) (f := 21) (fn := Tryz.f21) (cd := zaC.c) rfl Tryz.func21 (by kernel_rfl) xs os hc
noncomputable def zaw (xs : List AV) (os : List PV.Obj) : Option Res := lim' Y 22 xs os
noncomputable def zaw.c : Code := zaO Tryz.f22
theorem zaw.run (xs : List AV) (os : List PV.Obj) (hc : runOk Tryz.f22 xs os = true) :
 zaw xs os = evK XX 22 (lpL XX 22) zaw.c (zaI Tryz.f22 xs os GL) (outE XX 22 Tryz.f22) :=
 zaP (Y := Y) (f := 22) (fn := Tryz.f22) (cd := zaw.c) rfl Tryz.func22 (by kernel_rfl) xs os hc
noncomputable def zax (xs : List AV) (os : List PV.Obj) : Option Res := lim' Y 23 xs os
noncomputable def zax.c : Code := zaO Tryz.f23
theorem zax.run (xs : List AV) (os : List PV.Obj) (hc : runOk Tryz.f23 xs os = true) :
 zax xs os = evK XX 23 (lpL XX 23) zax.c (zaI Tryz.f23 xs os GL) (outE XX 23 Tryz.f23) :=
 zaP (Y := Y) (f := 23) (fn := Tryz.f23) (cd := zax.c) rfl Tryz.func23 (by kernel_rfl) xs os hc
noncomputable def zab (xs : List AV) (os : List PV.Obj) : Option Res := lim' Y 24 xs os
noncomputable def zab.c : Code := zaO Tryz.f24
theorem zab.run (xs : List AV) (os : List PV.Obj) (hc : runOk Tryz.f24 xs os = true) :
 zab xs os = evK XX 24 (lpL XX 24) zab.c (zaI Tryz.f24 xs os GL) (outE XX 24 Tryz.f24) :=
 zaP (Y := Y) (f := 24) (fn := Tryz.f24) (cd := zab.c) rfl Tryz.func24 (by kernel_rfl) xs os hc
noncomputable def zah (xs : List AV) (os : List PV.Obj) : Option Res := lim' Y 25 xs os
noncomputable def zah.c : Code := zaO Tryz.f25
theorem zah.run (xs : List AV) (os : List PV.Obj) (hc : runOk Tryz.f25 xs os = true) :
 zah xs os = evK XX 25 (lpL XX 25) zah.c (zaI Tryz.f25 xs os GL) (outE XX 25 Tryz.f25) :=
 zaP (Y := Y) (f := 25) (fn := Tryz.f25) (cd := zah.c) rfl Tryz.func25 (by kernel_rfl) xs os hc
noncomputable def zc9 (xs : List AV) (os : List PV.Obj) : Option Res := lim' Y 58 xs os
noncomputable def zc9.c : Code := zaO Tryz.f58
theorem zc9.run (xs : List AV) (os : List PV.Obj) (hc : runOk Tryz.f58 xs os = true) :
 zc9 xs os = evK XX 58 (lpL XX 58) zc9.c (zaI Tryz.f58 xs os GL) (outE XX 58 Tryz.f58) :=
 zaP (Y := Y) (f := 58) (fn := Tryz.f58) (cd := zc9.c) rfl Tryz.func58 (by kernel_rfl) xs os hc
noncomputable def zaE (xs : List AV) (os : List PV.Obj) : Option Res := lim' Y 59 xs os
noncomputable def zaE.c : Code := zaO Tryz.f59
theorem zaE.run (xs : List AV) (os : List PV.Obj) (hc : runOk Tryz.f59 xs os = true) :
 zaE xs os = evK XX 59 (lpL XX 59) zaE.c (zaI Tryz.f59 xs os GL) (outE XX 59 Tryz.f59) :=
 zaP (Y := Y) (f := 59) (fn := Tryz.f59) (cd := zaE.c) rfl Tryz.func59 (by kernel_rfl) xs os hc
noncomputable def zbY (xs : List AV) (os : List PV.Obj) : Option Res := lim' Y 60 xs os
noncomputable def zbY.c : Code := zaO Tryz.f60
theorem zbY.run (xs : List AV) (os : List PV.Obj) (hc : runOk Tryz.f60 xs os = true) :
 zbY xs os = evK XX 60 (lpL XX 60) zbY.c (zaI Tryz.f60 xs os GL) (outE XX 60 Tryz.f60) :=
 zaP (Y := Y) (f := 60) (fn := Tryz.f60) (cd := zbY.c) rfl Tryz.func60 (by kernel_rfl) xs os hc
noncomputable def zdl (xs : List AV) (os : List PV.Obj) : Option Res := lim' Y 61 xs os
noncomputable def zdl.c : Code := zaO Tryz.f61
theorem zdl.run (xs : List AV) (os : List PV.Obj) (hc : runOk Tryz.f61 xs os = true) :
 zdl xs os = evK XX 61 (lpL XX 61) zdl.c (zaI Tryz.f61 xs os GL) (outE XX 61 Tryz.f61) :=
 zaP (Y := Y) (f := 61) (fn := Tryz.f61) (cd := zdl.c) rfl Tryz.func61 (by kernel_rfl) xs os hc
noncomputable def zae (xs : List AV) (os : List PV.Obj) : Option Res := lim' Y 62 xs os
noncomputable def zae.c : Code := zaO Tryz.f62
theorem zae.run (xs : List AV) (os : List PV.Obj) (hc : runOk Tryz.f62 xs os = true) :
 zae xs os = evK XX 62 (lpL XX 62) zae.c (zaI Tryz.f62 xs os GL) (outE XX 62 Tryz.f62) :=
 zaP (Y := Y) (f := 62) (fn := Tryz.f62) (cd := zae.c) rfl Tryz.func62 (by kernel_rfl) xs os hc
abbrev za1.id : FuncId := 63
noncomputable def za1 (xs : List AV) (os : List PV.Obj) : Option Res := lim' Y 63 xs os
noncomputable def za1.c : Code := zaO Tryz.f63
theorem za1.run (xs : List AV) (os : List PV.Obj) (hc : runOk Tryz.f63 xs os = true) :
 za1 xs os = evK XX 63 (lpL XX 63) za1.c (zaI Tryz.f63 xs os GL) (outE XX 63 Tryz.f63) :=
 zaP (Y := Y) (f := 63) (fn := Tryz.f63) (cd := za1.c) rfl Tryz.func63 (by kernel_rfl) xs os hc
noncomputable def zad (xs : List AV) (os : List PV.Obj) : Option Res := lim' Y 64 xs os
noncomputable def zad.c : Code := zaO Tryz.f64
theorem zad.run (xs : List AV) (os : List PV.Obj) (hc : runOk Tryz.f64 xs os = true) :
 zad xs os = evK XX 64 (lpL XX 64) zad.c (zaI Tryz.f64 xs os GL) (outE XX 64 Tryz.f64) :=
 zaP (Y := Y) (f := 64) (fn := Tryz.f64) (cd := zad.c) rfl Tryz.func64 (by kernel_rfl) xs os hc
noncomputable def zch (xs : List AV) (os : List PV.Obj) : Option Res := lim' Y 65 xs os
noncomputable def zch.c : Code := zaO Tryz.f65
theorem zch.run (xs : List AV) (os : List PV.Obj) (hc : runOk Tryz.f65 xs os = true) :
 zch xs os = evK XX 65 (lpL XX 65) zch.c (zaI Tryz.f65 xs os GL) (outE XX 65 Tryz.f65) :=
 zaP (Y := Y) (f := 65) (fn := Tryz.f65) (cd := zch.c) rfl Tryz.func65 (by kernel_rfl) xs os hc
noncomputable def zaz (xs : List AV) (os : List PV.Obj) : Option Res := lim' Y 66 xs os
noncomputable def zaz.c : Code := zaO Tryz.f66
theorem zaz.run (xs : List AV) (os : List PV.Obj) (hc : runOk Tryz.f66 xs os = true) :
 zaz xs os = evK XX 66 (lpL XX 66) zaz.c (zaI Tryz.f66 xs os GL) (outE XX 66 Tryz.f66) :=
 zaP (Y := Y) (f := 66) (fn := Tryz.f66) (cd := zaz.c) rfl Tryz.func66 (by kernel_rfl) xs os hc
noncomputable def zaY (xs : List AV) (os : List PV.Obj) : Option Res := lim' Y 67 xs os
noncomputable def zaY.c : Code := zaO Tryz.f67
theorem zaY.run (xs : List AV) (os : List PV.Obj) (hc : runOk Tryz.f67 xs os = true) :
 zaY xs os = evK XX 67 (lpL XX 67) zaY.c (zaI Tryz.f67 xs os GL) (outE XX 67 Tryz.f67) :=
 zaP (Y := Y) (f := 67) (fn := Tryz.f67) (cd := zaY.c) rfl Tryz.func67 (by kernel_rfl) xs os hc
noncomputable def zaA (xs : List AV) (os : List PV.Obj) : Option Res := lim' Y 68 xs os
noncomputable def zaA.c : Code := zaO Tryz.f68
theorem zaA.run (xs : List AV) (os : List PV.Obj) (hc : runOk Tryz.f68 xs os = true) :
 zaA xs os = evK XX 68 (lpL XX 68) zaA.c (zaI Tryz.f68 xs os GL) (outE XX 68 Tryz.f68) :=
 zaP (Y := Y) (f := 68) (fn := Tryz.f68) (cd := zaA.c) rfl Tryz.func68 (by kernel_rfl) xs os hc
noncomputable def zbk (xs : List AV) (os : List PV.Obj) : Option Res := lim' Y 69 xs os
noncomputable def zbk.c : Code := zaO Tryz.f69
theorem zbk.run (xs : List AV) (os : List PV.Obj) (hc : runOk Tryz.f69 xs os = true) :
 zbk xs os = evK XX 69 (lpL XX 69) zbk.c (zaI Tryz.f69 xs os GL) (outE XX 69 Tryz.f69) :=
 zaP (Y := Y) (f := 69) (fn := Tryz.f69) (cd := zbk.c) rfl Tryz.func69 (by kernel_rfl) xs os hc
noncomputable def zbq (xs : List AV) (os : List PV.Obj) : Option Res := lim' Y 70 xs os
noncomputable def zbq.c : Code := zaO Tryz.f70
theorem zbq.run (xs : List AV) (os : List PV.Obj) (hc : runOk Tryz.f70 xs os = true) :
 zbq xs os = evK XX 70 (lpL XX 70) zbq.c (zaI Tryz.f70 xs os GL) (outE XX 70 Tryz.f70) :=
 zaP (Y := Y) (f := 70) (fn := Tryz.f70) (cd := zbq.c) rfl Tryz.func70 (by kernel_rfl) xs os hc
noncomputable def zbZ (xs : List AV) (os : List PV.Obj) : Option Res := lim' Y 71 xs os
noncomputable def zbZ.c : Code := zaO Tryz.f71
theorem zbZ.run (xs : List AV) (os : List PV.Obj) (hc : runOk Tryz.f71 xs os = true) :
 zbZ xs os = evK XX 71 (lpL XX 71) zbZ.c (zaI Tryz.f71 xs os GL) (outE XX 71 Tryz.f71) :=
 zaP (Y := Y) (f := 71) (fn := Tryz.f71) (cd := zbZ.c) rfl Tryz.func71 (by kernel_rfl) xs os hc
noncomputable def za5 (xs : List AV) (os : List PV.Obj) : Option Res := lim' Y 72 xs os
noncomputable def za5.c : Code := zaO Tryz.f72
theorem za5.run (xs : List AV) (os : List PV.Obj) (hc : runOk Tryz.f72 xs os = true) :
 za5 xs os = evK XX 72 (lpL XX 72) za5.c (zaI Tryz.f72 xs os GL) (outE XX 72 Tryz.f72) :=
 zaP (Y := Y) (f := 72) (fn := Tryz.f72) (cd := za5.c) rfl Tryz.func72 (by kernel_rfl) xs os hc
noncomputable def zb2 (xs : List AV) (os : List PV.Obj) : Option Res := lim' Y 73 xs os
noncomputable def zb2.c : Code := zaO Tryz.f73
theorem zb2.run (xs : List AV) (os : List PV.Obj) (hc : runOk Tryz.f73 xs os = true) :
 zb2 xs os = evK XX 73 (lpL XX 73) zb2.c (zaI Tryz.f73 xs os GL) (outE XX 73 Tryz.f73) :=
 zaP (Y := Y) (f := 73) (fn := Tryz.f73) (cd := zb2.c) rfl Tryz.func73 (by kernel_rfl) xs os hc
noncomputable def zal (xs : List AV) (os : List PV.Obj) : Option Res := lim' Y 74 xs os
noncomputable def zal.c : Code := zaO Tryz.f74
theorem zal.run (xs : List AV) (os : List PV.Obj) (hc : runOk Tryz.f74 xs os = true) :
 zal xs os = evK XX 74 (lpL XX 74) zal.c (zaI Tryz.f74 xs os GL) (outE XX 74 Tryz.f74) :=
 zaP (Y := Y) (f := 74) (fn := Tryz.f74) (cd := zal.c) rfl Tryz.func74 (by kernel_rfl) xs os hc
noncomputable def zbO (xs : List AV) (os : List PV.Obj) : Option Res := lim' Y 75 xs os
noncomputable def zbO.c : Code := zaO Tryz.f75
theorem zbO.run (xs : List AV) (os : List PV.Obj) (hc : runOk Tryz.f75 xs os = true) :
 zbO xs os = evK XX 75 (lpL XX 75) zbO.c (zaI Tryz.f75 xs os GL) (outE XX 75 Tryz.f75) :=
 zaP (Y := Y) (f := 75) (fn := Tryz.f75) (cd := zbO.c) rfl Tryz.func75 (by kernel_rfl) xs os hc
noncomputable def zcJ (xs : List AV) (os : List PV.Obj) : Option Res := lim' Y 76 xs os
noncomputable def zcJ.c : Code := zaO Tryz.f76
theorem zcJ.run (xs : List AV) (os : List PV.Obj) (hc : runOk Tryz.f76 xs os = true) :
 zcJ xs os = evK XX 76 (lpL XX 76) zcJ.c (zaI Tryz.f76 xs os GL) (outE XX 76 Tryz.f76) :=
 zaP (Y := Y) (f := 76) (fn := Tryz.f76) (cd := zcJ.c) rfl Tryz.func76 (by kernel_rfl) xs os hc
noncomputable def zaa (xs : List AV) (os : List PV.Obj) : Option Res := lim' Y 77 xs os
noncomputable def zaa.c : Code := zaO Tryz.f77
theorem zaa.run (xs : List AV) (os : List PV.Obj) (hc : runOk Tryz.f77 xs os = true) :
 zaa xs os = evK XX 77 (lpL XX 77) zaa.c (zaI Tryz.f77 xs os GL) (outE XX 77 Tryz.f77) :=
 zaP (Y := Y) (f := 77) (fn := Tryz.f77) (cd := zaa.c) rfl Tryz.func77 (by kernel_rfl) xs os hc
noncomputable def zbr (xs : List AV) (os : List PV.Obj) : Option Res := lim' Y 78 xs os
noncomputable def zbr.c : Code := zaO Tryz.f78
theorem zbr.run (xs : List AV) (os : List PV.Obj) (hc : runOk Tryz.f78 xs os = true) :
 zbr xs os = evK XX 78 (lpL XX 78) zbr.c (zaI Tryz.f78 xs os GL) (outE XX 78 Tryz.f78) :=
 zaP (Y := Y) (f := 78) (fn := Tryz.f78) (cd := zbr.c) rfl Tryz.func78 (by kernel_rfl) xs os hc
abbrev zbw.id : FuncId := 79
noncomputable def zbw (xs : List AV) (os : List PV.Obj) : Option Res := lim' Y 79 xs os
noncomputable def zbw.c : Code := zaO Tryz.f79
theorem zbw.run (xs : List AV) (os : List PV.Obj) (hc : runOk Tryz.f79 xs os = true) :
 zbw xs os = evK XX 79 (lpL XX 79) zbw.c (zaI Tryz.f79 xs os GL) (outE XX 79 Tryz.f79) :=
 zaP (Y := Y) (f := 79) (fn := Tryz.f79) (cd := zbw.c) rfl Tryz.func79 (by kernel_rfl) xs os hc
noncomputable def zay (xs : List AV) (os : List PV.Obj) : Option Res := lim' Y 80 xs os
noncomputable def zay.c : Code := zaO Tryz.f80
theorem zay.run (xs : List AV) (os : List PV.Obj) (hc : runOk Tryz.f80 xs os = true) :
 zay xs os = evK XX 80 (lpL XX 80) zay.c (zaI Tryz.f80 xs os GL) (outE XX 80 Tryz.f80) :=
 zaP (Y := Y) (f := 80) (fn := Tryz.f80) (cd := zay.c) rfl Tryz.func80 (by kernel_rfl) xs os hc
noncomputable def zm7 (xs : List AV) (os : List PV.Obj) : Option Res := lim' Y 82 xs os
noncomputable def zcK (xs : List AV) (os : List PV.Obj) : Option Res := lim' Y 86 xs os
noncomputable def zcK.c : Code := zaO Tryz.f86
theorem zcK.run (xs : List AV) (os : List PV.Obj) (hc : runOk Tryz.f86 xs os = true) :
 zcK xs os = evK XX 86 (lpL XX 86) zcK.c (zaI Tryz.f86 xs os GL) (outE XX 86 Tryz.f86) :=
 zaP (Y := Y) (f := 86) (fn := Tryz.f86) (cd := zcK.c) rfl Tryz.func86 (by kernel_rfl) xs os hc
noncomputable def zan (xs : List AV) (os : List PV.Obj) : Option Res := lim' Y 125 xs os
noncomputable def zan.c : Code := zaO Tryz.f125
theorem zan.run (xs : List AV) (os : List PV.Obj) (hc : runOk Tryz.f125 xs os = true) :
 zan xs os = evK XX 125 (lpL XX 125) zan.c (zaI Tryz.f125 xs os GL) (outE XX 125 Tryz.f125) :=
 zaP (Y := Y) (f := 125) (fn := Tryz.f125) (cd := zan.c) rfl Tryz.func125 (by kernel_rfl) xs os hc
noncomputable def sl1In (xs : List AV) (os : List PV.Obj) : Option Res := lim' Y 126 xs os
noncomputable def sl1In.c : Code := zaO Tryz.f126
theorem sl1In.run (xs : List AV) (os : List PV.Obj) (hc : runOk Tryz.f126 xs os = true) :
 sl1In xs os = evK XX 126 (lpL XX 126) sl1In.c (zaI Tryz.f126 xs os GL) (outE XX 126 Tryz.f126) :=
 zaP (Y := Y) (f := 126) (fn := Tryz.f126) (cd := sl1In.c) rfl Tryz.func126 (by kernel_rfl) xs os hc
noncomputable def zaZ (xs : List AV) (os : List PV.Obj) : Option Res := lim' Y 127 xs os
noncomputable def zaZ.c : Code := zaO Tryz.f127
theorem zaZ.run (xs : List AV) (os : List PV.Obj) (hc : runOk Tryz.f127 xs os = true) :
 zaZ xs os = evK XX 127 (lpL XX 127) zaZ.c (zaI Tryz.f127 xs os GL) (outE XX 127 Tryz.f127) :=
 zaP (Y := Y) (f := 127) (fn := Tryz.f127) (cd := zaZ.c) rfl Tryz.func127 (by kernel_rfl) xs os hc
noncomputable def zaR (xs : List AV) (os : List PV.Obj) : Option Res := lim' Y 128 xs os
noncomputable def zaR.c : Code := zaO Tryz.f128
theorem zaR.run (xs : List AV) (os : List PV.Obj) (hc : runOk Tryz.f128 xs os = true) :
 zaR xs os = evK XX 128 (lpL XX 128) zaR.c (zaI Tryz.f128 xs os GL) (outE XX 128 Tryz.f128) :=
 zaP (Y := Y) (f := 128) (fn := Tryz.f128) (cd := zaR.c) rfl Tryz.func128 (by kernel_rfl) xs os hc
noncomputable def zaW (xs : List AV) (os : List PV.Obj) : Option Res := lim' Y 129 xs os
noncomputable def zaW.c : Code := zaO Tryz.f129
theorem zaW.run (xs : List AV) (os : List PV.Obj) (hc : runOk Tryz.f129 xs os = true) :
 zaW xs os = evK XX 129 (lpL XX 129) zaW.c (zaI Tryz.f129 xs os GL) (outE XX 129 Tryz.f129) :=
 zaP (Y := Y) (f := 129) (fn := Tryz.f129) (cd := zaW.c) rfl Tryz.func129 (by kernel_rfl) xs os hc
noncomputable def zac (xs : List AV) (os : List PV.Obj) : Option Res := lim' Y 130 xs os
noncomputable def zac.c : Code := zaO Tryz.f130
theorem zac.run (xs : List AV) (os : List PV.Obj) (hc : runOk Tryz.f130 xs os = true) :
 zac xs os = evK XX 130 (lpL XX 130) zac.c (zaI Tryz.f130 xs os GL) (outE XX 130 Tryz.f130) :=
 zaP (Y := Y) (f := 130) (fn := Tryz.f130) (cd := zac.c) rfl Tryz.func130 (by kernel_rfl) xs os hc
noncomputable def za6 (xs : List AV) (os : List PV.Obj) : Option Res := lim' Y 131 xs os
theorem za6.ext (xs : List AV) (os : List PV.Obj) : za6 xs os = (zcu 1) xs os := zd5 (Y := Y) rfl xs os
noncomputable def za2 (xs : List AV) (os : List PV.Obj) : Option Res := lim' Y 132 xs os
theorem za2.ext (xs : List AV) (os : List PV.Obj) : za2 xs os = (zcu 5) xs os := zd5 (Y := Y) rfl xs os
noncomputable def zai (xs : List AV) (os : List PV.Obj) : Option Res := lim' Y 133 xs os
noncomputable def zai.c : Code := zaO Tryz.f133
theorem zai.run (xs : List AV) (os : List PV.Obj) (hc : runOk Tryz.f133 xs os = true) :
 zai xs os = evK XX 133 (lpL XX 133) zai.c (zaI Tryz.f133 xs os GL) (outE XX 133 Tryz.f133) :=
 zaP (Y := Y) (f := 133) (fn := Tryz.f133) (cd := zai.c) rfl Tryz.func133 (by kernel_rfl) xs os hc
noncomputable def zav (xs : List AV) (os : List PV.Obj) : Option Res := lim' Y 134 xs os
noncomputable def zav.c : Code := zaO Tryz.f134
theorem zav.run (xs : List AV) (os : List PV.Obj) (hc : runOk Tryz.f134 xs os = true) :
 zav xs os = evK XX 134 (lpL XX 134) zav.c (zaI Tryz.f134 xs os GL) (outE XX 134 Tryz.f134) :=
 zaP (Y := Y) (f := 134) (fn := Tryz.f134) (cd := zav.c) rfl Tryz.func134 (by kernel_rfl) xs os hc
noncomputable def zaT (xs : List AV) (os : List PV.Obj) : Option Res := lim' Y 135 xs os
noncomputable def zaT.c : Code := zaO Tryz.f135
theorem zaT.run (xs : List AV) (os : List PV.Obj) (hc : runOk Tryz.f135 xs os = true) :
 zaT xs os = evK XX 135 (lpL XX 135) zaT.c (zaI Tryz.f135 xs os GL) (outE XX 135 Tryz.f135) :=
 zaP (Y := Y) (f := 135) (fn := Tryz.f135) (cd := zaT.c) rfl Tryz.func135 (by kernel_rfl) xs os hc
abbrev zaL.id : FuncId := 136
noncomputable def zaL (xs : List AV) (os : List PV.Obj) : Option Res := lim' Y 136 xs os
noncomputable def zaL.c : Code := zaO Tryz.f136
theorem zaL.run (xs : List AV) (os : List PV.Obj) (hc : runOk Tryz.f136 xs os = true) :
 zaL xs os = evK XX 136 (lpL XX 136) zaL.c (zaI Tryz.f136 xs os GL) (outE XX 136 Tryz.f136) :=
 zaP (Y := Y) (f := 136) (fn := Tryz.f136) (cd := zaL.c) rfl Tryz.func136 (by kernel_rfl) xs os hc
noncomputable def zaX (xs : List AV) (os : List PV.Obj) : Option Res := lim' Y 137 xs os
noncomputable def zaX.c : Code := zaO Tryz.f137
theorem zaX.run (xs : List AV) (os : List PV.Obj) (hc : runOk Tryz.f137 xs os = true) :
 zaX xs os = evK XX 137 (lpL XX 137) zaX.c (zaI Tryz.f137 xs os GL) (outE XX 137 Tryz.f137) :=
 zaP (Y := Y) (f := 137) (fn := Tryz.f137) (cd := zaX.c) rfl Tryz.func137 (by kernel_rfl) xs os hc
noncomputable def zaq (xs : List AV) (os : List PV.Obj) : Option Res := lim' Y 138 xs os
noncomputable def zaq.c : Code := zaO Tryz.f138
theorem zaq.run (xs : List AV) (os : List PV.Obj) (hc : runOk Tryz.f138 xs os = true) :
 zaq xs os = evK XX 138 (lpL XX 138) zaq.c (zaI Tryz.f138 xs os GL) (outE XX 138 Tryz.f138) :=
 zaP (Y := Y) (f := 138) (fn := Tryz.f138) (cd := zaq.c) rfl Tryz.func138 (by kernel_rfl) xs os hc
noncomputable def zaS (xs : List AV) (os : List PV.Obj) : Option Res := lim' Y 139 xs os
noncomputable def zaS.c : Code := zaO Tryz.f139
theorem zaS.run (xs : List AV) (os : List PV.Obj) (hc : runOk Tryz.f139 xs os = true) :
 zaS xs os = evK XX 139 (lpL XX 139) zaS.c (zaI Tryz.f139 xs os GL) (outE XX 139 Tryz.f139) :=
 zaP (Y := Y) (f := 139) (fn := Tryz.f139) (cd := zaS.c) rfl Tryz.func139 (by kernel_rfl) xs os hc
noncomputable def zcr (xs : List AV) (os : List PV.Obj) : Option Res := lim' Y 149 xs os
noncomputable def zcr.c : Code := zaO Tryz.f149
theorem zcr.run (xs : List AV) (os : List PV.Obj) (hc : runOk Tryz.f149 xs os = true) :
 zcr xs os = evK XX 149 (lpL XX 149) zcr.c (zaI Tryz.f149 xs os GL) (outE XX 149 Tryz.f149) :=
 zaP (Y := Y) (f := 149) (fn := Tryz.f149) (cd := zcr.c) rfl Tryz.func149 (by kernel_rfl) xs os hc
noncomputable def za7 (xs : List AV) (os : List PV.Obj) : Option Res := lim' Y 156 xs os
theorem za7.ext (xs : List AV) (os : List PV.Obj) : za7 xs os = (zdR 170 5) xs os := zd5 (Y := Y) rfl xs os
noncomputable def zbP (xs : List AV) (os : List PV.Obj) : Option Res := lim' Y 157 xs os
noncomputable def zbP.c : Code := zaO Tryz.f157
theorem zbP.run (xs : List AV) (os : List PV.Obj) (hc : runOk Tryz.f157 xs os = true) :
 zbP xs os = evK XX 157 (lpL XX 157) zbP.c (zaI Tryz.f157 xs os GL) (outE XX 157 Tryz.f157) :=
 zaP (Y := Y) (f := 157) (fn := Tryz.f157) (cd := zbP.c) rfl Tryz.func157 (by kernel_rfl) xs os hc
noncomputable def zcL (xs : List AV) (os : List PV.Obj) : Option Res := lim' Y 158 xs os
noncomputable def zcL.c : Code := zaO Tryz.f158
theorem zcL.run (xs : List AV) (os : List PV.Obj) (hc : runOk Tryz.f158 xs os = true) :
 zcL xs os = evK XX 158 (lpL XX 158) zcL.c (zaI Tryz.f158 xs os GL) (outE XX 158 Tryz.f158) :=
 zaP (Y := Y) (f := 158) (fn := Tryz.f158) (cd := zcL.c) rfl Tryz.func158 (by kernel_rfl) xs os hc
noncomputable def zbD (xs : List AV) (os : List PV.Obj) : Option Res := lim' Y 160 xs os
noncomputable def zbD.c : Code := zaO Tryz.f160
theorem zbD.run (xs : List AV) (os : List PV.Obj) (hc : runOk Tryz.f160 xs os = true) :
 zbD xs os = evK XX 160 (lpL XX 160) zbD.c (zaI Tryz.f160 xs os GL) (outE XX 160 Tryz.f160) :=
 zaP (Y := Y) (f := 160) (fn := Tryz.f160) (cd := zbD.c) rfl Tryz.func160 (by kernel_rfl) xs os hc
noncomputable def zbe (xs : List AV) (os : List PV.Obj) : Option Res := lim' Y 162 xs os
theorem zbe.ext (xs : List AV) (os : List PV.Obj) : zbe xs os = (zdA 170 5) xs os := zd5 (Y := Y) rfl xs os
noncomputable def za8 (xs : List AV) (os : List PV.Obj) : Option Res := lim' Y 164 xs os
noncomputable def za8.c : Code := zaO Tryz.f164
theorem za8.run (xs : List AV) (os : List PV.Obj) (hc : runOk Tryz.f164 xs os = true) :
 za8 xs os = evK XX 164 (lpL XX 164) za8.c (zaI Tryz.f164 xs os GL) (outE XX 164 Tryz.f164) :=
 zaP (Y := Y) (f := 164) (fn := Tryz.f164) (cd := za8.c) rfl Tryz.func164 (by kernel_rfl) xs os hc
noncomputable def zbE (xs : List AV) (os : List PV.Obj) : Option Res := lim' Y 165 xs os
noncomputable def zbE.c : Code := zaO Tryz.f165
theorem zbE.run (xs : List AV) (os : List PV.Obj) (hc : runOk Tryz.f165 xs os = true) :
 zbE xs os = evK XX 165 (lpL XX 165) zbE.c (zaI Tryz.f165 xs os GL) (outE XX 165 Tryz.f165) :=
 zaP (Y := Y) (f := 165) (fn := Tryz.f165) (cd := zbE.c) rfl Tryz.func165 (by kernel_rfl) xs os hc
noncomputable def zcM (xs : List AV) (os : List PV.Obj) : Option Res := lim' Y 173 xs os
noncomputable def zcM.c : Code := zaO Tryz.f173
theorem zcM.run (xs : List AV) (os : List PV.Obj) (hc : runOk Tryz.f173 xs os = true) :
 zcM xs os = evK XX 173 (lpL XX 173) zcM.c (zaI Tryz.f173 xs os GL) (outE XX 173 Tryz.f173) :=
 zaP (Y := Y) (f := 173) (fn := Tryz.f173) (cd := zcM.c) rfl Tryz.func173 (by kernel_rfl) xs os hc
noncomputable def zdB (xs : List AV) (os : List PV.Obj) : Option Res := lim' Y 179 xs os
noncomputable def zdB.c : Code := zaO Tryz.f179
theorem zdB.run (xs : List AV) (os : List PV.Obj) (hc : runOk Tryz.f179 xs os = true) :
 zdB xs os = evK XX 179 (lpL XX 179) zdB.c (zaI Tryz.f179 xs os GL) (outE XX 179 Tryz.f179) :=
 zaP (Y := Y) (f := 179) (fn := Tryz.f179) (cd := zdB.c) rfl Tryz.func179 (by kernel_rfl) xs os hc
noncomputable def zaf (xs : List AV) (os : List PV.Obj) : Option Res := lim' Y 180 xs os
noncomputable def zaf.c : Code := zaO Tryz.f180
theorem zaf.run (xs : List AV) (os : List PV.Obj) (hc : runOk Tryz.f180 xs os = true) :
 zaf xs os = evK XX 180 (lpL XX 180) zaf.c (zaI Tryz.f180 xs os GL) (outE XX 180 Tryz.f180) :=
 zaP (Y := Y) (f := 180) (fn := Tryz.f180) (cd := zaf.c) rfl Tryz.func180 (by kernel_rfl) xs os hc
noncomputable def za9 (xs : List AV) (os : List PV.Obj) : Option Res := lim' Y 181 xs os
noncomputable def za9.c : Code := zaO Tryz.f181
theorem za9.run (xs : List AV) (os : List PV.Obj) (hc : runOk Tryz.f181 xs os = true) :
 za9 xs os = evK XX 181 (lpL XX 181) za9.c (zaI Tryz.f181 xs os GL) (outE XX 181 Tryz.f181) :=
 zaP (Y := Y) (f := 181) (fn := Tryz.f181) (cd := za9.c) rfl Tryz.func181 (by kernel_rfl) xs os hc
noncomputable def zaM (xs : List AV) (os : List PV.Obj) : Option Res := lim' Y 182 xs os
noncomputable def zaM.c : Code := zaO Tryz.f182
theorem zaM.run (xs : List AV) (os : List PV.Obj) (hc : runOk Tryz.f182 xs os = true) :
 zaM xs os = evK XX 182 (lpL XX 182) zaM.c (zaI Tryz.f182 xs os GL) (outE XX 182 Tryz.f182) :=
 zaP (Y := Y) (f := 182) (fn := Tryz.f182) (cd := zaM.c) rfl Tryz.func182 (by kernel_rfl) xs os hc
noncomputable def zaJ (xs : List AV) (os : List PV.Obj) : Option Res := lim' Y 187 xs os
noncomputable def zaJ.c : Code := zaO Tryz.f187
theorem zaJ.run (xs : List AV) (os : List PV.Obj) (hc : runOk Tryz.f187 xs os = true) :
 zaJ xs os = evK XX 187 (lpL XX 187) zaJ.c (zaI Tryz.f187 xs os GL) (outE XX 187 Tryz.f187) :=
 zaP (Y := Y) (f := 187) (fn := Tryz.f187) (cd := zaJ.c) rfl Tryz.func187 (by kernel_rfl) xs os hc
noncomputable def zda (xs : List AV) (os : List PV.Obj) : Option Res := lim' Y 188 xs os
noncomputable def zda.c : Code := zaO Tryz.f188
theorem zda.run (xs : List AV) (os : List PV.Obj) (hc : runOk Tryz.f188 xs os = true) :
 zda xs os = evK XX 188 (lpL XX 188) zda.c (zaI Tryz.f188 xs os GL) (outE XX 188 Tryz.f188) :=
 zaP (Y := Y) (f := 188) (fn := Tryz.f188) (cd := zda.c) rfl Tryz.func188 (by kernel_rfl) xs os hc
noncomputable def zam (xs : List AV) (os : List PV.Obj) : Option Res := lim' Y 189 xs os
noncomputable def zam.c : Code := zaO Tryz.f189
theorem zam.run (xs : List AV) (os : List PV.Obj) (hc : runOk Tryz.f189 xs os = true) :
 zam xs os = evK XX 189 (lpL XX 189) zam.c (zaI Tryz.f189 xs os GL) (outE XX 189 Tryz.f189) :=
 zaP (Y := Y) (f := 189) (fn := Tryz.f189) (cd := zam.c) rfl Tryz.func189 (by kernel_rfl) xs os hc
noncomputable def zcU (xs : List AV) (os : List PV.Obj) : Option Res := lim' Y 193 xs os
noncomputable def zcU.c : Code := zaO Tryz.f193
theorem zcU.run (xs : List AV) (os : List PV.Obj) (hc : runOk Tryz.f193 xs os = true) :
 zcU xs os = evK XX 193 (lpL XX 193) zcU.c (zaI Tryz.f193 xs os GL) (outE XX 193 Tryz.f193) :=
 zaP (Y := Y) (f := 193) (fn := Tryz.f193) (cd := zcU.c) rfl Tryz.func193 (by kernel_rfl) xs os hc
noncomputable def zbl (xs : List AV) (os : List PV.Obj) : Option Res := lim' Y 194 xs os
noncomputable def zbl.c : Code := zaO Tryz.f194
theorem zbl.run (xs : List AV) (os : List PV.Obj) (hc : runOk Tryz.f194 xs os = true) :
 zbl xs os = evK XX 194 (lpL XX 194) zbl.c (zaI Tryz.f194 xs os GL) (outE XX 194 Tryz.f194) :=
 zaP (Y := Y) (f := 194) (fn := Tryz.f194) (cd := zbl.c) rfl Tryz.func194 (by kernel_rfl) xs os hc
noncomputable def strings_Join (xs : List AV) (os : List PV.Obj) : Option Res := lim' Y 201 xs os
theorem strings_Join.ext (xs : List AV) (os : List PV.Obj) : strings_Join xs os = zfi xs os := zd5 (Y := Y) rfl xs os
noncomputable def strconv_Itoa (xs : List AV) (os : List PV.Obj) : Option Res := lim' Y 202 xs os
theorem strconv_Itoa.ext (xs : List AV) (os : List PV.Obj) : strconv_Itoa xs os = zgB xs os := zd5 (Y := Y) rfl xs os
noncomputable def zbU (xs : List AV) (os : List PV.Obj) : Option Res := lim' Y 203 xs os
noncomputable def zbU.c : Code := zaO Tryz.f203
theorem zbU.run (xs : List AV) (os : List PV.Obj) (hc : runOk Tryz.f203 xs os = true) :
 zbU xs os = evK XX 203 (lpL XX 203) zbU.c (zaI Tryz.f203 xs os GL) (outE XX 203 Tryz.f203) :=
 zaP (Y := Y) (f := 203) (fn := Tryz.f203) (cd := zbU.c) rfl Tryz.func203 (by kernel_rfl) xs os hc
abbrev zaQ.id : FuncId := 204
noncomputable def zaQ (xs : List AV) (os : List PV.Obj) : Option Res := lim' Y 204 xs os
noncomputable def zaQ.c : Code := zaO Tryz.f204
theorem zaQ.run (xs : List AV) (os : List PV.Obj) (hc : runOk Tryz.f204 xs os = true) :
 zaQ xs os = evK XX 204 (lpL XX 204) zaQ.c (zaI Tryz.f204 xs os GL) (outE XX 204 Tryz.f204) :=
 zaP (Y := Y) (f := 204) (fn := Tryz.f204) (cd := zaQ.c) rfl Tryz.func204 (by kernel_rfl) xs os hc
noncomputable def zbp (xs : List AV) (os : List PV.Obj) : Option Res := lim' Y 223 xs os
noncomputable def zbp.c : Code := zaO Tryz.f223
theorem zbp.run (xs : List AV) (os : List PV.Obj) (hc : runOk Tryz.f223 xs os = true) :
 zbp xs os = evK XX 223 (lpL XX 223) zbp.c (zaI Tryz.f223 xs os GL) (outE XX 223 Tryz.f223) :=
 zaP (Y := Y) (f := 223) (fn := Tryz.f223) (cd := zbp.c) rfl Tryz.func223 (by kernel_rfl) xs os hc
noncomputable def za0 (xs : List AV) (os : List PV.Obj) : Option Res := lim' Y 224 xs os
noncomputable def za0.c : Code := zaO Tryz.f224
theorem za0.run (xs : List AV) (os : List PV.Obj) (hc : runOk Tryz.f224 xs os = true) :
 za0 xs os = evK XX 224 (lpL XX 224) za0.c (zaI Tryz.f224 xs os GL) (outE XX 224 Tryz.f224) :=
 zaP (Y := Y) (f := 224) (fn := Tryz.f224) (cd := za0.c) rfl Tryz.func224 (by kernel_rfl) xs os hc
noncomputable def zbm (xs : List AV) (os : List PV.Obj) : Option Res := lim' Y 236 xs os
noncomputable def zbm.c : Code := zaO Tryz.f236
theorem zbm.run (xs : List AV) (os : List PV.Obj) (hc : runOk Tryz.f236 xs os = true) :
 zbm xs os = evK XX 236 (lpL XX 236) zbm.c (zaI Tryz.f236 xs os GL) (outE XX 236 Tryz.f236) :=
 zaP (Y := Y) (f := 236) (fn := Tryz.f236) (cd := zbm.c) rfl Tryz.func236 (by kernel_rfl) xs os hc
end Go.PVx
