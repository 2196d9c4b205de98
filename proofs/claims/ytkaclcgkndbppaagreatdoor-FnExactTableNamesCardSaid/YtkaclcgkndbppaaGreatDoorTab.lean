/- A part of the proof: PvTtTab. -/
import Derived.Test.YtkaclcgkndbppaaGreatDoorProg
import Derived.Test.YtkaclcgkndbppaaGreatDoorPvC
import Derived.KernelRfl
import Derived.Test.YtkaclcgkndbppaaGreatDoorExt
import Derived.Test.YtkaclcgkndbppaaGreatDoorBld
import Derived.Test.YtkaclcgkndbppaaGreatDoorIns
set_option linter.unusedSimpArgs false
set_option linter.unusedVariables false
namespace Go.PVx
open Go.PV Go.Proofs
abbrev runOk (fn : Go.Func) (xs : List AV) (os : List PV.Obj) : Bool := decide (xs.length ≤ fn.ntmps) && decide (os.length + fn.ntmps < 1000000000) && !(fn.name == "runtime.NumGoroutine")
def sigs : FuncId → Sig
 | 131 => { con := [0, 2], res := .one (.own .deep) }
 | 132 => { con := [0, 2], res := .one (.own .deep) }
 | 156 => { mu := [0], res := .tup [(false, [.int .i64]), (false, [.any])] }
 | 162 => { mu := [0], res := .one (.str) }
 | 201 => { res := .one (.str) }
 | 202 => { res := .one (.str) }
 | 3 => { res := .one (.bool) }
 | 4 => { res := .one (.bool) }
 | 5 => { res := .one (.bool) }
 | 6 => { res := .one (.bool) }
 | 14 => { res := .one (.int .i64) }
 | 15 => { res := .one (.int .i64) }
 | 16 => { res := .one (.int .i64) }
 | 17 => { res := .one (.own .deep) }
 | 18 => { res := .one (.own .deep) }
 | 19 => { res := .one (.int .i64) }
 | 20 => { res := .one (.bool) }
 | 21 => { res := .one (.bool) }
 | 22 => { res := .tup [(false, [.int .i64]), (false, [.int .i64])] }
 | 23 => { res := .tup [(false, [.int .i64]), (false, [.int .i64])] }
 | 24 => { res := .tup [(true, [.bool, .int .i64, .str, .own .deep, .own .deep]), (false, [.bool])] }
 | 25 => { res := .tup [(true, [.bool, .int .i64, .str, .own .deep, .own .deep]), (false, [.bool])] }
 | 26 => { res := .one (.bool) }
 | 27 => { mu := [0], res := .one (.int .i64) }
 | 28 => { mu := [0], res := .one (.int .i64) }
 | 29 => { res := .one (.int .i64) }
 | 30 => { res := .one (.own .deep) }
 | 31 => { res := .one (.own .deep) }
 | 32 => { mu := [0], res := .one (.int .i64) }
 | 33 => { res := .one (.int .i64) }
 | 58 => { res := .one (.int .i64) }
 | 59 => { res := .one (.bool) }
 | 60 => { res := .one (.bool) }
 | 61 => { res := .agg [.own .deep, .bool, .int .i64, .str, .int .i64] }
 | 62 => { res := .one (.int .i64) }
 | 63 => { res := .one (.bool) }
 | 64 => { res := .one (.bool) }
 | 65 => { res := .one (.bool) }
 | 66 => { res := .one (.bool) }
 | 67 => { res := .one (.bool) }
 | 68 => { res := .one (.bool) }
 | 69 => { res := .tup [(true, [.bool, .int .i64, .str, .sh, .sh]), (false, [.bool])] }
 | 70 => { res := .one (.own .deep) }
 | 71 => { res := .one (.bool) }
 | 72 => { res := .agg [.bool, .int .i64, .str, .own .deep, .own .deep] }
 | 73 => { res := .one (.bool) }
 | 74 => { res := .one (.ptr 0) }
 | 75 => { mu := [0], con := [2], res := .none }
 | 76 => { res := .one (.bool) }
 | 77 => { res := .one (.bool) }
 | 78 => { res := .one (.own .deep) }
 | 79 => { res := .one (.bool) }
 | 80 => { res := .agg [.bool, .int .i64, .str, .own .deep, .own .deep] }
 | 81 => { res := .one (.bool) }
 | 82 => { res := .one (.str) }
 | 83 => { mu := [0], res := .one (.int .i64) }
 | 84 => { res := .one (.int .i64) }
 | 86 => { res := .one (.bool) }
 | 125 => { res := .one (.bool) }
 | 126 => { res := .one (.bool) }
 | 127 => { res := .one (.int .i64) }
 | 128 => { res := .one (.own .deep) }
 | 129 => { res := .one (.ptr 0) }
 | 130 => { res := .tup [(false, [.int .i64]), (false, [.bool])] }
 | 133 => { res := .one (.bool) }
 | 134 => { res := .one (.int .i64) }
 | 135 => { mu := [2], res := .none }
 | 136 => { mu := [2], res := .none }
 | 137 => { res := .one (.int .i64) }
 | 138 => { res := .one (.bool) }
 | 139 => { res := .one (.int .i64) }
 | 149 => { res := .one (.str) }
 | 157 => { res := .one (.str) }
 | 158 => { res := .one (.bool) }
 | 160 => { res := .one (.str) }
 | 164 => { res := .one (.str) }
 | 165 => { res := .one (.str) }
 | 173 => { res := .one .sh }
 | 179 => { res := .one (.int .i64) }
 | 180 => { res := .one (.int .i64) }
 | 181 => { res := .one (.bool) }
 | 182 => { res := .one (.bool) }
 | 187 => { res := .one (.bool) }
 | 188 => { res := .one (.own .deep) }
 | 189 => { res := .one (.bool) }
 | 193 => { res := .one (.str) }
 | 194 => { res := .one (.str) }
 | 203 => { res := .one (.str) }
 | 204 => { res := .none }
 | 223 => { res := .one (.int .i64) }
 | 224 => { res := .one (.bool) }
 | 236 => { res := .one (.str) }
 | _ => { res := .none }
def lives : FuncId → Nat → List Nat × List Nat
 | 3, 100009 => ([0, 1, 6], [1])
 | 3, 100016 => ([1, 8], [1])
 | 4, 100009 => ([0, 1, 6, 7], [1])
 | 4, 100013 => ([0, 1, 8, 9, 47], [1])
 | 4, 100014 => ([0, 1, 8, 9], [1])
 | 5, 100008 => ([0, 4, 5, 6, 7, 8], [1])
 | 5, 100009 => ([0, 4, 5, 6, 7, 8, 40], [1])
 | 5, 100010 => ([0, 4, 5, 6, 7, 8], [1])
 | 5, 100015 => ([0, 4, 5, 7, 61], [1])
 | 5, 100016 => ([0, 4, 5, 7], [1])
 | 5, 100025 => ([4, 5, 7, 10, 12, 13], [1])
 | 5, 100026 => ([7, 10, 87], [1])
 | 5, 100027 => ([7, 10], [1])
 | 6, 100009 => ([0, 1, 6], [1])
 | 6, 100015 => ([0, 1, 6, 7, 8, 9, 44], [1])
 | 6, 100022 => ([0, 1, 6, 9, 63], [1])
 | 6, 100023 => ([0, 1, 6, 9], [1])
 | 6, 100032 => ([6, 9, 11, 13], [1])
 | 14, 5 => ([0, 1, 5], [1, 4])
 | 15, 5 => ([0, 1, 5], [1, 4])
 | 16, 6 => ([0, 1, 7, 8], [0, 1, 7])
 | 16, 100012 => ([7, 48], [1])
 | 17, 3 => ([0, 3, 4], [3])
 | 18, 3 => ([0, 3, 4], [3])
 | 20, 4 => ([0, 1, 5], [4])
 | 21, 4 => ([0, 1, 5], [4])
 | 22, 5 => ([0, 1, 6, 7], [6, 7])
 | 23, 5 => ([0, 1, 6, 7], [6, 7])
 | 24, 5 => ([0, 2, 4, 5], [0, 2, 3, 4])
 | 24, 18 => ([0, 2, 4, 9, 10], [2, 3, 4])
 | 24, 100002 => ([0, 2, 26], [1])
 | 24, 100003 => ([0, 2], [1])
 | 24, 100011 => ([0, 2, 4, 5, 7, 8], [1])
 | 25, 5 => ([0, 2, 4, 28, 29, 30], [0, 2, 3, 4])
 | 25, 100005 => ([0, 2, 4, 28, 29, 30], [1])
 | 25, 100011 => ([0, 2, 4, 6, 7, 8, 28, 29, 30], [1])
 | 25, 100016 => ([2, 4, 75], [1])
 | 25, 100017 => ([2, 4], [1])
 | 26, 100009 => ([2, 3], [1])
 | 27, 2 => ([0, 1, 5], [1])
 | 27, 100008 => ([0, 1, 5], [1])
 | 30, 4 => ([0, 1, 6, 7, 8], [7])
 | 31, 4 => ([1, 5, 20, 21, 22], [5])
 | 32, 2 => ([0, 1, 5], [1])
 | 33, 2 => ([0, 1, 5], [1, 4])
 | 59, 2 => ([0, 1, 5], [0, 1, 4])
 | 59, 100004 => ([0, 1, 5], [1])
 | 62, 2 => ([0, 1, 7, 8], [4])
 | 64, 4 => ([0, 1, 12, 13], [4])
 | 65, 100009 => ([2, 3], [1])
 | 66, 4 => ([0, 1, 5], [4])
 | 67, 4 => ([0, 1, 12, 13], [4])
 | 68, 2 => ([0, 3], [0, 2])
 | 69, 100003 => ([1, 3, 5, 6, 8, 29], [1])
 | 69, 100007 => ([1, 3, 5, 6, 8, 9], [1])
 | 72, 3 => ([1, 2, 3, 4], [2, 3])
 | 74, 2 => ([0, 7, 8, 9], [0, 4])
 | 74, 100005 => ([0, 7, 8, 9], [1])
 | 75, 100005 => ([0, 5, 6], [1])
 | 77, 4 => ([1, 2, 15, 16, 17], [6])
 | 80, 3 => ([1, 2, 3, 8, 9, 10], [1, 2, 3])
 | 81, 4 => ([0, 1, 5], [4])
 | 82, 4 => ([0, 3], [3])
 | 83, 2 => ([0, 1, 5], [1])
 | 83, 100009 => ([0, 1, 5], [1])
 | 84, 2 => ([0, 1, 5], [1, 4])
 | 84, 100010 => ([0, 1, 5], [1])
 | 84, 100017 => ([0, 1, 5], [1])
 | 125, 2 => ([0, 3], [0, 2])
 | 125, 100005 => ([0, 3, 32], [1])
 | 127, 2 => ([1, 2, 5], [4])
 | 128, 3 => ([0, 3, 5, 6], [5])
 | 129, 100003 => ([0, 5, 22], [1])
 | 129, 100004 => ([0, 5], [1])
 | 130, 3 => ([0, 1, 6, 7, 8], [0, 1, 6, 7])
 | 133, 8 => ([1, 2, 41, 42, 43], [4])
 | 133, 100002 => ([1, 2, 23], [1])
 | 133, 100003 => ([1, 2], [1])
 | 133, 100011 => ([1, 2, 41, 42, 43, 75], [1])
 | 134, 3 => ([3, 7, 8, 9], [3])
 | 135, 3 => ([1, 2, 3, 13, 14, 15], [])
 | 137, 4 => ([3, 4, 9, 10], [3])
 | 138, 4 => ([1, 2, 5], [4])
 | 138, 100002 => ([1, 2, 12], [1])
 | 138, 100003 => ([1, 2], [1])
 | 139, 3 => ([1, 3, 4], [3])
 | 164, 3 => ([0, 3, 5, 6], [5])
 | 180, 2 => ([0, 1, 7, 8], [4])
 | 187, 2 => ([0, 5, 6], [0, 2])
 | 187, 100005 => ([0, 5, 6, 30], [1])
 | 189, 6 => ([1, 3], [1, 2])
 | 189, 100002 => ([1, 16], [1])
 | 189, 100003 => ([1], [1])
 | 189, 100009 => ([1, 3, 61], [1])
 | 194, 3 => ([0, 3, 4], [3])
 | 223, 3 => ([0, 3, 4], [3])
 | 236, 3 => ([0, 3, 4], [3])
 | _, _ => ([], [])
def mvs : FuncId → Nat → Nat → Bool
 | 24, 2, 1 => true
 | 24, 9, 1 => true
 | 24, 12, 1 => true
 | 24, 16, 1 => true
 | 24, 21, 1 => true
 | 24, 22, 2 => true
 | 25, 2, 1 => true
 | 25, 8, 1 => true
 | 25, 12, 1 => true
 | 25, 16, 1 => true
 | 25, 17, 2 => true
 | 28, 0, 0 => true
 | 61, 7, 1 => true
 | 69, 5, 1 => true
 | 69, 8, 1 => true
 | 69, 11, 2 => true
 | 72, 6, 1 => true
 | 75, 3, 7 => true
 | 75, 5, 7 => true
 | 80, 9, 1 => true
 | 165, 1, 2 => true
 | 165, 1, 3 => true
 | _, _, _ => false
noncomputable def exts : FuncId → Option (List AV → List PV.Obj → Option Res)
 | 131 => some (zcA 1)
 | 132 => some (zcA 5)
 | 156 => some (zdZ 170 5)
 | 162 => some (zdI 170 5)
 | 201 => some zfr
 | 202 => some zgJ
 | _ => none
def GL : List (Nat × List D) := [(5, Lib.pow10Tab.map fun z => .v (.int .u64 z))]
noncomputable def Y : Prm := { P := Tryz.prog, sig := sigs, mv := mvs, live := lives, ext := exts, gl := GL, bt := fun t => bif t == 170 then some 5 else none }
noncomputable def XX : Ctx := Y.ctx (lim' Y)
noncomputable def zah (xs : List AV) (os : List PV.Obj) : Option Res := lim' Y 6 xs os
noncomputable def zah.c : Code := zaT Tryz.f6
theorem zah.run (xs : List AV) (os : List PV.Obj) (hc : runOk Tryz.f6 xs os = true) :
 zah xs os = evK XX 6 (lpL XX 6) zah.c (zaN Tryz.f6 xs os GL) (outE XX 6 Tryz.f6) :=
 zaU (Y := Y) (f := 6) (fn := Tryz.f6) (cd := zah.c) rfl Tryz.func6 (by kernel_rfl) xs os hc
noncomputable def za1 (xs : List AV) (os : List PV.Obj) : Option Res := lim' Y 14 xs os
noncomputable def za1.c : Code := zaT Tryz.f14
theorem za1.run (xs : List AV) (os : List PV.Obj) (hc : runOk Tryz.f14 xs os = true) :
 za1 xs os = evK XX 14 (lpL XX 14) za1.c (zaN Tryz.f14 xs os GL) (outE XX 14 Tryz.f14) :=
 zaU (Y := Y) (f := 14) (fn := Tryz.f14) (cd := za1.c) rfl Tryz.func14 (by kernel_rfl) xs os hc
noncomputable def zat (xs : List AV) (os : List PV.Obj) : Option Res := lim' Y 15 xs os
noncomputable def zat.c : Code := zaT Tryz.f15
theorem zat.run (xs : List AV) (os : List PV.Obj) (hc : runOk Tryz.f15 xs os = true) :
 zat xs os = evK XX 15 (lpL XX 15) zat.c (zaN Tryz.f15 xs os GL) (outE XX 15 Tryz.f15) :=
 zaU (Y := Y) (f := 15) (fn := Tryz.f15) (cd := zat.c) rfl Tryz.func15 (by kernel_rfl) xs os hc
noncomputable def zaq (xs : List AV) (os : List PV.Obj) : Option Res := lim' Y 16 xs os
noncomputable def zaq.c : Code := zaT Tryz.f16
theorem zaq.run (xs : List AV) (os : List PV.Obj) (hc : runOk Tryz.f16 xs os = true) :
 zaq xs os = evK XX 16 (lpL XX 16) zaq.c (zaN Tryz.f16 xs os GL) (outE XX 16 Tryz.f16) :=
 zaU (Y := Y) (f := 16) (fn := Tryz.f16) (cd := zaq.c) rfl Tryz.func16 (by kernel_rfl) xs os hc
noncomputable def za8 (xs : List AV) (os : List PV.Obj) : Option Res := lim' Y 17 xs os
noncomputable def za8.c : Code := zaT Tryz.f17
theorem za8.run (xs : List AV) (os : List PV.Obj) (hc : runOk Tryz.f17 xs os = true) :
 za8 xs os = evK XX 17 (lpL XX 17) za8.c (zaN Tryz.f17 xs os GL) (outE XX 17 Tryz.f17) :=
 zaU (Y := Y) (f := 17) (fn := Tryz.f17) (cd := za8.c) rfl Tryz.func17 (by kernel_rfl) xs os hc
noncomputable def zaB (xs : List AV) (os : List PV.Obj) : Option Res := lim' Y 18 xs os
noncomputable def zaB.c : Code := zaT Tryz.f18
theorem zaB.run (xs : List AV) (os : List PV.Obj) (hc : runOk Tryz.f18 xs os = true) :
 zaB xs os = evK XX 18 (lpL XX 18) zaB.c (zaN Tryz.f18 xs os GL) (outE XX 18 Tryz.f18) :=
 zaU (Y := Y) (f := 18) (fn := Tryz.f18) (cd := zaB.c) rfl Tryz.func18 (by kernel_rfl) xs os hc
noncomputable def zbI (xs : List AV) (os : List PV.Obj) : Option Res := lim' Y 19 xs os
noncomputable def zbI.c : Code := zaT Tryz.f19
theorem zbI.run (xs : List AV) (os : List PV.Obj) (hc : runOk Tryz.f19 xs os = true) :
 zbI xs os = evK XX 19 (lpL XX 19) zbI.c (zaN Tryz.f19 xs os GL) (outE XX 19 Tryz.f19) :=
 zaU (Y := Y) (f := 19) (fn := Tryz.f19) (cd := zbI.c) rfl Tryz.func19 (by kernel_rfl) xs os hc
noncomputable def zba (xs : List AV) (os : List PV.Obj) : Option Res := lim' Y 20 xs os
noncomputable def zba.c : Code := zaT Tryz.f20
theorem zba.run (xs : List AV) (os : List PV.Obj) (hc : runOk Tryz.f20 xs os = true) :
 zba xs os = evK XX 20 (lpL XX 20) zba.c (zaN Tryz.f20 xs os GL) (outE XX 20 Tryz.f20) :=
 zaU (Y := Y) (f := 20) (fn := Tryz.f20) (cd := zba.c) rfl Tryz.func20 (by kernel_rfl) xs os hc
noncomputable def zav (xs : List AV) (os : List PV.Obj) : Option Res := lim' Y 21 xs os
noncomputable def zav.c : Code := zaT Tryz.f21
theorem zav.run (xs : List AV) (os : List PV.Obj) (hc : runOk Tryz.f21 xs os = true) :
 zav xs os = evK XX 21 (lpL XX 21) zav.c (zaN Tryz.f21 xs os GL) (outE XX 21 Tryz.f21) :=
 zaU (Y := Y) (f := 21) (fn := Tryz.f21) (cd := zav.c) rfl Tryz.func21 (by kernel_rfl) xs os hc
noncomputable def zaC (xs : List AV) (os : List PV.Obj) : Option Res := lim' Y 22 xs os
noncomputable def zaC.c : Code := zaT Tryz.f22
theorem zaC.run (xs : List AV) (os : List PV.Obj) (hc : runOk Tryz.f22 xs os = true) :
 zaC xs os = evK XX 22 (lpL XX 22) zaC.c (zaN Tryz.f22 xs os GL) (outE XX 22 Tryz.f22) :=
 zaU (Y := Y) (f := 22) (fn := Tryz.f22) (cd := zaC.c) rfl Tryz.func22 (by kernel_rfl) xs os hc
noncomputable def zaD (xs : List AV) (os : List PV.Obj) : Option Res := lim' Y 23 xs os
noncomputable def zaD.c : Code := zaT Tryz.f23
theorem zaD.run (xs : List AV) (os : List PV.Obj) (hc : runOk Tryz.f23 xs os = true) :
 zaD xs os = evK XX 23 (lpL XX 23) zaD.c (zaN Tryz.f23 xs os GL) (outE XX 23 Tryz.f23) :=
 zaU (Y := Y) (f := 23) (fn := Tryz.f23) (cd := zaD.c) rfl Tryz.func23 (by kernel_rfl) xs os hc
noncomputable def zab (xs : List AV) (os : List PV.Obj) : Option Res := lim' Y 24 xs os
noncomputable def zab.c : Code := zaT Tryz.f24
theorem zab.run (xs : List AV) (os : List PV.Obj) (hc : runOk Tryz.f24 xs os = true) :
 zab xs os = evK XX 24 (lpL XX 24) zab.c (zaN Tryz.f24 xs os GL) (outE XX 24 Tryz.f24) :=
 zaU (Y := Y) (f := 24) (fn := Tryz.f24) (cd := zab.c) rfl Tryz.func24 (by kernel_rfl) xs os hc
noncomputable def zai (xs : List AV) (os : List PV.Obj) : Option Res := lim' Y 25 xs os
noncomputable def zai.c : Code := zaT Tryz.f25
theorem zai.run (xs : List AV) (os : List PV.Obj) (hc : runOk Tryz.f25 xs os = true) :
 zai xs os = evK XX 25 (lpL XX 25) zai.c (zaN Tryz.f25 xs os GL) (outE XX 25 Tryz.f25) :=
 zaU (Y := Y) (f := 25) (fn := Tryz.f25) (cd := zai.c) rfl Tryz.func25 (by kernel_rfl) xs os hc
noncomputable def zaK (xs : List AV) (os : List PV.Obj) : Option Res := lim' Y 27 xs os
noncomputable def zaK.c : Code := zaT Tryz.f27
theorem zaK.run (xs : List AV) (os : List PV.Obj) (hc : runOk Tryz.f27 xs os = true) :
 zaK xs os = evK XX 27 (lpL XX 27) zaK.c (zaN Tryz.f27 xs os GL) (outE XX 27 Tryz.f27) :=
 zaU (Y := Y) (f := 27) (fn := Tryz.f27) (cd := zaK.c) rfl Tryz.func27 (by kernel_rfl) xs os hc
noncomputable def zaF (xs : List AV) (os : List PV.Obj) : Option Res := lim' Y 30 xs os
noncomputable def zaF.c : Code := zaT Tryz.f30
theorem zaF.run (xs : List AV) (os : List PV.Obj) (hc : runOk Tryz.f30 xs os = true) :
 zaF xs os = evK XX 30 (lpL XX 30) zaF.c (zaN Tryz.f30 xs os GL) (outE XX 30 Tryz.f30) :=
 zaU (Y := Y) (f := 30) (fn := Tryz.f30) (cd := zaF.c) rfl Tryz.func30 (by kernel_rfl) xs os hc
noncomputable def zay (xs : List AV) (os : List PV.Obj) : Option Res := lim' Y 31 xs os
noncomputable def zay.c : Code := zaT Tryz.f31
theorem zay.run (xs : List AV) (os : List PV.Obj) (hc : runOk Tryz.f31 xs os = true) :
 zay xs os = evK XX 31 (lpL XX 31) zay.c (zaN Tryz.f31 xs os GL) (outE XX 31 Tryz.f31) :=
 zaU (Y := Y) (f := 31) (fn := Tryz.f31) (cd := zay.c) rfl Tryz.func31 (by kernel_rfl) xs os hc
noncomputable def zap (xs : List AV) (os : List PV.Obj) : Option Res := lim' Y 32 xs os
noncomputable def zap.c : Code := zaT Tryz.f32
theorem zap.run (xs : List AV) (os : List PV.Obj) (hc : runOk Tryz.f32 xs os = true) :
 zap xs os = evK XX 32 (lpL XX 32) zap.c (zaN Tryz.f32 xs os GL) (outE XX 32 Tryz.f32) :=
 zaU (Y := Y) (f := 32) (fn := Tryz.f32) (cd := zap.c) rfl Tryz.func32 (by kernel_rfl) xs os hc
noncomputable def zao (xs : List AV) (os : List PV.Obj) : Option Res := lim' Y 33 xs os
noncomputable def zao.c : Code := zaT Tryz.f33
theorem zao.run (xs : List AV) (os : List PV.Obj) (hc : runOk Tryz.f33 xs os = true) :
 zao xs os = evK XX 33 (lpL XX 33) zao.c (zaN Tryz.f33 xs os GL) (outE XX 33 Tryz.f33) :=
 zaU (Y := Y) (f := 33) (fn := Tryz.f33) (cd := zao.c) rfl Tryz.func33 (by kernel_rfl) xs os hc
noncomputable def zdg (xs : List AV) (os : List PV.Obj) : Option Res := lim' Y 58 xs os
noncomputable def zdg.c : Code := zaT Tryz.f58
theorem zdg.run (xs : List AV) (os : List PV.Obj) (hc : runOk Tryz.f58 xs os = true) :
 zdg xs os = evK XX 58 (lpL XX 58) zdg.c (zaN Tryz.f58 xs os GL) (outE XX 58 Tryz.f58) :=
 zaU (Y := Y) (f := 58) (fn := Tryz.f58) (cd := zdg.c) rfl Tryz.func58 (by kernel_rfl) xs os hc
noncomputable def zaI (xs : List AV) (os : List PV.Obj) : Option Res := lim' Y 59 xs os
noncomputable def zaI.c : Code := zaT Tryz.f59
theorem zaI.run (xs : List AV) (os : List PV.Obj) (hc : runOk Tryz.f59 xs os = true) :
 zaI xs os = evK XX 59 (lpL XX 59) zaI.c (zaN Tryz.f59 xs os GL) (outE XX 59 Tryz.f59) :=
 zaU (Y := Y) (f := 59) (fn := Tryz.f59) (cd := zaI.c) rfl Tryz.func59 (by kernel_rfl) xs os hc
noncomputable def zb4 (xs : List AV) (os : List PV.Obj) : Option Res := lim' Y 60 xs os
noncomputable def zb4.c : Code := zaT Tryz.f60
theorem zb4.run (xs : List AV) (os : List PV.Obj) (hc : runOk Tryz.f60 xs os = true) :
 zb4 xs os = evK XX 60 (lpL XX 60) zb4.c (zaN Tryz.f60 xs os GL) (outE XX 60 Tryz.f60) :=
 zaU (Y := Y) (f := 60) (fn := Tryz.f60) (cd := zb4.c) rfl Tryz.func60 (by kernel_rfl) xs os hc
noncomputable def zdu (xs : List AV) (os : List PV.Obj) : Option Res := lim' Y 61 xs os
noncomputable def zdu.c : Code := zaT Tryz.f61
theorem zdu.run (xs : List AV) (os : List PV.Obj) (hc : runOk Tryz.f61 xs os = true) :
 zdu xs os = evK XX 61 (lpL XX 61) zdu.c (zaN Tryz.f61 xs os GL) (outE XX 61 Tryz.f61) :=
 zaU (Y := Y) (f := 61) (fn := Tryz.f61) (cd := zdu.c) rfl Tryz.func61 (by kernel_rfl) xs os hc
noncomputable def zae (xs : List AV) (os : List PV.Obj) : Option Res := lim' Y 62 xs os
noncomputable def zae.c : Code := zaT Tryz.f62
theorem zae.run (xs : List AV) (os : List PV.Obj) (hc : runOk Tryz.f62 xs os = true) :
 zae xs os = evK XX 62 (lpL XX 62) zae.c (zaN Tryz.f62 xs os GL) (outE XX 62 Tryz.f62) :=
 zaU (Y := Y) (f := 62) (fn := Tryz.f62) (cd := zae.c) rfl Tryz.func62 (by kernel_rfl) xs os hc
abbrev za7.id : FuncId := 63
noncomputable def za7 (xs : List AV) (os : List PV.Obj) : Option Res := lim' Y 63 xs os
noncomputable def za7.c : Code := zaT Tryz.f63
theorem za7.run (xs : List AV) (os : List PV.Obj) (hc : runOk Tryz.f63 xs os = true) :
 za7 xs os = evK XX 63 (lpL XX 63) za7.c (zaN Tryz.f63 xs os GL) (outE XX 63 Tryz.f63) :=
 zaU (Y := Y) (f := 63) (fn := Tryz.f63) (cd := za7.c) rfl Tryz.func63 (by kernel_rfl) xs os hc
noncomputable def zad (xs : List AV) (os : List PV.Obj) : Option Res := lim' Y 64 xs os
noncomputable def zad.c : Code := zaT Tryz.f64
theorem zad.run (xs : List AV) (os : List PV.Obj) (hc : runOk Tryz.f64 xs os = true) :
 zad xs os = evK XX 64 (lpL XX 64) zad.c (zaN Tryz.f64 xs os GL) (outE XX 64 Tryz.f64) :=
 zaU (Y := Y) (f := 64) (fn := Tryz.f64) (cd := zad.c) rfl Tryz.func64 (by kernel_rfl) xs os hc
noncomputable def zcn (xs : List AV) (os : List PV.Obj) : Option Res := lim' Y 65 xs os
noncomputable def zcn.c : Code := zaT Tryz.f65
theorem zcn.run (xs : List AV) (os : List PV.Obj) (hc : runOk Tryz.f65 xs os = true) :
 zcn xs os = evK XX 65 (lpL XX 65) zcn.c (zaN Tryz.f65 xs os GL) (outE XX 65 Tryz.f65) :=
 zaU (Y := Y) (f := 65) (fn := Tryz.f65) (cd := zcn.c) rfl Tryz.func65 (by kernel_rfl) xs os hc
noncomputable def zaG (xs : List AV) (os : List PV.Obj) : Option Res := lim' Y 66 xs os
noncomputable def zaG.c : Code := zaT Tryz.f66
theorem zaG.run (xs : List AV) (os : List PV.Obj) (hc : runOk Tryz.f66 xs os = true) :
 zaG xs os = evK XX 66 (lpL XX 66) zaG.c (zaN Tryz.f66 xs os GL) (outE XX 66 Tryz.f66) :=
 zaU (Y := Y) (f := 66) (fn := Tryz.f66) (cd := zaG.c) rfl Tryz.func66 (by kernel_rfl) xs os hc
noncomputable def za4 (xs : List AV) (os : List PV.Obj) : Option Res := lim' Y 67 xs os
noncomputable def za4.c : Code := zaT Tryz.f67
theorem za4.run (xs : List AV) (os : List PV.Obj) (hc : runOk Tryz.f67 xs os = true) :
 za4 xs os = evK XX 67 (lpL XX 67) za4.c (zaN Tryz.f67 xs os GL) (outE XX 67 Tryz.f67) :=
 zaU (Y := Y) (f := 67) (fn := Tryz.f67) (cd := za4.c) rfl Tryz.func67 (by kernel_rfl) xs os hc
noncomputable def zaH (xs : List AV) (os : List PV.Obj) : Option Res := lim' Y 68 xs os
noncomputable def zaH.c : Code := zaT Tryz.f68
theorem zaH.run (xs : List AV) (os : List PV.Obj) (hc : runOk Tryz.f68 xs os = true) :
 zaH xs os = evK XX 68 (lpL XX 68) zaH.c (zaN Tryz.f68 xs os GL) (outE XX 68 Tryz.f68) :=
 zaU (Y := Y) (f := 68) (fn := Tryz.f68) (cd := zaH.c) rfl Tryz.func68 (by kernel_rfl) xs os hc
noncomputable def zbq (xs : List AV) (os : List PV.Obj) : Option Res := lim' Y 69 xs os
noncomputable def zbq.c : Code := zaT Tryz.f69
theorem zbq.run (xs : List AV) (os : List PV.Obj) (hc : runOk Tryz.f69 xs os = true) :
 zbq xs os = evK XX 69 (lpL XX 69) zbq.c (zaN Tryz.f69 xs os GL) (outE XX 69 Tryz.f69) :=
 zaU (Y := Y) (f := 69) (fn := Tryz.f69) (cd := zbq.c) rfl Tryz.func69 (by kernel_rfl) xs os hc
noncomputable def zbx (xs : List AV) (os : List PV.Obj) : Option Res := lim' Y 70 xs os
noncomputable def zbx.c : Code := zaT Tryz.f70
theorem zbx.run (xs : List AV) (os : List PV.Obj) (hc : runOk Tryz.f70 xs os = true) :
 zbx xs os = evK XX 70 (lpL XX 70) zbx.c (zaN Tryz.f70 xs os GL) (outE XX 70 Tryz.f70) :=
 zaU (Y := Y) (f := 70) (fn := Tryz.f70) (cd := zbx.c) rfl Tryz.func70 (by kernel_rfl) xs os hc
noncomputable def zb5 (xs : List AV) (os : List PV.Obj) : Option Res := lim' Y 71 xs os
noncomputable def zb5.c : Code := zaT Tryz.f71
theorem zb5.run (xs : List AV) (os : List PV.Obj) (hc : runOk Tryz.f71 xs os = true) :
 zb5 xs os = evK XX 71 (lpL XX 71) zb5.c (zaN Tryz.f71 xs os GL) (outE XX 71 Tryz.f71) :=
 zaU (Y := Y) (f := 71) (fn := Tryz.f71) (cd := zb5.c) rfl Tryz.func71 (by kernel_rfl) xs os hc
noncomputable def zbb (xs : List AV) (os : List PV.Obj) : Option Res := lim' Y 72 xs os
noncomputable def zbb.c : Code := zaT Tryz.f72
theorem zbb.run (xs : List AV) (os : List PV.Obj) (hc : runOk Tryz.f72 xs os = true) :
 zbb xs os = evK XX 72 (lpL XX 72) zbb.c (zaN Tryz.f72 xs os GL) (outE XX 72 Tryz.f72) :=
 zaU (Y := Y) (f := 72) (fn := Tryz.f72) (cd := zbb.c) rfl Tryz.func72 (by kernel_rfl) xs os hc
noncomputable def zb8 (xs : List AV) (os : List PV.Obj) : Option Res := lim' Y 73 xs os
noncomputable def zb8.c : Code := zaT Tryz.f73
theorem zb8.run (xs : List AV) (os : List PV.Obj) (hc : runOk Tryz.f73 xs os = true) :
 zb8 xs os = evK XX 73 (lpL XX 73) zb8.c (zaN Tryz.f73 xs os GL) (outE XX 73 Tryz.f73) :=
 zaU (Y := Y) (f := 73) (fn := Tryz.f73) (cd := zb8.c) rfl Tryz.func73 (by kernel_rfl) xs os hc
noncomputable def zal (xs : List AV) (os : List PV.Obj) : Option Res := lim' Y 74 xs os
noncomputable def zal.c : Code := zaT Tryz.f74
theorem zal.run (xs : List AV) (os : List PV.Obj) (hc : runOk Tryz.f74 xs os = true) :
 zal xs os = evK XX 74 (lpL XX 74) zal.c (zaN Tryz.f74 xs os GL) (outE XX 74 Tryz.f74) :=
 zaU (Y := Y) (f := 74) (fn := Tryz.f74) (cd := zal.c) rfl Tryz.func74 (by kernel_rfl) xs os hc
noncomputable def zbU (xs : List AV) (os : List PV.Obj) : Option Res := lim' Y 75 xs os
noncomputable def zbU.c : Code := zaT Tryz.f75
theorem zbU.run (xs : List AV) (os : List PV.Obj) (hc : runOk Tryz.f75 xs os = true) :
 zbU xs os = evK XX 75 (lpL XX 75) zbU.c (zaN Tryz.f75 xs os GL) (outE XX 75 Tryz.f75) :=
 zaU (Y := Y) (f := 75) (fn := Tryz.f75) (cd := zbU.c) rfl Tryz.func75 (by kernel_rfl) xs os hc
noncomputable def zcQ (xs : List AV) (os : List PV.Obj) : Option Res := lim' Y 76 xs os
noncomputable def zcQ.c : Code := zaT Tryz.f76
theorem zcQ.run (xs : List AV) (os : List PV.Obj) (hc : runOk Tryz.f76 xs os = true) :
 zcQ xs os = evK XX 76 (lpL XX 76) zcQ.c (zaN Tryz.f76 xs os GL) (outE XX 76 Tryz.f76) :=
 zaU (Y := Y) (f := 76) (fn := Tryz.f76) (cd := zcQ.c) rfl Tryz.func76 (by kernel_rfl) xs os hc
noncomputable def zaa (xs : List AV) (os : List PV.Obj) : Option Res := lim' Y 77 xs os
noncomputable def zaa.c : Code := zaT Tryz.f77
theorem zaa.run (xs : List AV) (os : List PV.Obj) (hc : runOk Tryz.f77 xs os = true) :
 zaa xs os = evK XX 77 (lpL XX 77) zaa.c (zaN Tryz.f77 xs os GL) (outE XX 77 Tryz.f77) :=
 zaU (Y := Y) (f := 77) (fn := Tryz.f77) (cd := zaa.c) rfl Tryz.func77 (by kernel_rfl) xs os hc
noncomputable def zby (xs : List AV) (os : List PV.Obj) : Option Res := lim' Y 78 xs os
noncomputable def zby.c : Code := zaT Tryz.f78
theorem zby.run (xs : List AV) (os : List PV.Obj) (hc : runOk Tryz.f78 xs os = true) :
 zby xs os = evK XX 78 (lpL XX 78) zby.c (zaN Tryz.f78 xs os GL) (outE XX 78 Tryz.f78) :=
 zaU (Y := Y) (f := 78) (fn := Tryz.f78) (cd := zby.c) rfl Tryz.func78 (by kernel_rfl) xs os hc
abbrev zbD.id : FuncId := 79
noncomputable def zbD (xs : List AV) (os : List PV.Obj) : Option Res := lim' Y 79 xs os
noncomputable def zbD.c : Code := zaT Tryz.f79
theorem zbD.run (xs : List AV) (os : List PV.Obj) (hc : runOk Tryz.f79 xs os = true) :
 zbD xs os = evK XX 79 (lpL XX 79) zbD.c (zaN Tryz.f79 xs os GL) (outE XX 79 Tryz.f79) :=
 zaU (Y := Y) (f := 79) (fn := Tryz.f79) (cd := zbD.c) rfl Tryz.func79 (by kernel_rfl) xs os hc
noncomputable def zaE (xs : List AV) (os : List PV.Obj) : Option Res := lim' Y 80 xs os
noncomputable def zaE.c : Code := zaT Tryz.f80
theorem zaE.run (xs : List AV) (os : List PV.Obj) (hc : runOk Tryz.f80 xs os = true) :
 zaE xs os = evK XX 80 (lpL XX 80) zaE.c (zaN Tryz.f80 xs os GL) (outE XX 80 Tryz.f80) :=
 zaU (Y := Y) (f := 80) (fn := Tryz.f80) (cd := zaE.c) rfl Tryz.func80 (by kernel_rfl) xs os hc
noncomputable def zaM (xs : List AV) (os : List PV.Obj) : Option Res := lim' Y 82 xs os
noncomputable def zaM.c : Code := zaT Tryz.f82
theorem zaM.run (xs : List AV) (os : List PV.Obj) (hc : runOk Tryz.f82 xs os = true) :
 zaM xs os = evK XX 82 (lpL XX 82) zaM.c (zaN Tryz.f82 xs os GL) (outE XX 82 Tryz.f82) :=
 zaU (Y := Y) (f := 82) (fn := Tryz.f82) (cd := zaM.c) rfl Tryz.func82 (by kernel_rfl) xs os hc
noncomputable def zcR (xs : List AV) (os : List PV.Obj) : Option Res := lim' Y 86 xs os
noncomputable def zcR.c : Code := zaT Tryz.f86
theorem zcR.run (xs : List AV) (os : List PV.Obj) (hc : runOk Tryz.f86 xs os = true) :
 zcR xs os = evK XX 86 (lpL XX 86) zcR.c (zaN Tryz.f86 xs os GL) (outE XX 86 Tryz.f86) :=
 zaU (Y := Y) (f := 86) (fn := Tryz.f86) (cd := zcR.c) rfl Tryz.func86 (by kernel_rfl) xs os hc
noncomputable def zan (xs : List AV) (os : List PV.Obj) : Option Res := lim' Y 125 xs os
noncomputable def zan.c : Code := zaT Tryz.f125
theorem zan.run (xs : List AV) (os : List PV.Obj) (hc : runOk Tryz.f125 xs os = true) :
 zan xs os = evK XX 125 (lpL XX 125) zan.c (zaN Tryz.f125 xs os GL) (outE XX 125 Tryz.f125) :=
 zaU (Y := Y) (f := 125) (fn := Tryz.f125) (cd := zan.c) rfl Tryz.func125 (by kernel_rfl) xs os hc
noncomputable def sl1In (xs : List AV) (os : List PV.Obj) : Option Res := lim' Y 126 xs os
noncomputable def sl1In.c : Code := zaT Tryz.f126
theorem sl1In.run (xs : List AV) (os : List PV.Obj) (hc : runOk Tryz.f126 xs os = true) :
 sl1In xs os = evK XX 126 (lpL XX 126) sl1In.c (zaN Tryz.f126 xs os GL) (outE XX 126 Tryz.f126) :=
 zaU (Y := Y) (f := 126) (fn := Tryz.f126) (cd := sl1In.c) rfl Tryz.func126 (by kernel_rfl) xs os hc
noncomputable def za5 (xs : List AV) (os : List PV.Obj) : Option Res := lim' Y 127 xs os
noncomputable def za5.c : Code := zaT Tryz.f127
theorem za5.run (xs : List AV) (os : List PV.Obj) (hc : runOk Tryz.f127 xs os = true) :
 za5 xs os = evK XX 127 (lpL XX 127) za5.c (zaN Tryz.f127 xs os GL) (outE XX 127 Tryz.f127) :=
 zaU (Y := Y) (f := 127) (fn := Tryz.f127) (cd := za5.c) rfl Tryz.func127 (by kernel_rfl) xs os hc
noncomputable def zaX (xs : List AV) (os : List PV.Obj) : Option Res := lim' Y 128 xs os
noncomputable def zaX.c : Code := zaT Tryz.f128
theorem zaX.run (xs : List AV) (os : List PV.Obj) (hc : runOk Tryz.f128 xs os = true) :
 zaX xs os = evK XX 128 (lpL XX 128) zaX.c (zaN Tryz.f128 xs os GL) (outE XX 128 Tryz.f128) :=
 zaU (Y := Y) (f := 128) (fn := Tryz.f128) (cd := zaX.c) rfl Tryz.func128 (by kernel_rfl) xs os hc
noncomputable def za2 (xs : List AV) (os : List PV.Obj) : Option Res := lim' Y 129 xs os
noncomputable def za2.c : Code := zaT Tryz.f129
theorem za2.run (xs : List AV) (os : List PV.Obj) (hc : runOk Tryz.f129 xs os = true) :
 za2 xs os = evK XX 129 (lpL XX 129) za2.c (zaN Tryz.f129 xs os GL) (outE XX 129 Tryz.f129) :=
 zaU (Y := Y) (f := 129) (fn := Tryz.f129) (cd := za2.c) rfl Tryz.func129 (by kernel_rfl) xs os hc
noncomputable def zac (xs : List AV) (os : List PV.Obj) : Option Res := lim' Y 130 xs os
noncomputable def zac.c : Code := zaT Tryz.f130
theorem zac.run (xs : List AV) (os : List PV.Obj) (hc : runOk Tryz.f130 xs os = true) :
 zac xs os = evK XX 130 (lpL XX 130) zac.c (zaN Tryz.f130 xs os GL) (outE XX 130 Tryz.f130) :=
 zaU (Y := Y) (f := 130) (fn := Tryz.f130) (cd := zac.c) rfl Tryz.func130 (by kernel_rfl) xs os hc
noncomputable def zbc (xs : List AV) (os : List PV.Obj) : Option Res := lim' Y 131 xs os
theorem zbc.ext (xs : List AV) (os : List PV.Obj) : zbc xs os = (zcA 1) xs os := zee (Y := Y) rfl xs os
noncomputable def za9 (xs : List AV) (os : List PV.Obj) : Option Res := lim' Y 132 xs os
theorem za9.ext (xs : List AV) (os : List PV.Obj) : za9 xs os = (zcA 5) xs os := zee (Y := Y) rfl xs os
noncomputable def zaj (xs : List AV) (os : List PV.Obj) : Option Res := lim' Y 133 xs os
noncomputable def zaj.c : Code := zaT Tryz.f133
theorem zaj.run (xs : List AV) (os : List PV.Obj) (hc : runOk Tryz.f133 xs os = true) :
 zaj xs os = evK XX 133 (lpL XX 133) zaj.c (zaN Tryz.f133 xs os GL) (outE XX 133 Tryz.f133) :=
 zaU (Y := Y) (f := 133) (fn := Tryz.f133) (cd := zaj.c) rfl Tryz.func133 (by kernel_rfl) xs os hc
noncomputable def zaz (xs : List AV) (os : List PV.Obj) : Option Res := lim' Y 134 xs os
noncomputable def zaz.c : Code := zaT Tryz.f134
theorem zaz.run (xs : List AV) (os : List PV.Obj) (hc : runOk Tryz.f134 xs os = true) :
 zaz xs os = evK XX 134 (lpL XX 134) zaz.c (zaN Tryz.f134 xs os GL) (outE XX 134 Tryz.f134) :=
 zaU (Y := Y) (f := 134) (fn := Tryz.f134) (cd := zaz.c) rfl Tryz.func134 (by kernel_rfl) xs os hc
noncomputable def zaZ (xs : List AV) (os : List PV.Obj) : Option Res := lim' Y 135 xs os
noncomputable def zaZ.c : Code := zaT Tryz.f135
theorem zaZ.run (xs : List AV) (os : List PV.Obj) (hc : runOk Tryz.f135 xs os = true) :
 zaZ xs os = evK XX 135 (lpL XX 135) zaZ.c (zaN Tryz.f135 xs os GL) (outE XX 135 Tryz.f135) :=
 zaU (Y := Y) (f := 135) (fn := Tryz.f135) (cd := zaZ.c) rfl Tryz.func135 (by kernel_rfl) xs os hc
abbrev zaR.id : FuncId := 136
noncomputable def zaR (xs : List AV) (os : List PV.Obj) : Option Res := lim' Y 136 xs os
noncomputable def zaR.c : Code := zaT Tryz.f136
theorem zaR.run (xs : List AV) (os : List PV.Obj) (hc : runOk Tryz.f136 xs os = true) :
 zaR xs os = evK XX 136 (lpL XX 136) zaR.c (zaN Tryz.f136 xs os GL) (outE XX 136 Tryz.f136) :=
 zaU (Y := Y) (f := 136) (fn := Tryz.f136) (cd := zaR.c) rfl Tryz.func136 (by kernel_rfl) xs os hc
noncomputable def za3 (xs : List AV) (os : List PV.Obj) : Option Res := lim' Y 137 xs os
noncomputable def za3.c : Code := zaT Tryz.f137
theorem za3.run (xs : List AV) (os : List PV.Obj) (hc : runOk Tryz.f137 xs os = true) :
 za3 xs os = evK XX 137 (lpL XX 137) za3.c (zaN Tryz.f137 xs os GL) (outE XX 137 Tryz.f137) :=
 zaU (Y := Y) (f := 137) (fn := Tryz.f137) (cd := za3.c) rfl Tryz.func137 (by kernel_rfl) xs os hc
noncomputable def zau (xs : List AV) (os : List PV.Obj) : Option Res := lim' Y 138 xs os
noncomputable def zau.c : Code := zaT Tryz.f138
theorem zau.run (xs : List AV) (os : List PV.Obj) (hc : runOk Tryz.f138 xs os = true) :
 zau xs os = evK XX 138 (lpL XX 138) zau.c (zaN Tryz.f138 xs os GL) (outE XX 138 Tryz.f138) :=
 zaU (Y := Y) (f := 138) (fn := Tryz.f138) (cd := zau.c) rfl Tryz.func138 (by kernel_rfl) xs os hc
noncomputable def zaY (xs : List AV) (os : List PV.Obj) : Option Res := lim' Y 139 xs os
noncomputable def zaY.c : Code := zaT Tryz.f139
theorem zaY.run (xs : List AV) (os : List PV.Obj) (hc : runOk Tryz.f139 xs os = true) :
 zaY xs os = evK XX 139 (lpL XX 139) zaY.c (zaN Tryz.f139 xs os GL) (outE XX 139 Tryz.f139) :=
 zaU (Y := Y) (f := 139) (fn := Tryz.f139) (cd := zaY.c) rfl Tryz.func139 (by kernel_rfl) xs os hc
noncomputable def zcx (xs : List AV) (os : List PV.Obj) : Option Res := lim' Y 149 xs os
noncomputable def zcx.c : Code := zaT Tryz.f149
theorem zcx.run (xs : List AV) (os : List PV.Obj) (hc : runOk Tryz.f149 xs os = true) :
 zcx xs os = evK XX 149 (lpL XX 149) zcx.c (zaN Tryz.f149 xs os GL) (outE XX 149 Tryz.f149) :=
 zaU (Y := Y) (f := 149) (fn := Tryz.f149) (cd := zcx.c) rfl Tryz.func149 (by kernel_rfl) xs os hc
noncomputable def zbe (xs : List AV) (os : List PV.Obj) : Option Res := lim' Y 156 xs os
theorem zbe.ext (xs : List AV) (os : List PV.Obj) : zbe xs os = (zdZ 170 5) xs os := zee (Y := Y) rfl xs os
noncomputable def zbV (xs : List AV) (os : List PV.Obj) : Option Res := lim' Y 157 xs os
noncomputable def zbV.c : Code := zaT Tryz.f157
theorem zbV.run (xs : List AV) (os : List PV.Obj) (hc : runOk Tryz.f157 xs os = true) :
 zbV xs os = evK XX 157 (lpL XX 157) zbV.c (zaN Tryz.f157 xs os GL) (outE XX 157 Tryz.f157) :=
 zaU (Y := Y) (f := 157) (fn := Tryz.f157) (cd := zbV.c) rfl Tryz.func157 (by kernel_rfl) xs os hc
noncomputable def zcS (xs : List AV) (os : List PV.Obj) : Option Res := lim' Y 158 xs os
noncomputable def zcS.c : Code := zaT Tryz.f158
theorem zcS.run (xs : List AV) (os : List PV.Obj) (hc : runOk Tryz.f158 xs os = true) :
 zcS xs os = evK XX 158 (lpL XX 158) zcS.c (zaN Tryz.f158 xs os GL) (outE XX 158 Tryz.f158) :=
 zaU (Y := Y) (f := 158) (fn := Tryz.f158) (cd := zcS.c) rfl Tryz.func158 (by kernel_rfl) xs os hc
noncomputable def zbJ (xs : List AV) (os : List PV.Obj) : Option Res := lim' Y 160 xs os
noncomputable def zbJ.c : Code := zaT Tryz.f160
theorem zbJ.run (xs : List AV) (os : List PV.Obj) (hc : runOk Tryz.f160 xs os = true) :
 zbJ xs os = evK XX 160 (lpL XX 160) zbJ.c (zaN Tryz.f160 xs os GL) (outE XX 160 Tryz.f160) :=
 zaU (Y := Y) (f := 160) (fn := Tryz.f160) (cd := zbJ.c) rfl Tryz.func160 (by kernel_rfl) xs os hc
noncomputable def zbm (xs : List AV) (os : List PV.Obj) : Option Res := lim' Y 162 xs os
theorem zbm.ext (xs : List AV) (os : List PV.Obj) : zbm xs os = (zdI 170 5) xs os := zee (Y := Y) rfl xs os
noncomputable def zbf (xs : List AV) (os : List PV.Obj) : Option Res := lim' Y 164 xs os
noncomputable def zbf.c : Code := zaT Tryz.f164
theorem zbf.run (xs : List AV) (os : List PV.Obj) (hc : runOk Tryz.f164 xs os = true) :
 zbf xs os = evK XX 164 (lpL XX 164) zbf.c (zaN Tryz.f164 xs os GL) (outE XX 164 Tryz.f164) :=
 zaU (Y := Y) (f := 164) (fn := Tryz.f164) (cd := zbf.c) rfl Tryz.func164 (by kernel_rfl) xs os hc
noncomputable def zbK (xs : List AV) (os : List PV.Obj) : Option Res := lim' Y 165 xs os
noncomputable def zbK.c : Code := zaT Tryz.f165
theorem zbK.run (xs : List AV) (os : List PV.Obj) (hc : runOk Tryz.f165 xs os = true) :
 zbK xs os = evK XX 165 (lpL XX 165) zbK.c (zaN Tryz.f165 xs os GL) (outE XX 165 Tryz.f165) :=
 zaU (Y := Y) (f := 165) (fn := Tryz.f165) (cd := zbK.c) rfl Tryz.func165 (by kernel_rfl) xs os hc
noncomputable def zcT (xs : List AV) (os : List PV.Obj) : Option Res := lim' Y 173 xs os
noncomputable def zcT.c : Code := zaT Tryz.f173
theorem zcT.run (xs : List AV) (os : List PV.Obj) (hc : runOk Tryz.f173 xs os = true) :
 zcT xs os = evK XX 173 (lpL XX 173) zcT.c (zaN Tryz.f173 xs os GL) (outE XX 173 Tryz.f173) :=
 zaU (Y := Y) (f := 173) (fn := Tryz.f173) (cd := zcT.c) rfl Tryz.func173 (by kernel_rfl) xs os hc
noncomputable def zdJ (xs : List AV) (os : List PV.Obj) : Option Res := lim' Y 179 xs os
noncomputable def zdJ.c : Code := zaT Tryz.f179
theorem zdJ.run (xs : List AV) (os : List PV.Obj) (hc : runOk Tryz.f179 xs os = true) :
 zdJ xs os = evK XX 179 (lpL XX 179) zdJ.c (zaN Tryz.f179 xs os GL) (outE XX 179 Tryz.f179) :=
 zaU (Y := Y) (f := 179) (fn := Tryz.f179) (cd := zdJ.c) rfl Tryz.func179 (by kernel_rfl) xs os hc
noncomputable def zaf (xs : List AV) (os : List PV.Obj) : Option Res := lim' Y 180 xs os
noncomputable def zaf.c : Code := zaT Tryz.f180
theorem zaf.run (xs : List AV) (os : List PV.Obj) (hc : runOk Tryz.f180 xs os = true) :
 zaf xs os = evK XX 180 (lpL XX 180) zaf.c (zaN Tryz.f180 xs os GL) (outE XX 180 Tryz.f180) :=
 zaU (Y := Y) (f := 180) (fn := Tryz.f180) (cd := zaf.c) rfl Tryz.func180 (by kernel_rfl) xs os hc
noncomputable def zbg (xs : List AV) (os : List PV.Obj) : Option Res := lim' Y 181 xs os
noncomputable def zbg.c : Code := zaT Tryz.f181
theorem zbg.run (xs : List AV) (os : List PV.Obj) (hc : runOk Tryz.f181 xs os = true) :
 zbg xs os = evK XX 181 (lpL XX 181) zbg.c (zaN Tryz.f181 xs os GL) (outE XX 181 Tryz.f181) :=
 zaU (Y := Y) (f := 181) (fn := Tryz.f181) (cd := zbg.c) rfl Tryz.func181 (by kernel_rfl) xs os hc
noncomputable def zaS (xs : List AV) (os : List PV.Obj) : Option Res := lim' Y 182 xs os
noncomputable def zaS.c : Code := zaT Tryz.f182
theorem zaS.run (xs : List AV) (os : List PV.Obj) (hc : runOk Tryz.f182 xs os = true) :
 zaS xs os = evK XX 182 (lpL XX 182) zaS.c (zaN Tryz.f182 xs os GL) (outE XX 182 Tryz.f182) :=
 zaU (Y := Y) (f := 182) (fn := Tryz.f182) (cd := zaS.c) rfl Tryz.func182 (by kernel_rfl) xs os hc
noncomputable def zaQ (xs : List AV) (os : List PV.Obj) : Option Res := lim' Y 187 xs os
noncomputable def zaQ.c : Code := zaT Tryz.f187
theorem zaQ.run (xs : List AV) (os : List PV.Obj) (hc : runOk Tryz.f187 xs os = true) :
 zaQ xs os = evK XX 187 (lpL XX 187) zaQ.c (zaN Tryz.f187 xs os GL) (outE XX 187 Tryz.f187) :=
 zaU (Y := Y) (f := 187) (fn := Tryz.f187) (cd := zaQ.c) rfl Tryz.func187 (by kernel_rfl) xs os hc
noncomputable def zdh (xs : List AV) (os : List PV.Obj) : Option Res := lim' Y 188 xs os
noncomputable def zdh.c : Code := zaT Tryz.f188
theorem zdh.run (xs : List AV) (os : List PV.Obj) (hc : runOk Tryz.f188 xs os = true) :
 zdh xs os = evK XX 188 (lpL XX 188) zdh.c (zaN Tryz.f188 xs os GL) (outE XX 188 Tryz.f188) :=
 zaU (Y := Y) (f := 188) (fn := Tryz.f188) (cd := zdh.c) rfl Tryz.func188 (by kernel_rfl) xs os hc
noncomputable def zam (xs : List AV) (os : List PV.Obj) : Option Res := lim' Y 189 xs os
noncomputable def zam.c : Code := zaT Tryz.f189
theorem zam.run (xs : List AV) (os : List PV.Obj) (hc : runOk Tryz.f189 xs os = true) :
 zam xs os = evK XX 189 (lpL XX 189) zam.c (zaN Tryz.f189 xs os GL) (outE XX 189 Tryz.f189) :=
 zaU (Y := Y) (f := 189) (fn := Tryz.f189) (cd := zam.c) rfl Tryz.func189 (by kernel_rfl) xs os hc
noncomputable def zc1 (xs : List AV) (os : List PV.Obj) : Option Res := lim' Y 193 xs os
noncomputable def zc1.c : Code := zaT Tryz.f193
theorem zc1.run (xs : List AV) (os : List PV.Obj) (hc : runOk Tryz.f193 xs os = true) :
 zc1 xs os = evK XX 193 (lpL XX 193) zc1.c (zaN Tryz.f193 xs os GL) (outE XX 193 Tryz.f193) :=
 zaU (Y := Y) (f := 193) (fn := Tryz.f193) (cd := zc1.c) rfl Tryz.func193 (by kernel_rfl) xs os hc
noncomputable def zbr (xs : List AV) (os : List PV.Obj) : Option Res := lim' Y 194 xs os
noncomputable def zbr.c : Code := zaT Tryz.f194
theorem zbr.run (xs : List AV) (os : List PV.Obj) (hc : runOk Tryz.f194 xs os = true) :
 zbr xs os = evK XX 194 (lpL XX 194) zbr.c (zaN Tryz.f194 xs os GL) (outE XX 194 Tryz.f194) :=
 zaU (Y := Y) (f := 194) (fn := Tryz.f194) (cd := zbr.c) rfl Tryz.func194 (by kernel_rfl) xs os hc
noncomputable def strings_Join (xs : List AV) (os : List PV.Obj) : Option Res := lim' Y 201 xs os
theorem strings_Join.ext (xs : List AV) (os : List PV.Obj) : strings_Join xs os = zfr xs os := zee (Y := Y) rfl xs os
noncomputable def strconv_Itoa (xs : List AV) (os : List PV.Obj) : Option Res := lim' Y 202 xs os
theorem strconv_Itoa.ext (xs : List AV) (os : List PV.Obj) : strconv_Itoa xs os = zgJ xs os := zee (Y := Y) rfl xs os
noncomputable def zb1 (xs : List AV) (os : List PV.Obj) : Option Res := lim' Y 203 xs os
noncomputable def zb1.c : Code := zaT Tryz.f203
theorem zb1.run (xs : List AV) (os : List PV.Obj) (hc : runOk Tryz.f203 xs os = true) :
 zb1 xs os = evK XX 203 (lpL XX 203) zb1.c (zaN Tryz.f203 xs os GL) (outE XX 203 Tryz.f203) :=
 zaU (Y := Y) (f := 203) (fn := Tryz.f203) (cd := zb1.c) rfl Tryz.func203 (by kernel_rfl) xs os hc
abbrev zaW.id : FuncId := 204
noncomputable def zaW (xs : List AV) (os : List PV.Obj) : Option Res := lim' Y 204 xs os
noncomputable def zaW.c : Code := zaT Tryz.f204
theorem zaW.run (xs : List AV) (os : List PV.Obj) (hc : runOk Tryz.f204 xs os = true) :
 zaW xs os = evK XX 204 (lpL XX 204) zaW.c (zaN Tryz.f204 xs os GL) (outE XX 204 Tryz.f204) :=
 zaU (Y := Y) (f := 204) (fn := Tryz.f204) (cd := zaW.c) rfl Tryz.func204 (by kernel_rfl) xs os hc
noncomputable def zbv (xs : List AV) (os : List PV.Obj) : Option Res := lim' Y 223 xs os
noncomputable def zbv.c : Code := zaT Tryz.f223
theorem zbv.run (xs : List AV) (os : List PV.Obj) (hc : runOk Tryz.f223 xs os = true) :
 zbv xs os = evK XX 223 (lpL XX 223) zbv.c (zaN Tryz.f223 xs os GL) (outE XX 223 Tryz.f223) :=
 zaU (Y := Y) (f := 223) (fn := Tryz.f223) (cd := zbv.c) rfl Tryz.func223 (by kernel_rfl) xs os hc
noncomputable def za6 (xs : List AV) (os : List PV.Obj) : Option Res := lim' Y 224 xs os
noncomputable def za6.c : Code := zaT Tryz.f224
theorem za6.run (xs : List AV) (os : List PV.Obj) (hc : runOk Tryz.f224 xs os = true) :
 za6 xs os = evK XX 224 (lpL XX 224) za6.c (zaN Tryz.f224 xs os GL) (outE XX 224 Tryz.f224) :=
 zaU (Y := Y) (f := 224) (fn := Tryz.f224) (cd := za6.c) rfl Tryz.func224 (by kernel_rfl) xs os hc
noncomputable def zbs (xs : List AV) (os : List PV.Obj) : Option Res := lim' Y 236 xs os
noncomputable def zbs.c : Code := zaT Tryz.f236
theorem zbs.run (xs : List AV) (os : List PV.Obj) (hc : runOk Tryz.f236 xs os = true) :
 zbs xs os = evK XX 236 (lpL XX 236) zbs.c (zaN Tryz.f236 xs os GL) (outE XX 236 Tryz.f236) :=
 zaU (Y := Y) (f := 236) (fn := Tryz.f236) (cd := zbs.c) rfl Tryz.func236 (by kernel_rfl) xs os hc
end Go.PVx
