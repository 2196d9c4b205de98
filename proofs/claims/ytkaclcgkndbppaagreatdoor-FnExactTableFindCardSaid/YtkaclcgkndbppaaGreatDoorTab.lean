/- A part of the proof: PvTtTab. -/
import Derived.Test.YtkaclcgkndbppaaGreatDoorProg
import Derived.Test.YtkaclcgkndbppaaGreatDoorPvC
import Derived.KernelRfl
import Derived.Test.YtkaclcgkndbppaaGreatDoorExt
import Derived.Test.YtkaclcgkndbppaaGreatDoorBld
import Derived.Test.YtkaclcgkndbppaaGreatDoorIns
set_option linter.unusedSimpArgs false
set_option linter.unusedVariables false
namespace Go.PVx
open Go.PV Go.Proofs
abbrev runOk (fn : Go.Func) (xs : List AV) (os : List PV.Obj) : Bool := decide (xs.length ≤ fn.ntmps) && decide (os.length + fn.ntmps < 1000000000) && !(fn.name == "runtime.NumGoroutine")
def sigs : FuncId → Sig
 | 131 => { con := [0, 2], res := .one (.own .deep) }
 | 132 => { con := [0, 2], res := .one (.own .deep) }
 | 156 => { mu := [0], res := .tup [(false, [.int .i64]), (false, [.any])] }
 | 162 => { mu := [0], res := .one (.str) }
 | 201 => { res := .one (.str) }
 | 202 => { res := .one (.str) }
 | 3 => { res := .one (.bool) }
 | 4 => { res := .one (.bool) }
 | 5 => { res := .one (.bool) }
 | 6 => { res := .one (.bool) }
 | 14 => { res := .one (.int .i64) }
 | 15 => { res := .one (.int .i64) }
 | 16 => { res := .one (.int .i64) }
 | 17 => { res := .one (.own .deep) }
 | 18 => { res := .one (.own .deep) }
 | 19 => { res := .one (.int .i64) }
 | 20 => { res := .one (.bool) }
 | 21 => { res := .one (.bool) }
 | 22 => { res := .tup [(false, [.int .i64]), (false, [.int .i64])] }
 | 23 => { res := .tup [(false, [.int .i64]), (false, [.int .i64])] }
 | 24 => { res := .tup [(true, [.bool, .int .i64, .str, .own .deep, .own .deep]), (false, [.bool])] }
 | 25 => { res := .tup [(true, [.bool, .int .i64, .str, .own .deep, .own .deep]), (false, [.bool])] }
 | 26 => { res := .one (.bool) }
 | 27 => { mu := [0], res := .one (.int .i64) }
 | 28 => { mu := [0], res := .one (.int .i64) }
 | 29 => { res := .one (.int .i64) }
 | 30 => { res := .one (.own .deep) }
 | 31 => { res := .one (.own .deep) }
 | 32 => { mu := [0], res := .one (.int .i64) }
 | 33 => { res := .one (.int .i64) }
 | 58 => { res := .one (.int .i64) }
 | 59 => { res := .one (.bool) }
 | 60 => { res := .one (.bool) }
 | 61 => { res := .agg [.own .deep, .bool, .int .i64, .str, .int .i64] }
 | 62 => { res := .one (.int .i64) }
 | 63 => { res := .one (.bool) }
 | 64 => { res := .one (.bool) }
 | 65 => { res := .one (.bool) }
 | 66 => { res := .one (.bool) }
 | 67 => { res := .one (.bool) }
 | 68 => { res := .one (.bool) }
 | 69 => { res := .tup [(true, [.bool, .int .i64, .str, .sh, .sh]), (false, [.bool])] }
 | 70 => { res := .one (.own .deep) }
 | 71 => { res := .one (.bool) }
 | 72 => { res := .agg [.bool, .int .i64, .str, .own .deep, .own .deep] }
 | 73 => { res := .one (.bool) }
 | 74 => { res := .one (.ptr 0) }
 | 75 => { mu := [0], con := [2], res := .none }
 | 76 => { res := .one (.bool) }
 | 77 => { res := .one (.bool) }
 | 78 => { res := .one (.own .deep) }
 | 79 => { res := .one (.bool) }
 | 80 => { res := .agg [.bool, .int .i64, .str, .own .deep, .own .deep] }
 | 81 => { res := .one (.bool) }
 | 82 => { res := .one (.str) }
 | 83 => { mu := [0], res := .one (.int .i64) }
 | 84 => { res := .one (.int .i64) }
 | 86 => { res := .one (.bool) }
 | 125 => { res := .one (.bool) }
 | 126 => { res := .one (.bool) }
 | 127 => { res := .one (.int .i64) }
 | 128 => { res := .one (.own .deep) }
 | 129 => { res := .one (.ptr 0) }
 | 130 => { res := .tup [(false, [.int .i64]), (false, [.bool])] }
 | 133 => { res := .one (.bool) }
 | 134 => { res := .one (.int .i64) }
 | 135 => { mu := [2], res := .none }
 | 136 => { mu := [2], res := .none }
 | 137 => { res := .one (.int .i64) }
 | 138 => { res := .one (.bool) }
 | 139 => { res := .one (.int .i64) }
 | 149 => { res := .one (.str) }
 | 157 => { res := .one (.str) }
 | 158 => { res := .one (.bool) }
 | 160 => { res := .one (.str) }
 | 164 => { res := .one (.str) }
 | 165 => { res := .one (.str) }
 | 173 => { res := .one .sh }
 | 179 => { res := .one (.int .i64) }
 | 180 => { res := .one (.int .i64) }
 | 181 => { res := .one (.bool) }
 | 182 => { res := .one (.bool) }
 | 187 => { res := .one (.bool) }
 | 188 => { res := .one (.own .deep) }
 | 189 => { res := .one (.bool) }
 | 193 => { res := .one (.str) }
 | 194 => { res := .one (.str) }
 | 203 => { res := .one (.str) }
 | 204 => { res := .none }
 | 223 => { res := .one (.int .i64) }
 | 224 => { res := .one (.bool) }
 | 236 => { res := .one (.str) }
 | _ => { res := .none }
def lives : FuncId → Nat → List Nat × List Nat
 | 3, 100009 => ([0, 1, 6], [1])
 | 3, 100016 => ([1, 8], [1])
 | 4, 100009 => ([0, 1, 6, 7], [1])
 | 4, 100013 => ([0, 1, 8, 9, 47], [1])
 | 4, 100014 => ([0, 1, 8, 9], [1])
 | 5, 100008 => ([0, 4, 5, 6, 7, 8], [1])
 | 5, 100009 => ([0, 4, 5, 6, 7, 8, 40], [1])
 | 5, 100010 => ([0, 4, 5, 6, 7, 8], [1])
 | 5, 100015 => ([0, 4, 5, 7, 61], [1])
 | 5, 100016 => ([0, 4, 5, 7], [1])
 | 5, 100025 => ([4, 5, 7, 10, 12, 13], [1])
 | 5, 100026 => ([7, 10, 87], [1])
 | 5, 100027 => ([7, 10], [1])
 | 6, 100009 => ([0, 1, 6], [1])
 | 6, 100015 => ([0, 1, 6, 7, 8, 9, 44], [1])
 | 6, 100022 => ([0, 1, 6, 9, 63], [1])
 | 6, 100023 => ([0, 1, 6, 9], [1])
 | 6, 100032 => ([6, 9, 11, 13], [1])
 | 14, 5 => ([0, 1, 5], [1, 4])
 | 15, 5 => ([0, 1, 5], [1, 4])
 | 16, 6 => ([0, 1, 7, 8], [0, 1, 7])
 | 16, 100012 => ([7, 48], [1])
 | 17, 3 => ([0, 3, 4], [3])
 | 18, 3 => ([0, 3, 4], [3])
 | 20, 4 => ([0, 1, 5], [4])
 | 21, 4 => ([0, 1, 5], [4])
 | 22, 5 => ([0, 1, 6, 7], [6, 7])
 | 23, 5 => ([0, 1, 6, 7], [6, 7])
 | 24, 5 => ([0, 2, 4, 5], [0, 2, 3, 4])
 | 24, 18 => ([0, 2, 4, 9, 10], [2, 3, 4])
 | 24, 100002 => ([0, 2, 26], [1])
 | 24, 100003 => ([0, 2], [1])
 | 24, 100011 => ([0, 2, 4, 5, 7, 8], [1])
 | 25, 5 => ([0, 2, 4, 28, 29, 30], [0, 2, 3, 4])
 | 25, 100005 => ([0, 2, 4, 28, 29, 30], [1])
 | 25, 100011 => ([0, 2, 4, 6, 7, 8, 28, 29, 30], [1])
 | 25, 100016 => ([2, 4, 75], [1])
 | 25, 100017 => ([2, 4], [1])
 | 26, 100009 => ([2, 3], [1])
 | 27, 2 => ([0, 1, 5], [1])
 | 27, 100008 => ([0, 1, 5], [1])
 | 30, 4 => ([0, 1, 6, 7, 8], [7])
 | 31, 4 => ([1, 5, 20, 21, 22], [5])
 | 32, 2 => ([0, 1, 5], [1])
 | 33, 2 => ([0, 1, 5], [1, 4])
 | 59, 2 => ([0, 1, 5], [0, 1, 4])
 | 59, 100004 => ([0, 1, 5], [1])
 | 62, 2 => ([0, 1, 7, 8], [4])
 | 64, 4 => ([0, 1, 12, 13], [4])
 | 65, 100009 => ([2, 3], [1])
 | 66, 4 => ([0, 1, 5], [4])
 | 67, 4 => ([0, 1, 12, 13], [4])
 | 68, 2 => ([0, 3], [0, 2])
 | 69, 100003 => ([1, 3, 5, 6, 8, 29], [1])
 | 69, 100007 => ([1, 3, 5, 6, 8, 9], [1])
 | 72, 3 => ([1, 2, 3, 4], [2, 3])
 | 74, 2 => ([0, 7, 8, 9], [0, 4])
 | 74, 100005 => ([0, 7, 8, 9], [1])
 | 75, 100005 => ([0, 5, 6], [1])
 | 77, 4 => ([1, 2, 15, 16, 17], [6])
 | 80, 3 => ([1, 2, 3, 8, 9, 10], [1, 2, 3])
 | 81, 4 => ([0, 1, 5], [4])
 | 82, 4 => ([0, 3], [3])
 | 83, 2 => ([0, 1, 5], [1])
 | 83, 100009 => ([0, 1, 5], [1])
 | 84, 2 => ([0, 1, 5], [1, 4])
 | 84, 100010 => ([0, 1, 5], [1])
 | 84, 100017 => ([0, 1, 5], [1])
 | 125, 2 => ([0, 3], [0, 2])
 | 125, 100005 => ([0, 3, 32], [1])
 | 127, 2 => ([1, 2, 5], [4])
 | 128, 3 => ([0, 3, 5, 6], [5])
 | 129, 100003 => ([0, 5, 22], [1])
 | 129, 100004 => ([0, 5], [1])
 | 130, 3 => ([0, 1, 6, 7, 8], [0, 1, 6, 7])
 | 133, 8 => ([1, 2, 41, 42, 43], [4])
 | 133, 100002 => ([1, 2, 23], [1])
 | 133, 100003 => ([1, 2], [1])
 | 133, 100011 => ([1, 2, 41, 42, 43, 75], [1])
 | 134, 3 => ([3, 7, 8, 9], [3])
 | 135, 3 => ([1, 2, 3, 13, 14, 15], [])
 | 137, 4 => ([3, 4, 9, 10], [3])
 | 138, 4 => ([1, 2, 5], [4])
 | 138, 100002 => ([1, 2, 12], [1])
 | 138, 100003 => ([1, 2], [1])
 | 139, 3 => ([1, 3, 4], [3])
 | 164, 3 => ([0, 3, 5, 6], [5])
 | 180, 2 => ([0, 1, 7, 8], [4])
 | 187, 2 => ([0, 5, 6], [0, 2])
 | 187, 100005 => ([0, 5, 6, 30], [1])
 | 189, 6 => ([1, 3], [1, 2])
 | 189, 100002 => ([1, 16], [1])
 | 189, 100003 => ([1], [1])
 | 189, 100009 => ([1, 3, 61], [1])
 | 194, 3 => ([0, 3, 4], [3])
 | 223, 3 => ([0, 3, 4], [3])
 | 236, 3 => ([0, 3, 4], [3])
 | _, _ => ([], [])
def mvs : FuncId → Nat → Nat → Bool
 | 24, 2, 1 => true
 | 24, 9, 1 => true
 | 24, 12, 1 => true
 | 24, 16, 1 => true
 | 24, 21, 1 => true
 | 24, 22, 2 => true
 | 25, 2, 1 => true
 | 25, 8, 1 => true
 | 25, 12, 1 => true
 | 25, 16, 1 => true
 | 25, 17, 2 => true
 | 28, 0, 0 => true
 | 61, 7, 1 => true
 | 69, 5, 1 => true
 | 69, 8, 1 => true
 | 69, 11, 2 => true
 | 72, 6, 1 => true
 | 75, 3, 7 => true
 | 75, 5, 7 => true
 | 80, 9, 1 => true
 | 165, 1, 2 => true
 | 165, 1, 3 => true
 | _, _, _ => false
noncomputable def exts : FuncId → Option (List AV → List PV.Obj → Option Res)
 | 131 => some (zcr 1)
 | 132 => some (zcr 5)
 | 156 => some (zdO 170 5)
 | 162 => some (zdx 170 5)
 | 201 => some zfe
 | 202 => some zgv
 | _ => none
def GL : List (Nat × List D) := [(5, Lib.pow10Tab.map fun z => .v (.int .u64 z))]
noncomputable def Y : Prm := { P := Tryz.prog, sig := sigs, mv := mvs, live := lives, ext := exts, gl := GL, bt := fun t => bif t == 170 then some 5 else none }
noncomputable def XX : Ctx := Y.ctx (lim' Y)
noncomputable def zan (xs : List AV) (os : List PV.Obj) : Option Res := lim' Y 3 xs os
noncomputable def zan.c : Code := zaS Tryz.f3
theorem zan.run (xs : List AV) (os : List PV.Obj) (hc : runOk Tryz.f3 xs os = true) :
 zan xs os = evK XX 3 (lpL XX 3) zan.c (zaH Tryz.f3 xs os GL) (outE XX 3 Tryz.f3) :=
 zaT (Y := Y) (f := 3) (fn := Tryz.f3) (cd := zan.c) rfl Tryz.func3 (by kernel_rfl) xs os hc
noncomputable def zaR (xs : List AV) (os : List PV.Obj) : Option Res := lim' Y 14 xs os
noncomputable def zaR.c : Code := zaS Tryz.f14
theorem zaR.run (xs : List AV) (os : List PV.Obj) (hc : runOk Tryz.f14 xs os = true) :
 zaR xs os = evK XX 14 (lpL XX 14) zaR.c (zaH Tryz.f14 xs os GL) (outE XX 14 Tryz.f14) :=
 zaT (Y := Y) (f := 14) (fn := Tryz.f14) (cd := zaR.c) rfl Tryz.func14 (by kernel_rfl) xs os hc
noncomputable def zap (xs : List AV) (os : List PV.Obj) : Option Res := lim' Y 15 xs os
noncomputable def zap.c : Code := zaS Tryz.f15
theorem zap.run (xs : List AV) (os : List PV.Obj) (hc : runOk Tryz.f15 xs os = true) :
 zap xs os = evK XX 15 (lpL XX 15) zap.c (zaH Tryz.f15 xs os GL) (outE XX 15 Tryz.f15) :=
 zaT (Y := Y) (f := 15) (fn := Tryz.f15) (cd := zap.c) rfl Tryz.func15 (by kernel_rfl) xs os hc
noncomputable def zao (xs : List AV) (os : List PV.Obj) : Option Res := lim' Y 16 xs os
noncomputable def zao.c : Code := zaS Tryz.f16
theorem zao.run (xs : List AV) (os : List PV.Obj) (hc : runOk Tryz.f16 xs os = true) :
 zao xs os = evK XX 16 (lpL XX 16) zao.c (zaH Tryz.f16 xs os GL) (outE XX 16 Tryz.f16) :=
 zaT (Y := Y) (f := 16) (fn := Tryz.f16) (cd := zao.c) rfl Tryz.func16 (by kernel_rfl) xs os hc
noncomputable def za1 (xs : List AV) (os : List PV.Obj) : Option Res := lim' Y 17 xs os
noncomputable def za1.c : Code := zaS Tryz.f17
theorem za1.run (xs : List AV) (os : List PV.Obj) (hc : runOk Tryz.f17 xs os = true) :
 za1 xs os = evK XX 17 (lpL XX 17) za1.c (zaH Tryz.f17 xs os GL) (outE XX 17 Tryz.f17) :=
 zaT (Y := Y) (f := 17) (fn := Tryz.f17) (cd := za1.c) rfl Tryz.func17 (by kernel_rfl) xs os hc
noncomputable def zay (xs : List AV) (os : List PV.Obj) : Option Res := lim' Y 18 xs os
noncomputable def zay.c : Code := zaS Tryz.f18
theorem zay.run (xs : List AV) (os : List PV.Obj) (hc : runOk Tryz.f18 xs os = true) :
 zay xs os = evK XX 18 (lpL XX 18) zay.c (zaH Tryz.f18 xs os GL) (outE XX 18 Tryz.f18) :=
 zaT (Y := Y) (f := 18) (fn := Tryz.f18) (cd := zay.c) rfl Tryz.func18 (by kernel_rfl) xs os hc
noncomputable def zbz (xs : List AV) (os : List PV.Obj) : Option Res := lim' Y 19 xs os
noncomputable def zbz.c : Code := zaS Tryz.f19
theorem zbz.run (xs : List AV) (os : List PV.Obj) (hc : runOk Tryz.f19 xs os = true) :
 zbz xs os = evK XX 19 (lpL XX 19) zbz.c (zaH Tryz.f19 xs os GL) (outE XX 19 Tryz.f19) :=
 zaT (Y := Y) (f := 19) (fn := Tryz.f19) (cd := zbz.c) rfl Tryz.func19 (by kernel_rfl) xs os hc
noncomputable def za0 (xs : List AV) (os : List PV.Obj) : Option Res := lim' Y 20 xs os
noncomputable def za0.c : Code := zaS Tryz.f20
theorem za0.run (xs : List AV) (os : List PV.Obj) (hc : runOk Tryz.f20 xs os = true) :
 za0 xs os = evK XX 20 (lpL XX 20) za0.c (zaH Tryz.f20 xs os GL) (outE XX 20 Tryz.f20) :=
 zaT (Y := Y) (f := 20) (fn := Tryz.f20) (cd := za0.c) rfl Tryz.func20 (by kernel_rfl) xs os hc
noncomputable def zaz (xs : List AV) (os : List PV.Obj) : Option Res := lim' Y 21 xs os
noncomputable def zaz.c : Code := zaS Tryz.f21
theorem zaz.run (xs : List AV) (os : List PV.Obj) (hc : runOk Tryz.f21 xs os = true) :
 zaz xs os = evK XX 21 (lpL XX 21) zaz.c (zaH Tryz.f21 xs os GL) (outE XX 21 Tryz.f21) :=
 zaT (Y := Y) (f := 21) (fn := Tryz.f21) (cd := zaz.c) rfl Tryz.func21 (by kernel_rfl) xs os hc
noncomputable def zab (xs : List AV) (os : List PV.Obj) : Option Res := lim' Y 24 xs os
noncomputable def zab.c : Code := zaS Tryz.f24
theorem zab.run (xs : List AV) (os : List PV.Obj) (hc : runOk Tryz.f24 xs os = true) :
 zab xs os = evK XX 24 (lpL XX 24) zab.c (zaH Tryz.f24 xs os GL) (outE XX 24 Tryz.f24) :=
 zaT (Y := Y) (f := 24) (fn := Tryz.f24) (cd := zab.c) rfl Tryz.func24 (by kernel_rfl) xs os hc
noncomputable def zah (xs : List AV) (os : List PV.Obj) : Option Res := lim' Y 25 xs os
noncomputable def zah.c : Code := zaS Tryz.f25
theorem zah.run (xs : List AV) (os : List PV.Obj) (hc : runOk Tryz.f25 xs os = true) :
 zah xs os = evK XX 25 (lpL XX 25) zah.c (zaH Tryz.f25 xs os GL) (outE XX 25 Tryz.f25) :=
 zaT (Y := Y) (f := 25) (fn := Tryz.f25) (cd := zah.c) rfl Tryz.func25 (by kernel_rfl) xs os hc
noncomputable def zc6 (xs : List AV) (os : List PV.Obj) : Option Res := lim' Y 58 xs os
noncomputable def zc6.c : Code := zaS Tryz.f58
theorem zc6.run (xs : List AV) (os : List PV.Obj) (hc : runOk Tryz.f58 xs os = true) :
 zc6 xs os = evK XX 58 (lpL XX 58) zc6.c (zaH Tryz.f58 xs os GL) (outE XX 58 Tryz.f58) :=
 zaT (Y := Y) (f := 58) (fn := Tryz.f58) (cd := zc6.c) rfl Tryz.func58 (by kernel_rfl) xs os hc
noncomputable def zaB (xs : List AV) (os : List PV.Obj) : Option Res := lim' Y 59 xs os
noncomputable def zaB.c : Code := zaS Tryz.f59
theorem zaB.run (xs : List AV) (os : List PV.Obj) (hc : runOk Tryz.f59 xs os = true) :
 zaB xs os = evK XX 59 (lpL XX 59) zaB.c (zaH Tryz.f59 xs os GL) (outE XX 59 Tryz.f59) :=
 zaT (Y := Y) (f := 59) (fn := Tryz.f59) (cd := zaB.c) rfl Tryz.func59 (by kernel_rfl) xs os hc
noncomputable def zbU (xs : List AV) (os : List PV.Obj) : Option Res := lim' Y 60 xs os
noncomputable def zbU.c : Code := zaS Tryz.f60
theorem zbU.run (xs : List AV) (os : List PV.Obj) (hc : runOk Tryz.f60 xs os = true) :
 zbU xs os = evK XX 60 (lpL XX 60) zbU.c (zaH Tryz.f60 xs os GL) (outE XX 60 Tryz.f60) :=
 zaT (Y := Y) (f := 60) (fn := Tryz.f60) (cd := zbU.c) rfl Tryz.func60 (by kernel_rfl) xs os hc
noncomputable def zdi (xs : List AV) (os : List PV.Obj) : Option Res := lim' Y 61 xs os
noncomputable def zdi.c : Code := zaS Tryz.f61
theorem zdi.run (xs : List AV) (os : List PV.Obj) (hc : runOk Tryz.f61 xs os = true) :
 zdi xs os = evK XX 61 (lpL XX 61) zdi.c (zaH Tryz.f61 xs os GL) (outE XX 61 Tryz.f61) :=
 zaT (Y := Y) (f := 61) (fn := Tryz.f61) (cd := zdi.c) rfl Tryz.func61 (by kernel_rfl) xs os hc
noncomputable def zae (xs : List AV) (os : List PV.Obj) : Option Res := lim' Y 62 xs os
noncomputable def zae.c : Code := zaS Tryz.f62
theorem zae.run (xs : List AV) (os : List PV.Obj) (hc : runOk Tryz.f62 xs os = true) :
 zae xs os = evK XX 62 (lpL XX 62) zae.c (zaH Tryz.f62 xs os GL) (outE XX 62 Tryz.f62) :=
 zaT (Y := Y) (f := 62) (fn := Tryz.f62) (cd := zae.c) rfl Tryz.func62 (by kernel_rfl) xs os hc
abbrev zaY.id : FuncId := 63
noncomputable def zaY (xs : List AV) (os : List PV.Obj) : Option Res := lim' Y 63 xs os
noncomputable def zaY.c : Code := zaS Tryz.f63
theorem zaY.run (xs : List AV) (os : List PV.Obj) (hc : runOk Tryz.f63 xs os = true) :
 zaY xs os = evK XX 63 (lpL XX 63) zaY.c (zaH Tryz.f63 xs os GL) (outE XX 63 Tryz.f63) :=
 zaT (Y := Y) (f := 63) (fn := Tryz.f63) (cd := zaY.c) rfl Tryz.func63 (by kernel_rfl) xs os hc
noncomputable def zad (xs : List AV) (os : List PV.Obj) : Option Res := lim' Y 64 xs os
noncomputable def zad.c : Code := zaS Tryz.f64
theorem zad.run (xs : List AV) (os : List PV.Obj) (hc : runOk Tryz.f64 xs os = true) :
 zad xs os = evK XX 64 (lpL XX 64) zad.c (zaH Tryz.f64 xs os GL) (outE XX 64 Tryz.f64) :=
 zaT (Y := Y) (f := 64) (fn := Tryz.f64) (cd := zad.c) rfl Tryz.func64 (by kernel_rfl) xs os hc
noncomputable def zce (xs : List AV) (os : List PV.Obj) : Option Res := lim' Y 65 xs os
noncomputable def zce.c : Code := zaS Tryz.f65
theorem zce.run (xs : List AV) (os : List PV.Obj) (hc : runOk Tryz.f65 xs os = true) :
 zce xs os = evK XX 65 (lpL XX 65) zce.c (zaH Tryz.f65 xs os GL) (outE XX 65 Tryz.f65) :=
 zaT (Y := Y) (f := 65) (fn := Tryz.f65) (cd := zce.c) rfl Tryz.func65 (by kernel_rfl) xs os hc
noncomputable def zaC (xs : List AV) (os : List PV.Obj) : Option Res := lim' Y 66 xs os
noncomputable def zaC.c : Code := zaS Tryz.f66
theorem zaC.run (xs : List AV) (os : List PV.Obj) (hc : runOk Tryz.f66 xs os = true) :
 zaC xs os = evK XX 66 (lpL XX 66) zaC.c (zaH Tryz.f66 xs os GL) (outE XX 66 Tryz.f66) :=
 zaT (Y := Y) (f := 66) (fn := Tryz.f66) (cd := zaC.c) rfl Tryz.func66 (by kernel_rfl) xs os hc
noncomputable def zax (xs : List AV) (os : List PV.Obj) : Option Res := lim' Y 68 xs os
noncomputable def zax.c : Code := zaS Tryz.f68
theorem zax.run (xs : List AV) (os : List PV.Obj) (hc : runOk Tryz.f68 xs os = true) :
 zax xs os = evK XX 68 (lpL XX 68) zax.c (zaH Tryz.f68 xs os GL) (outE XX 68 Tryz.f68) :=
 zaT (Y := Y) (f := 68) (fn := Tryz.f68) (cd := zax.c) rfl Tryz.func68 (by kernel_rfl) xs os hc
noncomputable def zbh (xs : List AV) (os : List PV.Obj) : Option Res := lim' Y 69 xs os
noncomputable def zbh.c : Code := zaS Tryz.f69
theorem zbh.run (xs : List AV) (os : List PV.Obj) (hc : runOk Tryz.f69 xs os = true) :
 zbh xs os = evK XX 69 (lpL XX 69) zbh.c (zaH Tryz.f69 xs os GL) (outE XX 69 Tryz.f69) :=
 zaT (Y := Y) (f := 69) (fn := Tryz.f69) (cd := zbh.c) rfl Tryz.func69 (by kernel_rfl) xs os hc
noncomputable def zbn (xs : List AV) (os : List PV.Obj) : Option Res := lim' Y 70 xs os
noncomputable def zbn.c : Code := zaS Tryz.f70
theorem zbn.run (xs : List AV) (os : List PV.Obj) (hc : runOk Tryz.f70 xs os = true) :
 zbn xs os = evK XX 70 (lpL XX 70) zbn.c (zaH Tryz.f70 xs os GL) (outE XX 70 Tryz.f70) :=
 zaT (Y := Y) (f := 70) (fn := Tryz.f70) (cd := zbn.c) rfl Tryz.func70 (by kernel_rfl) xs os hc
noncomputable def zbV (xs : List AV) (os : List PV.Obj) : Option Res := lim' Y 71 xs os
noncomputable def zbV.c : Code := zaS Tryz.f71
theorem zbV.run (xs : List AV) (os : List PV.Obj) (hc : runOk Tryz.f71 xs os = true) :
 zbV xs os = evK XX 71 (lpL XX 71) zbV.c (zaH Tryz.f71 xs os GL) (outE XX 71 Tryz.f71) :=
 zaT (Y := Y) (f := 71) (fn := Tryz.f71) (cd := zbV.c) rfl Tryz.func71 (by kernel_rfl) xs os hc
noncomputable def za2 (xs : List AV) (os : List PV.Obj) : Option Res := lim' Y 72 xs os
noncomputable def za2.c : Code := zaS Tryz.f72
theorem za2.run (xs : List AV) (os : List PV.Obj) (hc : runOk Tryz.f72 xs os = true) :
 za2 xs os = evK XX 72 (lpL XX 72) za2.c (zaH Tryz.f72 xs os GL) (outE XX 72 Tryz.f72) :=
 zaT (Y := Y) (f := 72) (fn := Tryz.f72) (cd := za2.c) rfl Tryz.func72 (by kernel_rfl) xs os hc
noncomputable def zbY (xs : List AV) (os : List PV.Obj) : Option Res := lim' Y 73 xs os
noncomputable def zbY.c : Code := zaS Tryz.f73
theorem zbY.run (xs : List AV) (os : List PV.Obj) (hc : runOk Tryz.f73 xs os = true) :
 zbY xs os = evK XX 73 (lpL XX 73) zbY.c (zaH Tryz.f73 xs os GL) (outE XX 73 Tryz.f73) :=
 zaT (Y := Y) (f := 73) (fn := Tryz.f73) (cd := zbY.c) rfl Tryz.func73 (by kernel_rfl) xs os hc
noncomputable def zak (xs : List AV) (os : List PV.Obj) : Option Res := lim' Y 74 xs os
noncomputable def zak.c : Code := zaS Tryz.f74
theorem zak.run (xs : List AV) (os : List PV.Obj) (hc : runOk Tryz.f74 xs os = true) :
 zak xs os = evK XX 74 (lpL XX 74) zak.c (zaH Tryz.f74 xs os GL) (outE XX 74 Tryz.f74) :=
 zaT (Y := Y) (f := 74) (fn := Tryz.f74) (cd := zak.c) rfl Tryz.func74 (by kernel_rfl) xs os hc
noncomputable def zbL (xs : List AV) (os : List PV.Obj) : Option Res := lim' Y 75 xs os
noncomputable def zbL.c : Code := zaS Tryz.f75
theorem zbL.run (xs : List AV) (os : List PV.Obj) (hc : runOk Tryz.f75 xs os = true) :
 zbL xs os = evK XX 75 (lpL XX 75) zbL.c (zaH Tryz.f75 xs os GL) (outE XX 75 Tryz.f75) :=
 zaT (Y := Y) (f := 75) (fn := Tryz.f75) (cd := zbL.c) rfl Tryz.func75 (by kernel_rfl) xs os hc
noncomputable def zcG (xs : List AV) (os : List PV.Obj) : Option Res := lim' Y 76 xs os
noncomputable def zcG.c : Code := zaS Tryz.f76
theorem zcG.run (xs : List AV) (os : List PV.Obj) (hc : runOk Tryz.f76 xs os = true) :
 zcG xs os = evK XX 76 (lpL XX 76) zcG.c (zaH Tryz.f76 xs os GL) (outE XX 76 Tryz.f76) :=
 zaT (Y := Y) (f := 76) (fn := Tryz.f76) (cd := zcG.c) rfl Tryz.func76 (by kernel_rfl) xs os hc
noncomputable def zaa (xs : List AV) (os : List PV.Obj) : Option Res := lim' Y 77 xs os
noncomputable def zaa.c : Code := zaS Tryz.f77
theorem zaa.run (xs : List AV) (os : List PV.Obj) (hc : runOk Tryz.f77 xs os = true) :
 zaa xs os = evK XX 77 (lpL XX 77) zaa.c (zaH Tryz.f77 xs os GL) (outE XX 77 Tryz.f77) :=
 zaT (Y := Y) (f := 77) (fn := Tryz.f77) (cd := zaa.c) rfl Tryz.func77 (by kernel_rfl) xs os hc
noncomputable def zbo (xs : List AV) (os : List PV.Obj) : Option Res := lim' Y 78 xs os
noncomputable def zbo.c : Code := zaS Tryz.f78
theorem zbo.run (xs : List AV) (os : List PV.Obj) (hc : runOk Tryz.f78 xs os = true) :
 zbo xs os = evK XX 78 (lpL XX 78) zbo.c (zaH Tryz.f78 xs os GL) (outE XX 78 Tryz.f78) :=
 zaT (Y := Y) (f := 78) (fn := Tryz.f78) (cd := zbo.c) rfl Tryz.func78 (by kernel_rfl) xs os hc
abbrev zbt.id : FuncId := 79
noncomputable def zbt (xs : List AV) (os : List PV.Obj) : Option Res := lim' Y 79 xs os
noncomputable def zbt.c : Code := zaS Tryz.f79
theorem zbt.run (xs : List AV) (os : List PV.Obj) (hc : runOk Tryz.f79 xs os = true) :
 zbt xs os = evK XX 79 (lpL XX 79) zbt.c (zaH Tryz.f79 xs os GL) (outE XX 79 Tryz.f79) :=
 zaT (Y := Y) (f := 79) (fn := Tryz.f79) (cd := zbt.c) rfl Tryz.func79 (by kernel_rfl) xs os hc
noncomputable def zau (xs : List AV) (os : List PV.Obj) : Option Res := lim' Y 80 xs os
noncomputable def zau.c : Code := zaS Tryz.f80
theorem zau.run (xs : List AV) (os : List PV.Obj) (hc : runOk Tryz.f80 xs os = true) :
 zau xs os = evK XX 80 (lpL XX 80) zau.c (zaH Tryz.f80 xs os GL) (outE XX 80 Tryz.f80) :=
 zaT (Y := Y) (f := 80) (fn := Tryz.f80) (cd := zau.c) rfl Tryz.func80 (by kernel_rfl) xs os hc
noncomputable def zm1 (xs : List AV) (os : List PV.Obj) : Option Res := lim' Y 82 xs os
noncomputable def zcH (xs : List AV) (os : List PV.Obj) : Option Res := lim' Y 86 xs os
noncomputable def zcH.c : Code := zaS Tryz.f86
theorem zcH.run (xs : List AV) (os : List PV.Obj) (hc : runOk Tryz.f86 xs os = true) :
 zcH xs os = evK XX 86 (lpL XX 86) zcH.c (zaH Tryz.f86 xs os GL) (outE XX 86 Tryz.f86) :=
 zaT (Y := Y) (f := 86) (fn := Tryz.f86) (cd := zcH.c) rfl Tryz.func86 (by kernel_rfl) xs os hc
noncomputable def zam (xs : List AV) (os : List PV.Obj) : Option Res := lim' Y 125 xs os
noncomputable def zam.c : Code := zaS Tryz.f125
theorem zam.run (xs : List AV) (os : List PV.Obj) (hc : runOk Tryz.f125 xs os = true) :
 zam xs os = evK XX 125 (lpL XX 125) zam.c (zaH Tryz.f125 xs os GL) (outE XX 125 Tryz.f125) :=
 zaT (Y := Y) (f := 125) (fn := Tryz.f125) (cd := zam.c) rfl Tryz.func125 (by kernel_rfl) xs os hc
noncomputable def sl1In (xs : List AV) (os : List PV.Obj) : Option Res := lim' Y 126 xs os
noncomputable def sl1In.c : Code := zaS Tryz.f126
theorem sl1In.run (xs : List AV) (os : List PV.Obj) (hc : runOk Tryz.f126 xs os = true) :
 sl1In xs os = evK XX 126 (lpL XX 126) sl1In.c (zaH Tryz.f126 xs os GL) (outE XX 126 Tryz.f126) :=
 zaT (Y := Y) (f := 126) (fn := Tryz.f126) (cd := sl1In.c) rfl Tryz.func126 (by kernel_rfl) xs os hc
noncomputable def zaW (xs : List AV) (os : List PV.Obj) : Option Res := lim' Y 127 xs os
noncomputable def zaW.c : Code := zaS Tryz.f127
theorem zaW.run (xs : List AV) (os : List PV.Obj) (hc : runOk Tryz.f127 xs os = true) :
 zaW xs os = evK XX 127 (lpL XX 127) zaW.c (zaH Tryz.f127 xs os GL) (outE XX 127 Tryz.f127) :=
 zaT (Y := Y) (f := 127) (fn := Tryz.f127) (cd := zaW.c) rfl Tryz.func127 (by kernel_rfl) xs os hc
noncomputable def zaN (xs : List AV) (os : List PV.Obj) : Option Res := lim' Y 128 xs os
noncomputable def zaN.c : Code := zaS Tryz.f128
theorem zaN.run (xs : List AV) (os : List PV.Obj) (hc : runOk Tryz.f128 xs os = true) :
 zaN xs os = evK XX 128 (lpL XX 128) zaN.c (zaH Tryz.f128 xs os GL) (outE XX 128 Tryz.f128) :=
 zaT (Y := Y) (f := 128) (fn := Tryz.f128) (cd := zaN.c) rfl Tryz.func128 (by kernel_rfl) xs os hc
noncomputable def zaU (xs : List AV) (os : List PV.Obj) : Option Res := lim' Y 129 xs os
noncomputable def zaU.c : Code := zaS Tryz.f129
theorem zaU.run (xs : List AV) (os : List PV.Obj) (hc : runOk Tryz.f129 xs os = true) :
 zaU xs os = evK XX 129 (lpL XX 129) zaU.c (zaH Tryz.f129 xs os GL) (outE XX 129 Tryz.f129) :=
 zaT (Y := Y) (f := 129) (fn := Tryz.f129) (cd := zaU.c) rfl Tryz.func129 (by kernel_rfl) xs os hc
noncomputable def zac (xs : List AV) (os : List PV.Obj) : Option Res := lim' Y 130 xs os
noncomputable def zac.c : Code := zaS Tryz.f130
theorem zac.run (xs : List AV) (os : List PV.Obj) (hc : runOk Tryz.f130 xs os = true) :
 zac xs os = evK XX 130 (lpL XX 130) zac.c (zaH Tryz.f130 xs os GL) (outE XX 130 Tryz.f130) :=
 zaT (Y := Y) (f := 130) (fn := Tryz.f130) (cd := zac.c) rfl Tryz.func130 (by kernel_rfl) xs os hc
noncomputable def za3 (xs : List AV) (os : List PV.Obj) : Option Res := lim' Y 131 xs os
theorem za3.ext (xs : List AV) (os : List PV.Obj) : za3 xs os = (zcr 1) xs os := zd1 (Y := Y) rfl xs os
noncomputable def zaZ (xs : List AV) (os : List PV.Obj) : Option Res := lim' Y 132 xs os
theorem zaZ.ext (xs : List AV) (os : List PV.Obj) : zaZ xs os = (zcr 5) xs os := zd1 (Y := Y) rfl xs os
noncomputable def zai (xs : List AV) (os : List PV.Obj) : Option Res := lim' Y 133 xs os
noncomputable def zai.c : Code := zaS Tryz.f133
theorem zai.run (xs : List AV) (os : List PV.Obj) (hc : runOk Tryz.f133 xs os = true) :
 zai xs os = evK XX 133 (lpL XX 133) zai.c (zaH Tryz.f133 xs os GL) (outE XX 133 Tryz.f133) :=
 zaT (Y := Y) (f := 133) (fn := Tryz.f133) (cd := zai.c) rfl Tryz.func133 (by kernel_rfl) xs os hc
noncomputable def zat (xs : List AV) (os : List PV.Obj) : Option Res := lim' Y 134 xs os
noncomputable def zat.c : Code := zaS Tryz.f134
theorem zat.run (xs : List AV) (os : List PV.Obj) (hc : runOk Tryz.f134 xs os = true) :
 zat xs os = evK XX 134 (lpL XX 134) zat.c (zaH Tryz.f134 xs os GL) (outE XX 134 Tryz.f134) :=
 zaT (Y := Y) (f := 134) (fn := Tryz.f134) (cd := zat.c) rfl Tryz.func134 (by kernel_rfl) xs os hc
noncomputable def zaP (xs : List AV) (os : List PV.Obj) : Option Res := lim' Y 135 xs os
noncomputable def zaP.c : Code := zaS Tryz.f135
theorem zaP.run (xs : List AV) (os : List PV.Obj) (hc : runOk Tryz.f135 xs os = true) :
 zaP xs os = evK XX 135 (lpL XX 135) zaP.c (zaH Tryz.f135 xs os GL) (outE XX 135 Tryz.f135) :=
 zaT (Y := Y) (f := 135) (fn := Tryz.f135) (cd := zaP.c) rfl Tryz.func135 (by kernel_rfl) xs os hc
abbrev zaI.id : FuncId := 136
noncomputable def zaI (xs : List AV) (os : List PV.Obj) : Option Res := lim' Y 136 xs os
noncomputable def zaI.c : Code := zaS Tryz.f136
theorem zaI.run (xs : List AV) (os : List PV.Obj) (hc : runOk Tryz.f136 xs os = true) :
 zaI xs os = evK XX 136 (lpL XX 136) zaI.c (zaH Tryz.f136 xs os GL) (outE XX 136 Tryz.f136) :=
 zaT (Y := Y) (f := 136) (fn := Tryz.f136) (cd := zaI.c) rfl Tryz.func136 (by kernel_rfl) xs os hc
noncomputable def zaV (xs : List AV) (os : List PV.Obj) : Option Res := lim' Y 137 xs os
noncomputable def zaV.c : Code := zaS Tryz.f137
theorem zaV.run (xs : List AV) (os : List PV.Obj) (hc : runOk Tryz.f137 xs os = true) :
 zaV xs os = evK XX 137 (lpL XX 137) zaV.c (zaH Tryz.f137 xs os GL) (outE XX 137 Tryz.f137) :=
 zaT (Y := Y) (f := 137) (fn := Tryz.f137) (cd := zaV.c) rfl Tryz.func137 (by kernel_rfl) xs os hc
noncomputable def zaq (xs : List AV) (os : List PV.Obj) : Option Res := lim' Y 138 xs os
noncomputable def zaq.c : Code := zaS Tryz.f138
theorem zaq.run (xs : List AV) (os : List PV.Obj) (hc : runOk Tryz.f138 xs os = true) :
 zaq xs os = evK XX 138 (lpL XX 138) zaq.c (zaH Tryz.f138 xs os GL) (outE XX 138 Tryz.f138) :=
 zaT (Y := Y) (f := 138) (fn := Tryz.f138) (cd := zaq.c) rfl Tryz.func138 (by kernel_rfl) xs os hc
noncomputable def zaO (xs : List AV) (os : List PV.Obj) : Option Res := lim' Y 139 xs os
noncomputable def zaO.c : Code := zaS Tryz.f139
theorem zaO.run (xs : List AV) (os : List PV.Obj) (hc : runOk Tryz.f139 xs os = true) :
 zaO xs os = evK XX 139 (lpL XX 139) zaO.c (zaH Tryz.f139 xs os GL) (outE XX 139 Tryz.f139) :=
 zaT (Y := Y) (f := 139) (fn := Tryz.f139) (cd := zaO.c) rfl Tryz.func139 (by kernel_rfl) xs os hc
noncomputable def zco (xs : List AV) (os : List PV.Obj) : Option Res := lim' Y 149 xs os
noncomputable def zco.c : Code := zaS Tryz.f149
theorem zco.run (xs : List AV) (os : List PV.Obj) (hc : runOk Tryz.f149 xs os = true) :
 zco xs os = evK XX 149 (lpL XX 149) zco.c (zaH Tryz.f149 xs os GL) (outE XX 149 Tryz.f149) :=
 zaT (Y := Y) (f := 149) (fn := Tryz.f149) (cd := zco.c) rfl Tryz.func149 (by kernel_rfl) xs os hc
noncomputable def za4 (xs : List AV) (os : List PV.Obj) : Option Res := lim' Y 156 xs os
theorem za4.ext (xs : List AV) (os : List PV.Obj) : za4 xs os = (zdO 170 5) xs os := zd1 (Y := Y) rfl xs os
noncomputable def zbM (xs : List AV) (os : List PV.Obj) : Option Res := lim' Y 157 xs os
noncomputable def zbM.c : Code := zaS Tryz.f157
theorem zbM.run (xs : List AV) (os : List PV.Obj) (hc : runOk Tryz.f157 xs os = true) :
 zbM xs os = evK XX 157 (lpL XX 157) zbM.c (zaH Tryz.f157 xs os GL) (outE XX 157 Tryz.f157) :=
 zaT (Y := Y) (f := 157) (fn := Tryz.f157) (cd := zbM.c) rfl Tryz.func157 (by kernel_rfl) xs os hc
noncomputable def zcI (xs : List AV) (os : List PV.Obj) : Option Res := lim' Y 158 xs os
noncomputable def zcI.c : Code := zaS Tryz.f158
theorem zcI.run (xs : List AV) (os : List PV.Obj) (hc : runOk Tryz.f158 xs os = true) :
 zcI xs os = evK XX 158 (lpL XX 158) zcI.c (zaH Tryz.f158 xs os GL) (outE XX 158 Tryz.f158) :=
 zaT (Y := Y) (f := 158) (fn := Tryz.f158) (cd := zcI.c) rfl Tryz.func158 (by kernel_rfl) xs os hc
noncomputable def zbA (xs : List AV) (os : List PV.Obj) : Option Res := lim' Y 160 xs os
noncomputable def zbA.c : Code := zaS Tryz.f160
theorem zbA.run (xs : List AV) (os : List PV.Obj) (hc : runOk Tryz.f160 xs os = true) :
 zbA xs os = evK XX 160 (lpL XX 160) zbA.c (zaH Tryz.f160 xs os GL) (outE XX 160 Tryz.f160) :=
 zaT (Y := Y) (f := 160) (fn := Tryz.f160) (cd := zbA.c) rfl Tryz.func160 (by kernel_rfl) xs os hc
noncomputable def zbb (xs : List AV) (os : List PV.Obj) : Option Res := lim' Y 162 xs os
theorem zbb.ext (xs : List AV) (os : List PV.Obj) : zbb xs os = (zdx 170 5) xs os := zd1 (Y := Y) rfl xs os
noncomputable def za5 (xs : List AV) (os : List PV.Obj) : Option Res := lim' Y 164 xs os
noncomputable def za5.c : Code := zaS Tryz.f164
theorem za5.run (xs : List AV) (os : List PV.Obj) (hc : runOk Tryz.f164 xs os = true) :
 za5 xs os = evK XX 164 (lpL XX 164) za5.c (zaH Tryz.f164 xs os GL) (outE XX 164 Tryz.f164) :=
 zaT (Y := Y) (f := 164) (fn := Tryz.f164) (cd := za5.c) rfl Tryz.func164 (by kernel_rfl) xs os hc
noncomputable def zbB (xs : List AV) (os : List PV.Obj) : Option Res := lim' Y 165 xs os
noncomputable def zbB.c : Code := zaS Tryz.f165
theorem zbB.run (xs : List AV) (os : List PV.Obj) (hc : runOk Tryz.f165 xs os = true) :
 zbB xs os = evK XX 165 (lpL XX 165) zbB.c (zaH Tryz.f165 xs os GL) (outE XX 165 Tryz.f165) :=
 zaT (Y := Y) (f := 165) (fn := Tryz.f165) (cd := zbB.c) rfl Tryz.func165 (by kernel_rfl) xs os hc
noncomputable def zcJ (xs : List AV) (os : List PV.Obj) : Option Res := lim' Y 173 xs os
noncomputable def zcJ.c : Code := zaS Tryz.f173
theorem zcJ.run (xs : List AV) (os : List PV.Obj) (hc : runOk Tryz.f173 xs os = true) :
 zcJ xs os = evK XX 173 (lpL XX 173) zcJ.c (zaH Tryz.f173 xs os GL) (outE XX 173 Tryz.f173) :=
 zaT (Y := Y) (f := 173) (fn := Tryz.f173) (cd := zcJ.c) rfl Tryz.func173 (by kernel_rfl) xs os hc
noncomputable def zdy (xs : List AV) (os : List PV.Obj) : Option Res := lim' Y 179 xs os
noncomputable def zdy.c : Code := zaS Tryz.f179
theorem zdy.run (xs : List AV) (os : List PV.Obj) (hc : runOk Tryz.f179 xs os = true) :
 zdy xs os = evK XX 179 (lpL XX 179) zdy.c (zaH Tryz.f179 xs os GL) (outE XX 179 Tryz.f179) :=
 zaT (Y := Y) (f := 179) (fn := Tryz.f179) (cd := zdy.c) rfl Tryz.func179 (by kernel_rfl) xs os hc
noncomputable def zaf (xs : List AV) (os : List PV.Obj) : Option Res := lim' Y 180 xs os
noncomputable def zaf.c : Code := zaS Tryz.f180
theorem zaf.run (xs : List AV) (os : List PV.Obj) (hc : runOk Tryz.f180 xs os = true) :
 zaf xs os = evK XX 180 (lpL XX 180) zaf.c (zaH Tryz.f180 xs os GL) (outE XX 180 Tryz.f180) :=
 zaT (Y := Y) (f := 180) (fn := Tryz.f180) (cd := zaf.c) rfl Tryz.func180 (by kernel_rfl) xs os hc
noncomputable def za6 (xs : List AV) (os : List PV.Obj) : Option Res := lim' Y 181 xs os
noncomputable def za6.c : Code := zaS Tryz.f181
theorem za6.run (xs : List AV) (os : List PV.Obj) (hc : runOk Tryz.f181 xs os = true) :
 za6 xs os = evK XX 181 (lpL XX 181) za6.c (zaH Tryz.f181 xs os GL) (outE XX 181 Tryz.f181) :=
 zaT (Y := Y) (f := 181) (fn := Tryz.f181) (cd := za6.c) rfl Tryz.func181 (by kernel_rfl) xs os hc
noncomputable def zaJ (xs : List AV) (os : List PV.Obj) : Option Res := lim' Y 182 xs os
noncomputable def zaJ.c : Code := zaS Tryz.f182
theorem zaJ.run (xs : List AV) (os : List PV.Obj) (hc : runOk Tryz.f182 xs os = true) :
 zaJ xs os = evK XX 182 (lpL XX 182) zaJ.c (zaH Tryz.f182 xs os GL) (outE XX 182 Tryz.f182) :=
 zaT (Y := Y) (f := 182) (fn := Tryz.f182) (cd := zaJ.c) rfl Tryz.func182 (by kernel_rfl) xs os hc
noncomputable def zaG (xs : List AV) (os : List PV.Obj) : Option Res := lim' Y 187 xs os
noncomputable def zaG.c : Code := zaS Tryz.f187
theorem zaG.run (xs : List AV) (os : List PV.Obj) (hc : runOk Tryz.f187 xs os = true) :
 zaG xs os = evK XX 187 (lpL XX 187) zaG.c (zaH Tryz.f187 xs os GL) (outE XX 187 Tryz.f187) :=
 zaT (Y := Y) (f := 187) (fn := Tryz.f187) (cd := zaG.c) rfl Tryz.func187 (by kernel_rfl) xs os hc
noncomputable def zc7 (xs : List AV) (os : List PV.Obj) : Option Res := lim' Y 188 xs os
noncomputable def zc7.c : Code := zaS Tryz.f188
theorem zc7.run (xs : List AV) (os : List PV.Obj) (hc : runOk Tryz.f188 xs os = true) :
 zc7 xs os = evK XX 188 (lpL XX 188) zc7.c (zaH Tryz.f188 xs os GL) (outE XX 188 Tryz.f188) :=
 zaT (Y := Y) (f := 188) (fn := Tryz.f188) (cd := zc7.c) rfl Tryz.func188 (by kernel_rfl) xs os hc
noncomputable def zal (xs : List AV) (os : List PV.Obj) : Option Res := lim' Y 189 xs os
noncomputable def zal.c : Code := zaS Tryz.f189
theorem zal.run (xs : List AV) (os : List PV.Obj) (hc : runOk Tryz.f189 xs os = true) :
 zal xs os = evK XX 189 (lpL XX 189) zal.c (zaH Tryz.f189 xs os GL) (outE XX 189 Tryz.f189) :=
 zaT (Y := Y) (f := 189) (fn := Tryz.f189) (cd := zal.c) rfl Tryz.func189 (by kernel_rfl) xs os hc
noncomputable def zcR (xs : List AV) (os : List PV.Obj) : Option Res := lim' Y 193 xs os
noncomputable def zcR.c : Code := zaS Tryz.f193
theorem zcR.run (xs : List AV) (os : List PV.Obj) (hc : runOk Tryz.f193 xs os = true) :
 zcR xs os = evK XX 193 (lpL XX 193) zcR.c (zaH Tryz.f193 xs os GL) (outE XX 193 Tryz.f193) :=
 zaT (Y := Y) (f := 193) (fn := Tryz.f193) (cd := zcR.c) rfl Tryz.func193 (by kernel_rfl) xs os hc
noncomputable def zbi (xs : List AV) (os : List PV.Obj) : Option Res := lim' Y 194 xs os
noncomputable def zbi.c : Code := zaS Tryz.f194
theorem zbi.run (xs : List AV) (os : List PV.Obj) (hc : runOk Tryz.f194 xs os = true) :
 zbi xs os = evK XX 194 (lpL XX 194) zbi.c (zaH Tryz.f194 xs os GL) (outE XX 194 Tryz.f194) :=
 zaT (Y := Y) (f := 194) (fn := Tryz.f194) (cd := zbi.c) rfl Tryz.func194 (by kernel_rfl) xs os hc
noncomputable def strings_Join (xs : List AV) (os : List PV.Obj) : Option Res := lim' Y 201 xs os
theorem strings_Join.ext (xs : List AV) (os : List PV.Obj) : strings_Join xs os = zfe xs os := zd1 (Y := Y) rfl xs os
noncomputable def strconv_Itoa (xs : List AV) (os : List PV.Obj) : Option Res := lim' Y 202 xs os
theorem strconv_Itoa.ext (xs : List AV) (os : List PV.Obj) : strconv_Itoa xs os = zgv xs os := zd1 (Y := Y) rfl xs os
noncomputable def zbR (xs : List AV) (os : List PV.Obj) : Option Res := lim' Y 203 xs os
noncomputable def zbR.c : Code := zaS Tryz.f203
theorem zbR.run (xs : List AV) (os : List PV.Obj) (hc : runOk Tryz.f203 xs os = true) :
 zbR xs os = evK XX 203 (lpL XX 203) zbR.c (zaH Tryz.f203 xs os GL) (outE XX 203 Tryz.f203) :=
 zaT (Y := Y) (f := 203) (fn := Tryz.f203) (cd := zbR.c) rfl Tryz.func203 (by kernel_rfl) xs os hc
abbrev zaM.id : FuncId := 204
noncomputable def zaM (xs : List AV) (os : List PV.Obj) : Option Res := lim' Y 204 xs os
noncomputable def zaM.c : Code := zaS Tryz.f204
theorem zaM.run (xs : List AV) (os : List PV.Obj) (hc : runOk Tryz.f204 xs os = true) :
 zaM xs os = evK XX 204 (lpL XX 204) zaM.c (zaH Tryz.f204 xs os GL) (outE XX 204 Tryz.f204) :=
 zaT (Y := Y) (f := 204) (fn := Tryz.f204) (cd := zaM.c) rfl Tryz.func204 (by kernel_rfl) xs os hc
noncomputable def zbm (xs : List AV) (os : List PV.Obj) : Option Res := lim' Y 223 xs os
noncomputable def zbm.c : Code := zaS Tryz.f223
theorem zbm.run (xs : List AV) (os : List PV.Obj) (hc : runOk Tryz.f223 xs os = true) :
 zbm xs os = evK XX 223 (lpL XX 223) zbm.c (zaH Tryz.f223 xs os GL) (outE XX 223 Tryz.f223) :=
 zaT (Y := Y) (f := 223) (fn := Tryz.f223) (cd := zbm.c) rfl Tryz.func223 (by kernel_rfl) xs os hc
noncomputable def zaX (xs : List AV) (os : List PV.Obj) : Option Res := lim' Y 224 xs os
noncomputable def zaX.c : Code := zaS Tryz.f224
theorem zaX.run (xs : List AV) (os : List PV.Obj) (hc : runOk Tryz.f224 xs os = true) :
 zaX xs os = evK XX 224 (lpL XX 224) zaX.c (zaH Tryz.f224 xs os GL) (outE XX 224 Tryz.f224) :=
 zaT (Y := Y) (f := 224) (fn := Tryz.f224) (cd := zaX.c) rfl Tryz.func224 (by kernel_rfl) xs os hc
noncomputable def zbj (xs : List AV) (os : List PV.Obj) : Option Res := lim' Y 236 xs os
noncomputable def zbj.c : Code := zaS Tryz.f236
theorem zbj.run (xs : List AV) (os : List PV.Obj) (hc : runOk Tryz.f236 xs os = true) :
 zbj xs os = evK XX 236 (lpL XX 236) zbj.c (zaH Tryz.f236 xs os GL) (outE XX 236 Tryz.f236) :=
 zaT (Y := Y) (f := 236) (fn := Tryz.f236) (cd := zbj.c) rfl Tryz.func236 (by kernel_rfl) xs os hc
end Go.PVx
