/- A part of the proof: PvSnTab. -/
import Derived.Test.YtkaclcgkndbppaaGreatDoorProg
import Derived.Test.YtkaclcgkndbppaaGreatDoorPvC
import Derived.KernelRfl
import Derived.Test.YtkaclcgkndbppaaGreatDoorExt
import Derived.Test.YtkaclcgkndbppaaGreatDoorBld
set_option linter.unusedSimpArgs false
set_option linter.unusedVariables false
namespace Go.PVx
open Go.PV Go.Proofs
abbrev runOk (fn : Go.Func) (xs : List AV) (os : List PV.Obj) : Bool := decide (xs.length ≤ fn.ntmps) && decide (os.length + fn.ntmps < 1000000000) && !(fn.name == "runtime.NumGoroutine")
def sigs : FuncId → Sig
 | 156 => { mu := [0], res := .tup [(false, [.int .i64]), (false, [.any])] }
 | 162 => { mu := [0], res := .one (.str) }
 | 201 => { res := .one (.str) }
 | 202 => { res := .one (.str) }
 | 7 => { res := .one (.bool) }
 | 15 => { res := .one (.int .i64) }
 | 18 => { res := .one (.own .deep) }
 | 20 => { res := .one (.bool) }
 | 21 => { res := .one (.bool) }
 | 26 => { res := .one (.bool) }
 | 27 => { mu := [0], res := .one (.int .i64) }
 | 28 => { mu := [0], res := .one (.int .i64) }
 | 29 => { res := .one (.int .i64) }
 | 32 => { mu := [0], res := .one (.int .i64) }
 | 33 => { res := .one (.int .i64) }
 | 34 => { res := .one (.int .i64) }
 | 35 => { res := .tup [(true, [.bool, .int .i64, .str, .own .deep, .own .deep, .own .deep, .own .deep, .own .deep, .own .deep, .int .i64, .sh, .own .deep]), (false, [.bool])] }
 | 36 => { res := .agg [.bool, .int .i64, .str, .own .deep, .own .deep] }
 | 37 => { res := .tup [(true, [.bool, .int .i64, .str, .own .deep, .own .deep, .own .deep, .own .deep, .own .deep, .own .deep, .int .i64, .own .deep, .own .deep]), (false, [.bool])] }
 | 38 => { res := .one (.bool) }
 | 39 => { mu := [0], res := .one (.int .i64) }
 | 40 => { res := .one (.int .i64) }
 | 43 => { res := .one (.bool) }
 | 44 => { mu := [0], res := .one (.int .i64) }
 | 45 => { res := .one (.int .i64) }
 | 65 => { res := .one (.bool) }
 | 70 => { res := .one (.own .deep) }
 | 72 => { res := .agg [.bool, .int .i64, .str, .own .deep, .own .deep] }
 | 73 => { res := .one (.bool) }
 | 76 => { res := .one (.bool) }
 | 78 => { res := .one (.own .deep) }
 | 80 => { res := .agg [.bool, .int .i64, .str, .own .deep, .own .deep] }
 | 81 => { res := .one (.bool) }
 | 82 => { res := .one (.str) }
 | 83 => { mu := [0], res := .one (.int .i64) }
 | 84 => { res := .one (.int .i64) }
 | 85 => { res := .one (.int .i64) }
 | 86 => { res := .one (.bool) }
 | 87 => { res := .agg [.int .i64, .sh] }
 | 88 => { res := .one (.own .deep) }
 | 89 => { res := .agg [.int .i64, .own .deep] }
 | 90 => { res := .one (.bool) }
 | 91 => { res := .one (.bool) }
 | 92 => { mu := [0], res := .one (.int .i64) }
 | 93 => { mu := [0], res := .one (.int .i64) }
 | 94 => { res := .one (.int .i64) }
 | 95 => { res := .one (.int .i64) }
 | 96 => { res := .one (.int .i64) }
 | 107 => { res := .one (.bool) }
 | 108 => { res := .one (.bool) }
 | 109 => { mu := [0], res := .one (.int .i64) }
 | 110 => { mu := [0], res := .one (.int .i64) }
 | 111 => { res := .one (.int .i64) }
 | 112 => { res := .one (.int .i64) }
 | 125 => { res := .one (.bool) }
 | 126 => { res := .one (.bool) }
 | 128 => { res := .one (.own .deep) }
 | 133 => { res := .one (.bool) }
 | 134 => { res := .one (.int .i64) }
 | 135 => { mu := [2], res := .none }
 | 136 => { mu := [2], res := .none }
 | 137 => { res := .one (.int .i64) }
 | 138 => { res := .one (.bool) }
 | 139 => { res := .one (.int .i64) }
 | 140 => { res := .one .sh }
 | 141 => { res := .one (.own .deep) }
 | 142 => { res := .one (.bool) }
 | 143 => { res := .one (.bool) }
 | 144 => { mu := [0], res := .one (.int .i64) }
 | 145 => { res := .one (.int .i64) }
 | 149 => { res := .one (.str) }
 | 157 => { res := .one (.str) }
 | 158 => { res := .one (.bool) }
 | 160 => { res := .one (.str) }
 | 163 => { res := .one (.bool) }
 | 164 => { res := .one (.str) }
 | 165 => { res := .one (.str) }
 | 173 => { res := .one .sh }
 | 179 => { res := .one (.int .i64) }
 | 187 => { res := .one (.bool) }
 | 188 => { res := .one (.own .deep) }
 | 189 => { res := .one (.bool) }
 | 190 => { mu := [2], res := .none }
 | 191 => { res := .one (.bool) }
 | 193 => { res := .one (.str) }
 | 194 => { res := .one (.str) }
 | 203 => { res := .one (.str) }
 | 204 => { res := .none }
 | 223 => { res := .one (.int .i64) }
 | 236 => { res := .one (.str) }
 | _ => { res := .none }
def lives : FuncId → Nat → List Nat × List Nat
 | 7, 100007 => ([1, 4, 5, 6], [1])
 | 7, 100009 => ([1, 4, 5, 6, 7, 8, 40], [1])
 | 7, 100010 => ([1, 4, 5, 6, 7, 8], [1])
 | 7, 100015 => ([1, 4, 5, 7, 61], [1])
 | 7, 100016 => ([1, 4, 5, 7], [1])
 | 7, 100025 => ([4, 5, 7, 10, 12, 13], [1])
 | 7, 100026 => ([7, 10, 87], [1])
 | 7, 100027 => ([7, 10], [1])
 | 15, 5 => ([0, 1, 5], [1, 4])
 | 18, 3 => ([0, 3, 4], [3])
 | 20, 4 => ([0, 1, 5], [4])
 | 21, 4 => ([0, 1, 5], [4])
 | 26, 100009 => ([2, 3], [1])
 | 27, 2 => ([0, 1, 5], [1])
 | 27, 100008 => ([0, 1, 5], [1])
 | 32, 2 => ([0, 1, 5], [1])
 | 33, 2 => ([0, 1, 5], [1, 4])
 | 34, 100008 => ([1], [1])
 | 38, 100007 => ([2, 3], [1])
 | 39, 100005 => ([1, 2], [1])
 | 40, 100009 => ([1, 2, 22], [1])
 | 40, 100018 => ([1, 40], [1])
 | 65, 100009 => ([2, 3], [1])
 | 72, 3 => ([1, 2, 3, 4], [2, 3])
 | 80, 3 => ([1, 2, 3, 8, 9, 10], [1, 2, 3])
 | 81, 4 => ([0, 1, 5], [4])
 | 82, 4 => ([0, 3], [3])
 | 83, 2 => ([0, 1, 5], [1])
 | 83, 100009 => ([0, 1, 5], [1])
 | 84, 2 => ([0, 1, 5], [1, 4])
 | 84, 100010 => ([0, 1, 5], [1])
 | 84, 100017 => ([0, 1, 5], [1])
 | 85, 5 => ([0, 1, 5], [1, 4])
 | 87, 6 => ([2, 3, 4, 5], [2, 3])
 | 88, 3 => ([0, 3, 4], [3])
 | 89, 5 => ([2, 3, 13, 14, 15], [2, 3])
 | 90, 4 => ([0, 1, 5], [4])
 | 92, 2 => ([0, 1, 5], [1])
 | 94, 2 => ([0, 1, 5], [1, 4])
 | 94, 100010 => ([0, 1, 5], [1])
 | 94, 100017 => ([0, 1, 5, 57], [1])
 | 95, 2 => ([0, 1, 5], [1, 4])
 | 107, 4 => ([0, 1, 5], [4])
 | 108, 4 => ([0, 1, 5], [4])
 | 109, 2 => ([0, 1, 5], [1])
 | 110, 2 => ([0, 1, 5], [1])
 | 110, 100008 => ([0, 1, 5], [1])
 | 111, 2 => ([0, 1, 5], [1, 4])
 | 112, 2 => ([0, 1, 5], [1, 4])
 | 112, 100010 => ([0, 1, 5], [1])
 | 112, 100017 => ([0, 1, 5, 57], [1])
 | 125, 2 => ([0, 3], [0, 2])
 | 125, 100005 => ([0, 3, 32], [1])
 | 128, 3 => ([0, 3, 5, 6], [5])
 | 133, 8 => ([1, 2, 41, 42, 43], [4])
 | 133, 100002 => ([1, 2, 23], [1])
 | 133, 100003 => ([1, 2], [1])
 | 133, 100011 => ([1, 2, 41, 42, 43, 75], [1])
 | 134, 3 => ([3, 7, 8, 9], [3])
 | 135, 3 => ([1, 2, 3, 13, 14, 15], [])
 | 137, 4 => ([3, 4, 9, 10], [3])
 | 138, 4 => ([1, 2, 5], [4])
 | 138, 100002 => ([1, 2, 12], [1])
 | 138, 100003 => ([1, 2], [1])
 | 139, 3 => ([1, 3, 4], [3])
 | 140, 3 => ([0, 3, 5, 6], [5])
 | 143, 4 => ([0, 1, 5], [4])
 | 144, 2 => ([0, 1, 5], [1])
 | 145, 2 => ([0, 1, 5], [1, 4])
 | 163, 100009 => ([2, 3], [1])
 | 164, 3 => ([0, 3, 5, 6], [5])
 | 187, 2 => ([0, 5, 6], [0, 2])
 | 187, 100005 => ([0, 5, 6, 30], [1])
 | 189, 6 => ([1, 3], [1, 2])
 | 189, 100002 => ([1, 16], [1])
 | 189, 100003 => ([1], [1])
 | 189, 100009 => ([1, 3, 61], [1])
 | 194, 3 => ([0, 3, 4], [3])
 | 223, 3 => ([0, 3, 4], [3])
 | 236, 3 => ([0, 3, 4], [3])
 | _, _ => ([], [])
def mvs : FuncId → Nat → Nat → Bool
 | 28, 0, 0 => true
 | 35, 2, 1 => true
 | 35, 3, 7 => true
 | 36, 7, 1 => true
 | 37, 2, 1 => true
 | 37, 3, 12 => true
 | 39, 0, 0 => true
 | 44, 0, 0 => true
 | 72, 6, 1 => true
 | 80, 9, 1 => true
 | 87, 2, 1 => true
 | 87, 10, 1 => true
 | 89, 2, 1 => true
 | 89, 7, 6 => true
 | 89, 10, 1 => true
 | 93, 0, 0 => true
 | 165, 1, 2 => true
 | 165, 1, 3 => true
 | _, _, _ => false
noncomputable def exts : FuncId → Option (List AV → List PV.Obj → Option Res)
 | 156 => some (zd5 170 5)
 | 162 => some (zdN 170 5)
 | 201 => some zfl
 | 202 => some zgx
 | _ => none
def GL : List (Nat × List D) := [(5, Lib.pow10Tab.map fun z => .v (.int .u64 z))]
noncomputable def Y : Prm := { P := Tryz.prog, sig := sigs, mv := mvs, live := lives, ext := exts, gl := GL, bt := fun t => bif t == 170 then some 5 else none }
noncomputable def XX : Ctx := Y.ctx (lim' Y)
noncomputable def zab (xs : List AV) (os : List PV.Obj) : Option Res := lim' Y 7 xs os
noncomputable def zab.c : Code := zaR Tryz.f7
theorem zab.run (xs : List AV) (os : List PV.Obj) (hc : runOk Tryz.f7 xs os = true) :
 zab xs os = evK XX 7 (lpL XX 7) zab.c (zaH Tryz.f7 xs os GL) (outE XX 7 Tryz.f7) :=
 zaS (Y := Y) (f := 7) (fn := Tryz.f7) (cd := zab.c) rfl Tryz.func7 (by kernel_rfl) xs os hc
noncomputable def zaw (xs : List AV) (os : List PV.Obj) : Option Res := lim' Y 15 xs os
noncomputable def zaw.c : Code := zaR Tryz.f15
theorem zaw.run (xs : List AV) (os : List PV.Obj) (hc : runOk Tryz.f15 xs os = true) :
 zaw xs os = evK XX 15 (lpL XX 15) zaw.c (zaH Tryz.f15 xs os GL) (outE XX 15 Tryz.f15) :=
 zaS (Y := Y) (f := 15) (fn := Tryz.f15) (cd := zaw.c) rfl Tryz.func15 (by kernel_rfl) xs os hc
noncomputable def zaN (xs : List AV) (os : List PV.Obj) : Option Res := lim' Y 18 xs os
noncomputable def zaN.c : Code := zaR Tryz.f18
theorem zaN.run (xs : List AV) (os : List PV.Obj) (hc : runOk Tryz.f18 xs os = true) :
 zaN xs os = evK XX 18 (lpL XX 18) zaN.c (zaH Tryz.f18 xs os GL) (outE XX 18 Tryz.f18) :=
 zaS (Y := Y) (f := 18) (fn := Tryz.f18) (cd := zaN.c) rfl Tryz.func18 (by kernel_rfl) xs os hc
noncomputable def za7 (xs : List AV) (os : List PV.Obj) : Option Res := lim' Y 20 xs os
noncomputable def za7.c : Code := zaR Tryz.f20
theorem za7.run (xs : List AV) (os : List PV.Obj) (hc : runOk Tryz.f20 xs os = true) :
 za7 xs os = evK XX 20 (lpL XX 20) za7.c (zaH Tryz.f20 xs os GL) (outE XX 20 Tryz.f20) :=
 zaS (Y := Y) (f := 20) (fn := Tryz.f20) (cd := za7.c) rfl Tryz.func20 (by kernel_rfl) xs os hc
noncomputable def zao (xs : List AV) (os : List PV.Obj) : Option Res := lim' Y 21 xs os
noncomputable def zao.c : Code := zaR Tryz.f21
theorem zao.run (xs : List AV) (os : List PV.Obj) (hc : runOk Tryz.f21 xs os = true) :
 zao xs os = evK XX 21 (lpL XX 21) zao.c (zaH Tryz.f21 xs os GL) (outE XX 21 Tryz.f21) :=
 zaS (Y := Y) (f := 21) (fn := Tryz.f21) (cd := zao.c) rfl Tryz.func21 (by kernel_rfl) xs os hc
noncomputable def zbz (xs : List AV) (os : List PV.Obj) : Option Res := lim' Y 26 xs os
noncomputable def zbz.c : Code := zaR Tryz.f26
theorem zbz.run (xs : List AV) (os : List PV.Obj) (hc : runOk Tryz.f26 xs os = true) :
 zbz xs os = evK XX 26 (lpL XX 26) zbz.c (zaH Tryz.f26 xs os GL) (outE XX 26 Tryz.f26) :=
 zaS (Y := Y) (f := 26) (fn := Tryz.f26) (cd := zbz.c) rfl Tryz.func26 (by kernel_rfl) xs os hc
noncomputable def zaJ (xs : List AV) (os : List PV.Obj) : Option Res := lim' Y 27 xs os
noncomputable def zaJ.c : Code := zaR Tryz.f27
theorem zaJ.run (xs : List AV) (os : List PV.Obj) (hc : runOk Tryz.f27 xs os = true) :
 zaJ xs os = evK XX 27 (lpL XX 27) zaJ.c (zaH Tryz.f27 xs os GL) (outE XX 27 Tryz.f27) :=
 zaS (Y := Y) (f := 27) (fn := Tryz.f27) (cd := zaJ.c) rfl Tryz.func27 (by kernel_rfl) xs os hc
noncomputable def zbM (xs : List AV) (os : List PV.Obj) : Option Res := lim' Y 28 xs os
noncomputable def zbM.c : Code := zaR Tryz.f28
theorem zbM.run (xs : List AV) (os : List PV.Obj) (hc : runOk Tryz.f28 xs os = true) :
 zbM xs os = evK XX 28 (lpL XX 28) zbM.c (zaH Tryz.f28 xs os GL) (outE XX 28 Tryz.f28) :=
 zaS (Y := Y) (f := 28) (fn := Tryz.f28) (cd := zbM.c) rfl Tryz.func28 (by kernel_rfl) xs os hc
noncomputable def zb3 (xs : List AV) (os : List PV.Obj) : Option Res := lim' Y 29 xs os
noncomputable def zb3.c : Code := zaR Tryz.f29
theorem zb3.run (xs : List AV) (os : List PV.Obj) (hc : runOk Tryz.f29 xs os = true) :
 zb3 xs os = evK XX 29 (lpL XX 29) zb3.c (zaH Tryz.f29 xs os GL) (outE XX 29 Tryz.f29) :=
 zaS (Y := Y) (f := 29) (fn := Tryz.f29) (cd := zb3.c) rfl Tryz.func29 (by kernel_rfl) xs os hc
noncomputable def zaf (xs : List AV) (os : List PV.Obj) : Option Res := lim' Y 32 xs os
noncomputable def zaf.c : Code := zaR Tryz.f32
theorem zaf.run (xs : List AV) (os : List PV.Obj) (hc : runOk Tryz.f32 xs os = true) :
 zaf xs os = evK XX 32 (lpL XX 32) zaf.c (zaH Tryz.f32 xs os GL) (outE XX 32 Tryz.f32) :=
 zaS (Y := Y) (f := 32) (fn := Tryz.f32) (cd := zaf.c) rfl Tryz.func32 (by kernel_rfl) xs os hc
noncomputable def zad (xs : List AV) (os : List PV.Obj) : Option Res := lim' Y 33 xs os
noncomputable def zad.c : Code := zaR Tryz.f33
theorem zad.run (xs : List AV) (os : List PV.Obj) (hc : runOk Tryz.f33 xs os = true) :
 zad xs os = evK XX 33 (lpL XX 33) zad.c (zaH Tryz.f33 xs os GL) (outE XX 33 Tryz.f33) :=
 zaS (Y := Y) (f := 33) (fn := Tryz.f33) (cd := zad.c) rfl Tryz.func33 (by kernel_rfl) xs os hc
noncomputable def zbA (xs : List AV) (os : List PV.Obj) : Option Res := lim' Y 34 xs os
noncomputable def zbA.c : Code := zaR Tryz.f34
theorem zbA.run (xs : List AV) (os : List PV.Obj) (hc : runOk Tryz.f34 xs os = true) :
 zbA xs os = evK XX 34 (lpL XX 34) zbA.c (zaH Tryz.f34 xs os GL) (outE XX 34 Tryz.f34) :=
 zaS (Y := Y) (f := 34) (fn := Tryz.f34) (cd := zbA.c) rfl Tryz.func34 (by kernel_rfl) xs os hc
noncomputable def zb4 (xs : List AV) (os : List PV.Obj) : Option Res := lim' Y 35 xs os
noncomputable def zb4.c : Code := zaR Tryz.f35
theorem zb4.run (xs : List AV) (os : List PV.Obj) (hc : runOk Tryz.f35 xs os = true) :
 zb4 xs os = evK XX 35 (lpL XX 35) zb4.c (zaH Tryz.f35 xs os GL) (outE XX 35 Tryz.f35) :=
 zaS (Y := Y) (f := 35) (fn := Tryz.f35) (cd := zb4.c) rfl Tryz.func35 (by kernel_rfl) xs os hc
noncomputable def zbZ (xs : List AV) (os : List PV.Obj) : Option Res := lim' Y 36 xs os
noncomputable def zbZ.c : Code := zaR Tryz.f36
theorem zbZ.run (xs : List AV) (os : List PV.Obj) (hc : runOk Tryz.f36 xs os = true) :
 zbZ xs os = evK XX 36 (lpL XX 36) zbZ.c (zaH Tryz.f36 xs os GL) (outE XX 36 Tryz.f36) :=
 zaS (Y := Y) (f := 36) (fn := Tryz.f36) (cd := zbZ.c) rfl Tryz.func36 (by kernel_rfl) xs os hc
noncomputable def zbN (xs : List AV) (os : List PV.Obj) : Option Res := lim' Y 37 xs os
noncomputable def zbN.c : Code := zaR Tryz.f37
theorem zbN.run (xs : List AV) (os : List PV.Obj) (hc : runOk Tryz.f37 xs os = true) :
 zbN xs os = evK XX 37 (lpL XX 37) zbN.c (zaH Tryz.f37 xs os GL) (outE XX 37 Tryz.f37) :=
 zaS (Y := Y) (f := 37) (fn := Tryz.f37) (cd := zbN.c) rfl Tryz.func37 (by kernel_rfl) xs os hc
noncomputable def zbl (xs : List AV) (os : List PV.Obj) : Option Res := lim' Y 38 xs os
noncomputable def zbl.c : Code := zaR Tryz.f38
theorem zbl.run (xs : List AV) (os : List PV.Obj) (hc : runOk Tryz.f38 xs os = true) :
 zbl xs os = evK XX 38 (lpL XX 38) zbl.c (zaH Tryz.f38 xs os GL) (outE XX 38 Tryz.f38) :=
 zaS (Y := Y) (f := 38) (fn := Tryz.f38) (cd := zbl.c) rfl Tryz.func38 (by kernel_rfl) xs os hc
noncomputable def zbc (xs : List AV) (os : List PV.Obj) : Option Res := lim' Y 39 xs os
noncomputable def zbc.c : Code := zaR Tryz.f39
theorem zbc.run (xs : List AV) (os : List PV.Obj) (hc : runOk Tryz.f39 xs os = true) :
 zbc xs os = evK XX 39 (lpL XX 39) zbc.c (zaH Tryz.f39 xs os GL) (outE XX 39 Tryz.f39) :=
 zaS (Y := Y) (f := 39) (fn := Tryz.f39) (cd := zbc.c) rfl Tryz.func39 (by kernel_rfl) xs os hc
noncomputable def zaY (xs : List AV) (os : List PV.Obj) : Option Res := lim' Y 40 xs os
noncomputable def zaY.c : Code := zaR Tryz.f40
theorem zaY.run (xs : List AV) (os : List PV.Obj) (hc : runOk Tryz.f40 xs os = true) :
 zaY xs os = evK XX 40 (lpL XX 40) zaY.c (zaH Tryz.f40 xs os GL) (outE XX 40 Tryz.f40) :=
 zaS (Y := Y) (f := 40) (fn := Tryz.f40) (cd := zaY.c) rfl Tryz.func40 (by kernel_rfl) xs os hc
noncomputable def zcg (xs : List AV) (os : List PV.Obj) : Option Res := lim' Y 43 xs os
noncomputable def zcg.c : Code := zaR Tryz.f43
theorem zcg.run (xs : List AV) (os : List PV.Obj) (hc : runOk Tryz.f43 xs os = true) :
 zcg xs os = evK XX 43 (lpL XX 43) zcg.c (zaH Tryz.f43 xs os GL) (outE XX 43 Tryz.f43) :=
 zaS (Y := Y) (f := 43) (fn := Tryz.f43) (cd := zcg.c) rfl Tryz.func43 (by kernel_rfl) xs os hc
noncomputable def zbG (xs : List AV) (os : List PV.Obj) : Option Res := lim' Y 44 xs os
noncomputable def zbG.c : Code := zaR Tryz.f44
theorem zbG.run (xs : List AV) (os : List PV.Obj) (hc : runOk Tryz.f44 xs os = true) :
 zbG xs os = evK XX 44 (lpL XX 44) zbG.c (zaH Tryz.f44 xs os GL) (outE XX 44 Tryz.f44) :=
 zaS (Y := Y) (f := 44) (fn := Tryz.f44) (cd := zbG.c) rfl Tryz.func44 (by kernel_rfl) xs os hc
noncomputable def zbH (xs : List AV) (os : List PV.Obj) : Option Res := lim' Y 45 xs os
noncomputable def zbH.c : Code := zaR Tryz.f45
theorem zbH.run (xs : List AV) (os : List PV.Obj) (hc : runOk Tryz.f45 xs os = true) :
 zbH xs os = evK XX 45 (lpL XX 45) zbH.c (zaH Tryz.f45 xs os GL) (outE XX 45 Tryz.f45) :=
 zaS (Y := Y) (f := 45) (fn := Tryz.f45) (cd := zbH.c) rfl Tryz.func45 (by kernel_rfl) xs os hc
noncomputable def zcv (xs : List AV) (os : List PV.Obj) : Option Res := lim' Y 65 xs os
noncomputable def zcv.c : Code := zaR Tryz.f65
theorem zcv.run (xs : List AV) (os : List PV.Obj) (hc : runOk Tryz.f65 xs os = true) :
 zcv xs os = evK XX 65 (lpL XX 65) zcv.c (zaH Tryz.f65 xs os GL) (outE XX 65 Tryz.f65) :=
 zaS (Y := Y) (f := 65) (fn := Tryz.f65) (cd := zcv.c) rfl Tryz.func65 (by kernel_rfl) xs os hc
noncomputable def zbI (xs : List AV) (os : List PV.Obj) : Option Res := lim' Y 70 xs os
noncomputable def zbI.c : Code := zaR Tryz.f70
theorem zbI.run (xs : List AV) (os : List PV.Obj) (hc : runOk Tryz.f70 xs os = true) :
 zbI xs os = evK XX 70 (lpL XX 70) zbI.c (zaH Tryz.f70 xs os GL) (outE XX 70 Tryz.f70) :=
 zaS (Y := Y) (f := 70) (fn := Tryz.f70) (cd := zbI.c) rfl Tryz.func70 (by kernel_rfl) xs os hc
noncomputable def za9 (xs : List AV) (os : List PV.Obj) : Option Res := lim' Y 72 xs os
noncomputable def za9.c : Code := zaR Tryz.f72
theorem za9.run (xs : List AV) (os : List PV.Obj) (hc : runOk Tryz.f72 xs os = true) :
 za9 xs os = evK XX 72 (lpL XX 72) za9.c (zaH Tryz.f72 xs os GL) (outE XX 72 Tryz.f72) :=
 zaS (Y := Y) (f := 72) (fn := Tryz.f72) (cd := za9.c) rfl Tryz.func72 (by kernel_rfl) xs os hc
noncomputable def zcE (xs : List AV) (os : List PV.Obj) : Option Res := lim' Y 73 xs os
noncomputable def zcE.c : Code := zaR Tryz.f73
theorem zcE.run (xs : List AV) (os : List PV.Obj) (hc : runOk Tryz.f73 xs os = true) :
 zcE xs os = evK XX 73 (lpL XX 73) zcE.c (zaH Tryz.f73 xs os GL) (outE XX 73 Tryz.f73) :=
 zaS (Y := Y) (f := 73) (fn := Tryz.f73) (cd := zcE.c) rfl Tryz.func73 (by kernel_rfl) xs os hc
noncomputable def zcF (xs : List AV) (os : List PV.Obj) : Option Res := lim' Y 76 xs os
noncomputable def zcF.c : Code := zaR Tryz.f76
theorem zcF.run (xs : List AV) (os : List PV.Obj) (hc : runOk Tryz.f76 xs os = true) :
 zcF xs os = evK XX 76 (lpL XX 76) zcF.c (zaH Tryz.f76 xs os GL) (outE XX 76 Tryz.f76) :=
 zaS (Y := Y) (f := 76) (fn := Tryz.f76) (cd := zcF.c) rfl Tryz.func76 (by kernel_rfl) xs os hc
noncomputable def zbu (xs : List AV) (os : List PV.Obj) : Option Res := lim' Y 78 xs os
noncomputable def zbu.c : Code := zaR Tryz.f78
theorem zbu.run (xs : List AV) (os : List PV.Obj) (hc : runOk Tryz.f78 xs os = true) :
 zbu xs os = evK XX 78 (lpL XX 78) zbu.c (zaH Tryz.f78 xs os GL) (outE XX 78 Tryz.f78) :=
 zaS (Y := Y) (f := 78) (fn := Tryz.f78) (cd := zbu.c) rfl Tryz.func78 (by kernel_rfl) xs os hc
noncomputable def zaB (xs : List AV) (os : List PV.Obj) : Option Res := lim' Y 80 xs os
noncomputable def zaB.c : Code := zaR Tryz.f80
theorem zaB.run (xs : List AV) (os : List PV.Obj) (hc : runOk Tryz.f80 xs os = true) :
 zaB xs os = evK XX 80 (lpL XX 80) zaB.c (zaH Tryz.f80 xs os GL) (outE XX 80 Tryz.f80) :=
 zaS (Y := Y) (f := 80) (fn := Tryz.f80) (cd := zaB.c) rfl Tryz.func80 (by kernel_rfl) xs os hc
noncomputable def zaZ (xs : List AV) (os : List PV.Obj) : Option Res := lim' Y 81 xs os
noncomputable def zaZ.c : Code := zaR Tryz.f81
theorem zaZ.run (xs : List AV) (os : List PV.Obj) (hc : runOk Tryz.f81 xs os = true) :
 zaZ xs os = evK XX 81 (lpL XX 81) zaZ.c (zaH Tryz.f81 xs os GL) (outE XX 81 Tryz.f81) :=
 zaS (Y := Y) (f := 81) (fn := Tryz.f81) (cd := zaZ.c) rfl Tryz.func81 (by kernel_rfl) xs os hc
noncomputable def zaD (xs : List AV) (os : List PV.Obj) : Option Res := lim' Y 82 xs os
noncomputable def zaD.c : Code := zaR Tryz.f82
theorem zaD.run (xs : List AV) (os : List PV.Obj) (hc : runOk Tryz.f82 xs os = true) :
 zaD xs os = evK XX 82 (lpL XX 82) zaD.c (zaH Tryz.f82 xs os GL) (outE XX 82 Tryz.f82) :=
 zaS (Y := Y) (f := 82) (fn := Tryz.f82) (cd := zaD.c) rfl Tryz.func82 (by kernel_rfl) xs os hc
noncomputable def zap (xs : List AV) (os : List PV.Obj) : Option Res := lim' Y 83 xs os
noncomputable def zap.c : Code := zaR Tryz.f83
theorem zap.run (xs : List AV) (os : List PV.Obj) (hc : runOk Tryz.f83 xs os = true) :
 zap xs os = evK XX 83 (lpL XX 83) zap.c (zaH Tryz.f83 xs os GL) (outE XX 83 Tryz.f83) :=
 zaS (Y := Y) (f := 83) (fn := Tryz.f83) (cd := zap.c) rfl Tryz.func83 (by kernel_rfl) xs os hc
noncomputable def zah (xs : List AV) (os : List PV.Obj) : Option Res := lim' Y 84 xs os
noncomputable def zah.c : Code := zaR Tryz.f84
theorem zah.run (xs : List AV) (os : List PV.Obj) (hc : runOk Tryz.f84 xs os = true) :
 zah xs os = evK XX 84 (lpL XX 84) zah.c (zaH Tryz.f84 xs os GL) (outE XX 84 Tryz.f84) :=
 zaS (Y := Y) (f := 84) (fn := Tryz.f84) (cd := zah.c) rfl Tryz.func84 (by kernel_rfl) xs os hc
noncomputable def zaU (xs : List AV) (os : List PV.Obj) : Option Res := lim' Y 85 xs os
noncomputable def zaU.c : Code := zaR Tryz.f85
theorem zaU.run (xs : List AV) (os : List PV.Obj) (hc : runOk Tryz.f85 xs os = true) :
 zaU xs os = evK XX 85 (lpL XX 85) zaU.c (zaH Tryz.f85 xs os GL) (outE XX 85 Tryz.f85) :=
 zaS (Y := Y) (f := 85) (fn := Tryz.f85) (cd := zaU.c) rfl Tryz.func85 (by kernel_rfl) xs os hc
noncomputable def zcl (xs : List AV) (os : List PV.Obj) : Option Res := lim' Y 86 xs os
noncomputable def zcl.c : Code := zaR Tryz.f86
theorem zcl.run (xs : List AV) (os : List PV.Obj) (hc : runOk Tryz.f86 xs os = true) :
 zcl xs os = evK XX 86 (lpL XX 86) zcl.c (zaH Tryz.f86 xs os GL) (outE XX 86 Tryz.f86) :=
 zaS (Y := Y) (f := 86) (fn := Tryz.f86) (cd := zcl.c) rfl Tryz.func86 (by kernel_rfl) xs os hc
noncomputable def zae (xs : List AV) (os : List PV.Obj) : Option Res := lim' Y 87 xs os
noncomputable def zae.c : Code := zaR Tryz.f87
theorem zae.run (xs : List AV) (os : List PV.Obj) (hc : runOk Tryz.f87 xs os = true) :
 zae xs os = evK XX 87 (lpL XX 87) zae.c (zaH Tryz.f87 xs os GL) (outE XX 87 Tryz.f87) :=
 zaS (Y := Y) (f := 87) (fn := Tryz.f87) (cd := zae.c) rfl Tryz.func87 (by kernel_rfl) xs os hc
noncomputable def za4 (xs : List AV) (os : List PV.Obj) : Option Res := lim' Y 88 xs os
noncomputable def za4.c : Code := zaR Tryz.f88
theorem za4.run (xs : List AV) (os : List PV.Obj) (hc : runOk Tryz.f88 xs os = true) :
 za4 xs os = evK XX 88 (lpL XX 88) za4.c (zaH Tryz.f88 xs os GL) (outE XX 88 Tryz.f88) :=
 zaS (Y := Y) (f := 88) (fn := Tryz.f88) (cd := za4.c) rfl Tryz.func88 (by kernel_rfl) xs os hc
noncomputable def zaC (xs : List AV) (os : List PV.Obj) : Option Res := lim' Y 89 xs os
noncomputable def zaC.c : Code := zaR Tryz.f89
theorem zaC.run (xs : List AV) (os : List PV.Obj) (hc : runOk Tryz.f89 xs os = true) :
 zaC xs os = evK XX 89 (lpL XX 89) zaC.c (zaH Tryz.f89 xs os GL) (outE XX 89 Tryz.f89) :=
 zaS (Y := Y) (f := 89) (fn := Tryz.f89) (cd := zaC.c) rfl Tryz.func89 (by kernel_rfl) xs os hc
noncomputable def za5 (xs : List AV) (os : List PV.Obj) : Option Res := lim' Y 90 xs os
noncomputable def za5.c : Code := zaR Tryz.f90
theorem za5.run (xs : List AV) (os : List PV.Obj) (hc : runOk Tryz.f90 xs os = true) :
 za5 xs os = evK XX 90 (lpL XX 90) za5.c (zaH Tryz.f90 xs os GL) (outE XX 90 Tryz.f90) :=
 zaS (Y := Y) (f := 90) (fn := Tryz.f90) (cd := za5.c) rfl Tryz.func90 (by kernel_rfl) xs os hc
noncomputable def zcq (xs : List AV) (os : List PV.Obj) : Option Res := lim' Y 91 xs os
noncomputable def zcq.c : Code := zaR Tryz.f91
theorem zcq.run (xs : List AV) (os : List PV.Obj) (hc : runOk Tryz.f91 xs os = true) :
 zcq xs os = evK XX 91 (lpL XX 91) zcq.c (zaH Tryz.f91 xs os GL) (outE XX 91 Tryz.f91) :=
 zaS (Y := Y) (f := 91) (fn := Tryz.f91) (cd := zcq.c) rfl Tryz.func91 (by kernel_rfl) xs os hc
noncomputable def zaQ (xs : List AV) (os : List PV.Obj) : Option Res := lim' Y 92 xs os
noncomputable def zaQ.c : Code := zaR Tryz.f92
theorem zaQ.run (xs : List AV) (os : List PV.Obj) (hc : runOk Tryz.f92 xs os = true) :
 zaQ xs os = evK XX 92 (lpL XX 92) zaQ.c (zaH Tryz.f92 xs os GL) (outE XX 92 Tryz.f92) :=
 zaS (Y := Y) (f := 92) (fn := Tryz.f92) (cd := zaQ.c) rfl Tryz.func92 (by kernel_rfl) xs os hc
noncomputable def zbJ (xs : List AV) (os : List PV.Obj) : Option Res := lim' Y 93 xs os
noncomputable def zbJ.c : Code := zaR Tryz.f93
theorem zbJ.run (xs : List AV) (os : List PV.Obj) (hc : runOk Tryz.f93 xs os = true) :
 zbJ xs os = evK XX 93 (lpL XX 93) zbJ.c (zaH Tryz.f93 xs os GL) (outE XX 93 Tryz.f93) :=
 zaS (Y := Y) (f := 93) (fn := Tryz.f93) (cd := zbJ.c) rfl Tryz.func93 (by kernel_rfl) xs os hc
noncomputable def zak (xs : List AV) (os : List PV.Obj) : Option Res := lim' Y 94 xs os
noncomputable def zak.c : Code := zaR Tryz.f94
theorem zak.run (xs : List AV) (os : List PV.Obj) (hc : runOk Tryz.f94 xs os = true) :
 zak xs os = evK XX 94 (lpL XX 94) zak.c (zaH Tryz.f94 xs os GL) (outE XX 94 Tryz.f94) :=
 zaS (Y := Y) (f := 94) (fn := Tryz.f94) (cd := zak.c) rfl Tryz.func94 (by kernel_rfl) xs os hc
noncomputable def zaL (xs : List AV) (os : List PV.Obj) : Option Res := lim' Y 95 xs os
noncomputable def zaL.c : Code := zaR Tryz.f95
theorem zaL.run (xs : List AV) (os : List PV.Obj) (hc : runOk Tryz.f95 xs os = true) :
 zaL xs os = evK XX 95 (lpL XX 95) zaL.c (zaH Tryz.f95 xs os GL) (outE XX 95 Tryz.f95) :=
 zaS (Y := Y) (f := 95) (fn := Tryz.f95) (cd := zaL.c) rfl Tryz.func95 (by kernel_rfl) xs os hc
noncomputable def zbv (xs : List AV) (os : List PV.Obj) : Option Res := lim' Y 96 xs os
noncomputable def zbv.c : Code := zaR Tryz.f96
theorem zbv.run (xs : List AV) (os : List PV.Obj) (hc : runOk Tryz.f96 xs os = true) :
 zbv xs os = evK XX 96 (lpL XX 96) zbv.c (zaH Tryz.f96 xs os GL) (outE XX 96 Tryz.f96) :=
 zaS (Y := Y) (f := 96) (fn := Tryz.f96) (cd := zbv.c) rfl Tryz.func96 (by kernel_rfl) xs os hc
noncomputable def zax (xs : List AV) (os : List PV.Obj) : Option Res := lim' Y 107 xs os
noncomputable def zax.c : Code := zaR Tryz.f107
theorem zax.run (xs : List AV) (os : List PV.Obj) (hc : runOk Tryz.f107 xs os = true) :
 zax xs os = evK XX 107 (lpL XX 107) zax.c (zaH Tryz.f107 xs os GL) (outE XX 107 Tryz.f107) :=
 zaS (Y := Y) (f := 107) (fn := Tryz.f107) (cd := zax.c) rfl Tryz.func107 (by kernel_rfl) xs os hc
noncomputable def zaO (xs : List AV) (os : List PV.Obj) : Option Res := lim' Y 108 xs os
noncomputable def zaO.c : Code := zaR Tryz.f108
theorem zaO.run (xs : List AV) (os : List PV.Obj) (hc : runOk Tryz.f108 xs os = true) :
 zaO xs os = evK XX 108 (lpL XX 108) zaO.c (zaH Tryz.f108 xs os GL) (outE XX 108 Tryz.f108) :=
 zaS (Y := Y) (f := 108) (fn := Tryz.f108) (cd := zaO.c) rfl Tryz.func108 (by kernel_rfl) xs os hc
noncomputable def zar (xs : List AV) (os : List PV.Obj) : Option Res := lim' Y 109 xs os
noncomputable def zar.c : Code := zaR Tryz.f109
theorem zar.run (xs : List AV) (os : List PV.Obj) (hc : runOk Tryz.f109 xs os = true) :
 zar xs os = evK XX 109 (lpL XX 109) zar.c (zaH Tryz.f109 xs os GL) (outE XX 109 Tryz.f109) :=
 zaS (Y := Y) (f := 109) (fn := Tryz.f109) (cd := zar.c) rfl Tryz.func109 (by kernel_rfl) xs os hc
noncomputable def zaE (xs : List AV) (os : List PV.Obj) : Option Res := lim' Y 110 xs os
noncomputable def zaE.c : Code := zaR Tryz.f110
theorem zaE.run (xs : List AV) (os : List PV.Obj) (hc : runOk Tryz.f110 xs os = true) :
 zaE xs os = evK XX 110 (lpL XX 110) zaE.c (zaH Tryz.f110 xs os GL) (outE XX 110 Tryz.f110) :=
 zaS (Y := Y) (f := 110) (fn := Tryz.f110) (cd := zaE.c) rfl Tryz.func110 (by kernel_rfl) xs os hc
noncomputable def zal (xs : List AV) (os : List PV.Obj) : Option Res := lim' Y 111 xs os
noncomputable def zal.c : Code := zaR Tryz.f111
theorem zal.run (xs : List AV) (os : List PV.Obj) (hc : runOk Tryz.f111 xs os = true) :
 zal xs os = evK XX 111 (lpL XX 111) zal.c (zaH Tryz.f111 xs os GL) (outE XX 111 Tryz.f111) :=
 zaS (Y := Y) (f := 111) (fn := Tryz.f111) (cd := zal.c) rfl Tryz.func111 (by kernel_rfl) xs os hc
noncomputable def zat (xs : List AV) (os : List PV.Obj) : Option Res := lim' Y 112 xs os
noncomputable def zat.c : Code := zaR Tryz.f112
theorem zat.run (xs : List AV) (os : List PV.Obj) (hc : runOk Tryz.f112 xs os = true) :
 zat xs os = evK XX 112 (lpL XX 112) zat.c (zaH Tryz.f112 xs os GL) (outE XX 112 Tryz.f112) :=
 zaS (Y := Y) (f := 112) (fn := Tryz.f112) (cd := zat.c) rfl Tryz.func112 (by kernel_rfl) xs os hc
noncomputable def zam (xs : List AV) (os : List PV.Obj) : Option Res := lim' Y 125 xs os
noncomputable def zam.c : Code := zaR Tryz.f125
theorem zam.run (xs : List AV) (os : List PV.Obj) (hc : runOk Tryz.f125 xs os = true) :
 zam xs os = evK XX 125 (lpL XX 125) zam.c (zaH Tryz.f125 xs os GL) (outE XX 125 Tryz.f125) :=
 zaS (Y := Y) (f := 125) (fn := Tryz.f125) (cd := zam.c) rfl Tryz.func125 (by kernel_rfl) xs os hc
noncomputable def sl1In (xs : List AV) (os : List PV.Obj) : Option Res := lim' Y 126 xs os
noncomputable def sl1In.c : Code := zaR Tryz.f126
theorem sl1In.run (xs : List AV) (os : List PV.Obj) (hc : runOk Tryz.f126 xs os = true) :
 sl1In xs os = evK XX 126 (lpL XX 126) sl1In.c (zaH Tryz.f126 xs os GL) (outE XX 126 Tryz.f126) :=
 zaS (Y := Y) (f := 126) (fn := Tryz.f126) (cd := sl1In.c) rfl Tryz.func126 (by kernel_rfl) xs os hc
noncomputable def za1 (xs : List AV) (os : List PV.Obj) : Option Res := lim' Y 128 xs os
noncomputable def za1.c : Code := zaR Tryz.f128
theorem za1.run (xs : List AV) (os : List PV.Obj) (hc : runOk Tryz.f128 xs os = true) :
 za1 xs os = evK XX 128 (lpL XX 128) za1.c (zaH Tryz.f128 xs os GL) (outE XX 128 Tryz.f128) :=
 zaS (Y := Y) (f := 128) (fn := Tryz.f128) (cd := za1.c) rfl Tryz.func128 (by kernel_rfl) xs os hc
noncomputable def zac (xs : List AV) (os : List PV.Obj) : Option Res := lim' Y 133 xs os
noncomputable def zac.c : Code := zaR Tryz.f133
theorem zac.run (xs : List AV) (os : List PV.Obj) (hc : runOk Tryz.f133 xs os = true) :
 zac xs os = evK XX 133 (lpL XX 133) zac.c (zaH Tryz.f133 xs os GL) (outE XX 133 Tryz.f133) :=
 zaS (Y := Y) (f := 133) (fn := Tryz.f133) (cd := zac.c) rfl Tryz.func133 (by kernel_rfl) xs os hc
noncomputable def zaz (xs : List AV) (os : List PV.Obj) : Option Res := lim' Y 134 xs os
noncomputable def zaz.c : Code := zaR Tryz.f134
theorem zaz.run (xs : List AV) (os : List PV.Obj) (hc : runOk Tryz.f134 xs os = true) :
 zaz xs os = evK XX 134 (lpL XX 134) zaz.c (zaH Tryz.f134 xs os GL) (outE XX 134 Tryz.f134) :=
 zaS (Y := Y) (f := 134) (fn := Tryz.f134) (cd := zaz.c) rfl Tryz.func134 (by kernel_rfl) xs os hc
noncomputable def zaK (xs : List AV) (os : List PV.Obj) : Option Res := lim' Y 135 xs os
noncomputable def zaK.c : Code := zaR Tryz.f135
theorem zaK.run (xs : List AV) (os : List PV.Obj) (hc : runOk Tryz.f135 xs os = true) :
 zaK xs os = evK XX 135 (lpL XX 135) zaK.c (zaH Tryz.f135 xs os GL) (outE XX 135 Tryz.f135) :=
 zaS (Y := Y) (f := 135) (fn := Tryz.f135) (cd := zaK.c) rfl Tryz.func135 (by kernel_rfl) xs os hc
abbrev zaW.id : FuncId := 136
noncomputable def zaW (xs : List AV) (os : List PV.Obj) : Option Res := lim' Y 136 xs os
noncomputable def zaW.c : Code := zaR Tryz.f136
theorem zaW.run (xs : List AV) (os : List PV.Obj) (hc : runOk Tryz.f136 xs os = true) :
 zaW xs os = evK XX 136 (lpL XX 136) zaW.c (zaH Tryz.f136 xs os GL) (outE XX 136 Tryz.f136) :=
 zaS (Y := Y) (f := 136) (fn := Tryz.f136) (cd := zaW.c) rfl Tryz.func136 (by kernel_rfl) xs os hc
noncomputable def za6 (xs : List AV) (os : List PV.Obj) : Option Res := lim' Y 137 xs os
noncomputable def za6.c : Code := zaR Tryz.f137
theorem za6.run (xs : List AV) (os : List PV.Obj) (hc : runOk Tryz.f137 xs os = true) :
 za6 xs os = evK XX 137 (lpL XX 137) za6.c (zaH Tryz.f137 xs os GL) (outE XX 137 Tryz.f137) :=
 zaS (Y := Y) (f := 137) (fn := Tryz.f137) (cd := za6.c) rfl Tryz.func137 (by kernel_rfl) xs os hc
noncomputable def zau (xs : List AV) (os : List PV.Obj) : Option Res := lim' Y 138 xs os
noncomputable def zau.c : Code := zaR Tryz.f138
theorem zau.run (xs : List AV) (os : List PV.Obj) (hc : runOk Tryz.f138 xs os = true) :
 zau xs os = evK XX 138 (lpL XX 138) zau.c (zaH Tryz.f138 xs os GL) (outE XX 138 Tryz.f138) :=
 zaS (Y := Y) (f := 138) (fn := Tryz.f138) (cd := zau.c) rfl Tryz.func138 (by kernel_rfl) xs os hc
noncomputable def za2 (xs : List AV) (os : List PV.Obj) : Option Res := lim' Y 139 xs os
noncomputable def za2.c : Code := zaR Tryz.f139
theorem za2.run (xs : List AV) (os : List PV.Obj) (hc : runOk Tryz.f139 xs os = true) :
 za2 xs os = evK XX 139 (lpL XX 139) za2.c (zaH Tryz.f139 xs os GL) (outE XX 139 Tryz.f139) :=
 zaS (Y := Y) (f := 139) (fn := Tryz.f139) (cd := za2.c) rfl Tryz.func139 (by kernel_rfl) xs os hc
noncomputable def zaj (xs : List AV) (os : List PV.Obj) : Option Res := lim' Y 140 xs os
noncomputable def zaj.c : Code := zaR Tryz.f140
theorem zaj.run (xs : List AV) (os : List PV.Obj) (hc : runOk Tryz.f140 xs os = true) :
 zaj xs os = evK XX 140 (lpL XX 140) zaj.c (zaH Tryz.f140 xs os GL) (outE XX 140 Tryz.f140) :=
 zaS (Y := Y) (f := 140) (fn := Tryz.f140) (cd := zaj.c) rfl Tryz.func140 (by kernel_rfl) xs os hc
noncomputable def zcr (xs : List AV) (os : List PV.Obj) : Option Res := lim' Y 141 xs os
noncomputable def zcr.c : Code := zaR Tryz.f141
theorem zcr.run (xs : List AV) (os : List PV.Obj) (hc : runOk Tryz.f141 xs os = true) :
 zcr xs os = evK XX 141 (lpL XX 141) zcr.c (zaH Tryz.f141 xs os GL) (outE XX 141 Tryz.f141) :=
 zaS (Y := Y) (f := 141) (fn := Tryz.f141) (cd := zcr.c) rfl Tryz.func141 (by kernel_rfl) xs os hc
noncomputable def zmP (xs : List AV) (os : List PV.Obj) : Option Res := lim' Y 142 xs os
noncomputable def zaG (xs : List AV) (os : List PV.Obj) : Option Res := lim' Y 143 xs os
noncomputable def zaG.c : Code := zaR Tryz.f143
theorem zaG.run (xs : List AV) (os : List PV.Obj) (hc : runOk Tryz.f143 xs os = true) :
 zaG xs os = evK XX 143 (lpL XX 143) zaG.c (zaH Tryz.f143 xs os GL) (outE XX 143 Tryz.f143) :=
 zaS (Y := Y) (f := 143) (fn := Tryz.f143) (cd := zaG.c) rfl Tryz.func143 (by kernel_rfl) xs os hc
noncomputable def zav (xs : List AV) (os : List PV.Obj) : Option Res := lim' Y 144 xs os
noncomputable def zav.c : Code := zaR Tryz.f144
theorem zav.run (xs : List AV) (os : List PV.Obj) (hc : runOk Tryz.f144 xs os = true) :
 zav xs os = evK XX 144 (lpL XX 144) zav.c (zaH Tryz.f144 xs os GL) (outE XX 144 Tryz.f144) :=
 zaS (Y := Y) (f := 144) (fn := Tryz.f144) (cd := zav.c) rfl Tryz.func144 (by kernel_rfl) xs os hc
noncomputable def zan (xs : List AV) (os : List PV.Obj) : Option Res := lim' Y 145 xs os
noncomputable def zan.c : Code := zaR Tryz.f145
theorem zan.run (xs : List AV) (os : List PV.Obj) (hc : runOk Tryz.f145 xs os = true) :
 zan xs os = evK XX 145 (lpL XX 145) zan.c (zaH Tryz.f145 xs os GL) (outE XX 145 Tryz.f145) :=
 zaS (Y := Y) (f := 145) (fn := Tryz.f145) (cd := zan.c) rfl Tryz.func145 (by kernel_rfl) xs os hc
noncomputable def zcG (xs : List AV) (os : List PV.Obj) : Option Res := lim' Y 149 xs os
noncomputable def zcG.c : Code := zaR Tryz.f149
theorem zcG.run (xs : List AV) (os : List PV.Obj) (hc : runOk Tryz.f149 xs os = true) :
 zcG xs os = evK XX 149 (lpL XX 149) zcG.c (zaH Tryz.f149 xs os GL) (outE XX 149 Tryz.f149) :=
 zaS (Y := Y) (f := 149) (fn := Tryz.f149) (cd := zcG.c) rfl Tryz.func149 (by kernel_rfl) xs os hc
noncomputable def zba (xs : List AV) (os : List PV.Obj) : Option Res := lim' Y 156 xs os
theorem zba.ext (xs : List AV) (os : List PV.Obj) : zba xs os = (zd5 170 5) xs os := zfM (Y := Y) rfl xs os
noncomputable def zbW (xs : List AV) (os : List PV.Obj) : Option Res := lim' Y 157 xs os
noncomputable def zbW.c : Code := zaR Tryz.f157
theorem zbW.run (xs : List AV) (os : List PV.Obj) (hc : runOk Tryz.f157 xs os = true) :
 zbW xs os = evK XX 157 (lpL XX 157) zbW.c (zaH Tryz.f157 xs os GL) (outE XX 157 Tryz.f157) :=
 zaS (Y := Y) (f := 157) (fn := Tryz.f157) (cd := zbW.c) rfl Tryz.func157 (by kernel_rfl) xs os hc
noncomputable def zc2 (xs : List AV) (os : List PV.Obj) : Option Res := lim' Y 158 xs os
noncomputable def zc2.c : Code := zaR Tryz.f158
theorem zc2.run (xs : List AV) (os : List PV.Obj) (hc : runOk Tryz.f158 xs os = true) :
 zc2 xs os = evK XX 158 (lpL XX 158) zc2.c (zaH Tryz.f158 xs os GL) (outE XX 158 Tryz.f158) :=
 zaS (Y := Y) (f := 158) (fn := Tryz.f158) (cd := zc2.c) rfl Tryz.func158 (by kernel_rfl) xs os hc
noncomputable def zbK (xs : List AV) (os : List PV.Obj) : Option Res := lim' Y 160 xs os
noncomputable def zbK.c : Code := zaR Tryz.f160
theorem zbK.run (xs : List AV) (os : List PV.Obj) (hc : runOk Tryz.f160 xs os = true) :
 zbK xs os = evK XX 160 (lpL XX 160) zbK.c (zaH Tryz.f160 xs os GL) (outE XX 160 Tryz.f160) :=
 zaS (Y := Y) (f := 160) (fn := Tryz.f160) (cd := zbK.c) rfl Tryz.func160 (by kernel_rfl) xs os hc
noncomputable def zbi (xs : List AV) (os : List PV.Obj) : Option Res := lim' Y 162 xs os
theorem zbi.ext (xs : List AV) (os : List PV.Obj) : zbi xs os = (zdN 170 5) xs os := zfM (Y := Y) rfl xs os
noncomputable def zbt (xs : List AV) (os : List PV.Obj) : Option Res := lim' Y 163 xs os
noncomputable def zbt.c : Code := zaR Tryz.f163
theorem zbt.run (xs : List AV) (os : List PV.Obj) (hc : runOk Tryz.f163 xs os = true) :
 zbt xs os = evK XX 163 (lpL XX 163) zbt.c (zaH Tryz.f163 xs os GL) (outE XX 163 Tryz.f163) :=
 zaS (Y := Y) (f := 163) (fn := Tryz.f163) (cd := zbt.c) rfl Tryz.func163 (by kernel_rfl) xs os hc
noncomputable def zbb (xs : List AV) (os : List PV.Obj) : Option Res := lim' Y 164 xs os
noncomputable def zbb.c : Code := zaR Tryz.f164
theorem zbb.run (xs : List AV) (os : List PV.Obj) (hc : runOk Tryz.f164 xs os = true) :
 zbb xs os = evK XX 164 (lpL XX 164) zbb.c (zaH Tryz.f164 xs os GL) (outE XX 164 Tryz.f164) :=
 zaS (Y := Y) (f := 164) (fn := Tryz.f164) (cd := zbb.c) rfl Tryz.func164 (by kernel_rfl) xs os hc
noncomputable def zbL (xs : List AV) (os : List PV.Obj) : Option Res := lim' Y 165 xs os
noncomputable def zbL.c : Code := zaR Tryz.f165
theorem zbL.run (xs : List AV) (os : List PV.Obj) (hc : runOk Tryz.f165 xs os = true) :
 zbL xs os = evK XX 165 (lpL XX 165) zbL.c (zaH Tryz.f165 xs os GL) (outE XX 165 Tryz.f165) :=
 zaS (Y := Y) (f := 165) (fn := Tryz.f165) (cd := zbL.c) rfl Tryz.func165 (by kernel_rfl) xs os hc
noncomputable def zcm (xs : List AV) (os : List PV.Obj) : Option Res := lim' Y 173 xs os
noncomputable def zcm.c : Code := zaR Tryz.f173
theorem zcm.run (xs : List AV) (os : List PV.Obj) (hc : runOk Tryz.f173 xs os = true) :
 zcm xs os = evK XX 173 (lpL XX 173) zcm.c (zaH Tryz.f173 xs os GL) (outE XX 173 Tryz.f173) :=
 zaS (Y := Y) (f := 173) (fn := Tryz.f173) (cd := zcm.c) rfl Tryz.func173 (by kernel_rfl) xs os hc
noncomputable def zdO (xs : List AV) (os : List PV.Obj) : Option Res := lim' Y 179 xs os
noncomputable def zdO.c : Code := zaR Tryz.f179
theorem zdO.run (xs : List AV) (os : List PV.Obj) (hc : runOk Tryz.f179 xs os = true) :
 zdO xs os = evK XX 179 (lpL XX 179) zdO.c (zaH Tryz.f179 xs os GL) (outE XX 179 Tryz.f179) :=
 zaS (Y := Y) (f := 179) (fn := Tryz.f179) (cd := zdO.c) rfl Tryz.func179 (by kernel_rfl) xs os hc
noncomputable def zaP (xs : List AV) (os : List PV.Obj) : Option Res := lim' Y 187 xs os
noncomputable def zaP.c : Code := zaR Tryz.f187
theorem zaP.run (xs : List AV) (os : List PV.Obj) (hc : runOk Tryz.f187 xs os = true) :
 zaP xs os = evK XX 187 (lpL XX 187) zaP.c (zaH Tryz.f187 xs os GL) (outE XX 187 Tryz.f187) :=
 zaS (Y := Y) (f := 187) (fn := Tryz.f187) (cd := zaP.c) rfl Tryz.func187 (by kernel_rfl) xs os hc
noncomputable def zcW (xs : List AV) (os : List PV.Obj) : Option Res := lim' Y 188 xs os
noncomputable def zcW.c : Code := zaR Tryz.f188
theorem zcW.run (xs : List AV) (os : List PV.Obj) (hc : runOk Tryz.f188 xs os = true) :
 zcW xs os = evK XX 188 (lpL XX 188) zcW.c (zaH Tryz.f188 xs os GL) (outE XX 188 Tryz.f188) :=
 zaS (Y := Y) (f := 188) (fn := Tryz.f188) (cd := zcW.c) rfl Tryz.func188 (by kernel_rfl) xs os hc
noncomputable def zai (xs : List AV) (os : List PV.Obj) : Option Res := lim' Y 189 xs os
noncomputable def zai.c : Code := zaR Tryz.f189
theorem zai.run (xs : List AV) (os : List PV.Obj) (hc : runOk Tryz.f189 xs os = true) :
 zai xs os = evK XX 189 (lpL XX 189) zai.c (zaH Tryz.f189 xs os GL) (outE XX 189 Tryz.f189) :=
 zaS (Y := Y) (f := 189) (fn := Tryz.f189) (cd := zai.c) rfl Tryz.func189 (by kernel_rfl) xs os hc
abbrev za8.id : FuncId := 190
noncomputable def za8 (xs : List AV) (os : List PV.Obj) : Option Res := lim' Y 190 xs os
noncomputable def za8.c : Code := zaR Tryz.f190
theorem za8.run (xs : List AV) (os : List PV.Obj) (hc : runOk Tryz.f190 xs os = true) :
 za8 xs os = evK XX 190 (lpL XX 190) za8.c (zaH Tryz.f190 xs os GL) (outE XX 190 Tryz.f190) :=
 zaS (Y := Y) (f := 190) (fn := Tryz.f190) (cd := za8.c) rfl Tryz.func190 (by kernel_rfl) xs os hc
noncomputable def zb5 (xs : List AV) (os : List PV.Obj) : Option Res := lim' Y 191 xs os
noncomputable def zb5.c : Code := zaR Tryz.f191
theorem zb5.run (xs : List AV) (os : List PV.Obj) (hc : runOk Tryz.f191 xs os = true) :
 zb5 xs os = evK XX 191 (lpL XX 191) zb5.c (zaH Tryz.f191 xs os GL) (outE XX 191 Tryz.f191) :=
 zaS (Y := Y) (f := 191) (fn := Tryz.f191) (cd := zb5.c) rfl Tryz.func191 (by kernel_rfl) xs os hc
noncomputable def zdb (xs : List AV) (os : List PV.Obj) : Option Res := lim' Y 193 xs os
noncomputable def zdb.c : Code := zaR Tryz.f193
theorem zdb.run (xs : List AV) (os : List PV.Obj) (hc : runOk Tryz.f193 xs os = true) :
 zdb xs os = evK XX 193 (lpL XX 193) zdb.c (zaH Tryz.f193 xs os GL) (outE XX 193 Tryz.f193) :=
 zaS (Y := Y) (f := 193) (fn := Tryz.f193) (cd := zdb.c) rfl Tryz.func193 (by kernel_rfl) xs os hc
noncomputable def zbo (xs : List AV) (os : List PV.Obj) : Option Res := lim' Y 194 xs os
noncomputable def zbo.c : Code := zaR Tryz.f194
theorem zbo.run (xs : List AV) (os : List PV.Obj) (hc : runOk Tryz.f194 xs os = true) :
 zbo xs os = evK XX 194 (lpL XX 194) zbo.c (zaH Tryz.f194 xs os GL) (outE XX 194 Tryz.f194) :=
 zaS (Y := Y) (f := 194) (fn := Tryz.f194) (cd := zbo.c) rfl Tryz.func194 (by kernel_rfl) xs os hc
noncomputable def strings_Join (xs : List AV) (os : List PV.Obj) : Option Res := lim' Y 201 xs os
theorem strings_Join.ext (xs : List AV) (os : List PV.Obj) : strings_Join xs os = zfl xs os := zfM (Y := Y) rfl xs os
noncomputable def strconv_Itoa (xs : List AV) (os : List PV.Obj) : Option Res := lim' Y 202 xs os
theorem strconv_Itoa.ext (xs : List AV) (os : List PV.Obj) : strconv_Itoa xs os = zgx xs os := zfM (Y := Y) rfl xs os
noncomputable def zb6 (xs : List AV) (os : List PV.Obj) : Option Res := lim' Y 203 xs os
noncomputable def zb6.c : Code := zaR Tryz.f203
theorem zb6.run (xs : List AV) (os : List PV.Obj) (hc : runOk Tryz.f203 xs os = true) :
 zb6 xs os = evK XX 203 (lpL XX 203) zb6.c (zaH Tryz.f203 xs os GL) (outE XX 203 Tryz.f203) :=
 zaS (Y := Y) (f := 203) (fn := Tryz.f203) (cd := zb6.c) rfl Tryz.func203 (by kernel_rfl) xs os hc
abbrev za0.id : FuncId := 204
noncomputable def za0 (xs : List AV) (os : List PV.Obj) : Option Res := lim' Y 204 xs os
noncomputable def za0.c : Code := zaR Tryz.f204
theorem za0.run (xs : List AV) (os : List PV.Obj) (hc : runOk Tryz.f204 xs os = true) :
 za0 xs os = evK XX 204 (lpL XX 204) za0.c (zaH Tryz.f204 xs os GL) (outE XX 204 Tryz.f204) :=
 zaS (Y := Y) (f := 204) (fn := Tryz.f204) (cd := za0.c) rfl Tryz.func204 (by kernel_rfl) xs os hc
noncomputable def zbs (xs : List AV) (os : List PV.Obj) : Option Res := lim' Y 223 xs os
noncomputable def zbs.c : Code := zaR Tryz.f223
theorem zbs.run (xs : List AV) (os : List PV.Obj) (hc : runOk Tryz.f223 xs os = true) :
 zbs xs os = evK XX 223 (lpL XX 223) zbs.c (zaH Tryz.f223 xs os GL) (outE XX 223 Tryz.f223) :=
 zaS (Y := Y) (f := 223) (fn := Tryz.f223) (cd := zbs.c) rfl Tryz.func223 (by kernel_rfl) xs os hc
noncomputable def zbp (xs : List AV) (os : List PV.Obj) : Option Res := lim' Y 236 xs os
noncomputable def zbp.c : Code := zaR Tryz.f236
theorem zbp.run (xs : List AV) (os : List PV.Obj) (hc : runOk Tryz.f236 xs os = true) :
 zbp xs os = evK XX 236 (lpL XX 236) zbp.c (zaH Tryz.f236 xs os GL) (outE XX 236 Tryz.f236) :=
 zaS (Y := Y) (f := 236) (fn := Tryz.f236) (cd := zbp.c) rfl Tryz.func236 (by kernel_rfl) xs os hc
end Go.PVx
