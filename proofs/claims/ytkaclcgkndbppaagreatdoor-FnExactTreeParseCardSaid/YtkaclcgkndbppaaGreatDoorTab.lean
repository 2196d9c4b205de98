/- A part of the proof: PvTTab. -/
import Derived.Test.YtkaclcgkndbppaaGreatDoorProg
import Derived.Test.YtkaclcgkndbppaaGreatDoorPvC
import Derived.KernelRfl
import Derived.Test.YtkaclcgkndbppaaGreatDoorExt
import Derived.Test.YtkaclcgkndbppaaGreatDoorBld
import Derived.Test.YtkaclcgkndbppaaGreatDoorIns
set_option linter.unusedSimpArgs false
set_option linter.unusedVariables false
namespace Go.PVx
open Go.PV Go.Proofs
abbrev runOk (fn : Go.Func) (xs : List AV) (os : List PV.Obj) : Bool := decide (xs.length ≤ fn.ntmps) && decide (os.length + fn.ntmps < 1000000000) && !(fn.name == "runtime.NumGoroutine")
def sigs : FuncId → Sig
 | 131 => { con := [0, 2], res := .one (.own .deep) }
 | 132 => { con := [0, 2], res := .one (.own .deep) }
 | 150 => { res := .one (.own .deep) }
 | 152 => { res := .one (.str) }
 | 156 => { mu := [0], res := .tup [(false, [.int .i64]), (false, [.any])] }
 | 162 => { mu := [0], res := .one (.str) }
 | 198 => { res := .tup [(false, [.int .i64]), (false, [.any])] }
 | 201 => { res := .one (.str) }
 | 202 => { res := .one (.str) }
 | 9 => { res := .one (.bool) }
 | 21 => { res := .one (.bool) }
 | 26 => { res := .one (.bool) }
 | 28 => { mu := [0], res := .one (.int .i64) }
 | 29 => { res := .one (.int .i64) }
 | 32 => { mu := [0], res := .one (.int .i64) }
 | 33 => { res := .one (.int .i64) }
 | 46 => { res := .tup [(true, [.bool, .int .i64, .str, .sh, .sh]), (false, [.bool])] }
 | 47 => { res := .tup [(true, [.bool, .int .i64, .str, .own .deep, .own .deep]), (false, [.bool])] }
 | 69 => { res := .tup [(true, [.bool, .int .i64, .str, .sh, .sh]), (false, [.bool])] }
 | 73 => { res := .one (.bool) }
 | 74 => { res := .one (.ptr 0) }
 | 75 => { mu := [0], con := [2], res := .none }
 | 76 => { res := .one (.bool) }
 | 80 => { res := .agg [.bool, .int .i64, .str, .own .deep, .own .deep] }
 | 81 => { res := .one (.bool) }
 | 82 => { res := .one (.str) }
 | 83 => { mu := [0], res := .one (.int .i64) }
 | 84 => { res := .one (.int .i64) }
 | 86 => { res := .one (.bool) }
 | 97 => { res := .one (.own .deep) }
 | 99 => { res := .tup [(true, [.bool, .int .i64, .str, .own .deep, .own .deep]), (false, [.bool])] }
 | 102 => { res := .one .sh }
 | 104 => { res := .one (.own .deep) }
 | 105 => { res := .tup [(false, [.sh]), (true, [.bool, .int .i64, .str, .own .deep, .own .deep])] }
 | 113 => { res := .one (.str) }
 | 114 => { res := .one (.str) }
 | 125 => { res := .one (.bool) }
 | 126 => { res := .one (.bool) }
 | 127 => { res := .one (.int .i64) }
 | 129 => { res := .one (.ptr 0) }
 | 130 => { res := .tup [(false, [.int .i64]), (false, [.bool])] }
 | 133 => { res := .one (.bool) }
 | 134 => { res := .one (.int .i64) }
 | 135 => { mu := [2], res := .none }
 | 138 => { res := .one (.bool) }
 | 139 => { res := .one (.int .i64) }
 | 146 => { res := .tup [(false, [.str]), (false, [.bool])] }
 | 149 => { res := .one (.str) }
 | 153 => { res := .one (.int .i64) }
 | 154 => { res := .one (.str) }
 | 157 => { res := .one (.str) }
 | 158 => { res := .one (.bool) }
 | 160 => { res := .one (.str) }
 | 164 => { res := .one (.str) }
 | 165 => { res := .one (.str) }
 | 180 => { res := .one (.int .i64) }
 | 181 => { res := .one (.bool) }
 | 182 => { res := .one (.bool) }
 | 187 => { res := .one (.bool) }
 | 188 => { res := .one (.own .deep) }
 | 189 => { res := .one (.bool) }
 | 192 => { res := .one (.int .i64) }
 | 193 => { res := .one (.str) }
 | 194 => { res := .one (.str) }
 | 199 => { res := .one (.str) }
 | 203 => { res := .one (.str) }
 | 204 => { res := .none }
 | 224 => { res := .one (.bool) }
 | 232 => { res := .one (.int .i64) }
 | 236 => { res := .one (.str) }
 | _ => { res := .none }
def lives : FuncId → Nat → List Nat × List Nat
 | 9, 100006 => ([0, 3, 4, 5, 32], [1])
 | 9, 100007 => ([0, 3, 4, 5], [1])
 | 9, 100016 => ([3, 4, 5, 7, 9, 10], [1])
 | 9, 100017 => ([5, 7, 57], [1])
 | 9, 100018 => ([5, 7], [1])
 | 21, 4 => ([0, 1, 5], [4])
 | 26, 100009 => ([2, 3], [1])
 | 32, 2 => ([0, 1, 5], [1])
 | 33, 2 => ([0, 1, 5], [1, 4])
 | 46, 4 => ([0, 2, 4, 5, 6], [0, 2, 3, 5])
 | 46, 100006 => ([0, 2, 4, 5, 6], [1])
 | 46, 100013 => ([0, 2, 4, 5, 6, 8, 10], [1])
 | 46, 100019 => ([2, 5, 68], [1])
 | 47, 3 => ([0, 2, 4, 13, 14, 15], [0, 2, 3, 4])
 | 47, 100009 => ([0, 2, 4, 7, 8, 13, 14, 15, 34], [1])
 | 47, 100010 => ([0, 2, 4, 7, 8, 13, 14, 15], [1])
 | 47, 100012 => ([0, 2, 4, 7, 8, 9, 10, 13, 14, 15], [1])
 | 47, 100017 => ([2, 4, 61], [1])
 | 47, 100018 => ([2, 4], [1])
 | 69, 100003 => ([1, 3, 5, 6, 8, 29], [1])
 | 69, 100007 => ([1, 3, 5, 6, 8, 9], [1])
 | 74, 2 => ([0, 7, 8, 9], [0, 4])
 | 74, 100005 => ([0, 7, 8, 9], [1])
 | 75, 100005 => ([0, 5, 6], [1])
 | 80, 3 => ([1, 2, 3, 8, 9, 10], [1, 2, 3])
 | 81, 4 => ([0, 1, 5], [4])
 | 82, 4 => ([0, 3], [3])
 | 83, 2 => ([0, 1, 5], [1])
 | 83, 100009 => ([0, 1, 5], [1])
 | 84, 2 => ([0, 1, 5], [1, 4])
 | 84, 100010 => ([0, 1, 5], [1])
 | 84, 100017 => ([0, 1, 5], [1])
 | 97, 4 => ([0, 1, 5, 6, 7], [0, 5, 6])
 | 99, 100005 => ([0, 2, 4, 5], [1])
 | 99, 100006 => ([0, 2, 4, 48], [1])
 | 99, 100007 => ([0, 2, 4], [1])
 | 99, 100012 => ([2, 4, 6], [1])
 | 105, 100005 => ([3, 4, 5], [1])
 | 125, 2 => ([0, 3], [0, 2])
 | 125, 100005 => ([0, 3, 32], [1])
 | 127, 2 => ([1, 2, 5], [4])
 | 129, 100003 => ([0, 5, 22], [1])
 | 129, 100004 => ([0, 5], [1])
 | 130, 3 => ([0, 1, 6, 7, 8], [0, 1, 6, 7])
 | 133, 8 => ([1, 2, 41, 42, 43], [4])
 | 133, 100002 => ([1, 2, 23], [1])
 | 133, 100003 => ([1, 2], [1])
 | 133, 100011 => ([1, 2, 41, 42, 43, 75], [1])
 | 134, 3 => ([3, 7, 8, 9], [3])
 | 135, 3 => ([1, 2, 3, 13, 14, 15], [])
 | 138, 4 => ([1, 2, 5], [4])
 | 138, 100002 => ([1, 2, 12], [1])
 | 138, 100003 => ([1, 2], [1])
 | 139, 3 => ([1, 3, 4], [3])
 | 146, 7 => ([0, 4, 5], [2, 3, 4])
 | 146, 100005 => ([0, 4, 18], [1])
 | 146, 100006 => ([0, 4], [1])
 | 146, 100012 => ([0, 4, 5, 6, 7, 39], [1])
 | 146, 100013 => ([0, 4, 5, 6, 7], [1])
 | 164, 3 => ([0, 3, 5, 6], [5])
 | 180, 2 => ([0, 1, 7, 8], [4])
 | 187, 2 => ([0, 5, 6], [0, 2])
 | 187, 100005 => ([0, 5, 6, 30], [1])
 | 189, 6 => ([1, 3], [1, 2])
 | 189, 100002 => ([1, 16], [1])
 | 189, 100003 => ([1], [1])
 | 189, 100009 => ([1, 3, 61], [1])
 | 192, 100002 => ([0, 3], [1])
 | 192, 100004 => ([0, 13], [1])
 | 194, 3 => ([0, 3, 4], [3])
 | 199, 3 => ([0, 3, 4], [3])
 | 199, 100005 => ([0, 3, 4], [1])
 | 232, 100002 => ([0, 3], [1])
 | 232, 100004 => ([0, 13], [1])
 | 232, 100006 => ([0, 24], [1])
 | 236, 3 => ([0, 3, 4], [3])
 | _, _ => ([], [])
def mvs : FuncId → Nat → Nat → Bool
 | 28, 0, 0 => true
 | 46, 9, 1 => true
 | 46, 14, 1 => true
 | 46, 17, 1 => true
 | 46, 19, 1 => true
 | 46, 20, 1 => true
 | 47, 7, 1 => true
 | 47, 9, 1 => true
 | 47, 13, 1 => true
 | 47, 17, 1 => true
 | 47, 18, 2 => true
 | 69, 5, 1 => true
 | 69, 8, 1 => true
 | 69, 11, 2 => true
 | 75, 3, 7 => true
 | 75, 5, 7 => true
 | 80, 9, 1 => true
 | 99, 6, 1 => true
 | 99, 12, 2 => true
 | 105, 5, 6 => true
 | 165, 1, 2 => true
 | 165, 1, 3 => true
 | _, _, _ => false
noncomputable def exts : FuncId → Option (List AV → List PV.Obj → Option Res)
 | 131 => some (zco 1)
 | 132 => some (zco 5)
 | 150 => some zeR
 | 152 => some zcw
 | 156 => some (zdY 170 5)
 | 162 => some (zdE 170 5)
 | 198 => some zgA
 | 201 => some zfo
 | 202 => some zgz
 | _ => none
def GL : List (Nat × List D) := [(0, [.u false]), (1, [.u true]), (2, [.u true]), (5, Lib.pow10Tab.map fun z => .v (.int .u64 z))]
noncomputable def Y : Prm := { P := Tryz.prog, sig := sigs, mv := mvs, live := lives, ext := exts, gl := GL, bt := fun t => bif t == 170 then some 5 else none }
noncomputable def XX : Ctx := Y.ctx (lim' Y)
noncomputable def zag (xs : List AV) (os : List PV.Obj) : Option Res := lim' Y 9 xs os
noncomputable def zag.c : Code := zaQ Tryz.f9
theorem zag.run (xs : List AV) (os : List PV.Obj) (hc : runOk Tryz.f9 xs os = true) :
 zag xs os = evK XX 9 (lpL XX 9) zag.c (zaG Tryz.f9 xs os GL) (outE XX 9 Tryz.f9) :=
 zaR (Y := Y) (f := 9) (fn := Tryz.f9) (cd := zag.c) rfl Tryz.func9 (by kernel_rfl) xs os hc
noncomputable def zax (xs : List AV) (os : List PV.Obj) : Option Res := lim' Y 21 xs os
noncomputable def zax.c : Code := zaQ Tryz.f21
theorem zax.run (xs : List AV) (os : List PV.Obj) (hc : runOk Tryz.f21 xs os = true) :
 zax xs os = evK XX 21 (lpL XX 21) zax.c (zaG Tryz.f21 xs os GL) (outE XX 21 Tryz.f21) :=
 zaR (Y := Y) (f := 21) (fn := Tryz.f21) (cd := zax.c) rfl Tryz.func21 (by kernel_rfl) xs os hc
noncomputable def zbk (xs : List AV) (os : List PV.Obj) : Option Res := lim' Y 26 xs os
noncomputable def zbk.c : Code := zaQ Tryz.f26
theorem zbk.run (xs : List AV) (os : List PV.Obj) (hc : runOk Tryz.f26 xs os = true) :
 zbk xs os = evK XX 26 (lpL XX 26) zbk.c (zaG Tryz.f26 xs os GL) (outE XX 26 Tryz.f26) :=
 zaR (Y := Y) (f := 26) (fn := Tryz.f26) (cd := zbk.c) rfl Tryz.func26 (by kernel_rfl) xs os hc
noncomputable def zbL (xs : List AV) (os : List PV.Obj) : Option Res := lim' Y 28 xs os
noncomputable def zbL.c : Code := zaQ Tryz.f28
theorem zbL.run (xs : List AV) (os : List PV.Obj) (hc : runOk Tryz.f28 xs os = true) :
 zbL xs os = evK XX 28 (lpL XX 28) zbL.c (zaG Tryz.f28 xs os GL) (outE XX 28 Tryz.f28) :=
 zaR (Y := Y) (f := 28) (fn := Tryz.f28) (cd := zbL.c) rfl Tryz.func28 (by kernel_rfl) xs os hc
noncomputable def zbv (xs : List AV) (os : List PV.Obj) : Option Res := lim' Y 29 xs os
noncomputable def zbv.c : Code := zaQ Tryz.f29
theorem zbv.run (xs : List AV) (os : List PV.Obj) (hc : runOk Tryz.f29 xs os = true) :
 zbv xs os = evK XX 29 (lpL XX 29) zbv.c (zaG Tryz.f29 xs os GL) (outE XX 29 Tryz.f29) :=
 zaR (Y := Y) (f := 29) (fn := Tryz.f29) (cd := zbv.c) rfl Tryz.func29 (by kernel_rfl) xs os hc
noncomputable def zap (xs : List AV) (os : List PV.Obj) : Option Res := lim' Y 32 xs os
noncomputable def zap.c : Code := zaQ Tryz.f32
theorem zap.run (xs : List AV) (os : List PV.Obj) (hc : runOk Tryz.f32 xs os = true) :
 zap xs os = evK XX 32 (lpL XX 32) zap.c (zaG Tryz.f32 xs os GL) (outE XX 32 Tryz.f32) :=
 zaR (Y := Y) (f := 32) (fn := Tryz.f32) (cd := zap.c) rfl Tryz.func32 (by kernel_rfl) xs os hc
noncomputable def zam (xs : List AV) (os : List PV.Obj) : Option Res := lim' Y 33 xs os
noncomputable def zam.c : Code := zaQ Tryz.f33
theorem zam.run (xs : List AV) (os : List PV.Obj) (hc : runOk Tryz.f33 xs os = true) :
 zam xs os = evK XX 33 (lpL XX 33) zam.c (zaG Tryz.f33 xs os GL) (outE XX 33 Tryz.f33) :=
 zaR (Y := Y) (f := 33) (fn := Tryz.f33) (cd := zam.c) rfl Tryz.func33 (by kernel_rfl) xs os hc
noncomputable def zac (xs : List AV) (os : List PV.Obj) : Option Res := lim' Y 46 xs os
noncomputable def zac.c : Code := zaQ Tryz.f46
theorem zac.run (xs : List AV) (os : List PV.Obj) (hc : runOk Tryz.f46 xs os = true) :
 zac xs os = evK XX 46 (lpL XX 46) zac.c (zaG Tryz.f46 xs os GL) (outE XX 46 Tryz.f46) :=
 zaR (Y := Y) (f := 46) (fn := Tryz.f46) (cd := zac.c) rfl Tryz.func46 (by kernel_rfl) xs os hc
noncomputable def zad (xs : List AV) (os : List PV.Obj) : Option Res := lim' Y 47 xs os
noncomputable def zad.c : Code := zaQ Tryz.f47
theorem zad.run (xs : List AV) (os : List PV.Obj) (hc : runOk Tryz.f47 xs os = true) :
 zad xs os = evK XX 47 (lpL XX 47) zad.c (zaG Tryz.f47 xs os GL) (outE XX 47 Tryz.f47) :=
 zaR (Y := Y) (f := 47) (fn := Tryz.f47) (cd := zad.c) rfl Tryz.func47 (by kernel_rfl) xs os hc
noncomputable def zbg (xs : List AV) (os : List PV.Obj) : Option Res := lim' Y 69 xs os
noncomputable def zbg.c : Code := zaQ Tryz.f69
theorem zbg.run (xs : List AV) (os : List PV.Obj) (hc : runOk Tryz.f69 xs os = true) :
 zbg xs os = evK XX 69 (lpL XX 69) zbg.c (zaG Tryz.f69 xs os GL) (outE XX 69 Tryz.f69) :=
 zaR (Y := Y) (f := 69) (fn := Tryz.f69) (cd := zbg.c) rfl Tryz.func69 (by kernel_rfl) xs os hc
noncomputable def zck (xs : List AV) (os : List PV.Obj) : Option Res := lim' Y 73 xs os
noncomputable def zck.c : Code := zaQ Tryz.f73
theorem zck.run (xs : List AV) (os : List PV.Obj) (hc : runOk Tryz.f73 xs os = true) :
 zck xs os = evK XX 73 (lpL XX 73) zck.c (zaG Tryz.f73 xs os GL) (outE XX 73 Tryz.f73) :=
 zaR (Y := Y) (f := 73) (fn := Tryz.f73) (cd := zck.c) rfl Tryz.func73 (by kernel_rfl) xs os hc
noncomputable def zai (xs : List AV) (os : List PV.Obj) : Option Res := lim' Y 74 xs os
noncomputable def zai.c : Code := zaQ Tryz.f74
theorem zai.run (xs : List AV) (os : List PV.Obj) (hc : runOk Tryz.f74 xs os = true) :
 zai xs os = evK XX 74 (lpL XX 74) zai.c (zaG Tryz.f74 xs os GL) (outE XX 74 Tryz.f74) :=
 zaR (Y := Y) (f := 74) (fn := Tryz.f74) (cd := zai.c) rfl Tryz.func74 (by kernel_rfl) xs os hc
noncomputable def zbw (xs : List AV) (os : List PV.Obj) : Option Res := lim' Y 75 xs os
noncomputable def zbw.c : Code := zaQ Tryz.f75
theorem zbw.run (xs : List AV) (os : List PV.Obj) (hc : runOk Tryz.f75 xs os = true) :
 zbw xs os = evK XX 75 (lpL XX 75) zbw.c (zaG Tryz.f75 xs os GL) (outE XX 75 Tryz.f75) :=
 zaR (Y := Y) (f := 75) (fn := Tryz.f75) (cd := zbw.c) rfl Tryz.func75 (by kernel_rfl) xs os hc
noncomputable def zcF (xs : List AV) (os : List PV.Obj) : Option Res := lim' Y 76 xs os
noncomputable def zcF.c : Code := zaQ Tryz.f76
theorem zcF.run (xs : List AV) (os : List PV.Obj) (hc : runOk Tryz.f76 xs os = true) :
 zcF xs os = evK XX 76 (lpL XX 76) zcF.c (zaG Tryz.f76 xs os GL) (outE XX 76 Tryz.f76) :=
 zaR (Y := Y) (f := 76) (fn := Tryz.f76) (cd := zcF.c) rfl Tryz.func76 (by kernel_rfl) xs os hc
noncomputable def zau (xs : List AV) (os : List PV.Obj) : Option Res := lim' Y 80 xs os
noncomputable def zau.c : Code := zaQ Tryz.f80
theorem zau.run (xs : List AV) (os : List PV.Obj) (hc : runOk Tryz.f80 xs os = true) :
 zau xs os = evK XX 80 (lpL XX 80) zau.c (zaG Tryz.f80 xs os GL) (outE XX 80 Tryz.f80) :=
 zaR (Y := Y) (f := 80) (fn := Tryz.f80) (cd := zau.c) rfl Tryz.func80 (by kernel_rfl) xs os hc
noncomputable def zaI (xs : List AV) (os : List PV.Obj) : Option Res := lim' Y 81 xs os
noncomputable def zaI.c : Code := zaQ Tryz.f81
theorem zaI.run (xs : List AV) (os : List PV.Obj) (hc : runOk Tryz.f81 xs os = true) :
 zaI xs os = evK XX 81 (lpL XX 81) zaI.c (zaG Tryz.f81 xs os GL) (outE XX 81 Tryz.f81) :=
 zaR (Y := Y) (f := 81) (fn := Tryz.f81) (cd := zaI.c) rfl Tryz.func81 (by kernel_rfl) xs os hc
noncomputable def zay (xs : List AV) (os : List PV.Obj) : Option Res := lim' Y 82 xs os
noncomputable def zay.c : Code := zaQ Tryz.f82
theorem zay.run (xs : List AV) (os : List PV.Obj) (hc : runOk Tryz.f82 xs os = true) :
 zay xs os = evK XX 82 (lpL XX 82) zay.c (zaG Tryz.f82 xs os GL) (outE XX 82 Tryz.f82) :=
 zaR (Y := Y) (f := 82) (fn := Tryz.f82) (cd := zay.c) rfl Tryz.func82 (by kernel_rfl) xs os hc
noncomputable def zao (xs : List AV) (os : List PV.Obj) : Option Res := lim' Y 83 xs os
noncomputable def zao.c : Code := zaQ Tryz.f83
theorem zao.run (xs : List AV) (os : List PV.Obj) (hc : runOk Tryz.f83 xs os = true) :
 zao xs os = evK XX 83 (lpL XX 83) zao.c (zaG Tryz.f83 xs os GL) (outE XX 83 Tryz.f83) :=
 zaR (Y := Y) (f := 83) (fn := Tryz.f83) (cd := zao.c) rfl Tryz.func83 (by kernel_rfl) xs os hc
noncomputable def zaj (xs : List AV) (os : List PV.Obj) : Option Res := lim' Y 84 xs os
noncomputable def zaj.c : Code := zaQ Tryz.f84
theorem zaj.run (xs : List AV) (os : List PV.Obj) (hc : runOk Tryz.f84 xs os = true) :
 zaj xs os = evK XX 84 (lpL XX 84) zaj.c (zaG Tryz.f84 xs os GL) (outE XX 84 Tryz.f84) :=
 zaR (Y := Y) (f := 84) (fn := Tryz.f84) (cd := zaj.c) rfl Tryz.func84 (by kernel_rfl) xs os hc
noncomputable def zbV (xs : List AV) (os : List PV.Obj) : Option Res := lim' Y 86 xs os
noncomputable def zbV.c : Code := zaQ Tryz.f86
theorem zbV.run (xs : List AV) (os : List PV.Obj) (hc : runOk Tryz.f86 xs os = true) :
 zbV xs os = evK XX 86 (lpL XX 86) zbV.c (zaG Tryz.f86 xs os GL) (outE XX 86 Tryz.f86) :=
 zaR (Y := Y) (f := 86) (fn := Tryz.f86) (cd := zbV.c) rfl Tryz.func86 (by kernel_rfl) xs os hc
noncomputable def za0 (xs : List AV) (os : List PV.Obj) : Option Res := lim' Y 97 xs os
noncomputable def za0.c : Code := zaQ Tryz.f97
theorem za0.run (xs : List AV) (os : List PV.Obj) (hc : runOk Tryz.f97 xs os = true) :
 za0 xs os = evK XX 97 (lpL XX 97) za0.c (zaG Tryz.f97 xs os GL) (outE XX 97 Tryz.f97) :=
 zaR (Y := Y) (f := 97) (fn := Tryz.f97) (cd := za0.c) rfl Tryz.func97 (by kernel_rfl) xs os hc
noncomputable def zaC (xs : List AV) (os : List PV.Obj) : Option Res := lim' Y 99 xs os
noncomputable def zaC.c : Code := zaQ Tryz.f99
theorem zaC.run (xs : List AV) (os : List PV.Obj) (hc : runOk Tryz.f99 xs os = true) :
 zaC xs os = evK XX 99 (lpL XX 99) zaC.c (zaG Tryz.f99 xs os GL) (outE XX 99 Tryz.f99) :=
 zaR (Y := Y) (f := 99) (fn := Tryz.f99) (cd := zaC.c) rfl Tryz.func99 (by kernel_rfl) xs os hc
noncomputable def zb6 (xs : List AV) (os : List PV.Obj) : Option Res := lim' Y 102 xs os
noncomputable def zb6.c : Code := zaQ Tryz.f102
theorem zb6.run (xs : List AV) (os : List PV.Obj) (hc : runOk Tryz.f102 xs os = true) :
 zb6 xs os = evK XX 102 (lpL XX 102) zb6.c (zaG Tryz.f102 xs os GL) (outE XX 102 Tryz.f102) :=
 zaR (Y := Y) (f := 102) (fn := Tryz.f102) (cd := zb6.c) rfl Tryz.func102 (by kernel_rfl) xs os hc
noncomputable def zbM (xs : List AV) (os : List PV.Obj) : Option Res := lim' Y 104 xs os
noncomputable def zbM.c : Code := zaQ Tryz.f104
theorem zbM.run (xs : List AV) (os : List PV.Obj) (hc : runOk Tryz.f104 xs os = true) :
 zbM xs os = evK XX 104 (lpL XX 104) zbM.c (zaG Tryz.f104 xs os GL) (outE XX 104 Tryz.f104) :=
 zaR (Y := Y) (f := 104) (fn := Tryz.f104) (cd := zbM.c) rfl Tryz.func104 (by kernel_rfl) xs os hc
noncomputable def za4 (xs : List AV) (os : List PV.Obj) : Option Res := lim' Y 105 xs os
noncomputable def za4.c : Code := zaQ Tryz.f105
theorem za4.run (xs : List AV) (os : List PV.Obj) (hc : runOk Tryz.f105 xs os = true) :
 za4 xs os = evK XX 105 (lpL XX 105) za4.c (zaG Tryz.f105 xs os GL) (outE XX 105 Tryz.f105) :=
 zaR (Y := Y) (f := 105) (fn := Tryz.f105) (cd := za4.c) rfl Tryz.func105 (by kernel_rfl) xs os hc
noncomputable def zbx (xs : List AV) (os : List PV.Obj) : Option Res := lim' Y 113 xs os
noncomputable def zbx.c : Code := zaQ Tryz.f113
theorem zbx.run (xs : List AV) (os : List PV.Obj) (hc : runOk Tryz.f113 xs os = true) :
 zbx xs os = evK XX 113 (lpL XX 113) zbx.c (zaG Tryz.f113 xs os GL) (outE XX 113 Tryz.f113) :=
 zaR (Y := Y) (f := 113) (fn := Tryz.f113) (cd := zbx.c) rfl Tryz.func113 (by kernel_rfl) xs os hc
noncomputable def zbN (xs : List AV) (os : List PV.Obj) : Option Res := lim' Y 114 xs os
noncomputable def zbN.c : Code := zaQ Tryz.f114
theorem zbN.run (xs : List AV) (os : List PV.Obj) (hc : runOk Tryz.f114 xs os = true) :
 zbN xs os = evK XX 114 (lpL XX 114) zbN.c (zaG Tryz.f114 xs os GL) (outE XX 114 Tryz.f114) :=
 zaR (Y := Y) (f := 114) (fn := Tryz.f114) (cd := zbN.c) rfl Tryz.func114 (by kernel_rfl) xs os hc
noncomputable def zan (xs : List AV) (os : List PV.Obj) : Option Res := lim' Y 125 xs os
noncomputable def zan.c : Code := zaQ Tryz.f125
theorem zan.run (xs : List AV) (os : List PV.Obj) (hc : runOk Tryz.f125 xs os = true) :
 zan xs os = evK XX 125 (lpL XX 125) zan.c (zaG Tryz.f125 xs os GL) (outE XX 125 Tryz.f125) :=
 zaR (Y := Y) (f := 125) (fn := Tryz.f125) (cd := zan.c) rfl Tryz.func125 (by kernel_rfl) xs os hc
noncomputable def sl1In (xs : List AV) (os : List PV.Obj) : Option Res := lim' Y 126 xs os
noncomputable def sl1In.c : Code := zaQ Tryz.f126
theorem sl1In.run (xs : List AV) (os : List PV.Obj) (hc : runOk Tryz.f126 xs os = true) :
 sl1In xs os = evK XX 126 (lpL XX 126) sl1In.c (zaG Tryz.f126 xs os GL) (outE XX 126 Tryz.f126) :=
 zaR (Y := Y) (f := 126) (fn := Tryz.f126) (cd := sl1In.c) rfl Tryz.func126 (by kernel_rfl) xs os hc
noncomputable def zaO (xs : List AV) (os : List PV.Obj) : Option Res := lim' Y 127 xs os
noncomputable def zaO.c : Code := zaQ Tryz.f127
theorem zaO.run (xs : List AV) (os : List PV.Obj) (hc : runOk Tryz.f127 xs os = true) :
 zaO xs os = evK XX 127 (lpL XX 127) zaO.c (zaG Tryz.f127 xs os GL) (outE XX 127 Tryz.f127) :=
 zaR (Y := Y) (f := 127) (fn := Tryz.f127) (cd := zaO.c) rfl Tryz.func127 (by kernel_rfl) xs os hc
noncomputable def zaN (xs : List AV) (os : List PV.Obj) : Option Res := lim' Y 129 xs os
noncomputable def zaN.c : Code := zaQ Tryz.f129
theorem zaN.run (xs : List AV) (os : List PV.Obj) (hc : runOk Tryz.f129 xs os = true) :
 zaN xs os = evK XX 129 (lpL XX 129) zaN.c (zaG Tryz.f129 xs os GL) (outE XX 129 Tryz.f129) :=
 zaR (Y := Y) (f := 129) (fn := Tryz.f129) (cd := zaN.c) rfl Tryz.func129 (by kernel_rfl) xs os hc
noncomputable def zaa (xs : List AV) (os : List PV.Obj) : Option Res := lim' Y 130 xs os
noncomputable def zaa.c : Code := zaQ Tryz.f130
theorem zaa.run (xs : List AV) (os : List PV.Obj) (hc : runOk Tryz.f130 xs os = true) :
 zaa xs os = evK XX 130 (lpL XX 130) zaa.c (zaG Tryz.f130 xs os GL) (outE XX 130 Tryz.f130) :=
 zaR (Y := Y) (f := 130) (fn := Tryz.f130) (cd := zaa.c) rfl Tryz.func130 (by kernel_rfl) xs os hc
noncomputable def zaU (xs : List AV) (os : List PV.Obj) : Option Res := lim' Y 131 xs os
theorem zaU.ext (xs : List AV) (os : List PV.Obj) : zaU xs os = (zco 1) xs os := zcY (Y := Y) rfl xs os
noncomputable def za1 (xs : List AV) (os : List PV.Obj) : Option Res := lim' Y 132 xs os
theorem za1.ext (xs : List AV) (os : List PV.Obj) : za1 xs os = (zco 5) xs os := zcY (Y := Y) rfl xs os
noncomputable def zaf (xs : List AV) (os : List PV.Obj) : Option Res := lim' Y 133 xs os
noncomputable def zaf.c : Code := zaQ Tryz.f133
theorem zaf.run (xs : List AV) (os : List PV.Obj) (hc : runOk Tryz.f133 xs os = true) :
 zaf xs os = evK XX 133 (lpL XX 133) zaf.c (zaG Tryz.f133 xs os GL) (outE XX 133 Tryz.f133) :=
 zaR (Y := Y) (f := 133) (fn := Tryz.f133) (cd := zaf.c) rfl Tryz.func133 (by kernel_rfl) xs os hc
noncomputable def zat (xs : List AV) (os : List PV.Obj) : Option Res := lim' Y 134 xs os
noncomputable def zat.c : Code := zaQ Tryz.f134
theorem zat.run (xs : List AV) (os : List PV.Obj) (hc : runOk Tryz.f134 xs os = true) :
 zat xs os = evK XX 134 (lpL XX 134) zat.c (zaG Tryz.f134 xs os GL) (outE XX 134 Tryz.f134) :=
 zaR (Y := Y) (f := 134) (fn := Tryz.f134) (cd := zat.c) rfl Tryz.func134 (by kernel_rfl) xs os hc
noncomputable def za9 (xs : List AV) (os : List PV.Obj) : Option Res := lim' Y 135 xs os
noncomputable def za9.c : Code := zaQ Tryz.f135
theorem za9.run (xs : List AV) (os : List PV.Obj) (hc : runOk Tryz.f135 xs os = true) :
 za9 xs os = evK XX 135 (lpL XX 135) za9.c (zaG Tryz.f135 xs os GL) (outE XX 135 Tryz.f135) :=
 zaR (Y := Y) (f := 135) (fn := Tryz.f135) (cd := za9.c) rfl Tryz.func135 (by kernel_rfl) xs os hc
noncomputable def zaq (xs : List AV) (os : List PV.Obj) : Option Res := lim' Y 138 xs os
noncomputable def zaq.c : Code := zaQ Tryz.f138
theorem zaq.run (xs : List AV) (os : List PV.Obj) (hc : runOk Tryz.f138 xs os = true) :
 zaq xs os = evK XX 138 (lpL XX 138) zaq.c (zaG Tryz.f138 xs os GL) (outE XX 138 Tryz.f138) :=
 zaR (Y := Y) (f := 138) (fn := Tryz.f138) (cd := zaq.c) rfl Tryz.func138 (by kernel_rfl) xs os hc
noncomputable def zaK (xs : List AV) (os : List PV.Obj) : Option Res := lim' Y 139 xs os
noncomputable def zaK.c : Code := zaQ Tryz.f139
theorem zaK.run (xs : List AV) (os : List PV.Obj) (hc : runOk Tryz.f139 xs os = true) :
 zaK xs os = evK XX 139 (lpL XX 139) zaK.c (zaG Tryz.f139 xs os GL) (outE XX 139 Tryz.f139) :=
 zaR (Y := Y) (f := 139) (fn := Tryz.f139) (cd := zaK.c) rfl Tryz.func139 (by kernel_rfl) xs os hc
noncomputable def zak (xs : List AV) (os : List PV.Obj) : Option Res := lim' Y 146 xs os
noncomputable def zak.c : Code := zaQ Tryz.f146
theorem zak.run (xs : List AV) (os : List PV.Obj) (hc : runOk Tryz.f146 xs os = true) :
 zak xs os = evK XX 146 (lpL XX 146) zak.c (zaG Tryz.f146 xs os GL) (outE XX 146 Tryz.f146) :=
 zaR (Y := Y) (f := 146) (fn := Tryz.f146) (cd := zak.c) rfl Tryz.func146 (by kernel_rfl) xs os hc
noncomputable def zcl (xs : List AV) (os : List PV.Obj) : Option Res := lim' Y 149 xs os
noncomputable def zcl.c : Code := zaQ Tryz.f149
theorem zcl.run (xs : List AV) (os : List PV.Obj) (hc : runOk Tryz.f149 xs os = true) :
 zcl xs os = evK XX 149 (lpL XX 149) zcl.c (zaG Tryz.f149 xs os GL) (outE XX 149 Tryz.f149) :=
 zaR (Y := Y) (f := 149) (fn := Tryz.f149) (cd := zcl.c) rfl Tryz.func149 (by kernel_rfl) xs os hc
noncomputable def strings_Split (xs : List AV) (os : List PV.Obj) : Option Res := lim' Y 150 xs os
theorem strings_Split.ext (xs : List AV) (os : List PV.Obj) : strings_Split xs os = zeR xs os := zcY (Y := Y) rfl xs os
noncomputable def strings_TrimPrefix (xs : List AV) (os : List PV.Obj) : Option Res := lim' Y 152 xs os
theorem strings_TrimPrefix.ext (xs : List AV) (os : List PV.Obj) : strings_TrimPrefix xs os = zcw xs os := zcY (Y := Y) rfl xs os
noncomputable def zb7 (xs : List AV) (os : List PV.Obj) : Option Res := lim' Y 153 xs os
noncomputable def zb7.c : Code := zaQ Tryz.f153
theorem zb7.run (xs : List AV) (os : List PV.Obj) (hc : runOk Tryz.f153 xs os = true) :
 zb7 xs os = evK XX 153 (lpL XX 153) zb7.c (zaG Tryz.f153 xs os GL) (outE XX 153 Tryz.f153) :=
 zaR (Y := Y) (f := 153) (fn := Tryz.f153) (cd := zb7.c) rfl Tryz.func153 (by kernel_rfl) xs os hc
noncomputable def zbO (xs : List AV) (os : List PV.Obj) : Option Res := lim' Y 154 xs os
noncomputable def zbO.c : Code := zaQ Tryz.f154
theorem zbO.run (xs : List AV) (os : List PV.Obj) (hc : runOk Tryz.f154 xs os = true) :
 zbO xs os = evK XX 154 (lpL XX 154) zbO.c (zaG Tryz.f154 xs os GL) (outE XX 154 Tryz.f154) :=
 zaR (Y := Y) (f := 154) (fn := Tryz.f154) (cd := zbO.c) rfl Tryz.func154 (by kernel_rfl) xs os hc
noncomputable def zaV (xs : List AV) (os : List PV.Obj) : Option Res := lim' Y 156 xs os
theorem zaV.ext (xs : List AV) (os : List PV.Obj) : zaV xs os = (zdY 170 5) xs os := zcY (Y := Y) rfl xs os
noncomputable def zbH (xs : List AV) (os : List PV.Obj) : Option Res := lim' Y 157 xs os
noncomputable def zbH.c : Code := zaQ Tryz.f157
theorem zbH.run (xs : List AV) (os : List PV.Obj) (hc : runOk Tryz.f157 xs os = true) :
 zbH xs os = evK XX 157 (lpL XX 157) zbH.c (zaG Tryz.f157 xs os GL) (outE XX 157 Tryz.f157) :=
 zaR (Y := Y) (f := 157) (fn := Tryz.f157) (cd := zbH.c) rfl Tryz.func157 (by kernel_rfl) xs os hc
noncomputable def zcG (xs : List AV) (os : List PV.Obj) : Option Res := lim' Y 158 xs os
noncomputable def zcG.c : Code := zaQ Tryz.f158
theorem zcG.run (xs : List AV) (os : List PV.Obj) (hc : runOk Tryz.f158 xs os = true) :
 zcG xs os = evK XX 158 (lpL XX 158) zcG.c (zaG Tryz.f158 xs os GL) (outE XX 158 Tryz.f158) :=
 zaR (Y := Y) (f := 158) (fn := Tryz.f158) (cd := zcG.c) rfl Tryz.func158 (by kernel_rfl) xs os hc
noncomputable def zbs (xs : List AV) (os : List PV.Obj) : Option Res := lim' Y 160 xs os
noncomputable def zbs.c : Code := zaQ Tryz.f160
theorem zbs.run (xs : List AV) (os : List PV.Obj) (hc : runOk Tryz.f160 xs os = true) :
 zbs xs os = evK XX 160 (lpL XX 160) zbs.c (zaG Tryz.f160 xs os GL) (outE XX 160 Tryz.f160) :=
 zaR (Y := Y) (f := 160) (fn := Tryz.f160) (cd := zbs.c) rfl Tryz.func160 (by kernel_rfl) xs os hc
noncomputable def za6 (xs : List AV) (os : List PV.Obj) : Option Res := lim' Y 162 xs os
theorem za6.ext (xs : List AV) (os : List PV.Obj) : za6 xs os = (zdE 170 5) xs os := zcY (Y := Y) rfl xs os
noncomputable def zaW (xs : List AV) (os : List PV.Obj) : Option Res := lim' Y 164 xs os
noncomputable def zaW.c : Code := zaQ Tryz.f164
theorem zaW.run (xs : List AV) (os : List PV.Obj) (hc : runOk Tryz.f164 xs os = true) :
 zaW xs os = evK XX 164 (lpL XX 164) zaW.c (zaG Tryz.f164 xs os GL) (outE XX 164 Tryz.f164) :=
 zaR (Y := Y) (f := 164) (fn := Tryz.f164) (cd := zaW.c) rfl Tryz.func164 (by kernel_rfl) xs os hc
noncomputable def zbt (xs : List AV) (os : List PV.Obj) : Option Res := lim' Y 165 xs os
noncomputable def zbt.c : Code := zaQ Tryz.f165
theorem zbt.run (xs : List AV) (os : List PV.Obj) (hc : runOk Tryz.f165 xs os = true) :
 zbt xs os = evK XX 165 (lpL XX 165) zbt.c (zaG Tryz.f165 xs os GL) (outE XX 165 Tryz.f165) :=
 zaR (Y := Y) (f := 165) (fn := Tryz.f165) (cd := zbt.c) rfl Tryz.func165 (by kernel_rfl) xs os hc
noncomputable def zab (xs : List AV) (os : List PV.Obj) : Option Res := lim' Y 180 xs os
noncomputable def zab.c : Code := zaQ Tryz.f180
theorem zab.run (xs : List AV) (os : List PV.Obj) (hc : runOk Tryz.f180 xs os = true) :
 zab xs os = evK XX 180 (lpL XX 180) zab.c (zaG Tryz.f180 xs os GL) (outE XX 180 Tryz.f180) :=
 zaR (Y := Y) (f := 180) (fn := Tryz.f180) (cd := zab.c) rfl Tryz.func180 (by kernel_rfl) xs os hc
noncomputable def zaX (xs : List AV) (os : List PV.Obj) : Option Res := lim' Y 181 xs os
noncomputable def zaX.c : Code := zaQ Tryz.f181
theorem zaX.run (xs : List AV) (os : List PV.Obj) (hc : runOk Tryz.f181 xs os = true) :
 zaX xs os = evK XX 181 (lpL XX 181) zaX.c (zaG Tryz.f181 xs os GL) (outE XX 181 Tryz.f181) :=
 zaR (Y := Y) (f := 181) (fn := Tryz.f181) (cd := zaX.c) rfl Tryz.func181 (by kernel_rfl) xs os hc
noncomputable def zaF (xs : List AV) (os : List PV.Obj) : Option Res := lim' Y 182 xs os
noncomputable def zaF.c : Code := zaQ Tryz.f182
theorem zaF.run (xs : List AV) (os : List PV.Obj) (hc : runOk Tryz.f182 xs os = true) :
 zaF xs os = evK XX 182 (lpL XX 182) zaF.c (zaG Tryz.f182 xs os GL) (outE XX 182 Tryz.f182) :=
 zaR (Y := Y) (f := 182) (fn := Tryz.f182) (cd := zaF.c) rfl Tryz.func182 (by kernel_rfl) xs os hc
noncomputable def zaD (xs : List AV) (os : List PV.Obj) : Option Res := lim' Y 187 xs os
noncomputable def zaD.c : Code := zaQ Tryz.f187
theorem zaD.run (xs : List AV) (os : List PV.Obj) (hc : runOk Tryz.f187 xs os = true) :
 zaD xs os = evK XX 187 (lpL XX 187) zaD.c (zaG Tryz.f187 xs os GL) (outE XX 187 Tryz.f187) :=
 zaR (Y := Y) (f := 187) (fn := Tryz.f187) (cd := zaD.c) rfl Tryz.func187 (by kernel_rfl) xs os hc
noncomputable def zdF (xs : List AV) (os : List PV.Obj) : Option Res := lim' Y 188 xs os
noncomputable def zdF.c : Code := zaQ Tryz.f188
theorem zdF.run (xs : List AV) (os : List PV.Obj) (hc : runOk Tryz.f188 xs os = true) :
 zdF xs os = evK XX 188 (lpL XX 188) zdF.c (zaG Tryz.f188 xs os GL) (outE XX 188 Tryz.f188) :=
 zaR (Y := Y) (f := 188) (fn := Tryz.f188) (cd := zdF.c) rfl Tryz.func188 (by kernel_rfl) xs os hc
noncomputable def zal (xs : List AV) (os : List PV.Obj) : Option Res := lim' Y 189 xs os
noncomputable def zal.c : Code := zaQ Tryz.f189
theorem zal.run (xs : List AV) (os : List PV.Obj) (hc : runOk Tryz.f189 xs os = true) :
 zal xs os = evK XX 189 (lpL XX 189) zal.c (zaG Tryz.f189 xs os GL) (outE XX 189 Tryz.f189) :=
 zaR (Y := Y) (f := 189) (fn := Tryz.f189) (cd := zal.c) rfl Tryz.func189 (by kernel_rfl) xs os hc
noncomputable def zaZ (xs : List AV) (os : List PV.Obj) : Option Res := lim' Y 192 xs os
noncomputable def zaZ.c : Code := zaQ Tryz.f192
theorem zaZ.run (xs : List AV) (os : List PV.Obj) (hc : runOk Tryz.f192 xs os = true) :
 zaZ xs os = evK XX 192 (lpL XX 192) zaZ.c (zaG Tryz.f192 xs os GL) (outE XX 192 Tryz.f192) :=
 zaR (Y := Y) (f := 192) (fn := Tryz.f192) (cd := zaZ.c) rfl Tryz.func192 (by kernel_rfl) xs os hc
noncomputable def zcP (xs : List AV) (os : List PV.Obj) : Option Res := lim' Y 193 xs os
noncomputable def zcP.c : Code := zaQ Tryz.f193
theorem zcP.run (xs : List AV) (os : List PV.Obj) (hc : runOk Tryz.f193 xs os = true) :
 zcP xs os = evK XX 193 (lpL XX 193) zcP.c (zaG Tryz.f193 xs os GL) (outE XX 193 Tryz.f193) :=
 zaR (Y := Y) (f := 193) (fn := Tryz.f193) (cd := zcP.c) rfl Tryz.func193 (by kernel_rfl) xs os hc
noncomputable def zba (xs : List AV) (os : List PV.Obj) : Option Res := lim' Y 194 xs os
noncomputable def zba.c : Code := zaQ Tryz.f194
theorem zba.run (xs : List AV) (os : List PV.Obj) (hc : runOk Tryz.f194 xs os = true) :
 zba xs os = evK XX 194 (lpL XX 194) zba.c (zaG Tryz.f194 xs os GL) (outE XX 194 Tryz.f194) :=
 zaR (Y := Y) (f := 194) (fn := Tryz.f194) (cd := zba.c) rfl Tryz.func194 (by kernel_rfl) xs os hc
noncomputable def zcp (xs : List AV) (os : List PV.Obj) : Option Res := lim' Y 198 xs os
theorem zcp.ext (xs : List AV) (os : List PV.Obj) : zcp xs os = zgA xs os := zcY (Y := Y) rfl xs os
noncomputable def zaY (xs : List AV) (os : List PV.Obj) : Option Res := lim' Y 199 xs os
noncomputable def zaY.c : Code := zaQ Tryz.f199
theorem zaY.run (xs : List AV) (os : List PV.Obj) (hc : runOk Tryz.f199 xs os = true) :
 zaY xs os = evK XX 199 (lpL XX 199) zaY.c (zaG Tryz.f199 xs os GL) (outE XX 199 Tryz.f199) :=
 zaR (Y := Y) (f := 199) (fn := Tryz.f199) (cd := zaY.c) rfl Tryz.func199 (by kernel_rfl) xs os hc
noncomputable def strings_Join (xs : List AV) (os : List PV.Obj) : Option Res := lim' Y 201 xs os
theorem strings_Join.ext (xs : List AV) (os : List PV.Obj) : strings_Join xs os = zfo xs os := zcY (Y := Y) rfl xs os
noncomputable def strconv_Itoa (xs : List AV) (os : List PV.Obj) : Option Res := lim' Y 202 xs os
theorem strconv_Itoa.ext (xs : List AV) (os : List PV.Obj) : strconv_Itoa xs os = zgz xs os := zcY (Y := Y) rfl xs os
noncomputable def zbP (xs : List AV) (os : List PV.Obj) : Option Res := lim' Y 203 xs os
noncomputable def zbP.c : Code := zaQ Tryz.f203
theorem zbP.run (xs : List AV) (os : List PV.Obj) (hc : runOk Tryz.f203 xs os = true) :
 zbP xs os = evK XX 203 (lpL XX 203) zbP.c (zaG Tryz.f203 xs os GL) (outE XX 203 Tryz.f203) :=
 zaR (Y := Y) (f := 203) (fn := Tryz.f203) (cd := zbP.c) rfl Tryz.func203 (by kernel_rfl) xs os hc
abbrev zaJ.id : FuncId := 204
noncomputable def zaJ (xs : List AV) (os : List PV.Obj) : Option Res := lim' Y 204 xs os
noncomputable def zaJ.c : Code := zaQ Tryz.f204
theorem zaJ.run (xs : List AV) (os : List PV.Obj) (hc : runOk Tryz.f204 xs os = true) :
 zaJ xs os = evK XX 204 (lpL XX 204) zaJ.c (zaG Tryz.f204 xs os GL) (outE XX 204 Tryz.f204) :=
 zaR (Y := Y) (f := 204) (fn := Tryz.f204) (cd := zaJ.c) rfl Tryz.func204 (by kernel_rfl) xs os hc
noncomputable def zaP (xs : List AV) (os : List PV.Obj) : Option Res := lim' Y 224 xs os
noncomputable def zaP.c : Code := zaQ Tryz.f224
theorem zaP.run (xs : List AV) (os : List PV.Obj) (hc : runOk Tryz.f224 xs os = true) :
 zaP xs os = evK XX 224 (lpL XX 224) zaP.c (zaG Tryz.f224 xs os GL) (outE XX 224 Tryz.f224) :=
 zaR (Y := Y) (f := 224) (fn := Tryz.f224) (cd := zaP.c) rfl Tryz.func224 (by kernel_rfl) xs os hc
noncomputable def zaT (xs : List AV) (os : List PV.Obj) : Option Res := lim' Y 232 xs os
noncomputable def zaT.c : Code := zaQ Tryz.f232
theorem zaT.run (xs : List AV) (os : List PV.Obj) (hc : runOk Tryz.f232 xs os = true) :
 zaT xs os = evK XX 232 (lpL XX 232) zaT.c (zaG Tryz.f232 xs os GL) (outE XX 232 Tryz.f232) :=
 zaR (Y := Y) (f := 232) (fn := Tryz.f232) (cd := zaT.c) rfl Tryz.func232 (by kernel_rfl) xs os hc
noncomputable def zbb (xs : List AV) (os : List PV.Obj) : Option Res := lim' Y 236 xs os
noncomputable def zbb.c : Code := zaQ Tryz.f236
theorem zbb.run (xs : List AV) (os : List PV.Obj) (hc : runOk Tryz.f236 xs os = true) :
 zbb xs os = evK XX 236 (lpL XX 236) zbb.c (zaG Tryz.f236 xs os GL) (outE XX 236 Tryz.f236) :=
 zaR (Y := Y) (f := 236) (fn := Tryz.f236) (cd := zbb.c) rfl Tryz.func236 (by kernel_rfl) xs os hc
end Go.PVx
