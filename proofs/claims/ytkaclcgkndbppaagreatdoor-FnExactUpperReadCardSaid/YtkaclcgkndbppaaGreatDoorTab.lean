/- A part of the proof: PvJTab. -/
import Derived.Test.YtkaclcgkndbppaaGreatDoorProg
import Derived.Test.YtkaclcgkndbppaaGreatDoorPvC
import Derived.KernelRfl
import Derived.Test.YtkaclcgkndbppaaGreatDoorExt
import Derived.Test.YtkaclcgkndbppaaGreatDoorBld
set_option linter.unusedSimpArgs false
set_option linter.unusedVariables false
namespace Go.PVx
open Go.PV Go.Proofs
def sigs : FuncId → Sig
  | 150 => { res := .one (.own .deep) }
  | 152 => { res := .one (.str) }
  | 156 => { mu := [0], res := .tup [(false, [.int .i64]), (false, [.any])] }
  | 161 => { mu := [0], res := .one (.int .i64) }
  | 162 => { mu := [0], res := .one (.str) }
  | 198 => { res := .tup [(false, [.int .i64]), (false, [.any])] }
  | 201 => { res := .one (.str) }
  | 202 => { res := .one (.str) }
  | 8 => { res := .one (.bool) }
  | 21 => { res := .one (.bool) }
  | 32 => { mu := [0], res := .one (.int .i64) }
  | 33 => { res := .one (.int .i64) }
  | 41 => { res := .tup [(true, [.own .deep, .own .deep]), (false, [.bool])] }
  | 42 => { res := .tup [(true, [.own .deep, .own .deep]), (false, [.bool])] }
  | 43 => { res := .one (.bool) }
  | 44 => { mu := [0], res := .one (.int .i64) }
  | 45 => { res := .one (.int .i64) }
  | 68 => { res := .one (.bool) }
  | 73 => { res := .one (.bool) }
  | 82 => { res := .one (.str) }
  | 97 => { res := .one (.own .deep) }
  | 98 => { res := .tup [(false, [.sh]), (false, [.bool])] }
  | 99 => { res := .tup [(true, [.bool, .int .i64, .str, .own .deep, .own .deep]), (false, [.bool])] }
  | 100 => { res := .one (.str) }
  | 101 => { res := .agg [.own .deep, .own .deep] }
  | 102 => { res := .one .sh }
  | 103 => { res := .tup [(false, [.str]), (false, [.bool])] }
  | 104 => { res := .one (.own .deep) }
  | 105 => { res := .tup [(false, [.own .deep]), (true, [.bool, .int .i64, .str, .sh, .sh])] }
  | 106 => { res := .one (.str) }
  | 107 => { res := .one (.bool) }
  | 108 => { res := .one (.bool) }
  | 109 => { mu := [0], res := .one (.int .i64) }
  | 110 => { mu := [0], res := .one (.int .i64) }
  | 111 => { res := .one (.int .i64) }
  | 112 => { res := .one (.int .i64) }
  | 125 => { res := .one (.bool) }
  | 126 => { res := .one (.bool) }
  | 146 => { res := .tup [(false, [.str]), (false, [.bool])] }
  | 147 => { res := .one (.str) }
  | 148 => { res := .one (.bool) }
  | 149 => { res := .one (.str) }
  | 151 => { res := .tup [(false, [.str]), (false, [.bool])] }
  | 153 => { res := .one (.int .i64) }
  | 154 => { res := .one (.str) }
  | 155 => { res := .one (.bool) }
  | 157 => { res := .one (.str) }
  | 158 => { res := .one (.bool) }
  | 159 => { res := .one (.bool) }
  | 160 => { res := .one (.str) }
  | 163 => { res := .one (.bool) }
  | 187 => { res := .one (.bool) }
  | 192 => { res := .one (.int .i64) }
  | 193 => { res := .one (.str) }
  | 194 => { res := .one (.str) }
  | 196 => { res := .one (.bool) }
  | 199 => { res := .one (.str) }
  | 203 => { res := .one (.str) }
  | 232 => { res := .one (.int .i64) }
  | 236 => { res := .one (.str) }
  | _ => { res := .none }
def lives : FuncId → Nat → List Nat × List Nat
  | 8, 100006 => ([0, 3, 4, 5, 32], [1])
  | 8, 100007 => ([0, 3, 4, 5], [1])
  | 8, 100016 => ([3, 4, 5, 7, 9, 10], [1])
  | 8, 100017 => ([5, 7, 57], [1])
  | 8, 100018 => ([5, 7], [1])
  | 21, 4 => ([0, 1, 5], [4])
  | 32, 2 => ([0, 1, 5], [1])
  | 33, 2 => ([0, 1, 5], [1, 4])
  | 41, 4 => ([0, 2, 4, 5, 6], [0, 2, 3, 4])
  | 41, 100010 => ([0, 2, 4, 5, 6, 7, 8, 9], [1])
  | 41, 100016 => ([0, 2, 4, 5, 6, 8, 10, 57], [1])
  | 42, 5 => ([0, 2, 4, 19, 20, 21], [0, 2, 4])
  | 42, 100011 => ([0, 2, 4, 9, 10, 19, 20, 21], [1])
  | 68, 2 => ([0, 3], [0, 2])
  | 82, 4 => ([0, 3], [3])
  | 97, 4 => ([0, 1, 5, 6, 7], [0, 5, 6])
  | 98, 100004 => ([0, 14], [1])
  | 98, 100005 => ([0], [1])
  | 99, 100005 => ([0, 2, 4, 5], [1])
  | 99, 100006 => ([0, 2, 4, 48], [1])
  | 99, 100007 => ([0, 2, 4], [1])
  | 99, 100012 => ([2, 4, 6], [1])
  | 100, 3 => ([1, 3, 4], [1, 2, 3])
  | 100, 9 => ([1, 3, 5], [2, 3])
  | 100, 100013 => ([1, 3, 5, 6, 78], [1])
  | 100, 100014 => ([1, 3, 5, 6], [1])
  | 101, 3 => ([1, 2, 3, 4], [1, 2, 3])
  | 101, 7 => ([1, 2, 3, 5], [2, 3])
  | 105, 100005 => ([3, 4, 5], [1])
  | 106, 3 => ([1, 3, 12, 13, 14], [1, 2, 3])
  | 106, 10 => ([3, 29, 30, 31], [2, 3])
  | 106, 100013 => ([3, 7, 8, 29, 30, 31], [1])
  | 106, 100014 => ([3, 7, 29, 30, 31, 69], [1])
  | 106, 100015 => ([3, 7, 29, 30, 31], [1])
  | 107, 4 => ([0, 1, 5], [4])
  | 108, 4 => ([0, 1, 5], [4])
  | 109, 2 => ([0, 1, 5], [1])
  | 110, 2 => ([0, 1, 5], [1])
  | 110, 100008 => ([0, 1, 5], [1])
  | 111, 2 => ([0, 1, 5], [1, 4])
  | 112, 2 => ([0, 1, 5], [1, 4])
  | 112, 100010 => ([0, 1, 5], [1])
  | 112, 100017 => ([0, 1, 5, 57], [1])
  | 125, 2 => ([0, 3], [0, 2])
  | 125, 100005 => ([0, 3, 32], [1])
  | 146, 7 => ([0, 4, 5], [2, 3, 4])
  | 146, 100005 => ([0, 4, 18], [1])
  | 146, 100006 => ([0, 4], [1])
  | 146, 100012 => ([0, 4, 5, 6, 7, 39], [1])
  | 146, 100013 => ([0, 4, 5, 6, 7], [1])
  | 147, 3 => ([0, 3, 4], [3])
  | 148, 100002 => ([1, 24], [1])
  | 148, 100003 => ([1], [1])
  | 155, 2 => ([0, 1, 7, 8, 9], [0, 1, 4])
  | 159, 100004 => ([1, 3], [1])
  | 159, 100005 => ([1, 23], [1])
  | 159, 100006 => ([1], [1])
  | 163, 100009 => ([2, 3], [1])
  | 187, 2 => ([0, 5, 6], [0, 2])
  | 187, 100005 => ([0, 5, 6, 30], [1])
  | 192, 100002 => ([0, 3], [1])
  | 192, 100004 => ([0, 13], [1])
  | 194, 3 => ([0, 3, 4], [3])
  | 199, 3 => ([0, 3, 4], [3])
  | 199, 100005 => ([0, 3, 4], [1])
  | 232, 100002 => ([0, 3], [1])
  | 232, 100004 => ([0, 13], [1])
  | 232, 100006 => ([0, 24], [1])
  | 236, 3 => ([0, 3, 4], [3])
  | _, _ => ([], [])
def mvs : FuncId → Nat → Nat → Bool
  | 41, 8, 1 => true
  | 41, 11, 1 => true
  | 41, 16, 1 => true
  | 41, 19, 1 => true
  | 41, 20, 2 => true
  | 42, 3, 1 => true
  | 42, 11, 10 => true
  | 42, 14, 1 => true
  | 42, 15, 1 => true
  | 44, 0, 0 => true
  | 99, 6, 1 => true
  | 99, 12, 2 => true
  | 101, 11, 3 => true
  | 101, 12, 1 => true
  | 105, 5, 6 => true
  | _, _, _ => false
noncomputable def exts : FuncId → Option (List AV → List PV.Obj → Option Res)
  | 150 => some extSplit
  | 152 => some extTrimPrefix
  | 156 => some (extBWrite 170 5)
  | 161 => some (extBLen 170 5)
  | 162 => some (extBString 170 5)
  | 198 => some extAtoi
  | 201 => some extJoin
  | 202 => some extItoa
  | _ => none
def GL : List (Nat × List D) := [(0, [.u false]), (1, [.u true]), (2, [.u true]), (5, Lib.pow10Tab.map fun z => .v (.int .u64 z))]
noncomputable def Y : Prm := { P := Tryz.prog, sig := sigs, mv := mvs, live := lives, ext := exts, gl := GL, bt := fun t => bif t == 170 then some 5 else none }
noncomputable def XX : Ctx := Y.ctx (lim' Y)
abbrev wFnExactUpperRead.id : FuncId := 8
noncomputable def wFnExactUpperRead (xs : List AV) (os : List PV.Obj) : Option Res := lim' Y 8 xs os
noncomputable def wFnExactUpperRead.c : Code := codeOf Tryz.f8
theorem wFnExactUpperRead.run (xs : List AV) (os : List PV.Obj) (hc : (decide (xs.length ≤ Tryz.f8.ntmps) && decide (os.length + Tryz.f8.ntmps < 1000000000) && !(Tryz.f8.name == "runtime.NumGoroutine")) = true) :
    wFnExactUpperRead xs os = evK XX 8 (lpL XX 8) wFnExactUpperRead.c (initSt Tryz.f8 xs os GL) (outE XX 8 Tryz.f8) :=
  lim_eq (Y := Y) (f := 8) (fn := Tryz.f8) (cd := wFnExactUpperRead.c) rfl Tryz.func8 (by kernel_rfl) xs os hc
abbrev weqStringS.id : FuncId := 21
noncomputable def weqStringS (xs : List AV) (os : List PV.Obj) : Option Res := lim' Y 21 xs os
noncomputable def weqStringS.c : Code := codeOf Tryz.f21
theorem weqStringS.run (xs : List AV) (os : List PV.Obj) (hc : (decide (xs.length ≤ Tryz.f21.ntmps) && decide (os.length + Tryz.f21.ntmps < 1000000000) && !(Tryz.f21.name == "runtime.NumGoroutine")) = true) :
    weqStringS xs os = evK XX 21 (lpL XX 21) weqStringS.c (initSt Tryz.f21 xs os GL) (outE XX 21 Tryz.f21) :=
  lim_eq (Y := Y) (f := 21) (fn := Tryz.f21) (cd := weqStringS.c) rfl Tryz.func21 (by kernel_rfl) xs os hc
abbrev wmarkStringS.id : FuncId := 32
noncomputable def wmarkStringS (xs : List AV) (os : List PV.Obj) : Option Res := lim' Y 32 xs os
noncomputable def wmarkStringS.c : Code := codeOf Tryz.f32
theorem wmarkStringS.run (xs : List AV) (os : List PV.Obj) (hc : (decide (xs.length ≤ Tryz.f32.ntmps) && decide (os.length + Tryz.f32.ntmps < 1000000000) && !(Tryz.f32.name == "runtime.NumGoroutine")) = true) :
    wmarkStringS xs os = evK XX 32 (lpL XX 32) wmarkStringS.c (initSt Tryz.f32 xs os GL) (outE XX 32 Tryz.f32) :=
  lim_eq (Y := Y) (f := 32) (fn := Tryz.f32) (cd := wmarkStringS.c) rfl Tryz.func32 (by kernel_rfl) xs os hc
abbrev wheldStringS.id : FuncId := 33
noncomputable def wheldStringS (xs : List AV) (os : List PV.Obj) : Option Res := lim' Y 33 xs os
noncomputable def wheldStringS.c : Code := codeOf Tryz.f33
theorem wheldStringS.run (xs : List AV) (os : List PV.Obj) (hc : (decide (xs.length ≤ Tryz.f33.ntmps) && decide (os.length + Tryz.f33.ntmps < 1000000000) && !(Tryz.f33.name == "runtime.NumGoroutine")) = true) :
    wheldStringS xs os = evK XX 33 (lpL XX 33) wheldStringS.c (initSt Tryz.f33 xs os GL) (outE XX 33 Tryz.f33) :=
  lim_eq (Y := Y) (f := 33) (fn := Tryz.f33) (cd := wheldStringS.c) rfl Tryz.func33 (by kernel_rfl) xs os hc
abbrev sUpperRead.id : FuncId := 41
noncomputable def sUpperRead (xs : List AV) (os : List PV.Obj) : Option Res := lim' Y 41 xs os
noncomputable def sUpperRead.c : Code := codeOf Tryz.f41
theorem sUpperRead.run (xs : List AV) (os : List PV.Obj) (hc : (decide (xs.length ≤ Tryz.f41.ntmps) && decide (os.length + Tryz.f41.ntmps < 1000000000) && !(Tryz.f41.name == "runtime.NumGoroutine")) = true) :
    sUpperRead xs os = evK XX 41 (lpL XX 41) sUpperRead.c (initSt Tryz.f41 xs os GL) (outE XX 41 Tryz.f41) :=
  lim_eq (Y := Y) (f := 41) (fn := Tryz.f41) (cd := sUpperRead.c) rfl Tryz.func41 (by kernel_rfl) xs os hc
abbrev iUpperRead.id : FuncId := 42
noncomputable def iUpperRead (xs : List AV) (os : List PV.Obj) : Option Res := lim' Y 42 xs os
noncomputable def iUpperRead.c : Code := codeOf Tryz.f42
theorem iUpperRead.run (xs : List AV) (os : List PV.Obj) (hc : (decide (xs.length ≤ Tryz.f42.ntmps) && decide (os.length + Tryz.f42.ntmps < 1000000000) && !(Tryz.f42.name == "runtime.NumGoroutine")) = true) :
    iUpperRead xs os = evK XX 42 (lpL XX 42) iUpperRead.c (initSt Tryz.f42 xs os GL) (outE XX 42 Tryz.f42) :=
  lim_eq (Y := Y) (f := 42) (fn := Tryz.f42) (cd := iUpperRead.c) rfl Tryz.func42 (by kernel_rfl) xs os hc
abbrev weqUpper.id : FuncId := 43
noncomputable def weqUpper (xs : List AV) (os : List PV.Obj) : Option Res := lim' Y 43 xs os
noncomputable def weqUpper.c : Code := codeOf Tryz.f43
theorem weqUpper.run (xs : List AV) (os : List PV.Obj) (hc : (decide (xs.length ≤ Tryz.f43.ntmps) && decide (os.length + Tryz.f43.ntmps < 1000000000) && !(Tryz.f43.name == "runtime.NumGoroutine")) = true) :
    weqUpper xs os = evK XX 43 (lpL XX 43) weqUpper.c (initSt Tryz.f43 xs os GL) (outE XX 43 Tryz.f43) :=
  lim_eq (Y := Y) (f := 43) (fn := Tryz.f43) (cd := weqUpper.c) rfl Tryz.func43 (by kernel_rfl) xs os hc
abbrev wmarkUpper.id : FuncId := 44
noncomputable def wmarkUpper (xs : List AV) (os : List PV.Obj) : Option Res := lim' Y 44 xs os
noncomputable def wmarkUpper.c : Code := codeOf Tryz.f44
theorem wmarkUpper.run (xs : List AV) (os : List PV.Obj) (hc : (decide (xs.length ≤ Tryz.f44.ntmps) && decide (os.length + Tryz.f44.ntmps < 1000000000) && !(Tryz.f44.name == "runtime.NumGoroutine")) = true) :
    wmarkUpper xs os = evK XX 44 (lpL XX 44) wmarkUpper.c (initSt Tryz.f44 xs os GL) (outE XX 44 Tryz.f44) :=
  lim_eq (Y := Y) (f := 44) (fn := Tryz.f44) (cd := wmarkUpper.c) rfl Tryz.func44 (by kernel_rfl) xs os hc
abbrev wheldUpper.id : FuncId := 45
noncomputable def wheldUpper (xs : List AV) (os : List PV.Obj) : Option Res := lim' Y 45 xs os
noncomputable def wheldUpper.c : Code := codeOf Tryz.f45
theorem wheldUpper.run (xs : List AV) (os : List PV.Obj) (hc : (decide (xs.length ≤ Tryz.f45.ntmps) && decide (os.length + Tryz.f45.ntmps < 1000000000) && !(Tryz.f45.name == "runtime.NumGoroutine")) = true) :
    wheldUpper xs os = evK XX 45 (lpL XX 45) wheldUpper.c (initSt Tryz.f45 xs os GL) (outE XX 45 Tryz.f45) :=
  lim_eq (Y := Y) (f := 45) (fn := Tryz.f45) (cd := wheldUpper.c) rfl Tryz.func45 (by kernel_rfl) xs os hc
abbrev sl2PathOk.id : FuncId := 68
noncomputable def sl2PathOk (xs : List AV) (os : List PV.Obj) : Option Res := lim' Y 68 xs os
noncomputable def sl2PathOk.c : Code := codeOf Tryz.f68
theorem sl2PathOk.run (xs : List AV) (os : List PV.Obj) (hc : (decide (xs.length ≤ Tryz.f68.ntmps) && decide (os.length + Tryz.f68.ntmps < 1000000000) && !(Tryz.f68.name == "runtime.NumGoroutine")) = true) :
    sl2PathOk xs os = evK XX 68 (lpL XX 68) sl2PathOk.c (initSt Tryz.f68 xs os GL) (outE XX 68 Tryz.f68) :=
  lim_eq (Y := Y) (f := 68) (fn := Tryz.f68) (cd := sl2PathOk.c) rfl Tryz.func68 (by kernel_rfl) xs os hc
abbrev iwithin.id : FuncId := 73
noncomputable def iwithin (xs : List AV) (os : List PV.Obj) : Option Res := lim' Y 73 xs os
noncomputable def iwithin.c : Code := codeOf Tryz.f73
theorem iwithin.run (xs : List AV) (os : List PV.Obj) (hc : (decide (xs.length ≤ Tryz.f73.ntmps) && decide (os.length + Tryz.f73.ntmps < 1000000000) && !(Tryz.f73.name == "runtime.NumGoroutine")) = true) :
    iwithin xs os = evK XX 73 (lpL XX 73) iwithin.c (initSt Tryz.f73 xs os GL) (outE XX 73 Tryz.f73) :=
  lim_eq (Y := Y) (f := 73) (fn := Tryz.f73) (cd := iwithin.c) rfl Tryz.func73 (by kernel_rfl) xs os hc
abbrev wmarkText.id : FuncId := 82
noncomputable def wmarkText (xs : List AV) (os : List PV.Obj) : Option Res := lim' Y 82 xs os
noncomputable def wmarkText.c : Code := codeOf Tryz.f82
theorem wmarkText.run (xs : List AV) (os : List PV.Obj) (hc : (decide (xs.length ≤ Tryz.f82.ntmps) && decide (os.length + Tryz.f82.ntmps < 1000000000) && !(Tryz.f82.name == "runtime.NumGoroutine")) = true) :
    wmarkText xs os = evK XX 82 (lpL XX 82) wmarkText.c (initSt Tryz.f82 xs os GL) (outE XX 82 Tryz.f82) :=
  lim_eq (Y := Y) (f := 82) (fn := Tryz.f82) (cd := wmarkText.c) rfl Tryz.func82 (by kernel_rfl) xs os hc
abbrev sl1Cut.id : FuncId := 97
noncomputable def sl1Cut (xs : List AV) (os : List PV.Obj) : Option Res := lim' Y 97 xs os
noncomputable def sl1Cut.c : Code := codeOf Tryz.f97
theorem sl1Cut.run (xs : List AV) (os : List PV.Obj) (hc : (decide (xs.length ≤ Tryz.f97.ntmps) && decide (os.length + Tryz.f97.ntmps < 1000000000) && !(Tryz.f97.name == "runtime.NumGoroutine")) = true) :
    sl1Cut xs os = evK XX 97 (lpL XX 97) sl1Cut.c (initSt Tryz.f97 xs os GL) (outE XX 97 Tryz.f97) :=
  lim_eq (Y := Y) (f := 97) (fn := Tryz.f97) (cd := sl1Cut.c) rfl Tryz.func97 (by kernel_rfl) xs os hc
abbrev sl41PathOf.id : FuncId := 98
noncomputable def sl41PathOf (xs : List AV) (os : List PV.Obj) : Option Res := lim' Y 98 xs os
noncomputable def sl41PathOf.c : Code := codeOf Tryz.f98
theorem sl41PathOf.run (xs : List AV) (os : List PV.Obj) (hc : (decide (xs.length ≤ Tryz.f98.ntmps) && decide (os.length + Tryz.f98.ntmps < 1000000000) && !(Tryz.f98.name == "runtime.NumGoroutine")) = true) :
    sl41PathOf xs os = evK XX 98 (lpL XX 98) sl41PathOf.c (initSt Tryz.f98 xs os GL) (outE XX 98 Tryz.f98) :=
  lim_eq (Y := Y) (f := 98) (fn := Tryz.f98) (cd := sl41PathOf.c) rfl Tryz.func98 (by kernel_rfl) xs os hc
abbrev sl1Part.id : FuncId := 99
noncomputable def sl1Part (xs : List AV) (os : List PV.Obj) : Option Res := lim' Y 99 xs os
noncomputable def sl1Part.c : Code := codeOf Tryz.f99
theorem sl1Part.run (xs : List AV) (os : List PV.Obj) (hc : (decide (xs.length ≤ Tryz.f99.ntmps) && decide (os.length + Tryz.f99.ntmps < 1000000000) && !(Tryz.f99.name == "runtime.NumGoroutine")) = true) :
    sl1Part xs os = evK XX 99 (lpL XX 99) sl1Part.c (initSt Tryz.f99 xs os GL) (outE XX 99 Tryz.f99) :=
  lim_eq (Y := Y) (f := 99) (fn := Tryz.f99) (cd := sl1Part.c) rfl Tryz.func99 (by kernel_rfl) xs os hc
abbrev sUpperWrite.id : FuncId := 100
noncomputable def sUpperWrite (xs : List AV) (os : List PV.Obj) : Option Res := lim' Y 100 xs os
noncomputable def sUpperWrite.c : Code := codeOf Tryz.f100
theorem sUpperWrite.run (xs : List AV) (os : List PV.Obj) (hc : (decide (xs.length ≤ Tryz.f100.ntmps) && decide (os.length + Tryz.f100.ntmps < 1000000000) && !(Tryz.f100.name == "runtime.NumGoroutine")) = true) :
    sUpperWrite xs os = evK XX 100 (lpL XX 100) sUpperWrite.c (initSt Tryz.f100 xs os GL) (outE XX 100 Tryz.f100) :=
  lim_eq (Y := Y) (f := 100) (fn := Tryz.f100) (cd := sUpperWrite.c) rfl Tryz.func100 (by kernel_rfl) xs os hc
abbrev sl41Copy.id : FuncId := 101
noncomputable def sl41Copy (xs : List AV) (os : List PV.Obj) : Option Res := lim' Y 101 xs os
noncomputable def sl41Copy.c : Code := codeOf Tryz.f101
theorem sl41Copy.run (xs : List AV) (os : List PV.Obj) (hc : (decide (xs.length ≤ Tryz.f101.ntmps) && decide (os.length + Tryz.f101.ntmps < 1000000000) && !(Tryz.f101.name == "runtime.NumGoroutine")) = true) :
    sl41Copy xs os = evK XX 101 (lpL XX 101) sl41Copy.c (initSt Tryz.f101 xs os GL) (outE XX 101 Tryz.f101) :=
  lim_eq (Y := Y) (f := 101) (fn := Tryz.f101) (cd := sl41Copy.c) rfl Tryz.func101 (by kernel_rfl) xs os hc
abbrev ilinesOf.id : FuncId := 102
noncomputable def ilinesOf (xs : List AV) (os : List PV.Obj) : Option Res := lim' Y 102 xs os
noncomputable def ilinesOf.c : Code := codeOf Tryz.f102
theorem ilinesOf.run (xs : List AV) (os : List PV.Obj) (hc : (decide (xs.length ≤ Tryz.f102.ntmps) && decide (os.length + Tryz.f102.ntmps < 1000000000) && !(Tryz.f102.name == "runtime.NumGoroutine")) = true) :
    ilinesOf xs os = evK XX 102 (lpL XX 102) ilinesOf.c (initSt Tryz.f102 xs os GL) (outE XX 102 Tryz.f102) :=
  lim_eq (Y := Y) (f := 102) (fn := Tryz.f102) (cd := ilinesOf.c) rfl Tryz.func102 (by kernel_rfl) xs os hc
abbrev strings_CutPrefix.id : FuncId := 103
noncomputable def strings_CutPrefix (xs : List AV) (os : List PV.Obj) : Option Res := lim' Y 103 xs os
noncomputable def strings_CutPrefix.c : Code := codeOf Tryz.f103
theorem strings_CutPrefix.run (xs : List AV) (os : List PV.Obj) (hc : (decide (xs.length ≤ Tryz.f103.ntmps) && decide (os.length + Tryz.f103.ntmps < 1000000000) && !(Tryz.f103.name == "runtime.NumGoroutine")) = true) :
    strings_CutPrefix xs os = evK XX 103 (lpL XX 103) strings_CutPrefix.c (initSt Tryz.f103 xs os GL) (outE XX 103 Tryz.f103) :=
  lim_eq (Y := Y) (f := 103) (fn := Tryz.f103) (cd := strings_CutPrefix.c) rfl Tryz.func103 (by kernel_rfl) xs os hc
abbrev ipathRead.id : FuncId := 104
noncomputable def ipathRead (xs : List AV) (os : List PV.Obj) : Option Res := lim' Y 104 xs os
noncomputable def ipathRead.c : Code := codeOf Tryz.f104
theorem ipathRead.run (xs : List AV) (os : List PV.Obj) (hc : (decide (xs.length ≤ Tryz.f104.ntmps) && decide (os.length + Tryz.f104.ntmps < 1000000000) && !(Tryz.f104.name == "runtime.NumGoroutine")) = true) :
    ipathRead xs os = evK XX 104 (lpL XX 104) ipathRead.c (initSt Tryz.f104 xs os GL) (outE XX 104 Tryz.f104) :=
  lim_eq (Y := Y) (f := 104) (fn := Tryz.f104) (cd := ipathRead.c) rfl Tryz.func104 (by kernel_rfl) xs os hc
abbrev ipartRead.id : FuncId := 105
noncomputable def ipartRead (xs : List AV) (os : List PV.Obj) : Option Res := lim' Y 105 xs os
noncomputable def ipartRead.c : Code := codeOf Tryz.f105
theorem ipartRead.run (xs : List AV) (os : List PV.Obj) (hc : (decide (xs.length ≤ Tryz.f105.ntmps) && decide (os.length + Tryz.f105.ntmps < 1000000000) && !(Tryz.f105.name == "runtime.NumGoroutine")) = true) :
    ipartRead xs os = evK XX 105 (lpL XX 105) ipartRead.c (initSt Tryz.f105 xs os GL) (outE XX 105 Tryz.f105) :=
  lim_eq (Y := Y) (f := 105) (fn := Tryz.f105) (cd := ipartRead.c) rfl Tryz.func105 (by kernel_rfl) xs os hc
abbrev iUpperWrite.id : FuncId := 106
noncomputable def iUpperWrite (xs : List AV) (os : List PV.Obj) : Option Res := lim' Y 106 xs os
noncomputable def iUpperWrite.c : Code := codeOf Tryz.f106
theorem iUpperWrite.run (xs : List AV) (os : List PV.Obj) (hc : (decide (xs.length ≤ Tryz.f106.ntmps) && decide (os.length + Tryz.f106.ntmps < 1000000000) && !(Tryz.f106.name == "runtime.NumGoroutine")) = true) :
    iUpperWrite xs os = evK XX 106 (lpL XX 106) iUpperWrite.c (initSt Tryz.f106 xs os GL) (outE XX 106 Tryz.f106) :=
  lim_eq (Y := Y) (f := 106) (fn := Tryz.f106) (cd := iUpperWrite.c) rfl Tryz.func106 (by kernel_rfl) xs os hc
abbrev weqStringSS.id : FuncId := 107
noncomputable def weqStringSS (xs : List AV) (os : List PV.Obj) : Option Res := lim' Y 107 xs os
noncomputable def weqStringSS.c : Code := codeOf Tryz.f107
theorem weqStringSS.run (xs : List AV) (os : List PV.Obj) (hc : (decide (xs.length ≤ Tryz.f107.ntmps) && decide (os.length + Tryz.f107.ntmps < 1000000000) && !(Tryz.f107.name == "runtime.NumGoroutine")) = true) :
    weqStringSS xs os = evK XX 107 (lpL XX 107) weqStringSS.c (initSt Tryz.f107 xs os GL) (outE XX 107 Tryz.f107) :=
  lim_eq (Y := Y) (f := 107) (fn := Tryz.f107) (cd := weqStringSS.c) rfl Tryz.func107 (by kernel_rfl) xs os hc
abbrev weqEntryS.id : FuncId := 108
noncomputable def weqEntryS (xs : List AV) (os : List PV.Obj) : Option Res := lim' Y 108 xs os
noncomputable def weqEntryS.c : Code := codeOf Tryz.f108
theorem weqEntryS.run (xs : List AV) (os : List PV.Obj) (hc : (decide (xs.length ≤ Tryz.f108.ntmps) && decide (os.length + Tryz.f108.ntmps < 1000000000) && !(Tryz.f108.name == "runtime.NumGoroutine")) = true) :
    weqEntryS xs os = evK XX 108 (lpL XX 108) weqEntryS.c (initSt Tryz.f108 xs os GL) (outE XX 108 Tryz.f108) :=
  lim_eq (Y := Y) (f := 108) (fn := Tryz.f108) (cd := weqEntryS.c) rfl Tryz.func108 (by kernel_rfl) xs os hc
abbrev wmarkStringSS.id : FuncId := 109
noncomputable def wmarkStringSS (xs : List AV) (os : List PV.Obj) : Option Res := lim' Y 109 xs os
noncomputable def wmarkStringSS.c : Code := codeOf Tryz.f109
theorem wmarkStringSS.run (xs : List AV) (os : List PV.Obj) (hc : (decide (xs.length ≤ Tryz.f109.ntmps) && decide (os.length + Tryz.f109.ntmps < 1000000000) && !(Tryz.f109.name == "runtime.NumGoroutine")) = true) :
    wmarkStringSS xs os = evK XX 109 (lpL XX 109) wmarkStringSS.c (initSt Tryz.f109 xs os GL) (outE XX 109 Tryz.f109) :=
  lim_eq (Y := Y) (f := 109) (fn := Tryz.f109) (cd := wmarkStringSS.c) rfl Tryz.func109 (by kernel_rfl) xs os hc
abbrev wmarkEntryS.id : FuncId := 110
noncomputable def wmarkEntryS (xs : List AV) (os : List PV.Obj) : Option Res := lim' Y 110 xs os
noncomputable def wmarkEntryS.c : Code := codeOf Tryz.f110
theorem wmarkEntryS.run (xs : List AV) (os : List PV.Obj) (hc : (decide (xs.length ≤ Tryz.f110.ntmps) && decide (os.length + Tryz.f110.ntmps < 1000000000) && !(Tryz.f110.name == "runtime.NumGoroutine")) = true) :
    wmarkEntryS xs os = evK XX 110 (lpL XX 110) wmarkEntryS.c (initSt Tryz.f110 xs os GL) (outE XX 110 Tryz.f110) :=
  lim_eq (Y := Y) (f := 110) (fn := Tryz.f110) (cd := wmarkEntryS.c) rfl Tryz.func110 (by kernel_rfl) xs os hc
abbrev wheldStringSS.id : FuncId := 111
noncomputable def wheldStringSS (xs : List AV) (os : List PV.Obj) : Option Res := lim' Y 111 xs os
noncomputable def wheldStringSS.c : Code := codeOf Tryz.f111
theorem wheldStringSS.run (xs : List AV) (os : List PV.Obj) (hc : (decide (xs.length ≤ Tryz.f111.ntmps) && decide (os.length + Tryz.f111.ntmps < 1000000000) && !(Tryz.f111.name == "runtime.NumGoroutine")) = true) :
    wheldStringSS xs os = evK XX 111 (lpL XX 111) wheldStringSS.c (initSt Tryz.f111 xs os GL) (outE XX 111 Tryz.f111) :=
  lim_eq (Y := Y) (f := 111) (fn := Tryz.f111) (cd := wheldStringSS.c) rfl Tryz.func111 (by kernel_rfl) xs os hc
abbrev wheldEntryS.id : FuncId := 112
noncomputable def wheldEntryS (xs : List AV) (os : List PV.Obj) : Option Res := lim' Y 112 xs os
noncomputable def wheldEntryS.c : Code := codeOf Tryz.f112
theorem wheldEntryS.run (xs : List AV) (os : List PV.Obj) (hc : (decide (xs.length ≤ Tryz.f112.ntmps) && decide (os.length + Tryz.f112.ntmps < 1000000000) && !(Tryz.f112.name == "runtime.NumGoroutine")) = true) :
    wheldEntryS xs os = evK XX 112 (lpL XX 112) wheldEntryS.c (initSt Tryz.f112 xs os GL) (outE XX 112 Tryz.f112) :=
  lim_eq (Y := Y) (f := 112) (fn := Tryz.f112) (cd := wheldEntryS.c) rfl Tryz.func112 (by kernel_rfl) xs os hc
abbrev sl1NameOk.id : FuncId := 125
noncomputable def sl1NameOk (xs : List AV) (os : List PV.Obj) : Option Res := lim' Y 125 xs os
noncomputable def sl1NameOk.c : Code := codeOf Tryz.f125
theorem sl1NameOk.run (xs : List AV) (os : List PV.Obj) (hc : (decide (xs.length ≤ Tryz.f125.ntmps) && decide (os.length + Tryz.f125.ntmps < 1000000000) && !(Tryz.f125.name == "runtime.NumGoroutine")) = true) :
    sl1NameOk xs os = evK XX 125 (lpL XX 125) sl1NameOk.c (initSt Tryz.f125 xs os GL) (outE XX 125 Tryz.f125) :=
  lim_eq (Y := Y) (f := 125) (fn := Tryz.f125) (cd := sl1NameOk.c) rfl Tryz.func125 (by kernel_rfl) xs os hc
abbrev sl1In.id : FuncId := 126
noncomputable def sl1In (xs : List AV) (os : List PV.Obj) : Option Res := lim' Y 126 xs os
noncomputable def sl1In.c : Code := codeOf Tryz.f126
theorem sl1In.run (xs : List AV) (os : List PV.Obj) (hc : (decide (xs.length ≤ Tryz.f126.ntmps) && decide (os.length + Tryz.f126.ntmps < 1000000000) && !(Tryz.f126.name == "runtime.NumGoroutine")) = true) :
    sl1In xs os = evK XX 126 (lpL XX 126) sl1In.c (initSt Tryz.f126 xs os GL) (outE XX 126 Tryz.f126) :=
  lim_eq (Y := Y) (f := 126) (fn := Tryz.f126) (cd := sl1In.c) rfl Tryz.func126 (by kernel_rfl) xs os hc
abbrev sl1Bytes.id : FuncId := 146
noncomputable def sl1Bytes (xs : List AV) (os : List PV.Obj) : Option Res := lim' Y 146 xs os
noncomputable def sl1Bytes.c : Code := codeOf Tryz.f146
theorem sl1Bytes.run (xs : List AV) (os : List PV.Obj) (hc : (decide (xs.length ≤ Tryz.f146.ntmps) && decide (os.length + Tryz.f146.ntmps < 1000000000) && !(Tryz.f146.name == "runtime.NumGoroutine")) = true) :
    sl1Bytes xs os = evK XX 146 (lpL XX 146) sl1Bytes.c (initSt Tryz.f146 xs os GL) (outE XX 146 Tryz.f146) :=
  lim_eq (Y := Y) (f := 146) (fn := Tryz.f146) (cd := sl1Bytes.c) rfl Tryz.func146 (by kernel_rfl) xs os hc
abbrev sl3Name.id : FuncId := 147
noncomputable def sl3Name (xs : List AV) (os : List PV.Obj) : Option Res := lim' Y 147 xs os
noncomputable def sl3Name.c : Code := codeOf Tryz.f147
theorem sl3Name.run (xs : List AV) (os : List PV.Obj) (hc : (decide (xs.length ≤ Tryz.f147.ntmps) && decide (os.length + Tryz.f147.ntmps < 1000000000) && !(Tryz.f147.name == "runtime.NumGoroutine")) = true) :
    sl3Name xs os = evK XX 147 (lpL XX 147) sl3Name.c (initSt Tryz.f147 xs os GL) (outE XX 147 Tryz.f147) :=
  lim_eq (Y := Y) (f := 147) (fn := Tryz.f147) (cd := sl3Name.c) rfl Tryz.func147 (by kernel_rfl) xs os hc
abbrev sl3EntryOk.id : FuncId := 148
noncomputable def sl3EntryOk (xs : List AV) (os : List PV.Obj) : Option Res := lim' Y 148 xs os
noncomputable def sl3EntryOk.c : Code := codeOf Tryz.f148
theorem sl3EntryOk.run (xs : List AV) (os : List PV.Obj) (hc : (decide (xs.length ≤ Tryz.f148.ntmps) && decide (os.length + Tryz.f148.ntmps < 1000000000) && !(Tryz.f148.name == "runtime.NumGoroutine")) = true) :
    sl3EntryOk xs os = evK XX 148 (lpL XX 148) sl3EntryOk.c (initSt Tryz.f148 xs os GL) (outE XX 148 Tryz.f148) :=
  lim_eq (Y := Y) (f := 148) (fn := Tryz.f148) (cd := sl3EntryOk.c) rfl Tryz.func148 (by kernel_rfl) xs os hc
abbrev sl1Line.id : FuncId := 149
noncomputable def sl1Line (xs : List AV) (os : List PV.Obj) : Option Res := lim' Y 149 xs os
noncomputable def sl1Line.c : Code := codeOf Tryz.f149
theorem sl1Line.run (xs : List AV) (os : List PV.Obj) (hc : (decide (xs.length ≤ Tryz.f149.ntmps) && decide (os.length + Tryz.f149.ntmps < 1000000000) && !(Tryz.f149.name == "runtime.NumGoroutine")) = true) :
    sl1Line xs os = evK XX 149 (lpL XX 149) sl1Line.c (initSt Tryz.f149 xs os GL) (outE XX 149 Tryz.f149) :=
  lim_eq (Y := Y) (f := 149) (fn := Tryz.f149) (cd := sl1Line.c) rfl Tryz.func149 (by kernel_rfl) xs os hc
abbrev strings_Split.id : FuncId := 150
noncomputable def strings_Split (xs : List AV) (os : List PV.Obj) : Option Res := lim' Y 150 xs os
theorem strings_Split.ext (xs : List AV) (os : List PV.Obj) : strings_Split xs os = extSplit xs os := lim_extE (Y := Y) rfl xs os
abbrev internal_stringslite_CutPrefix.id : FuncId := 151
noncomputable def internal_stringslite_CutPrefix (xs : List AV) (os : List PV.Obj) : Option Res := lim' Y 151 xs os
noncomputable def internal_stringslite_CutPrefix.c : Code := codeOf Tryz.f151
theorem internal_stringslite_CutPrefix.run (xs : List AV) (os : List PV.Obj) (hc : (decide (xs.length ≤ Tryz.f151.ntmps) && decide (os.length + Tryz.f151.ntmps < 1000000000) && !(Tryz.f151.name == "runtime.NumGoroutine")) = true) :
    internal_stringslite_CutPrefix xs os = evK XX 151 (lpL XX 151) internal_stringslite_CutPrefix.c (initSt Tryz.f151 xs os GL) (outE XX 151 Tryz.f151) :=
  lim_eq (Y := Y) (f := 151) (fn := Tryz.f151) (cd := internal_stringslite_CutPrefix.c) rfl Tryz.func151 (by kernel_rfl) xs os hc
abbrev strings_TrimPrefix.id : FuncId := 152
noncomputable def strings_TrimPrefix (xs : List AV) (os : List PV.Obj) : Option Res := lim' Y 152 xs os
theorem strings_TrimPrefix.ext (xs : List AV) (os : List PV.Obj) : strings_TrimPrefix xs os = extTrimPrefix xs os := lim_extE (Y := Y) rfl xs os
abbrev inumRead.id : FuncId := 153
noncomputable def inumRead (xs : List AV) (os : List PV.Obj) : Option Res := lim' Y 153 xs os
noncomputable def inumRead.c : Code := codeOf Tryz.f153
theorem inumRead.run (xs : List AV) (os : List PV.Obj) (hc : (decide (xs.length ≤ Tryz.f153.ntmps) && decide (os.length + Tryz.f153.ntmps < 1000000000) && !(Tryz.f153.name == "runtime.NumGoroutine")) = true) :
    inumRead xs os = evK XX 153 (lpL XX 153) inumRead.c (initSt Tryz.f153 xs os GL) (outE XX 153 Tryz.f153) :=
  lim_eq (Y := Y) (f := 153) (fn := Tryz.f153) (cd := inumRead.c) rfl Tryz.func153 (by kernel_rfl) xs os hc
abbrev idataRead.id : FuncId := 154
noncomputable def idataRead (xs : List AV) (os : List PV.Obj) : Option Res := lim' Y 154 xs os
noncomputable def idataRead.c : Code := codeOf Tryz.f154
theorem idataRead.run (xs : List AV) (os : List PV.Obj) (hc : (decide (xs.length ≤ Tryz.f154.ntmps) && decide (os.length + Tryz.f154.ntmps < 1000000000) && !(Tryz.f154.name == "runtime.NumGoroutine")) = true) :
    idataRead xs os = evK XX 154 (lpL XX 154) idataRead.c (initSt Tryz.f154 xs os GL) (outE XX 154 Tryz.f154) :=
  lim_eq (Y := Y) (f := 154) (fn := Tryz.f154) (cd := idataRead.c) rfl Tryz.func154 (by kernel_rfl) xs os hc
abbrev inamesOk.id : FuncId := 155
noncomputable def inamesOk (xs : List AV) (os : List PV.Obj) : Option Res := lim' Y 155 xs os
noncomputable def inamesOk.c : Code := codeOf Tryz.f155
theorem inamesOk.run (xs : List AV) (os : List PV.Obj) (hc : (decide (xs.length ≤ Tryz.f155.ntmps) && decide (os.length + Tryz.f155.ntmps < 1000000000) && !(Tryz.f155.name == "runtime.NumGoroutine")) = true) :
    inamesOk xs os = evK XX 155 (lpL XX 155) inamesOk.c (initSt Tryz.f155 xs os GL) (outE XX 155 Tryz.f155) :=
  lim_eq (Y := Y) (f := 155) (fn := Tryz.f155) (cd := inamesOk.c) rfl Tryz.func155 (by kernel_rfl) xs os hc
abbrev strings_Builder_WriteString.id : FuncId := 156
noncomputable def strings_Builder_WriteString (xs : List AV) (os : List PV.Obj) : Option Res := lim' Y 156 xs os
theorem strings_Builder_WriteString.ext (xs : List AV) (os : List PV.Obj) : strings_Builder_WriteString xs os = (extBWrite 170 5) xs os := lim_extE (Y := Y) rfl xs os
abbrev ipathText.id : FuncId := 157
noncomputable def ipathText (xs : List AV) (os : List PV.Obj) : Option Res := lim' Y 157 xs os
noncomputable def ipathText.c : Code := codeOf Tryz.f157
theorem ipathText.run (xs : List AV) (os : List PV.Obj) (hc : (decide (xs.length ≤ Tryz.f157.ntmps) && decide (os.length + Tryz.f157.ntmps < 1000000000) && !(Tryz.f157.name == "runtime.NumGoroutine")) = true) :
    ipathText xs os = evK XX 157 (lpL XX 157) ipathText.c (initSt Tryz.f157 xs os GL) (outE XX 157 Tryz.f157) :=
  lim_eq (Y := Y) (f := 157) (fn := Tryz.f157) (cd := ipathText.c) rfl Tryz.func157 (by kernel_rfl) xs os hc
abbrev imodeOk.id : FuncId := 158
noncomputable def imodeOk (xs : List AV) (os : List PV.Obj) : Option Res := lim' Y 158 xs os
noncomputable def imodeOk.c : Code := codeOf Tryz.f158
theorem imodeOk.run (xs : List AV) (os : List PV.Obj) (hc : (decide (xs.length ≤ Tryz.f158.ntmps) && decide (os.length + Tryz.f158.ntmps < 1000000000) && !(Tryz.f158.name == "runtime.NumGoroutine")) = true) :
    imodeOk xs os = evK XX 158 (lpL XX 158) imodeOk.c (initSt Tryz.f158 xs os GL) (outE XX 158 Tryz.f158) :=
  lim_eq (Y := Y) (f := 158) (fn := Tryz.f158) (cd := imodeOk.c) rfl Tryz.func158 (by kernel_rfl) xs os hc
abbrev ientryOk.id : FuncId := 159
noncomputable def ientryOk (xs : List AV) (os : List PV.Obj) : Option Res := lim' Y 159 xs os
noncomputable def ientryOk.c : Code := codeOf Tryz.f159
theorem ientryOk.run (xs : List AV) (os : List PV.Obj) (hc : (decide (xs.length ≤ Tryz.f159.ntmps) && decide (os.length + Tryz.f159.ntmps < 1000000000) && !(Tryz.f159.name == "runtime.NumGoroutine")) = true) :
    ientryOk xs os = evK XX 159 (lpL XX 159) ientryOk.c (initSt Tryz.f159 xs os GL) (outE XX 159 Tryz.f159) :=
  lim_eq (Y := Y) (f := 159) (fn := Tryz.f159) (cd := ientryOk.c) rfl Tryz.func159 (by kernel_rfl) xs os hc
abbrev iTree_line.id : FuncId := 160
noncomputable def iTree_line (xs : List AV) (os : List PV.Obj) : Option Res := lim' Y 160 xs os
noncomputable def iTree_line.c : Code := codeOf Tryz.f160
theorem iTree_line.run (xs : List AV) (os : List PV.Obj) (hc : (decide (xs.length ≤ Tryz.f160.ntmps) && decide (os.length + Tryz.f160.ntmps < 1000000000) && !(Tryz.f160.name == "runtime.NumGoroutine")) = true) :
    iTree_line xs os = evK XX 160 (lpL XX 160) iTree_line.c (initSt Tryz.f160 xs os GL) (outE XX 160 Tryz.f160) :=
  lim_eq (Y := Y) (f := 160) (fn := Tryz.f160) (cd := iTree_line.c) rfl Tryz.func160 (by kernel_rfl) xs os hc
abbrev strings_Builder_Len.id : FuncId := 161
noncomputable def strings_Builder_Len (xs : List AV) (os : List PV.Obj) : Option Res := lim' Y 161 xs os
theorem strings_Builder_Len.ext (xs : List AV) (os : List PV.Obj) : strings_Builder_Len xs os = (extBLen 170 5) xs os := lim_extE (Y := Y) rfl xs os
abbrev strings_Builder_String.id : FuncId := 162
noncomputable def strings_Builder_String (xs : List AV) (os : List PV.Obj) : Option Res := lim' Y 162 xs os
theorem strings_Builder_String.ext (xs : List AV) (os : List PV.Obj) : strings_Builder_String xs os = (extBString 170 5) xs os := lim_extE (Y := Y) rfl xs os
abbrev weqEntry.id : FuncId := 163
noncomputable def weqEntry (xs : List AV) (os : List PV.Obj) : Option Res := lim' Y 163 xs os
noncomputable def weqEntry.c : Code := codeOf Tryz.f163
theorem weqEntry.run (xs : List AV) (os : List PV.Obj) (hc : (decide (xs.length ≤ Tryz.f163.ntmps) && decide (os.length + Tryz.f163.ntmps < 1000000000) && !(Tryz.f163.name == "runtime.NumGoroutine")) = true) :
    weqEntry xs os = evK XX 163 (lpL XX 163) weqEntry.c (initSt Tryz.f163 xs os GL) (outE XX 163 Tryz.f163) :=
  lim_eq (Y := Y) (f := 163) (fn := Tryz.f163) (cd := weqEntry.c) rfl Tryz.func163 (by kernel_rfl) xs os hc
abbrev inameOk.id : FuncId := 187
noncomputable def inameOk (xs : List AV) (os : List PV.Obj) : Option Res := lim' Y 187 xs os
noncomputable def inameOk.c : Code := codeOf Tryz.f187
theorem inameOk.run (xs : List AV) (os : List PV.Obj) (hc : (decide (xs.length ≤ Tryz.f187.ntmps) && decide (os.length + Tryz.f187.ntmps < 1000000000) && !(Tryz.f187.name == "runtime.NumGoroutine")) = true) :
    inameOk xs os = evK XX 187 (lpL XX 187) inameOk.c (initSt Tryz.f187 xs os GL) (outE XX 187 Tryz.f187) :=
  lim_eq (Y := Y) (f := 187) (fn := Tryz.f187) (cd := inameOk.c) rfl Tryz.func187 (by kernel_rfl) xs os hc
abbrev sl1Digit.id : FuncId := 192
noncomputable def sl1Digit (xs : List AV) (os : List PV.Obj) : Option Res := lim' Y 192 xs os
noncomputable def sl1Digit.c : Code := codeOf Tryz.f192
theorem sl1Digit.run (xs : List AV) (os : List PV.Obj) (hc : (decide (xs.length ≤ Tryz.f192.ntmps) && decide (os.length + Tryz.f192.ntmps < 1000000000) && !(Tryz.f192.name == "runtime.NumGoroutine")) = true) :
    sl1Digit xs os = evK XX 192 (lpL XX 192) sl1Digit.c (initSt Tryz.f192 xs os GL) (outE XX 192 Tryz.f192) :=
  lim_eq (Y := Y) (f := 192) (fn := Tryz.f192) (cd := sl1Digit.c) rfl Tryz.func192 (by kernel_rfl) xs os hc
abbrev sl1Dec.id : FuncId := 193
noncomputable def sl1Dec (xs : List AV) (os : List PV.Obj) : Option Res := lim' Y 193 xs os
noncomputable def sl1Dec.c : Code := codeOf Tryz.f193
theorem sl1Dec.run (xs : List AV) (os : List PV.Obj) (hc : (decide (xs.length ≤ Tryz.f193.ntmps) && decide (os.length + Tryz.f193.ntmps < 1000000000) && !(Tryz.f193.name == "runtime.NumGoroutine")) = true) :
    sl1Dec xs os = evK XX 193 (lpL XX 193) sl1Dec.c (initSt Tryz.f193 xs os GL) (outE XX 193 Tryz.f193) :=
  lim_eq (Y := Y) (f := 193) (fn := Tryz.f193) (cd := sl1Dec.c) rfl Tryz.func193 (by kernel_rfl) xs os hc
abbrev sl1Hex.id : FuncId := 194
noncomputable def sl1Hex (xs : List AV) (os : List PV.Obj) : Option Res := lim' Y 194 xs os
noncomputable def sl1Hex.c : Code := codeOf Tryz.f194
theorem sl1Hex.run (xs : List AV) (os : List PV.Obj) (hc : (decide (xs.length ≤ Tryz.f194.ntmps) && decide (os.length + Tryz.f194.ntmps < 1000000000) && !(Tryz.f194.name == "runtime.NumGoroutine")) = true) :
    sl1Hex xs os = evK XX 194 (lpL XX 194) sl1Hex.c (initSt Tryz.f194 xs os GL) (outE XX 194 Tryz.f194) :=
  lim_eq (Y := Y) (f := 194) (fn := Tryz.f194) (cd := sl1Hex.c) rfl Tryz.func194 (by kernel_rfl) xs os hc
abbrev internal_stringslite_HasPrefix.id : FuncId := 196
noncomputable def internal_stringslite_HasPrefix (xs : List AV) (os : List PV.Obj) : Option Res := lim' Y 196 xs os
noncomputable def internal_stringslite_HasPrefix.c : Code := codeOf Tryz.f196
theorem internal_stringslite_HasPrefix.run (xs : List AV) (os : List PV.Obj) (hc : (decide (xs.length ≤ Tryz.f196.ntmps) && decide (os.length + Tryz.f196.ntmps < 1000000000) && !(Tryz.f196.name == "runtime.NumGoroutine")) = true) :
    internal_stringslite_HasPrefix xs os = evK XX 196 (lpL XX 196) internal_stringslite_HasPrefix.c (initSt Tryz.f196 xs os GL) (outE XX 196 Tryz.f196) :=
  lim_eq (Y := Y) (f := 196) (fn := Tryz.f196) (cd := internal_stringslite_HasPrefix.c) rfl Tryz.func196 (by kernel_rfl) xs os hc
abbrev strconv_Atoi.id : FuncId := 198
noncomputable def strconv_Atoi (xs : List AV) (os : List PV.Obj) : Option Res := lim' Y 198 xs os
theorem strconv_Atoi.ext (xs : List AV) (os : List PV.Obj) : strconv_Atoi xs os = extAtoi xs os := lim_extE (Y := Y) rfl xs os
abbrev iunhex.id : FuncId := 199
noncomputable def iunhex (xs : List AV) (os : List PV.Obj) : Option Res := lim' Y 199 xs os
noncomputable def iunhex.c : Code := codeOf Tryz.f199
theorem iunhex.run (xs : List AV) (os : List PV.Obj) (hc : (decide (xs.length ≤ Tryz.f199.ntmps) && decide (os.length + Tryz.f199.ntmps < 1000000000) && !(Tryz.f199.name == "runtime.NumGoroutine")) = true) :
    iunhex xs os = evK XX 199 (lpL XX 199) iunhex.c (initSt Tryz.f199 xs os GL) (outE XX 199 Tryz.f199) :=
  lim_eq (Y := Y) (f := 199) (fn := Tryz.f199) (cd := iunhex.c) rfl Tryz.func199 (by kernel_rfl) xs os hc
abbrev strings_Join.id : FuncId := 201
noncomputable def strings_Join (xs : List AV) (os : List PV.Obj) : Option Res := lim' Y 201 xs os
theorem strings_Join.ext (xs : List AV) (os : List PV.Obj) : strings_Join xs os = extJoin xs os := lim_extE (Y := Y) rfl xs os
abbrev strconv_Itoa.id : FuncId := 202
noncomputable def strconv_Itoa (xs : List AV) (os : List PV.Obj) : Option Res := lim' Y 202 xs os
theorem strconv_Itoa.ext (xs : List AV) (os : List PV.Obj) : strconv_Itoa xs os = extItoa xs os := lim_extE (Y := Y) rfl xs os
abbrev idataText.id : FuncId := 203
noncomputable def idataText (xs : List AV) (os : List PV.Obj) : Option Res := lim' Y 203 xs os
noncomputable def idataText.c : Code := codeOf Tryz.f203
theorem idataText.run (xs : List AV) (os : List PV.Obj) (hc : (decide (xs.length ≤ Tryz.f203.ntmps) && decide (os.length + Tryz.f203.ntmps < 1000000000) && !(Tryz.f203.name == "runtime.NumGoroutine")) = true) :
    idataText xs os = evK XX 203 (lpL XX 203) idataText.c (initSt Tryz.f203 xs os GL) (outE XX 203 Tryz.f203) :=
  lim_eq (Y := Y) (f := 203) (fn := Tryz.f203) (cd := idataText.c) rfl Tryz.func203 (by kernel_rfl) xs os hc
abbrev inibble.id : FuncId := 232
noncomputable def inibble (xs : List AV) (os : List PV.Obj) : Option Res := lim' Y 232 xs os
noncomputable def inibble.c : Code := codeOf Tryz.f232
theorem inibble.run (xs : List AV) (os : List PV.Obj) (hc : (decide (xs.length ≤ Tryz.f232.ntmps) && decide (os.length + Tryz.f232.ntmps < 1000000000) && !(Tryz.f232.name == "runtime.NumGoroutine")) = true) :
    inibble xs os = evK XX 232 (lpL XX 232) inibble.c (initSt Tryz.f232 xs os GL) (outE XX 232 Tryz.f232) :=
  lim_eq (Y := Y) (f := 232) (fn := Tryz.f232) (cd := inibble.c) rfl Tryz.func232 (by kernel_rfl) xs os hc
abbrev ihexOf.id : FuncId := 236
noncomputable def ihexOf (xs : List AV) (os : List PV.Obj) : Option Res := lim' Y 236 xs os
noncomputable def ihexOf.c : Code := codeOf Tryz.f236
theorem ihexOf.run (xs : List AV) (os : List PV.Obj) (hc : (decide (xs.length ≤ Tryz.f236.ntmps) && decide (os.length + Tryz.f236.ntmps < 1000000000) && !(Tryz.f236.name == "runtime.NumGoroutine")) = true) :
    ihexOf xs os = evK XX 236 (lpL XX 236) ihexOf.c (initSt Tryz.f236 xs os GL) (outE XX 236 Tryz.f236) :=
  lim_eq (Y := Y) (f := 236) (fn := Tryz.f236) (cd := ihexOf.c) rfl Tryz.func236 (by kernel_rfl) xs os hc
end Go.PVx
