/- A part of the proof: PvITab. -/
import Derived.Test.YtkaclcgkndbppaaDoorProg
import Derived.Test.YtkaclcgkndbppaaDoorPvC
import Derived.KernelRfl
import Derived.Test.YtkaclcgkndbppaaDoorExt
import Derived.Test.YtkaclcgkndbppaaDoorBld
set_option linter.unusedSimpArgs false
set_option linter.unusedVariables false
/- PRINTED by a tool of this work (wip/pv/tool/gen2.py): the functions' tables: what they take over, what lives at their loops. -/
namespace Go.PVx
open Go.PV Go.Proofs
def sigs : FuncId → Sig
  | 19 => { mu := [0], res := .tup [(false, [.int .i64]), (false, [.any])] }
  | 24 => { mu := [0], res := .one (.int .i64) }
  | 25 => { mu := [0], res := .one (.str) }
  | 38 => { res := .one (.str) }
  | 39 => { res := .one (.str) }
  | 3 => { res := .one (.bool) }
  | 4 => { res := .one (.int .i64) }
  | 5 => { res := .one (.str) }
  | 6 => { res := .agg [.own .deep, .own .deep] }
  | 7 => { res := .one (.str) }
  | 8 => { res := .one (.bool) }
  | 9 => { res := .one (.int .i64) }
  | 10 => { res := .one (.int .i64) }
  | 11 => { res := .one (.bool) }
  | 12 => { res := .one (.str) }
  | 13 => { res := .one (.bool) }
  | 14 => { res := .one (.bool) }
  | 15 => { res := .one (.str) }
  | 16 => { res := .one (.own .deep) }
  | 17 => { res := .one (.own .deep) }
  | 18 => { res := .one (.bool) }
  | 20 => { res := .one (.str) }
  | 21 => { res := .one (.bool) }
  | 22 => { res := .one (.bool) }
  | 23 => { res := .one (.str) }
  | 26 => { res := .one (.bool) }
  | 27 => { res := .one (.bool) }
  | 28 => { res := .one (.int .i64) }
  | 29 => { res := .one (.int .i64) }
  | 30 => { res := .one (.bool) }
  | 31 => { res := .one (.str) }
  | 32 => { res := .one (.str) }
  | 33 => { res := .one (.own .deep) }
  | 34 => { res := .agg [.own .deep, .int .i64, .bool, .int .i64, .str] }
  | 35 => { res := .one (.bool) }
  | 36 => { res := .one (.bool) }
  | 40 => { res := .one (.str) }
  | 41 => { res := .one (.bool) }
  | 42 => { res := .one (.bool) }
  | 46 => { res := .one (.str) }
  | _ => { res := .none }
def lives : FuncId → Nat → List Nat × List Nat
  | 3, 100008 => ([1, 4, 5, 6], [1])
  | 5, 3 => ([1, 3, 4], [1, 2, 3])
  | 5, 9 => ([1, 3, 5], [2, 3])
  | 5, 100013 => ([1, 3, 5, 6, 78], [1])
  | 5, 100014 => ([1, 3, 5, 6], [1])
  | 7, 3 => ([1, 3, 12, 13, 14], [1, 2, 3])
  | 7, 10 => ([3, 29, 30, 31], [2, 3])
  | 7, 100013 => ([3, 7, 8, 29, 30, 31], [1])
  | 7, 100014 => ([3, 7, 29, 30, 31, 69], [1])
  | 7, 100015 => ([3, 7, 29, 30, 31], [1])
  | 9, 5 => ([0, 1, 5], [1, 4])
  | 10, 5 => ([0, 1, 5], [1, 4])
  | 11, 2 => ([0, 3], [0, 2])
  | 12, 3 => ([0, 3, 4], [3])
  | 13, 100002 => ([1, 24], [1])
  | 13, 100003 => ([1], [1])
  | 16, 3 => ([0, 3, 4], [3])
  | 17, 3 => ([0, 3, 4], [3])
  | 18, 2 => ([0, 1, 7, 8, 9], [0, 1, 4])
  | 22, 100004 => ([1, 3], [1])
  | 22, 100005 => ([1, 23], [1])
  | 22, 100006 => ([1], [1])
  | 26, 4 => ([0, 1, 5], [4])
  | 27, 4 => ([0, 1, 5], [4])
  | 28, 5 => ([0, 1, 5], [1, 4])
  | 30, 2 => ([0, 3], [0, 2])
  | 30, 100005 => ([0, 3, 32], [1])
  | 32, 3 => ([0, 3, 4], [3])
  | 33, 3 => ([0, 3, 4], [3])
  | 35, 2 => ([0, 5, 6], [0, 2])
  | 35, 100005 => ([0, 5, 6, 30], [1])
  | 41, 4 => ([0, 1, 5], [4])
  | 42, 100009 => ([2, 3], [1])
  | 46, 3 => ([0, 3, 4], [3])
  | _, _ => ([], [])
def mvs : FuncId → Nat → Nat → Bool
  | 6, 4, 1 => true
  | 34, 7, 1 => true
  | _, _, _ => false
noncomputable def exts : FuncId → Option (List AV → List PV.Obj → Option Res)
  | 19 => some (extBWrite 52 5)
  | 24 => some (extBLen 52 5)
  | 25 => some (extBString 52 5)
  | 38 => some extJoin
  | 39 => some extItoa
  | _ => none
def GL : List (Nat × List D) := [(1, Lib.pow10Tab.map fun z => .v (.int .u64 z))]
noncomputable def Y : Prm := { P := Tryd.prog, sig := sigs, mv := mvs, live := lives, ext := exts, gl := GL, bt := fun t => bif t == 52 then some 5 else none }
noncomputable def XX : Ctx := Y.ctx (lim' Y)
abbrev wFnExactUpperWrite.id : FuncId := 3
noncomputable def wFnExactUpperWrite (xs : List AV) (os : List PV.Obj) : Option Res := lim' Y 3 xs os
noncomputable def wFnExactUpperWrite.c : Code := codeOf Tryd.f3
theorem wFnExactUpperWrite.run (xs : List AV) (os : List PV.Obj) (hc : (decide (xs.length ≤ Tryd.f3.ntmps) && decide (os.length + Tryd.f3.ntmps < 1000000000) && !(Tryd.f3.name == "runtime.NumGoroutine")) = true) :
    wFnExactUpperWrite xs os = evK XX 3 (lpL XX 3) wFnExactUpperWrite.c (initSt Tryd.f3 xs os GL) (outE XX 3 Tryd.f3) :=
  lim_eq (Y := Y) (f := 3) (fn := Tryd.f3) (cd := wFnExactUpperWrite.c) rfl Tryd.func3 (by kernel_rfl) xs os hc
abbrev wszUpper.id : FuncId := 4
noncomputable def wszUpper (xs : List AV) (os : List PV.Obj) : Option Res := lim' Y 4 xs os
noncomputable def wszUpper.c : Code := codeOf Tryd.f4
theorem wszUpper.run (xs : List AV) (os : List PV.Obj) (hc : (decide (xs.length ≤ Tryd.f4.ntmps) && decide (os.length + Tryd.f4.ntmps < 1000000000) && !(Tryd.f4.name == "runtime.NumGoroutine")) = true) :
    wszUpper xs os = evK XX 4 (lpL XX 4) wszUpper.c (initSt Tryd.f4 xs os GL) (outE XX 4 Tryd.f4) :=
  lim_eq (Y := Y) (f := 4) (fn := Tryd.f4) (cd := wszUpper.c) rfl Tryd.func4 (by kernel_rfl) xs os hc
abbrev sUpperWrite.id : FuncId := 5
noncomputable def sUpperWrite (xs : List AV) (os : List PV.Obj) : Option Res := lim' Y 5 xs os
noncomputable def sUpperWrite.c : Code := codeOf Tryd.f5
theorem sUpperWrite.run (xs : List AV) (os : List PV.Obj) (hc : (decide (xs.length ≤ Tryd.f5.ntmps) && decide (os.length + Tryd.f5.ntmps < 1000000000) && !(Tryd.f5.name == "runtime.NumGoroutine")) = true) :
    sUpperWrite xs os = evK XX 5 (lpL XX 5) sUpperWrite.c (initSt Tryd.f5 xs os GL) (outE XX 5 Tryd.f5) :=
  lim_eq (Y := Y) (f := 5) (fn := Tryd.f5) (cd := sUpperWrite.c) rfl Tryd.func5 (by kernel_rfl) xs os hc
abbrev wtoUpper.id : FuncId := 6
noncomputable def wtoUpper (xs : List AV) (os : List PV.Obj) : Option Res := lim' Y 6 xs os
noncomputable def wtoUpper.c : Code := codeOf Tryd.f6
theorem wtoUpper.run (xs : List AV) (os : List PV.Obj) (hc : (decide (xs.length ≤ Tryd.f6.ntmps) && decide (os.length + Tryd.f6.ntmps < 1000000000) && !(Tryd.f6.name == "runtime.NumGoroutine")) = true) :
    wtoUpper xs os = evK XX 6 (lpL XX 6) wtoUpper.c (initSt Tryd.f6 xs os GL) (outE XX 6 Tryd.f6) :=
  lim_eq (Y := Y) (f := 6) (fn := Tryd.f6) (cd := wtoUpper.c) rfl Tryd.func6 (by kernel_rfl) xs os hc
abbrev iUpperWrite.id : FuncId := 7
noncomputable def iUpperWrite (xs : List AV) (os : List PV.Obj) : Option Res := lim' Y 7 xs os
noncomputable def iUpperWrite.c : Code := codeOf Tryd.f7
theorem iUpperWrite.run (xs : List AV) (os : List PV.Obj) (hc : (decide (xs.length ≤ Tryd.f7.ntmps) && decide (os.length + Tryd.f7.ntmps < 1000000000) && !(Tryd.f7.name == "runtime.NumGoroutine")) = true) :
    iUpperWrite xs os = evK XX 7 (lpL XX 7) iUpperWrite.c (initSt Tryd.f7 xs os GL) (outE XX 7 Tryd.f7) :=
  lim_eq (Y := Y) (f := 7) (fn := Tryd.f7) (cd := iUpperWrite.c) rfl Tryd.func7 (by kernel_rfl) xs os hc
abbrev weqUpper.id : FuncId := 8
noncomputable def weqUpper (xs : List AV) (os : List PV.Obj) : Option Res := lim' Y 8 xs os
noncomputable def weqUpper.c : Code := codeOf Tryd.f8
theorem weqUpper.run (xs : List AV) (os : List PV.Obj) (hc : (decide (xs.length ≤ Tryd.f8.ntmps) && decide (os.length + Tryd.f8.ntmps < 1000000000) && !(Tryd.f8.name == "runtime.NumGoroutine")) = true) :
    weqUpper xs os = evK XX 8 (lpL XX 8) weqUpper.c (initSt Tryd.f8 xs os GL) (outE XX 8 Tryd.f8) :=
  lim_eq (Y := Y) (f := 8) (fn := Tryd.f8) (cd := weqUpper.c) rfl Tryd.func8 (by kernel_rfl) xs os hc
abbrev wszStringSS.id : FuncId := 9
noncomputable def wszStringSS (xs : List AV) (os : List PV.Obj) : Option Res := lim' Y 9 xs os
noncomputable def wszStringSS.c : Code := codeOf Tryd.f9
theorem wszStringSS.run (xs : List AV) (os : List PV.Obj) (hc : (decide (xs.length ≤ Tryd.f9.ntmps) && decide (os.length + Tryd.f9.ntmps < 1000000000) && !(Tryd.f9.name == "runtime.NumGoroutine")) = true) :
    wszStringSS xs os = evK XX 9 (lpL XX 9) wszStringSS.c (initSt Tryd.f9 xs os GL) (outE XX 9 Tryd.f9) :=
  lim_eq (Y := Y) (f := 9) (fn := Tryd.f9) (cd := wszStringSS.c) rfl Tryd.func9 (by kernel_rfl) xs os hc
abbrev wszEntryS.id : FuncId := 10
noncomputable def wszEntryS (xs : List AV) (os : List PV.Obj) : Option Res := lim' Y 10 xs os
noncomputable def wszEntryS.c : Code := codeOf Tryd.f10
theorem wszEntryS.run (xs : List AV) (os : List PV.Obj) (hc : (decide (xs.length ≤ Tryd.f10.ntmps) && decide (os.length + Tryd.f10.ntmps < 1000000000) && !(Tryd.f10.name == "runtime.NumGoroutine")) = true) :
    wszEntryS xs os = evK XX 10 (lpL XX 10) wszEntryS.c (initSt Tryd.f10 xs os GL) (outE XX 10 Tryd.f10) :=
  lim_eq (Y := Y) (f := 10) (fn := Tryd.f10) (cd := wszEntryS.c) rfl Tryd.func10 (by kernel_rfl) xs os hc
abbrev sl2PathOk.id : FuncId := 11
noncomputable def sl2PathOk (xs : List AV) (os : List PV.Obj) : Option Res := lim' Y 11 xs os
noncomputable def sl2PathOk.c : Code := codeOf Tryd.f11
theorem sl2PathOk.run (xs : List AV) (os : List PV.Obj) (hc : (decide (xs.length ≤ Tryd.f11.ntmps) && decide (os.length + Tryd.f11.ntmps < 1000000000) && !(Tryd.f11.name == "runtime.NumGoroutine")) = true) :
    sl2PathOk xs os = evK XX 11 (lpL XX 11) sl2PathOk.c (initSt Tryd.f11 xs os GL) (outE XX 11 Tryd.f11) :=
  lim_eq (Y := Y) (f := 11) (fn := Tryd.f11) (cd := sl2PathOk.c) rfl Tryd.func11 (by kernel_rfl) xs os hc
abbrev sl3Name.id : FuncId := 12
noncomputable def sl3Name (xs : List AV) (os : List PV.Obj) : Option Res := lim' Y 12 xs os
noncomputable def sl3Name.c : Code := codeOf Tryd.f12
theorem sl3Name.run (xs : List AV) (os : List PV.Obj) (hc : (decide (xs.length ≤ Tryd.f12.ntmps) && decide (os.length + Tryd.f12.ntmps < 1000000000) && !(Tryd.f12.name == "runtime.NumGoroutine")) = true) :
    sl3Name xs os = evK XX 12 (lpL XX 12) sl3Name.c (initSt Tryd.f12 xs os GL) (outE XX 12 Tryd.f12) :=
  lim_eq (Y := Y) (f := 12) (fn := Tryd.f12) (cd := sl3Name.c) rfl Tryd.func12 (by kernel_rfl) xs os hc
abbrev sl3EntryOk.id : FuncId := 13
noncomputable def sl3EntryOk (xs : List AV) (os : List PV.Obj) : Option Res := lim' Y 13 xs os
noncomputable def sl3EntryOk.c : Code := codeOf Tryd.f13
theorem sl3EntryOk.run (xs : List AV) (os : List PV.Obj) (hc : (decide (xs.length ≤ Tryd.f13.ntmps) && decide (os.length + Tryd.f13.ntmps < 1000000000) && !(Tryd.f13.name == "runtime.NumGoroutine")) = true) :
    sl3EntryOk xs os = evK XX 13 (lpL XX 13) sl3EntryOk.c (initSt Tryd.f13 xs os GL) (outE XX 13 Tryd.f13) :=
  lim_eq (Y := Y) (f := 13) (fn := Tryd.f13) (cd := sl3EntryOk.c) rfl Tryd.func13 (by kernel_rfl) xs os hc
abbrev sl1In.id : FuncId := 14
noncomputable def sl1In (xs : List AV) (os : List PV.Obj) : Option Res := lim' Y 14 xs os
noncomputable def sl1In.c : Code := codeOf Tryd.f14
theorem sl1In.run (xs : List AV) (os : List PV.Obj) (hc : (decide (xs.length ≤ Tryd.f14.ntmps) && decide (os.length + Tryd.f14.ntmps < 1000000000) && !(Tryd.f14.name == "runtime.NumGoroutine")) = true) :
    sl1In xs os = evK XX 14 (lpL XX 14) sl1In.c (initSt Tryd.f14 xs os GL) (outE XX 14 Tryd.f14) :=
  lim_eq (Y := Y) (f := 14) (fn := Tryd.f14) (cd := sl1In.c) rfl Tryd.func14 (by kernel_rfl) xs os hc
abbrev sl1Line.id : FuncId := 15
noncomputable def sl1Line (xs : List AV) (os : List PV.Obj) : Option Res := lim' Y 15 xs os
noncomputable def sl1Line.c : Code := codeOf Tryd.f15
theorem sl1Line.run (xs : List AV) (os : List PV.Obj) (hc : (decide (xs.length ≤ Tryd.f15.ntmps) && decide (os.length + Tryd.f15.ntmps < 1000000000) && !(Tryd.f15.name == "runtime.NumGoroutine")) = true) :
    sl1Line xs os = evK XX 15 (lpL XX 15) sl1Line.c (initSt Tryd.f15 xs os GL) (outE XX 15 Tryd.f15) :=
  lim_eq (Y := Y) (f := 15) (fn := Tryd.f15) (cd := sl1Line.c) rfl Tryd.func15 (by kernel_rfl) xs os hc
abbrev wtoStringSS.id : FuncId := 16
noncomputable def wtoStringSS (xs : List AV) (os : List PV.Obj) : Option Res := lim' Y 16 xs os
noncomputable def wtoStringSS.c : Code := codeOf Tryd.f16
theorem wtoStringSS.run (xs : List AV) (os : List PV.Obj) (hc : (decide (xs.length ≤ Tryd.f16.ntmps) && decide (os.length + Tryd.f16.ntmps < 1000000000) && !(Tryd.f16.name == "runtime.NumGoroutine")) = true) :
    wtoStringSS xs os = evK XX 16 (lpL XX 16) wtoStringSS.c (initSt Tryd.f16 xs os GL) (outE XX 16 Tryd.f16) :=
  lim_eq (Y := Y) (f := 16) (fn := Tryd.f16) (cd := wtoStringSS.c) rfl Tryd.func16 (by kernel_rfl) xs os hc
abbrev wtoEntryS.id : FuncId := 17
noncomputable def wtoEntryS (xs : List AV) (os : List PV.Obj) : Option Res := lim' Y 17 xs os
noncomputable def wtoEntryS.c : Code := codeOf Tryd.f17
theorem wtoEntryS.run (xs : List AV) (os : List PV.Obj) (hc : (decide (xs.length ≤ Tryd.f17.ntmps) && decide (os.length + Tryd.f17.ntmps < 1000000000) && !(Tryd.f17.name == "runtime.NumGoroutine")) = true) :
    wtoEntryS xs os = evK XX 17 (lpL XX 17) wtoEntryS.c (initSt Tryd.f17 xs os GL) (outE XX 17 Tryd.f17) :=
  lim_eq (Y := Y) (f := 17) (fn := Tryd.f17) (cd := wtoEntryS.c) rfl Tryd.func17 (by kernel_rfl) xs os hc
abbrev inamesOk.id : FuncId := 18
noncomputable def inamesOk (xs : List AV) (os : List PV.Obj) : Option Res := lim' Y 18 xs os
noncomputable def inamesOk.c : Code := codeOf Tryd.f18
theorem inamesOk.run (xs : List AV) (os : List PV.Obj) (hc : (decide (xs.length ≤ Tryd.f18.ntmps) && decide (os.length + Tryd.f18.ntmps < 1000000000) && !(Tryd.f18.name == "runtime.NumGoroutine")) = true) :
    inamesOk xs os = evK XX 18 (lpL XX 18) inamesOk.c (initSt Tryd.f18 xs os GL) (outE XX 18 Tryd.f18) :=
  lim_eq (Y := Y) (f := 18) (fn := Tryd.f18) (cd := inamesOk.c) rfl Tryd.func18 (by kernel_rfl) xs os hc
abbrev strings_Builder_WriteString.id : FuncId := 19
noncomputable def strings_Builder_WriteString (xs : List AV) (os : List PV.Obj) : Option Res := lim' Y 19 xs os
theorem strings_Builder_WriteString.ext (xs : List AV) (os : List PV.Obj) : strings_Builder_WriteString xs os = (extBWrite 52 5) xs os := lim_extE (Y := Y) rfl xs os
abbrev ipathText.id : FuncId := 20
noncomputable def ipathText (xs : List AV) (os : List PV.Obj) : Option Res := lim' Y 20 xs os
noncomputable def ipathText.c : Code := codeOf Tryd.f20
theorem ipathText.run (xs : List AV) (os : List PV.Obj) (hc : (decide (xs.length ≤ Tryd.f20.ntmps) && decide (os.length + Tryd.f20.ntmps < 1000000000) && !(Tryd.f20.name == "runtime.NumGoroutine")) = true) :
    ipathText xs os = evK XX 20 (lpL XX 20) ipathText.c (initSt Tryd.f20 xs os GL) (outE XX 20 Tryd.f20) :=
  lim_eq (Y := Y) (f := 20) (fn := Tryd.f20) (cd := ipathText.c) rfl Tryd.func20 (by kernel_rfl) xs os hc
abbrev imodeOk.id : FuncId := 21
noncomputable def imodeOk (xs : List AV) (os : List PV.Obj) : Option Res := lim' Y 21 xs os
noncomputable def imodeOk.c : Code := codeOf Tryd.f21
theorem imodeOk.run (xs : List AV) (os : List PV.Obj) (hc : (decide (xs.length ≤ Tryd.f21.ntmps) && decide (os.length + Tryd.f21.ntmps < 1000000000) && !(Tryd.f21.name == "runtime.NumGoroutine")) = true) :
    imodeOk xs os = evK XX 21 (lpL XX 21) imodeOk.c (initSt Tryd.f21 xs os GL) (outE XX 21 Tryd.f21) :=
  lim_eq (Y := Y) (f := 21) (fn := Tryd.f21) (cd := imodeOk.c) rfl Tryd.func21 (by kernel_rfl) xs os hc
abbrev ientryOk.id : FuncId := 22
noncomputable def ientryOk (xs : List AV) (os : List PV.Obj) : Option Res := lim' Y 22 xs os
noncomputable def ientryOk.c : Code := codeOf Tryd.f22
theorem ientryOk.run (xs : List AV) (os : List PV.Obj) (hc : (decide (xs.length ≤ Tryd.f22.ntmps) && decide (os.length + Tryd.f22.ntmps < 1000000000) && !(Tryd.f22.name == "runtime.NumGoroutine")) = true) :
    ientryOk xs os = evK XX 22 (lpL XX 22) ientryOk.c (initSt Tryd.f22 xs os GL) (outE XX 22 Tryd.f22) :=
  lim_eq (Y := Y) (f := 22) (fn := Tryd.f22) (cd := ientryOk.c) rfl Tryd.func22 (by kernel_rfl) xs os hc
abbrev iTree_line.id : FuncId := 23
noncomputable def iTree_line (xs : List AV) (os : List PV.Obj) : Option Res := lim' Y 23 xs os
noncomputable def iTree_line.c : Code := codeOf Tryd.f23
theorem iTree_line.run (xs : List AV) (os : List PV.Obj) (hc : (decide (xs.length ≤ Tryd.f23.ntmps) && decide (os.length + Tryd.f23.ntmps < 1000000000) && !(Tryd.f23.name == "runtime.NumGoroutine")) = true) :
    iTree_line xs os = evK XX 23 (lpL XX 23) iTree_line.c (initSt Tryd.f23 xs os GL) (outE XX 23 Tryd.f23) :=
  lim_eq (Y := Y) (f := 23) (fn := Tryd.f23) (cd := iTree_line.c) rfl Tryd.func23 (by kernel_rfl) xs os hc
abbrev strings_Builder_Len.id : FuncId := 24
noncomputable def strings_Builder_Len (xs : List AV) (os : List PV.Obj) : Option Res := lim' Y 24 xs os
theorem strings_Builder_Len.ext (xs : List AV) (os : List PV.Obj) : strings_Builder_Len xs os = (extBLen 52 5) xs os := lim_extE (Y := Y) rfl xs os
abbrev strings_Builder_String.id : FuncId := 25
noncomputable def strings_Builder_String (xs : List AV) (os : List PV.Obj) : Option Res := lim' Y 25 xs os
theorem strings_Builder_String.ext (xs : List AV) (os : List PV.Obj) : strings_Builder_String xs os = (extBString 52 5) xs os := lim_extE (Y := Y) rfl xs os
abbrev weqStringSS.id : FuncId := 26
noncomputable def weqStringSS (xs : List AV) (os : List PV.Obj) : Option Res := lim' Y 26 xs os
noncomputable def weqStringSS.c : Code := codeOf Tryd.f26
theorem weqStringSS.run (xs : List AV) (os : List PV.Obj) (hc : (decide (xs.length ≤ Tryd.f26.ntmps) && decide (os.length + Tryd.f26.ntmps < 1000000000) && !(Tryd.f26.name == "runtime.NumGoroutine")) = true) :
    weqStringSS xs os = evK XX 26 (lpL XX 26) weqStringSS.c (initSt Tryd.f26 xs os GL) (outE XX 26 Tryd.f26) :=
  lim_eq (Y := Y) (f := 26) (fn := Tryd.f26) (cd := weqStringSS.c) rfl Tryd.func26 (by kernel_rfl) xs os hc
abbrev weqEntryS.id : FuncId := 27
noncomputable def weqEntryS (xs : List AV) (os : List PV.Obj) : Option Res := lim' Y 27 xs os
noncomputable def weqEntryS.c : Code := codeOf Tryd.f27
theorem weqEntryS.run (xs : List AV) (os : List PV.Obj) (hc : (decide (xs.length ≤ Tryd.f27.ntmps) && decide (os.length + Tryd.f27.ntmps < 1000000000) && !(Tryd.f27.name == "runtime.NumGoroutine")) = true) :
    weqEntryS xs os = evK XX 27 (lpL XX 27) weqEntryS.c (initSt Tryd.f27 xs os GL) (outE XX 27 Tryd.f27) :=
  lim_eq (Y := Y) (f := 27) (fn := Tryd.f27) (cd := weqEntryS.c) rfl Tryd.func27 (by kernel_rfl) xs os hc
abbrev wszStringS.id : FuncId := 28
noncomputable def wszStringS (xs : List AV) (os : List PV.Obj) : Option Res := lim' Y 28 xs os
noncomputable def wszStringS.c : Code := codeOf Tryd.f28
theorem wszStringS.run (xs : List AV) (os : List PV.Obj) (hc : (decide (xs.length ≤ Tryd.f28.ntmps) && decide (os.length + Tryd.f28.ntmps < 1000000000) && !(Tryd.f28.name == "runtime.NumGoroutine")) = true) :
    wszStringS xs os = evK XX 28 (lpL XX 28) wszStringS.c (initSt Tryd.f28 xs os GL) (outE XX 28 Tryd.f28) :=
  lim_eq (Y := Y) (f := 28) (fn := Tryd.f28) (cd := wszStringS.c) rfl Tryd.func28 (by kernel_rfl) xs os hc
abbrev wszEntry.id : FuncId := 29
noncomputable def wszEntry (xs : List AV) (os : List PV.Obj) : Option Res := lim' Y 29 xs os
noncomputable def wszEntry.c : Code := codeOf Tryd.f29
theorem wszEntry.run (xs : List AV) (os : List PV.Obj) (hc : (decide (xs.length ≤ Tryd.f29.ntmps) && decide (os.length + Tryd.f29.ntmps < 1000000000) && !(Tryd.f29.name == "runtime.NumGoroutine")) = true) :
    wszEntry xs os = evK XX 29 (lpL XX 29) wszEntry.c (initSt Tryd.f29 xs os GL) (outE XX 29 Tryd.f29) :=
  lim_eq (Y := Y) (f := 29) (fn := Tryd.f29) (cd := wszEntry.c) rfl Tryd.func29 (by kernel_rfl) xs os hc
abbrev sl1NameOk.id : FuncId := 30
noncomputable def sl1NameOk (xs : List AV) (os : List PV.Obj) : Option Res := lim' Y 30 xs os
noncomputable def sl1NameOk.c : Code := codeOf Tryd.f30
theorem sl1NameOk.run (xs : List AV) (os : List PV.Obj) (hc : (decide (xs.length ≤ Tryd.f30.ntmps) && decide (os.length + Tryd.f30.ntmps < 1000000000) && !(Tryd.f30.name == "runtime.NumGoroutine")) = true) :
    sl1NameOk xs os = evK XX 30 (lpL XX 30) sl1NameOk.c (initSt Tryd.f30 xs os GL) (outE XX 30 Tryd.f30) :=
  lim_eq (Y := Y) (f := 30) (fn := Tryd.f30) (cd := sl1NameOk.c) rfl Tryd.func30 (by kernel_rfl) xs os hc
abbrev sl1Dec.id : FuncId := 31
noncomputable def sl1Dec (xs : List AV) (os : List PV.Obj) : Option Res := lim' Y 31 xs os
noncomputable def sl1Dec.c : Code := codeOf Tryd.f31
theorem sl1Dec.run (xs : List AV) (os : List PV.Obj) (hc : (decide (xs.length ≤ Tryd.f31.ntmps) && decide (os.length + Tryd.f31.ntmps < 1000000000) && !(Tryd.f31.name == "runtime.NumGoroutine")) = true) :
    sl1Dec xs os = evK XX 31 (lpL XX 31) sl1Dec.c (initSt Tryd.f31 xs os GL) (outE XX 31 Tryd.f31) :=
  lim_eq (Y := Y) (f := 31) (fn := Tryd.f31) (cd := sl1Dec.c) rfl Tryd.func31 (by kernel_rfl) xs os hc
abbrev sl1Hex.id : FuncId := 32
noncomputable def sl1Hex (xs : List AV) (os : List PV.Obj) : Option Res := lim' Y 32 xs os
noncomputable def sl1Hex.c : Code := codeOf Tryd.f32
theorem sl1Hex.run (xs : List AV) (os : List PV.Obj) (hc : (decide (xs.length ≤ Tryd.f32.ntmps) && decide (os.length + Tryd.f32.ntmps < 1000000000) && !(Tryd.f32.name == "runtime.NumGoroutine")) = true) :
    sl1Hex xs os = evK XX 32 (lpL XX 32) sl1Hex.c (initSt Tryd.f32 xs os GL) (outE XX 32 Tryd.f32) :=
  lim_eq (Y := Y) (f := 32) (fn := Tryd.f32) (cd := sl1Hex.c) rfl Tryd.func32 (by kernel_rfl) xs os hc
abbrev wtoStringS.id : FuncId := 33
noncomputable def wtoStringS (xs : List AV) (os : List PV.Obj) : Option Res := lim' Y 33 xs os
noncomputable def wtoStringS.c : Code := codeOf Tryd.f33
theorem wtoStringS.run (xs : List AV) (os : List PV.Obj) (hc : (decide (xs.length ≤ Tryd.f33.ntmps) && decide (os.length + Tryd.f33.ntmps < 1000000000) && !(Tryd.f33.name == "runtime.NumGoroutine")) = true) :
    wtoStringS xs os = evK XX 33 (lpL XX 33) wtoStringS.c (initSt Tryd.f33 xs os GL) (outE XX 33 Tryd.f33) :=
  lim_eq (Y := Y) (f := 33) (fn := Tryd.f33) (cd := wtoStringS.c) rfl Tryd.func33 (by kernel_rfl) xs os hc
abbrev wtoEntry.id : FuncId := 34
noncomputable def wtoEntry (xs : List AV) (os : List PV.Obj) : Option Res := lim' Y 34 xs os
noncomputable def wtoEntry.c : Code := codeOf Tryd.f34
theorem wtoEntry.run (xs : List AV) (os : List PV.Obj) (hc : (decide (xs.length ≤ Tryd.f34.ntmps) && decide (os.length + Tryd.f34.ntmps < 1000000000) && !(Tryd.f34.name == "runtime.NumGoroutine")) = true) :
    wtoEntry xs os = evK XX 34 (lpL XX 34) wtoEntry.c (initSt Tryd.f34 xs os GL) (outE XX 34 Tryd.f34) :=
  lim_eq (Y := Y) (f := 34) (fn := Tryd.f34) (cd := wtoEntry.c) rfl Tryd.func34 (by kernel_rfl) xs os hc
abbrev inameOk.id : FuncId := 35
noncomputable def inameOk (xs : List AV) (os : List PV.Obj) : Option Res := lim' Y 35 xs os
noncomputable def inameOk.c : Code := codeOf Tryd.f35
theorem inameOk.run (xs : List AV) (os : List PV.Obj) (hc : (decide (xs.length ≤ Tryd.f35.ntmps) && decide (os.length + Tryd.f35.ntmps < 1000000000) && !(Tryd.f35.name == "runtime.NumGoroutine")) = true) :
    inameOk xs os = evK XX 35 (lpL XX 35) inameOk.c (initSt Tryd.f35 xs os GL) (outE XX 35 Tryd.f35) :=
  lim_eq (Y := Y) (f := 35) (fn := Tryd.f35) (cd := inameOk.c) rfl Tryd.func35 (by kernel_rfl) xs os hc
abbrev iwithin.id : FuncId := 36
noncomputable def iwithin (xs : List AV) (os : List PV.Obj) : Option Res := lim' Y 36 xs os
noncomputable def iwithin.c : Code := codeOf Tryd.f36
theorem iwithin.run (xs : List AV) (os : List PV.Obj) (hc : (decide (xs.length ≤ Tryd.f36.ntmps) && decide (os.length + Tryd.f36.ntmps < 1000000000) && !(Tryd.f36.name == "runtime.NumGoroutine")) = true) :
    iwithin xs os = evK XX 36 (lpL XX 36) iwithin.c (initSt Tryd.f36 xs os GL) (outE XX 36 Tryd.f36) :=
  lim_eq (Y := Y) (f := 36) (fn := Tryd.f36) (cd := iwithin.c) rfl Tryd.func36 (by kernel_rfl) xs os hc
abbrev strings_Join.id : FuncId := 38
noncomputable def strings_Join (xs : List AV) (os : List PV.Obj) : Option Res := lim' Y 38 xs os
theorem strings_Join.ext (xs : List AV) (os : List PV.Obj) : strings_Join xs os = extJoin xs os := lim_extE (Y := Y) rfl xs os
abbrev strconv_Itoa.id : FuncId := 39
noncomputable def strconv_Itoa (xs : List AV) (os : List PV.Obj) : Option Res := lim' Y 39 xs os
theorem strconv_Itoa.ext (xs : List AV) (os : List PV.Obj) : strconv_Itoa xs os = extItoa xs os := lim_extE (Y := Y) rfl xs os
abbrev idataText.id : FuncId := 40
noncomputable def idataText (xs : List AV) (os : List PV.Obj) : Option Res := lim' Y 40 xs os
noncomputable def idataText.c : Code := codeOf Tryd.f40
theorem idataText.run (xs : List AV) (os : List PV.Obj) (hc : (decide (xs.length ≤ Tryd.f40.ntmps) && decide (os.length + Tryd.f40.ntmps < 1000000000) && !(Tryd.f40.name == "runtime.NumGoroutine")) = true) :
    idataText xs os = evK XX 40 (lpL XX 40) idataText.c (initSt Tryd.f40 xs os GL) (outE XX 40 Tryd.f40) :=
  lim_eq (Y := Y) (f := 40) (fn := Tryd.f40) (cd := idataText.c) rfl Tryd.func40 (by kernel_rfl) xs os hc
abbrev weqStringS.id : FuncId := 41
noncomputable def weqStringS (xs : List AV) (os : List PV.Obj) : Option Res := lim' Y 41 xs os
noncomputable def weqStringS.c : Code := codeOf Tryd.f41
theorem weqStringS.run (xs : List AV) (os : List PV.Obj) (hc : (decide (xs.length ≤ Tryd.f41.ntmps) && decide (os.length + Tryd.f41.ntmps < 1000000000) && !(Tryd.f41.name == "runtime.NumGoroutine")) = true) :
    weqStringS xs os = evK XX 41 (lpL XX 41) weqStringS.c (initSt Tryd.f41 xs os GL) (outE XX 41 Tryd.f41) :=
  lim_eq (Y := Y) (f := 41) (fn := Tryd.f41) (cd := weqStringS.c) rfl Tryd.func41 (by kernel_rfl) xs os hc
abbrev weqEntry.id : FuncId := 42
noncomputable def weqEntry (xs : List AV) (os : List PV.Obj) : Option Res := lim' Y 42 xs os
noncomputable def weqEntry.c : Code := codeOf Tryd.f42
theorem weqEntry.run (xs : List AV) (os : List PV.Obj) (hc : (decide (xs.length ≤ Tryd.f42.ntmps) && decide (os.length + Tryd.f42.ntmps < 1000000000) && !(Tryd.f42.name == "runtime.NumGoroutine")) = true) :
    weqEntry xs os = evK XX 42 (lpL XX 42) weqEntry.c (initSt Tryd.f42 xs os GL) (outE XX 42 Tryd.f42) :=
  lim_eq (Y := Y) (f := 42) (fn := Tryd.f42) (cd := weqEntry.c) rfl Tryd.func42 (by kernel_rfl) xs os hc
abbrev ihexOf.id : FuncId := 46
noncomputable def ihexOf (xs : List AV) (os : List PV.Obj) : Option Res := lim' Y 46 xs os
noncomputable def ihexOf.c : Code := codeOf Tryd.f46
theorem ihexOf.run (xs : List AV) (os : List PV.Obj) (hc : (decide (xs.length ≤ Tryd.f46.ntmps) && decide (os.length + Tryd.f46.ntmps < 1000000000) && !(Tryd.f46.name == "runtime.NumGoroutine")) = true) :
    ihexOf xs os = evK XX 46 (lpL XX 46) ihexOf.c (initSt Tryd.f46 xs os GL) (outE XX 46 Tryd.f46) :=
  lim_eq (Y := Y) (f := 46) (fn := Tryd.f46) (cd := ihexOf.c) rfl Tryd.func46 (by kernel_rfl) xs os hc
end Go.PVx
