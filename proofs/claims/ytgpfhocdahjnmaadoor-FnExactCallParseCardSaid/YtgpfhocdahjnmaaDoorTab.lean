/- A part of the proof: PvHTab. -/
import Derived.Test.YtgpfhocdahjnmaaDoorProg
import Derived.Test.YtgpfhocdahjnmaaDoorPvC
import Derived.KernelRfl
import Derived.Test.YtgpfhocdahjnmaaDoorExt
set_option linter.unusedSimpArgs false
set_option linter.unusedVariables false
/- PRINTED by a tool of this work (wip/pv/tool/gen2.py): the functions' tables: what they take over, what lives at their loops. -/
namespace Go.PVx
open Go.PV Go.Proofs
def sigs : FuncId → Sig
  | 32 => { res := .one (.own .deep) }
  | 46 => { res := .tup [(false, [.int .i64]), (false, [.any])] }
  | 47 => { res := .one (.str) }
  | 49 => { res := .one (.str) }
  | 69 => { res := .one (.str) }
  | 4 => { res := .one (.bool) }
  | 10 => { res := .tup [(true, [.int .i64, .sh, .sh, .int .i64, .str]), (false, [.bool])] }
  | 11 => { res := .tup [(true, [.int .i64, .own .deep, .own .deep, .int .i64, .str]), (false, [.bool])] }
  | 12 => { res := .one (.bool) }
  | 13 => { mu := [0], res := .one (.int .i64) }
  | 14 => { res := .one (.int .i64) }
  | 15 => { res := .one (.own .deep) }
  | 16 => { res := .one (.int .i64) }
  | 22 => { res := .one (.int .i64) }
  | 23 => { res := .one (.own .deep) }
  | 28 => { res := .one (.own .deep) }
  | 29 => { res := .tup [(false, [.sh]), (false, [.bool])] }
  | 30 => { res := .tup [(false, [.str]), (false, [.bool])] }
  | 31 => { res := .one (.str) }
  | 33 => { res := .one (.int .i64) }
  | 34 => { res := .one (.str) }
  | 35 => { res := .one (.str) }
  | 36 => { res := .one (.bool) }
  | 37 => { mu := [0], res := .one (.int .i64) }
  | 38 => { res := .one (.int .i64) }
  | 39 => { res := .one (.bool) }
  | 40 => { res := .one (.bool) }
  | 41 => { res := .one (.bool) }
  | 43 => { res := .one (.str) }
  | 44 => { res := .one (.str) }
  | 50 => { res := .one (.str) }
  | 52 => { res := .one (.int .i64) }
  | 53 => { res := .one (.bool) }
  | 54 => { res := .one (.str) }
  | 56 => { res := .one (.str) }
  | 57 => { res := .one (.bool) }
  | 58 => { res := .one (.str) }
  | 59 => { res := .one (.str) }
  | 60 => { res := .one (.bool) }
  | 65 => { res := .one (.bool) }
  | 67 => { res := .one (.bool) }
  | 73 => { res := .one (.int .i64) }
  | 74 => { res := .one (.bool) }
  | 75 => { res := .one (.str) }
  | 86 => { res := .one (.bool) }
  | _ => { res := .none }
def lives : FuncId → Nat → List Nat × List Nat
  | 4, 100006 => ([0, 3, 4, 5, 32], [1])
  | 4, 100007 => ([0, 3, 4, 5], [1])
  | 4, 100016 => ([3, 4, 5, 7, 9, 10], [1])
  | 4, 100017 => ([5, 7, 57], [1])
  | 4, 100018 => ([5, 7], [1])
  | 10, 4 => ([0, 2, 4, 5, 6], [0, 2, 4, 5])
  | 10, 100009 => ([0, 2, 4, 5, 35], [1])
  | 10, 100010 => ([0, 2, 4, 5], [1])
  | 10, 100015 => ([0, 2, 4, 5, 8], [1])
  | 10, 100016 => ([0, 2, 4, 5, 8, 63], [1])
  | 10, 100021 => ([0, 2, 5, 8], [1])
  | 10, 100022 => ([2, 5, 94], [1])
  | 11, 100005 => ([0, 2, 4, 5, 21, 22], [1])
  | 11, 100010 => ([0, 2, 4, 5, 29], [1])
  | 11, 100013 => ([0, 2, 5], [1])
  | 11, 100014 => ([2, 5, 54], [1])
  | 12, 100008 => ([2, 3, 26], [1])
  | 15, 4 => ([0, 1, 5, 6, 7], [0, 5, 6])
  | 16, 5 => ([0, 3, 4], [2, 3])
  | 16, 100002 => ([0, 18], [1])
  | 16, 100003 => ([0], [1])
  | 16, 100008 => ([0, 3, 4, 34], [1])
  | 16, 100009 => ([0, 3, 4], [1])
  | 29, 100004 => ([0, 14], [1])
  | 29, 100005 => ([0], [1])
  | 30, 7 => ([0, 4, 5], [2, 3, 4])
  | 30, 100005 => ([0, 4, 18], [1])
  | 30, 100006 => ([0, 4], [1])
  | 30, 100012 => ([0, 4, 5, 6, 7, 39], [1])
  | 30, 100013 => ([0, 4, 5, 6, 7], [1])
  | 31, 100002 => ([1, 17], [1])
  | 31, 100003 => ([1], [1])
  | 31, 100008 => ([1, 3, 29, 30], [1])
  | 33, 2 => ([0, 1, 7, 8], [4])
  | 35, 100007 => ([1, 3, 4, 22, 23], [1])
  | 36, 4 => ([0, 1, 5], [4])
  | 37, 2 => ([0, 1, 5], [1])
  | 38, 2 => ([0, 1, 5], [1, 4])
  | 41, 2 => ([0, 3], [0, 2])
  | 44, 3 => ([0, 3, 4], [3])
  | 52, 100002 => ([0, 3], [1])
  | 52, 100004 => ([0, 13], [1])
  | 53, 100004 => ([1, 4, 5], [1])
  | 53, 100007 => ([1, 4, 16], [1])
  | 54, 3 => ([0, 3, 4], [3])
  | 56, 3 => ([0, 3, 4], [3])
  | 56, 100005 => ([0, 3, 4], [1])
  | 57, 100002 => ([1, 12], [1])
  | 57, 100003 => ([1], [1])
  | 57, 100006 => ([1, 14, 15], [1])
  | 57, 100009 => ([1, 14, 21], [1])
  | 59, 4 => ([0, 3], [3])
  | 60, 2 => ([0, 3], [0, 2])
  | 60, 100005 => ([0, 3, 32], [1])
  | 65, 2 => ([0, 1, 7, 8, 9], [0, 1, 4])
  | 73, 100002 => ([0, 3], [1])
  | 73, 100004 => ([0, 13], [1])
  | 73, 100006 => ([0, 24], [1])
  | 75, 3 => ([0, 3, 4], [3])
  | 86, 2 => ([0, 5, 6], [0, 2])
  | 86, 100005 => ([0, 5, 6, 30], [1])
  | _, _ => ([], [])
def mvs : FuncId → Nat → Nat → Bool
  | 10, 9, 1 => true
  | 10, 22, 1 => true
  | 10, 23, 1 => true
  | 11, 14, 1 => true
  | 11, 15, 1 => true
  | 13, 0, 0 => true
  | _, _, _ => false
noncomputable def exts : FuncId → Option (List AV → List PV.Obj → Option Res)
  | 32 => some extSplit
  | 46 => some extAtoi
  | 47 => some extTrimPrefix
  | 49 => some extItoa
  | 69 => some extJoin
  | _ => none
def GL : List (Nat × List D) := [(0, [.s [[.v (.string ⟨#[]⟩)], [.v (.string ⟨#[109, 107, 100, 105, 114]⟩)], [.v (.string ⟨#[119, 114, 105, 116, 101]⟩)], [.v (.string ⟨#[116, 114, 117, 110, 99, 97, 116, 101]⟩)], [.v (.string ⟨#[114, 101, 109, 111, 118, 101]⟩)], [.v (.string ⟨#[114, 101, 110, 97, 109, 101]⟩)], [.v (.string ⟨#[99, 104, 109, 111, 100]⟩)]]]), (1, [.u false]), (2, [.u true]), (3, [.u true]), (4, Lib.pow10Tab.map fun z => .v (.int .u64 z))]
noncomputable def Y : Prm := { P := Tryd.prog, sig := sigs, mv := mvs, live := lives, ext := exts, gl := GL }
noncomputable def XX : Ctx := Y.ctx (lim' Y)
abbrev wFnExactCallParse.id : FuncId := 4
noncomputable def wFnExactCallParse (xs : List AV) (os : List PV.Obj) : Option Res := lim' Y 4 xs os
noncomputable def wFnExactCallParse.c : Code := codeOf Tryd.f4
theorem wFnExactCallParse.run (xs : List AV) (os : List PV.Obj) (hc : (decide (xs.length ≤ Tryd.f4.ntmps) && decide (os.length + Tryd.f4.ntmps < 1000000000) && !(Tryd.f4.name == "runtime.NumGoroutine")) = true) :
    wFnExactCallParse xs os = evK XX 4 (lpL XX 4) wFnExactCallParse.c (initSt Tryd.f4 xs os GL) (outE XX 4 Tryd.f4) :=
  lim_eq (Y := Y) (f := 4) (fn := Tryd.f4) (cd := wFnExactCallParse.c) rfl Tryd.func4 (by kernel_rfl) xs os hc
abbrev sCallParse.id : FuncId := 10
noncomputable def sCallParse (xs : List AV) (os : List PV.Obj) : Option Res := lim' Y 10 xs os
noncomputable def sCallParse.c : Code := codeOf Tryd.f10
theorem sCallParse.run (xs : List AV) (os : List PV.Obj) (hc : (decide (xs.length ≤ Tryd.f10.ntmps) && decide (os.length + Tryd.f10.ntmps < 1000000000) && !(Tryd.f10.name == "runtime.NumGoroutine")) = true) :
    sCallParse xs os = evK XX 10 (lpL XX 10) sCallParse.c (initSt Tryd.f10 xs os GL) (outE XX 10 Tryd.f10) :=
  lim_eq (Y := Y) (f := 10) (fn := Tryd.f10) (cd := sCallParse.c) rfl Tryd.func10 (by kernel_rfl) xs os hc
abbrev iCallParse.id : FuncId := 11
noncomputable def iCallParse (xs : List AV) (os : List PV.Obj) : Option Res := lim' Y 11 xs os
noncomputable def iCallParse.c : Code := codeOf Tryd.f11
theorem iCallParse.run (xs : List AV) (os : List PV.Obj) (hc : (decide (xs.length ≤ Tryd.f11.ntmps) && decide (os.length + Tryd.f11.ntmps < 1000000000) && !(Tryd.f11.name == "runtime.NumGoroutine")) = true) :
    iCallParse xs os = evK XX 11 (lpL XX 11) iCallParse.c (initSt Tryd.f11 xs os GL) (outE XX 11 Tryd.f11) :=
  lim_eq (Y := Y) (f := 11) (fn := Tryd.f11) (cd := iCallParse.c) rfl Tryd.func11 (by kernel_rfl) xs os hc
abbrev weqCall.id : FuncId := 12
noncomputable def weqCall (xs : List AV) (os : List PV.Obj) : Option Res := lim' Y 12 xs os
noncomputable def weqCall.c : Code := codeOf Tryd.f12
theorem weqCall.run (xs : List AV) (os : List PV.Obj) (hc : (decide (xs.length ≤ Tryd.f12.ntmps) && decide (os.length + Tryd.f12.ntmps < 1000000000) && !(Tryd.f12.name == "runtime.NumGoroutine")) = true) :
    weqCall xs os = evK XX 12 (lpL XX 12) weqCall.c (initSt Tryd.f12 xs os GL) (outE XX 12 Tryd.f12) :=
  lim_eq (Y := Y) (f := 12) (fn := Tryd.f12) (cd := weqCall.c) rfl Tryd.func12 (by kernel_rfl) xs os hc
abbrev wmarkCall.id : FuncId := 13
noncomputable def wmarkCall (xs : List AV) (os : List PV.Obj) : Option Res := lim' Y 13 xs os
noncomputable def wmarkCall.c : Code := codeOf Tryd.f13
theorem wmarkCall.run (xs : List AV) (os : List PV.Obj) (hc : (decide (xs.length ≤ Tryd.f13.ntmps) && decide (os.length + Tryd.f13.ntmps < 1000000000) && !(Tryd.f13.name == "runtime.NumGoroutine")) = true) :
    wmarkCall xs os = evK XX 13 (lpL XX 13) wmarkCall.c (initSt Tryd.f13 xs os GL) (outE XX 13 Tryd.f13) :=
  lim_eq (Y := Y) (f := 13) (fn := Tryd.f13) (cd := wmarkCall.c) rfl Tryd.func13 (by kernel_rfl) xs os hc
abbrev wheldCall.id : FuncId := 14
noncomputable def wheldCall (xs : List AV) (os : List PV.Obj) : Option Res := lim' Y 14 xs os
noncomputable def wheldCall.c : Code := codeOf Tryd.f14
theorem wheldCall.run (xs : List AV) (os : List PV.Obj) (hc : (decide (xs.length ≤ Tryd.f14.ntmps) && decide (os.length + Tryd.f14.ntmps < 1000000000) && !(Tryd.f14.name == "runtime.NumGoroutine")) = true) :
    wheldCall xs os = evK XX 14 (lpL XX 14) wheldCall.c (initSt Tryd.f14 xs os GL) (outE XX 14 Tryd.f14) :=
  lim_eq (Y := Y) (f := 14) (fn := Tryd.f14) (cd := wheldCall.c) rfl Tryd.func14 (by kernel_rfl) xs os hc
abbrev sl1Cut.id : FuncId := 15
noncomputable def sl1Cut (xs : List AV) (os : List PV.Obj) : Option Res := lim' Y 15 xs os
noncomputable def sl1Cut.c : Code := codeOf Tryd.f15
theorem sl1Cut.run (xs : List AV) (os : List PV.Obj) (hc : (decide (xs.length ≤ Tryd.f15.ntmps) && decide (os.length + Tryd.f15.ntmps < 1000000000) && !(Tryd.f15.name == "runtime.NumGoroutine")) = true) :
    sl1Cut xs os = evK XX 15 (lpL XX 15) sl1Cut.c (initSt Tryd.f15 xs os GL) (outE XX 15 Tryd.f15) :=
  lim_eq (Y := Y) (f := 15) (fn := Tryd.f15) (cd := sl1Cut.c) rfl Tryd.func15 (by kernel_rfl) xs os hc
abbrev sl22Num.id : FuncId := 16
noncomputable def sl22Num (xs : List AV) (os : List PV.Obj) : Option Res := lim' Y 16 xs os
noncomputable def sl22Num.c : Code := codeOf Tryd.f16
theorem sl22Num.run (xs : List AV) (os : List PV.Obj) (hc : (decide (xs.length ≤ Tryd.f16.ntmps) && decide (os.length + Tryd.f16.ntmps < 1000000000) && !(Tryd.f16.name == "runtime.NumGoroutine")) = true) :
    sl22Num xs os = evK XX 16 (lpL XX 16) sl22Num.c (initSt Tryd.f16 xs os GL) (outE XX 16 Tryd.f16) :=
  lim_eq (Y := Y) (f := 16) (fn := Tryd.f16) (cd := sl22Num.c) rfl Tryd.func16 (by kernel_rfl) xs os hc
abbrev inumRead.id : FuncId := 22
noncomputable def inumRead (xs : List AV) (os : List PV.Obj) : Option Res := lim' Y 22 xs os
noncomputable def inumRead.c : Code := codeOf Tryd.f22
theorem inumRead.run (xs : List AV) (os : List PV.Obj) (hc : (decide (xs.length ≤ Tryd.f22.ntmps) && decide (os.length + Tryd.f22.ntmps < 1000000000) && !(Tryd.f22.name == "runtime.NumGoroutine")) = true) :
    inumRead xs os = evK XX 22 (lpL XX 22) inumRead.c (initSt Tryd.f22 xs os GL) (outE XX 22 Tryd.f22) :=
  lim_eq (Y := Y) (f := 22) (fn := Tryd.f22) (cd := inumRead.c) rfl Tryd.func22 (by kernel_rfl) xs os hc
abbrev ipathRead.id : FuncId := 23
noncomputable def ipathRead (xs : List AV) (os : List PV.Obj) : Option Res := lim' Y 23 xs os
noncomputable def ipathRead.c : Code := codeOf Tryd.f23
theorem ipathRead.run (xs : List AV) (os : List PV.Obj) (hc : (decide (xs.length ≤ Tryd.f23.ntmps) && decide (os.length + Tryd.f23.ntmps < 1000000000) && !(Tryd.f23.name == "runtime.NumGoroutine")) = true) :
    ipathRead xs os = evK XX 23 (lpL XX 23) ipathRead.c (initSt Tryd.f23 xs os GL) (outE XX 23 Tryd.f23) :=
  lim_eq (Y := Y) (f := 23) (fn := Tryd.f23) (cd := ipathRead.c) rfl Tryd.func23 (by kernel_rfl) xs os hc
abbrev sl42Words.id : FuncId := 28
noncomputable def sl42Words (xs : List AV) (os : List PV.Obj) : Option Res := lim' Y 28 xs os
noncomputable def sl42Words.c : Code := codeOf Tryd.f28
theorem sl42Words.run (xs : List AV) (os : List PV.Obj) (hc : (decide (xs.length ≤ Tryd.f28.ntmps) && decide (os.length + Tryd.f28.ntmps < 1000000000) && !(Tryd.f28.name == "runtime.NumGoroutine")) = true) :
    sl42Words xs os = evK XX 28 (lpL XX 28) sl42Words.c (initSt Tryd.f28 xs os GL) (outE XX 28 Tryd.f28) :=
  lim_eq (Y := Y) (f := 28) (fn := Tryd.f28) (cd := sl42Words.c) rfl Tryd.func28 (by kernel_rfl) xs os hc
abbrev sl41PathOf.id : FuncId := 29
noncomputable def sl41PathOf (xs : List AV) (os : List PV.Obj) : Option Res := lim' Y 29 xs os
noncomputable def sl41PathOf.c : Code := codeOf Tryd.f29
theorem sl41PathOf.run (xs : List AV) (os : List PV.Obj) (hc : (decide (xs.length ≤ Tryd.f29.ntmps) && decide (os.length + Tryd.f29.ntmps < 1000000000) && !(Tryd.f29.name == "runtime.NumGoroutine")) = true) :
    sl41PathOf xs os = evK XX 29 (lpL XX 29) sl41PathOf.c (initSt Tryd.f29 xs os GL) (outE XX 29 Tryd.f29) :=
  lim_eq (Y := Y) (f := 29) (fn := Tryd.f29) (cd := sl41PathOf.c) rfl Tryd.func29 (by kernel_rfl) xs os hc
abbrev sl1Bytes.id : FuncId := 30
noncomputable def sl1Bytes (xs : List AV) (os : List PV.Obj) : Option Res := lim' Y 30 xs os
noncomputable def sl1Bytes.c : Code := codeOf Tryd.f30
theorem sl1Bytes.run (xs : List AV) (os : List PV.Obj) (hc : (decide (xs.length ≤ Tryd.f30.ntmps) && decide (os.length + Tryd.f30.ntmps < 1000000000) && !(Tryd.f30.name == "runtime.NumGoroutine")) = true) :
    sl1Bytes xs os = evK XX 30 (lpL XX 30) sl1Bytes.c (initSt Tryd.f30 xs os GL) (outE XX 30 Tryd.f30) :=
  lim_eq (Y := Y) (f := 30) (fn := Tryd.f30) (cd := sl1Bytes.c) rfl Tryd.func30 (by kernel_rfl) xs os hc
abbrev sCallText.id : FuncId := 31
noncomputable def sCallText (xs : List AV) (os : List PV.Obj) : Option Res := lim' Y 31 xs os
noncomputable def sCallText.c : Code := codeOf Tryd.f31
theorem sCallText.run (xs : List AV) (os : List PV.Obj) (hc : (decide (xs.length ≤ Tryd.f31.ntmps) && decide (os.length + Tryd.f31.ntmps < 1000000000) && !(Tryd.f31.name == "runtime.NumGoroutine")) = true) :
    sCallText xs os = evK XX 31 (lpL XX 31) sCallText.c (initSt Tryd.f31 xs os GL) (outE XX 31 Tryd.f31) :=
  lim_eq (Y := Y) (f := 31) (fn := Tryd.f31) (cd := sCallText.c) rfl Tryd.func31 (by kernel_rfl) xs os hc
abbrev strings_Split.id : FuncId := 32
noncomputable def strings_Split (xs : List AV) (os : List PV.Obj) : Option Res := lim' Y 32 xs os
theorem strings_Split.ext (xs : List AV) (os : List PV.Obj) : strings_Split xs os = extSplit xs os := lim_extE (Y := Y) rfl xs os
abbrev slices_Index_Sstring_string.id : FuncId := 33
noncomputable def slices_Index_Sstring_string (xs : List AV) (os : List PV.Obj) : Option Res := lim' Y 33 xs os
noncomputable def slices_Index_Sstring_string.c : Code := codeOf Tryd.f33
theorem slices_Index_Sstring_string.run (xs : List AV) (os : List PV.Obj) (hc : (decide (xs.length ≤ Tryd.f33.ntmps) && decide (os.length + Tryd.f33.ntmps < 1000000000) && !(Tryd.f33.name == "runtime.NumGoroutine")) = true) :
    slices_Index_Sstring_string xs os = evK XX 33 (lpL XX 33) slices_Index_Sstring_string.c (initSt Tryd.f33 xs os GL) (outE XX 33 Tryd.f33) :=
  lim_eq (Y := Y) (f := 33) (fn := Tryd.f33) (cd := slices_Index_Sstring_string.c) rfl Tryd.func33 (by kernel_rfl) xs os hc
abbrev idataRead.id : FuncId := 34
noncomputable def idataRead (xs : List AV) (os : List PV.Obj) : Option Res := lim' Y 34 xs os
noncomputable def idataRead.c : Code := codeOf Tryd.f34
theorem idataRead.run (xs : List AV) (os : List PV.Obj) (hc : (decide (xs.length ≤ Tryd.f34.ntmps) && decide (os.length + Tryd.f34.ntmps < 1000000000) && !(Tryd.f34.name == "runtime.NumGoroutine")) = true) :
    idataRead xs os = evK XX 34 (lpL XX 34) idataRead.c (initSt Tryd.f34 xs os GL) (outE XX 34 Tryd.f34) :=
  lim_eq (Y := Y) (f := 34) (fn := Tryd.f34) (cd := idataRead.c) rfl Tryd.func34 (by kernel_rfl) xs os hc
abbrev iCallText.id : FuncId := 35
noncomputable def iCallText (xs : List AV) (os : List PV.Obj) : Option Res := lim' Y 35 xs os
noncomputable def iCallText.c : Code := codeOf Tryd.f35
theorem iCallText.run (xs : List AV) (os : List PV.Obj) (hc : (decide (xs.length ≤ Tryd.f35.ntmps) && decide (os.length + Tryd.f35.ntmps < 1000000000) && !(Tryd.f35.name == "runtime.NumGoroutine")) = true) :
    iCallText xs os = evK XX 35 (lpL XX 35) iCallText.c (initSt Tryd.f35 xs os GL) (outE XX 35 Tryd.f35) :=
  lim_eq (Y := Y) (f := 35) (fn := Tryd.f35) (cd := iCallText.c) rfl Tryd.func35 (by kernel_rfl) xs os hc
abbrev weqStringS.id : FuncId := 36
noncomputable def weqStringS (xs : List AV) (os : List PV.Obj) : Option Res := lim' Y 36 xs os
noncomputable def weqStringS.c : Code := codeOf Tryd.f36
theorem weqStringS.run (xs : List AV) (os : List PV.Obj) (hc : (decide (xs.length ≤ Tryd.f36.ntmps) && decide (os.length + Tryd.f36.ntmps < 1000000000) && !(Tryd.f36.name == "runtime.NumGoroutine")) = true) :
    weqStringS xs os = evK XX 36 (lpL XX 36) weqStringS.c (initSt Tryd.f36 xs os GL) (outE XX 36 Tryd.f36) :=
  lim_eq (Y := Y) (f := 36) (fn := Tryd.f36) (cd := weqStringS.c) rfl Tryd.func36 (by kernel_rfl) xs os hc
abbrev wmarkStringS.id : FuncId := 37
noncomputable def wmarkStringS (xs : List AV) (os : List PV.Obj) : Option Res := lim' Y 37 xs os
noncomputable def wmarkStringS.c : Code := codeOf Tryd.f37
theorem wmarkStringS.run (xs : List AV) (os : List PV.Obj) (hc : (decide (xs.length ≤ Tryd.f37.ntmps) && decide (os.length + Tryd.f37.ntmps < 1000000000) && !(Tryd.f37.name == "runtime.NumGoroutine")) = true) :
    wmarkStringS xs os = evK XX 37 (lpL XX 37) wmarkStringS.c (initSt Tryd.f37 xs os GL) (outE XX 37 Tryd.f37) :=
  lim_eq (Y := Y) (f := 37) (fn := Tryd.f37) (cd := wmarkStringS.c) rfl Tryd.func37 (by kernel_rfl) xs os hc
abbrev wheldStringS.id : FuncId := 38
noncomputable def wheldStringS (xs : List AV) (os : List PV.Obj) : Option Res := lim' Y 38 xs os
noncomputable def wheldStringS.c : Code := codeOf Tryd.f38
theorem wheldStringS.run (xs : List AV) (os : List PV.Obj) (hc : (decide (xs.length ≤ Tryd.f38.ntmps) && decide (os.length + Tryd.f38.ntmps < 1000000000) && !(Tryd.f38.name == "runtime.NumGoroutine")) = true) :
    wheldStringS xs os = evK XX 38 (lpL XX 38) wheldStringS.c (initSt Tryd.f38 xs os GL) (outE XX 38 Tryd.f38) :=
  lim_eq (Y := Y) (f := 38) (fn := Tryd.f38) (cd := wheldStringS.c) rfl Tryd.func38 (by kernel_rfl) xs os hc
abbrev sl21In.id : FuncId := 39
noncomputable def sl21In (xs : List AV) (os : List PV.Obj) : Option Res := lim' Y 39 xs os
noncomputable def sl21In.c : Code := codeOf Tryd.f39
theorem sl21In.run (xs : List AV) (os : List PV.Obj) (hc : (decide (xs.length ≤ Tryd.f39.ntmps) && decide (os.length + Tryd.f39.ntmps < 1000000000) && !(Tryd.f39.name == "runtime.NumGoroutine")) = true) :
    sl21In xs os = evK XX 39 (lpL XX 39) sl21In.c (initSt Tryd.f39 xs os GL) (outE XX 39 Tryd.f39) :=
  lim_eq (Y := Y) (f := 39) (fn := Tryd.f39) (cd := sl21In.c) rfl Tryd.func39 (by kernel_rfl) xs os hc
abbrev sl1In.id : FuncId := 40
noncomputable def sl1In (xs : List AV) (os : List PV.Obj) : Option Res := lim' Y 40 xs os
noncomputable def sl1In.c : Code := codeOf Tryd.f40
theorem sl1In.run (xs : List AV) (os : List PV.Obj) (hc : (decide (xs.length ≤ Tryd.f40.ntmps) && decide (os.length + Tryd.f40.ntmps < 1000000000) && !(Tryd.f40.name == "runtime.NumGoroutine")) = true) :
    sl1In xs os = evK XX 40 (lpL XX 40) sl1In.c (initSt Tryd.f40 xs os GL) (outE XX 40 Tryd.f40) :=
  lim_eq (Y := Y) (f := 40) (fn := Tryd.f40) (cd := sl1In.c) rfl Tryd.func40 (by kernel_rfl) xs os hc
abbrev sl2PathOk.id : FuncId := 41
noncomputable def sl2PathOk (xs : List AV) (os : List PV.Obj) : Option Res := lim' Y 41 xs os
noncomputable def sl2PathOk.c : Code := codeOf Tryd.f41
theorem sl2PathOk.run (xs : List AV) (os : List PV.Obj) (hc : (decide (xs.length ≤ Tryd.f41.ntmps) && decide (os.length + Tryd.f41.ntmps < 1000000000) && !(Tryd.f41.name == "runtime.NumGoroutine")) = true) :
    sl2PathOk xs os = evK XX 41 (lpL XX 41) sl2PathOk.c (initSt Tryd.f41 xs os GL) (outE XX 41 Tryd.f41) :=
  lim_eq (Y := Y) (f := 41) (fn := Tryd.f41) (cd := sl2PathOk.c) rfl Tryd.func41 (by kernel_rfl) xs os hc
abbrev sl1Dec.id : FuncId := 43
noncomputable def sl1Dec (xs : List AV) (os : List PV.Obj) : Option Res := lim' Y 43 xs os
noncomputable def sl1Dec.c : Code := codeOf Tryd.f43
theorem sl1Dec.run (xs : List AV) (os : List PV.Obj) (hc : (decide (xs.length ≤ Tryd.f43.ntmps) && decide (os.length + Tryd.f43.ntmps < 1000000000) && !(Tryd.f43.name == "runtime.NumGoroutine")) = true) :
    sl1Dec xs os = evK XX 43 (lpL XX 43) sl1Dec.c (initSt Tryd.f43 xs os GL) (outE XX 43 Tryd.f43) :=
  lim_eq (Y := Y) (f := 43) (fn := Tryd.f43) (cd := sl1Dec.c) rfl Tryd.func43 (by kernel_rfl) xs os hc
abbrev sl3Name.id : FuncId := 44
noncomputable def sl3Name (xs : List AV) (os : List PV.Obj) : Option Res := lim' Y 44 xs os
noncomputable def sl3Name.c : Code := codeOf Tryd.f44
theorem sl3Name.run (xs : List AV) (os : List PV.Obj) (hc : (decide (xs.length ≤ Tryd.f44.ntmps) && decide (os.length + Tryd.f44.ntmps < 1000000000) && !(Tryd.f44.name == "runtime.NumGoroutine")) = true) :
    sl3Name xs os = evK XX 44 (lpL XX 44) sl3Name.c (initSt Tryd.f44 xs os GL) (outE XX 44 Tryd.f44) :=
  lim_eq (Y := Y) (f := 44) (fn := Tryd.f44) (cd := sl3Name.c) rfl Tryd.func44 (by kernel_rfl) xs os hc
abbrev strconv_Atoi.id : FuncId := 46
noncomputable def strconv_Atoi (xs : List AV) (os : List PV.Obj) : Option Res := lim' Y 46 xs os
theorem strconv_Atoi.ext (xs : List AV) (os : List PV.Obj) : strconv_Atoi xs os = extAtoi xs os := lim_extE (Y := Y) rfl xs os
abbrev strings_TrimPrefix.id : FuncId := 47
noncomputable def strings_TrimPrefix (xs : List AV) (os : List PV.Obj) : Option Res := lim' Y 47 xs os
theorem strings_TrimPrefix.ext (xs : List AV) (os : List PV.Obj) : strings_TrimPrefix xs os = extTrimPrefix xs os := lim_extE (Y := Y) rfl xs os
abbrev strconv_Itoa.id : FuncId := 49
noncomputable def strconv_Itoa (xs : List AV) (os : List PV.Obj) : Option Res := lim' Y 49 xs os
theorem strconv_Itoa.ext (xs : List AV) (os : List PV.Obj) : strconv_Itoa xs os = extItoa xs os := lim_extE (Y := Y) rfl xs os
abbrev ipathText.id : FuncId := 50
noncomputable def ipathText (xs : List AV) (os : List PV.Obj) : Option Res := lim' Y 50 xs os
noncomputable def ipathText.c : Code := codeOf Tryd.f50
theorem ipathText.run (xs : List AV) (os : List PV.Obj) (hc : (decide (xs.length ≤ Tryd.f50.ntmps) && decide (os.length + Tryd.f50.ntmps < 1000000000) && !(Tryd.f50.name == "runtime.NumGoroutine")) = true) :
    ipathText xs os = evK XX 50 (lpL XX 50) ipathText.c (initSt Tryd.f50 xs os GL) (outE XX 50 Tryd.f50) :=
  lim_eq (Y := Y) (f := 50) (fn := Tryd.f50) (cd := ipathText.c) rfl Tryd.func50 (by kernel_rfl) xs os hc
abbrev sl1Digit.id : FuncId := 52
noncomputable def sl1Digit (xs : List AV) (os : List PV.Obj) : Option Res := lim' Y 52 xs os
noncomputable def sl1Digit.c : Code := codeOf Tryd.f52
theorem sl1Digit.run (xs : List AV) (os : List PV.Obj) (hc : (decide (xs.length ≤ Tryd.f52.ntmps) && decide (os.length + Tryd.f52.ntmps < 1000000000) && !(Tryd.f52.name == "runtime.NumGoroutine")) = true) :
    sl1Digit xs os = evK XX 52 (lpL XX 52) sl1Digit.c (initSt Tryd.f52 xs os GL) (outE XX 52 Tryd.f52) :=
  lim_eq (Y := Y) (f := 52) (fn := Tryd.f52) (cd := sl1Digit.c) rfl Tryd.func52 (by kernel_rfl) xs os hc
abbrev sl2CallOk.id : FuncId := 53
noncomputable def sl2CallOk (xs : List AV) (os : List PV.Obj) : Option Res := lim' Y 53 xs os
noncomputable def sl2CallOk.c : Code := codeOf Tryd.f53
theorem sl2CallOk.run (xs : List AV) (os : List PV.Obj) (hc : (decide (xs.length ≤ Tryd.f53.ntmps) && decide (os.length + Tryd.f53.ntmps < 1000000000) && !(Tryd.f53.name == "runtime.NumGoroutine")) = true) :
    sl2CallOk xs os = evK XX 53 (lpL XX 53) sl2CallOk.c (initSt Tryd.f53 xs os GL) (outE XX 53 Tryd.f53) :=
  lim_eq (Y := Y) (f := 53) (fn := Tryd.f53) (cd := sl2CallOk.c) rfl Tryd.func53 (by kernel_rfl) xs os hc
abbrev sl1Hex.id : FuncId := 54
noncomputable def sl1Hex (xs : List AV) (os : List PV.Obj) : Option Res := lim' Y 54 xs os
noncomputable def sl1Hex.c : Code := codeOf Tryd.f54
theorem sl1Hex.run (xs : List AV) (os : List PV.Obj) (hc : (decide (xs.length ≤ Tryd.f54.ntmps) && decide (os.length + Tryd.f54.ntmps < 1000000000) && !(Tryd.f54.name == "runtime.NumGoroutine")) = true) :
    sl1Hex xs os = evK XX 54 (lpL XX 54) sl1Hex.c (initSt Tryd.f54 xs os GL) (outE XX 54 Tryd.f54) :=
  lim_eq (Y := Y) (f := 54) (fn := Tryd.f54) (cd := sl1Hex.c) rfl Tryd.func54 (by kernel_rfl) xs os hc
abbrev iunhex.id : FuncId := 56
noncomputable def iunhex (xs : List AV) (os : List PV.Obj) : Option Res := lim' Y 56 xs os
noncomputable def iunhex.c : Code := codeOf Tryd.f56
theorem iunhex.run (xs : List AV) (os : List PV.Obj) (hc : (decide (xs.length ≤ Tryd.f56.ntmps) && decide (os.length + Tryd.f56.ntmps < 1000000000) && !(Tryd.f56.name == "runtime.NumGoroutine")) = true) :
    iunhex xs os = evK XX 56 (lpL XX 56) iunhex.c (initSt Tryd.f56 xs os GL) (outE XX 56 Tryd.f56) :=
  lim_eq (Y := Y) (f := 56) (fn := Tryd.f56) (cd := iunhex.c) rfl Tryd.func56 (by kernel_rfl) xs os hc
abbrev iCall_isCall.id : FuncId := 57
noncomputable def iCall_isCall (xs : List AV) (os : List PV.Obj) : Option Res := lim' Y 57 xs os
noncomputable def iCall_isCall.c : Code := codeOf Tryd.f57
theorem iCall_isCall.run (xs : List AV) (os : List PV.Obj) (hc : (decide (xs.length ≤ Tryd.f57.ntmps) && decide (os.length + Tryd.f57.ntmps < 1000000000) && !(Tryd.f57.name == "runtime.NumGoroutine")) = true) :
    iCall_isCall xs os = evK XX 57 (lpL XX 57) iCall_isCall.c (initSt Tryd.f57 xs os GL) (outE XX 57 Tryd.f57) :=
  lim_eq (Y := Y) (f := 57) (fn := Tryd.f57) (cd := iCall_isCall.c) rfl Tryd.func57 (by kernel_rfl) xs os hc
abbrev idataText.id : FuncId := 58
noncomputable def idataText (xs : List AV) (os : List PV.Obj) : Option Res := lim' Y 58 xs os
noncomputable def idataText.c : Code := codeOf Tryd.f58
theorem idataText.run (xs : List AV) (os : List PV.Obj) (hc : (decide (xs.length ≤ Tryd.f58.ntmps) && decide (os.length + Tryd.f58.ntmps < 1000000000) && !(Tryd.f58.name == "runtime.NumGoroutine")) = true) :
    idataText xs os = evK XX 58 (lpL XX 58) idataText.c (initSt Tryd.f58 xs os GL) (outE XX 58 Tryd.f58) :=
  lim_eq (Y := Y) (f := 58) (fn := Tryd.f58) (cd := idataText.c) rfl Tryd.func58 (by kernel_rfl) xs os hc
abbrev wmarkText.id : FuncId := 59
noncomputable def wmarkText (xs : List AV) (os : List PV.Obj) : Option Res := lim' Y 59 xs os
noncomputable def wmarkText.c : Code := codeOf Tryd.f59
theorem wmarkText.run (xs : List AV) (os : List PV.Obj) (hc : (decide (xs.length ≤ Tryd.f59.ntmps) && decide (os.length + Tryd.f59.ntmps < 1000000000) && !(Tryd.f59.name == "runtime.NumGoroutine")) = true) :
    wmarkText xs os = evK XX 59 (lpL XX 59) wmarkText.c (initSt Tryd.f59 xs os GL) (outE XX 59 Tryd.f59) :=
  lim_eq (Y := Y) (f := 59) (fn := Tryd.f59) (cd := wmarkText.c) rfl Tryd.func59 (by kernel_rfl) xs os hc
abbrev sl1NameOk.id : FuncId := 60
noncomputable def sl1NameOk (xs : List AV) (os : List PV.Obj) : Option Res := lim' Y 60 xs os
noncomputable def sl1NameOk.c : Code := codeOf Tryd.f60
theorem sl1NameOk.run (xs : List AV) (os : List PV.Obj) (hc : (decide (xs.length ≤ Tryd.f60.ntmps) && decide (os.length + Tryd.f60.ntmps < 1000000000) && !(Tryd.f60.name == "runtime.NumGoroutine")) = true) :
    sl1NameOk xs os = evK XX 60 (lpL XX 60) sl1NameOk.c (initSt Tryd.f60 xs os GL) (outE XX 60 Tryd.f60) :=
  lim_eq (Y := Y) (f := 60) (fn := Tryd.f60) (cd := sl1NameOk.c) rfl Tryd.func60 (by kernel_rfl) xs os hc
abbrev inamesOk.id : FuncId := 65
noncomputable def inamesOk (xs : List AV) (os : List PV.Obj) : Option Res := lim' Y 65 xs os
noncomputable def inamesOk.c : Code := codeOf Tryd.f65
theorem inamesOk.run (xs : List AV) (os : List PV.Obj) (hc : (decide (xs.length ≤ Tryd.f65.ntmps) && decide (os.length + Tryd.f65.ntmps < 1000000000) && !(Tryd.f65.name == "runtime.NumGoroutine")) = true) :
    inamesOk xs os = evK XX 65 (lpL XX 65) inamesOk.c (initSt Tryd.f65 xs os GL) (outE XX 65 Tryd.f65) :=
  lim_eq (Y := Y) (f := 65) (fn := Tryd.f65) (cd := inamesOk.c) rfl Tryd.func65 (by kernel_rfl) xs os hc
abbrev iwithin.id : FuncId := 67
noncomputable def iwithin (xs : List AV) (os : List PV.Obj) : Option Res := lim' Y 67 xs os
noncomputable def iwithin.c : Code := codeOf Tryd.f67
theorem iwithin.run (xs : List AV) (os : List PV.Obj) (hc : (decide (xs.length ≤ Tryd.f67.ntmps) && decide (os.length + Tryd.f67.ntmps < 1000000000) && !(Tryd.f67.name == "runtime.NumGoroutine")) = true) :
    iwithin xs os = evK XX 67 (lpL XX 67) iwithin.c (initSt Tryd.f67 xs os GL) (outE XX 67 Tryd.f67) :=
  lim_eq (Y := Y) (f := 67) (fn := Tryd.f67) (cd := iwithin.c) rfl Tryd.func67 (by kernel_rfl) xs os hc
abbrev strings_Join.id : FuncId := 69
noncomputable def strings_Join (xs : List AV) (os : List PV.Obj) : Option Res := lim' Y 69 xs os
theorem strings_Join.ext (xs : List AV) (os : List PV.Obj) : strings_Join xs os = extJoin xs os := lim_extE (Y := Y) rfl xs os
abbrev inibble.id : FuncId := 73
noncomputable def inibble (xs : List AV) (os : List PV.Obj) : Option Res := lim' Y 73 xs os
noncomputable def inibble.c : Code := codeOf Tryd.f73
theorem inibble.run (xs : List AV) (os : List PV.Obj) (hc : (decide (xs.length ≤ Tryd.f73.ntmps) && decide (os.length + Tryd.f73.ntmps < 1000000000) && !(Tryd.f73.name == "runtime.NumGoroutine")) = true) :
    inibble xs os = evK XX 73 (lpL XX 73) inibble.c (initSt Tryd.f73 xs os GL) (outE XX 73 Tryd.f73) :=
  lim_eq (Y := Y) (f := 73) (fn := Tryd.f73) (cd := inibble.c) rfl Tryd.func73 (by kernel_rfl) xs os hc
abbrev imodeOk.id : FuncId := 74
noncomputable def imodeOk (xs : List AV) (os : List PV.Obj) : Option Res := lim' Y 74 xs os
noncomputable def imodeOk.c : Code := codeOf Tryd.f74
theorem imodeOk.run (xs : List AV) (os : List PV.Obj) (hc : (decide (xs.length ≤ Tryd.f74.ntmps) && decide (os.length + Tryd.f74.ntmps < 1000000000) && !(Tryd.f74.name == "runtime.NumGoroutine")) = true) :
    imodeOk xs os = evK XX 74 (lpL XX 74) imodeOk.c (initSt Tryd.f74 xs os GL) (outE XX 74 Tryd.f74) :=
  lim_eq (Y := Y) (f := 74) (fn := Tryd.f74) (cd := imodeOk.c) rfl Tryd.func74 (by kernel_rfl) xs os hc
abbrev ihexOf.id : FuncId := 75
noncomputable def ihexOf (xs : List AV) (os : List PV.Obj) : Option Res := lim' Y 75 xs os
noncomputable def ihexOf.c : Code := codeOf Tryd.f75
theorem ihexOf.run (xs : List AV) (os : List PV.Obj) (hc : (decide (xs.length ≤ Tryd.f75.ntmps) && decide (os.length + Tryd.f75.ntmps < 1000000000) && !(Tryd.f75.name == "runtime.NumGoroutine")) = true) :
    ihexOf xs os = evK XX 75 (lpL XX 75) ihexOf.c (initSt Tryd.f75 xs os GL) (outE XX 75 Tryd.f75) :=
  lim_eq (Y := Y) (f := 75) (fn := Tryd.f75) (cd := ihexOf.c) rfl Tryd.func75 (by kernel_rfl) xs os hc
abbrev inameOk.id : FuncId := 86
noncomputable def inameOk (xs : List AV) (os : List PV.Obj) : Option Res := lim' Y 86 xs os
noncomputable def inameOk.c : Code := codeOf Tryd.f86
theorem inameOk.run (xs : List AV) (os : List PV.Obj) (hc : (decide (xs.length ≤ Tryd.f86.ntmps) && decide (os.length + Tryd.f86.ntmps < 1000000000) && !(Tryd.f86.name == "runtime.NumGoroutine")) = true) :
    inameOk xs os = evK XX 86 (lpL XX 86) inameOk.c (initSt Tryd.f86 xs os GL) (outE XX 86 Tryd.f86) :=
  lim_eq (Y := Y) (f := 86) (fn := Tryd.f86) (cd := inameOk.c) rfl Tryd.func86 (by kernel_rfl) xs os hc
end Go.PVx
