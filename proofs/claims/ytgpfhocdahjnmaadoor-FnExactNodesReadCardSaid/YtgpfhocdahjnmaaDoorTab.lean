/- A part of the proof: PvGTab. -/
import Derived.Test.YtgpfhocdahjnmaaDoorProg
import Derived.Test.YtgpfhocdahjnmaaDoorPvC
import Derived.KernelRfl
import Derived.Test.YtgpfhocdahjnmaaDoorExt
set_option linter.unusedSimpArgs false
set_option linter.unusedVariables false
/- PRINTED by a tool of this work (wip/pv/tool/gen2.py): the functions' tables: what they take over, what lives at their loops. -/
namespace Go.PVx
open Go.PV Go.Proofs
def sigs : FuncId → Sig
  | 21 => { res := .tup [(false, [.str]), (false, [.str]), (false, [.bool])] }
  | 32 => { res := .one (.own .deep) }
  | 46 => { res := .tup [(false, [.int .i64]), (false, [.any])] }
  | 47 => { res := .one (.str) }
  | 49 => { res := .one (.str) }
  | 69 => { res := .one (.str) }
  | 3 => { res := .one (.bool) }
  | 5 => { res := .tup [(true, [.int .i64, .own .deep]), (false, [.bool])] }
  | 6 => { res := .tup [(true, [.int .i64, .own .deep]), (false, [.bool])] }
  | 7 => { res := .one (.bool) }
  | 8 => { mu := [0], res := .one (.int .i64) }
  | 9 => { res := .one (.int .i64) }
  | 15 => { res := .one (.own .deep) }
  | 16 => { res := .one (.int .i64) }
  | 17 => { res := .one (.bool) }
  | 18 => { res := .one (.str) }
  | 19 => { res := .agg [.int .i64, .own .deep] }
  | 20 => { res := .one .sh }
  | 22 => { res := .one (.int .i64) }
  | 23 => { res := .one (.own .deep) }
  | 24 => { res := .one (.str) }
  | 25 => { res := .one (.bool) }
  | 26 => { mu := [0], res := .one (.int .i64) }
  | 27 => { res := .one (.int .i64) }
  | 36 => { res := .one (.bool) }
  | 37 => { mu := [0], res := .one (.int .i64) }
  | 38 => { res := .one (.int .i64) }
  | 39 => { res := .one (.bool) }
  | 40 => { res := .one (.bool) }
  | 41 => { res := .one (.bool) }
  | 42 => { res := .one (.bool) }
  | 43 => { res := .one (.str) }
  | 44 => { res := .one (.str) }
  | 48 => { res := .one (.bool) }
  | 50 => { res := .one (.str) }
  | 51 => { res := .one (.bool) }
  | 59 => { res := .one (.str) }
  | 60 => { res := .one (.bool) }
  | 65 => { res := .one (.bool) }
  | 66 => { res := .one (.int .i64) }
  | 67 => { res := .one (.bool) }
  | 86 => { res := .one (.bool) }
  | 87 => { res := .one (.int .i64) }
  | 100 => { res := .one (.bool) }
  | _ => { res := .none }
def lives : FuncId → Nat → List Nat × List Nat
  | 3, 100006 => ([0, 3, 4, 5, 32], [1])
  | 3, 100007 => ([0, 3, 4, 5], [1])
  | 3, 100016 => ([3, 4, 5, 7, 9, 10], [1])
  | 3, 100017 => ([5, 7, 57], [1])
  | 3, 100018 => ([5, 7], [1])
  | 5, 4 => ([0, 2, 4, 5, 6], [0, 2, 3, 5])
  | 5, 100008 => ([0, 2, 4, 5, 6, 7, 30], [1])
  | 5, 100009 => ([0, 2, 4, 5, 6, 7], [1])
  | 5, 100014 => ([2, 5, 63], [1])
  | 5, 100015 => ([2, 5], [1])
  | 6, 3 => ([0, 2, 4, 13, 14, 15], [0, 2, 4])
  | 6, 100011 => ([2, 4, 49], [1])
  | 15, 4 => ([0, 1, 5, 6, 7], [0, 5, 6])
  | 16, 5 => ([0, 3, 4], [2, 3])
  | 16, 100002 => ([0, 18], [1])
  | 16, 100003 => ([0], [1])
  | 16, 100008 => ([0, 3, 4, 34], [1])
  | 16, 100009 => ([0, 3, 4], [1])
  | 17, 4 => ([1, 3], [2])
  | 17, 10 => ([1, 3, 4, 5], [1, 2, 3])
  | 17, 100002 => ([1, 15], [1])
  | 17, 100003 => ([1], [1])
  | 17, 100008 => ([1, 3, 4, 57], [1])
  | 17, 100009 => ([1, 3, 4], [1])
  | 18, 5 => ([1, 3, 4], [3])
  | 19, 3 => ([1, 2, 3, 4], [2, 3])
  | 24, 5 => ([3, 15, 16, 17], [3])
  | 25, 4 => ([0, 1, 5], [4])
  | 26, 2 => ([0, 1, 5], [1])
  | 27, 2 => ([0, 1, 5], [1, 4])
  | 36, 4 => ([0, 1, 5], [4])
  | 37, 2 => ([0, 1, 5], [1])
  | 38, 2 => ([0, 1, 5], [1, 4])
  | 41, 2 => ([0, 3], [0, 2])
  | 42, 2 => ([0, 1, 5], [0, 1, 4])
  | 42, 100004 => ([0, 1, 5], [1])
  | 44, 3 => ([0, 3, 4], [3])
  | 48, 2 => ([1, 8, 9, 10], [1, 2])
  | 48, 7 => ([1, 4, 8, 9, 10, 48, 49, 50], [1, 2, 8, 9, 10])
  | 48, 100005 => ([1, 3, 4, 8, 9, 10, 44], [1])
  | 48, 100006 => ([1, 3, 4, 8, 9, 10], [1])
  | 59, 4 => ([0, 3], [3])
  | 60, 2 => ([0, 3], [0, 2])
  | 60, 100005 => ([0, 3, 32], [1])
  | 65, 2 => ([0, 1, 7, 8, 9], [0, 1, 4])
  | 66, 2 => ([0, 1, 9, 10, 11], [0, 1, 4])
  | 86, 2 => ([0, 5, 6], [0, 2])
  | 86, 100005 => ([0, 5, 6, 30], [1])
  | _, _ => ([], [])
def mvs : FuncId → Nat → Nat → Bool
  | 5, 8, 1 => true
  | 5, 14, 1 => true
  | 5, 15, 2 => true
  | 6, 11, 1 => true
  | 6, 12, 1 => true
  | 8, 0, 0 => true
  | 19, 6, 1 => true
  | _, _, _ => false
noncomputable def exts : FuncId → Option (List AV → List PV.Obj → Option Res)
  | 21 => some extCut
  | 32 => some extSplit
  | 46 => some extAtoi
  | 47 => some extTrimPrefix
  | 49 => some extItoa
  | 69 => some extJoin
  | _ => none
def GL : List (Nat × List D) := [(1, [.u false]), (2, [.u true]), (3, [.u true]), (4, Lib.pow10Tab.map fun z => .v (.int .u64 z))]
noncomputable def Y : Prm := { P := Tryd.prog, sig := sigs, mv := mvs, live := lives, ext := exts, gl := GL }
noncomputable def XX : Ctx := Y.ctx (lim' Y)
abbrev wFnExactNodesRead.id : FuncId := 3
noncomputable def wFnExactNodesRead (xs : List AV) (os : List PV.Obj) : Option Res := lim' Y 3 xs os
noncomputable def wFnExactNodesRead.c : Code := codeOf Tryd.f3
theorem wFnExactNodesRead.run (xs : List AV) (os : List PV.Obj) (hc : (decide (xs.length ≤ Tryd.f3.ntmps) && decide (os.length + Tryd.f3.ntmps < 1000000000) && !(Tryd.f3.name == "runtime.NumGoroutine")) = true) :
    wFnExactNodesRead xs os = evK XX 3 (lpL XX 3) wFnExactNodesRead.c (initSt Tryd.f3 xs os GL) (outE XX 3 Tryd.f3) :=
  lim_eq (Y := Y) (f := 3) (fn := Tryd.f3) (cd := wFnExactNodesRead.c) rfl Tryd.func3 (by kernel_rfl) xs os hc
abbrev sNodesRead.id : FuncId := 5
noncomputable def sNodesRead (xs : List AV) (os : List PV.Obj) : Option Res := lim' Y 5 xs os
noncomputable def sNodesRead.c : Code := codeOf Tryd.f5
theorem sNodesRead.run (xs : List AV) (os : List PV.Obj) (hc : (decide (xs.length ≤ Tryd.f5.ntmps) && decide (os.length + Tryd.f5.ntmps < 1000000000) && !(Tryd.f5.name == "runtime.NumGoroutine")) = true) :
    sNodesRead xs os = evK XX 5 (lpL XX 5) sNodesRead.c (initSt Tryd.f5 xs os GL) (outE XX 5 Tryd.f5) :=
  lim_eq (Y := Y) (f := 5) (fn := Tryd.f5) (cd := sNodesRead.c) rfl Tryd.func5 (by kernel_rfl) xs os hc
abbrev iNodesRead.id : FuncId := 6
noncomputable def iNodesRead (xs : List AV) (os : List PV.Obj) : Option Res := lim' Y 6 xs os
noncomputable def iNodesRead.c : Code := codeOf Tryd.f6
theorem iNodesRead.run (xs : List AV) (os : List PV.Obj) (hc : (decide (xs.length ≤ Tryd.f6.ntmps) && decide (os.length + Tryd.f6.ntmps < 1000000000) && !(Tryd.f6.name == "runtime.NumGoroutine")) = true) :
    iNodesRead xs os = evK XX 6 (lpL XX 6) iNodesRead.c (initSt Tryd.f6 xs os GL) (outE XX 6 Tryd.f6) :=
  lim_eq (Y := Y) (f := 6) (fn := Tryd.f6) (cd := iNodesRead.c) rfl Tryd.func6 (by kernel_rfl) xs os hc
abbrev weqNodes.id : FuncId := 7
noncomputable def weqNodes (xs : List AV) (os : List PV.Obj) : Option Res := lim' Y 7 xs os
noncomputable def weqNodes.c : Code := codeOf Tryd.f7
theorem weqNodes.run (xs : List AV) (os : List PV.Obj) (hc : (decide (xs.length ≤ Tryd.f7.ntmps) && decide (os.length + Tryd.f7.ntmps < 1000000000) && !(Tryd.f7.name == "runtime.NumGoroutine")) = true) :
    weqNodes xs os = evK XX 7 (lpL XX 7) weqNodes.c (initSt Tryd.f7 xs os GL) (outE XX 7 Tryd.f7) :=
  lim_eq (Y := Y) (f := 7) (fn := Tryd.f7) (cd := weqNodes.c) rfl Tryd.func7 (by kernel_rfl) xs os hc
abbrev wmarkNodes.id : FuncId := 8
noncomputable def wmarkNodes (xs : List AV) (os : List PV.Obj) : Option Res := lim' Y 8 xs os
noncomputable def wmarkNodes.c : Code := codeOf Tryd.f8
theorem wmarkNodes.run (xs : List AV) (os : List PV.Obj) (hc : (decide (xs.length ≤ Tryd.f8.ntmps) && decide (os.length + Tryd.f8.ntmps < 1000000000) && !(Tryd.f8.name == "runtime.NumGoroutine")) = true) :
    wmarkNodes xs os = evK XX 8 (lpL XX 8) wmarkNodes.c (initSt Tryd.f8 xs os GL) (outE XX 8 Tryd.f8) :=
  lim_eq (Y := Y) (f := 8) (fn := Tryd.f8) (cd := wmarkNodes.c) rfl Tryd.func8 (by kernel_rfl) xs os hc
abbrev wheldNodes.id : FuncId := 9
noncomputable def wheldNodes (xs : List AV) (os : List PV.Obj) : Option Res := lim' Y 9 xs os
noncomputable def wheldNodes.c : Code := codeOf Tryd.f9
theorem wheldNodes.run (xs : List AV) (os : List PV.Obj) (hc : (decide (xs.length ≤ Tryd.f9.ntmps) && decide (os.length + Tryd.f9.ntmps < 1000000000) && !(Tryd.f9.name == "runtime.NumGoroutine")) = true) :
    wheldNodes xs os = evK XX 9 (lpL XX 9) wheldNodes.c (initSt Tryd.f9 xs os GL) (outE XX 9 Tryd.f9) :=
  lim_eq (Y := Y) (f := 9) (fn := Tryd.f9) (cd := wheldNodes.c) rfl Tryd.func9 (by kernel_rfl) xs os hc
abbrev sl1Cut.id : FuncId := 15
noncomputable def sl1Cut (xs : List AV) (os : List PV.Obj) : Option Res := lim' Y 15 xs os
noncomputable def sl1Cut.c : Code := codeOf Tryd.f15
theorem sl1Cut.run (xs : List AV) (os : List PV.Obj) (hc : (decide (xs.length ≤ Tryd.f15.ntmps) && decide (os.length + Tryd.f15.ntmps < 1000000000) && !(Tryd.f15.name == "runtime.NumGoroutine")) = true) :
    sl1Cut xs os = evK XX 15 (lpL XX 15) sl1Cut.c (initSt Tryd.f15 xs os GL) (outE XX 15 Tryd.f15) :=
  lim_eq (Y := Y) (f := 15) (fn := Tryd.f15) (cd := sl1Cut.c) rfl Tryd.func15 (by kernel_rfl) xs os hc
abbrev sl22Num.id : FuncId := 16
noncomputable def sl22Num (xs : List AV) (os : List PV.Obj) : Option Res := lim' Y 16 xs os
noncomputable def sl22Num.c : Code := codeOf Tryd.f16
theorem sl22Num.run (xs : List AV) (os : List PV.Obj) (hc : (decide (xs.length ≤ Tryd.f16.ntmps) && decide (os.length + Tryd.f16.ntmps < 1000000000) && !(Tryd.f16.name == "runtime.NumGoroutine")) = true) :
    sl22Num xs os = evK XX 16 (lpL XX 16) sl22Num.c (initSt Tryd.f16 xs os GL) (outE XX 16 Tryd.f16) :=
  lim_eq (Y := Y) (f := 16) (fn := Tryd.f16) (cd := sl22Num.c) rfl Tryd.func16 (by kernel_rfl) xs os hc
abbrev sl33Ok.id : FuncId := 17
noncomputable def sl33Ok (xs : List AV) (os : List PV.Obj) : Option Res := lim' Y 17 xs os
noncomputable def sl33Ok.c : Code := codeOf Tryd.f17
theorem sl33Ok.run (xs : List AV) (os : List PV.Obj) (hc : (decide (xs.length ≤ Tryd.f17.ntmps) && decide (os.length + Tryd.f17.ntmps < 1000000000) && !(Tryd.f17.name == "runtime.NumGoroutine")) = true) :
    sl33Ok xs os = evK XX 17 (lpL XX 17) sl33Ok.c (initSt Tryd.f17 xs os GL) (outE XX 17 Tryd.f17) :=
  lim_eq (Y := Y) (f := 17) (fn := Tryd.f17) (cd := sl33Ok.c) rfl Tryd.func17 (by kernel_rfl) xs os hc
abbrev sNodesWrite.id : FuncId := 18
noncomputable def sNodesWrite (xs : List AV) (os : List PV.Obj) : Option Res := lim' Y 18 xs os
noncomputable def sNodesWrite.c : Code := codeOf Tryd.f18
theorem sNodesWrite.run (xs : List AV) (os : List PV.Obj) (hc : (decide (xs.length ≤ Tryd.f18.ntmps) && decide (os.length + Tryd.f18.ntmps < 1000000000) && !(Tryd.f18.name == "runtime.NumGoroutine")) = true) :
    sNodesWrite xs os = evK XX 18 (lpL XX 18) sNodesWrite.c (initSt Tryd.f18 xs os GL) (outE XX 18 Tryd.f18) :=
  lim_eq (Y := Y) (f := 18) (fn := Tryd.f18) (cd := sNodesWrite.c) rfl Tryd.func18 (by kernel_rfl) xs os hc
abbrev sl33Copy.id : FuncId := 19
noncomputable def sl33Copy (xs : List AV) (os : List PV.Obj) : Option Res := lim' Y 19 xs os
noncomputable def sl33Copy.c : Code := codeOf Tryd.f19
theorem sl33Copy.run (xs : List AV) (os : List PV.Obj) (hc : (decide (xs.length ≤ Tryd.f19.ntmps) && decide (os.length + Tryd.f19.ntmps < 1000000000) && !(Tryd.f19.name == "runtime.NumGoroutine")) = true) :
    sl33Copy xs os = evK XX 19 (lpL XX 19) sl33Copy.c (initSt Tryd.f19 xs os GL) (outE XX 19 Tryd.f19) :=
  lim_eq (Y := Y) (f := 19) (fn := Tryd.f19) (cd := sl33Copy.c) rfl Tryd.func19 (by kernel_rfl) xs os hc
abbrev ilinesOf.id : FuncId := 20
noncomputable def ilinesOf (xs : List AV) (os : List PV.Obj) : Option Res := lim' Y 20 xs os
noncomputable def ilinesOf.c : Code := codeOf Tryd.f20
theorem ilinesOf.run (xs : List AV) (os : List PV.Obj) (hc : (decide (xs.length ≤ Tryd.f20.ntmps) && decide (os.length + Tryd.f20.ntmps < 1000000000) && !(Tryd.f20.name == "runtime.NumGoroutine")) = true) :
    ilinesOf xs os = evK XX 20 (lpL XX 20) ilinesOf.c (initSt Tryd.f20 xs os GL) (outE XX 20 Tryd.f20) :=
  lim_eq (Y := Y) (f := 20) (fn := Tryd.f20) (cd := ilinesOf.c) rfl Tryd.func20 (by kernel_rfl) xs os hc
abbrev strings_Cut.id : FuncId := 21
noncomputable def strings_Cut (xs : List AV) (os : List PV.Obj) : Option Res := lim' Y 21 xs os
theorem strings_Cut.ext (xs : List AV) (os : List PV.Obj) : strings_Cut xs os = extCut xs os := lim_extE (Y := Y) rfl xs os
abbrev inumRead.id : FuncId := 22
noncomputable def inumRead (xs : List AV) (os : List PV.Obj) : Option Res := lim' Y 22 xs os
noncomputable def inumRead.c : Code := codeOf Tryd.f22
theorem inumRead.run (xs : List AV) (os : List PV.Obj) (hc : (decide (xs.length ≤ Tryd.f22.ntmps) && decide (os.length + Tryd.f22.ntmps < 1000000000) && !(Tryd.f22.name == "runtime.NumGoroutine")) = true) :
    inumRead xs os = evK XX 22 (lpL XX 22) inumRead.c (initSt Tryd.f22 xs os GL) (outE XX 22 Tryd.f22) :=
  lim_eq (Y := Y) (f := 22) (fn := Tryd.f22) (cd := inumRead.c) rfl Tryd.func22 (by kernel_rfl) xs os hc
abbrev ipathRead.id : FuncId := 23
noncomputable def ipathRead (xs : List AV) (os : List PV.Obj) : Option Res := lim' Y 23 xs os
noncomputable def ipathRead.c : Code := codeOf Tryd.f23
theorem ipathRead.run (xs : List AV) (os : List PV.Obj) (hc : (decide (xs.length ≤ Tryd.f23.ntmps) && decide (os.length + Tryd.f23.ntmps < 1000000000) && !(Tryd.f23.name == "runtime.NumGoroutine")) = true) :
    ipathRead xs os = evK XX 23 (lpL XX 23) ipathRead.c (initSt Tryd.f23 xs os GL) (outE XX 23 Tryd.f23) :=
  lim_eq (Y := Y) (f := 23) (fn := Tryd.f23) (cd := ipathRead.c) rfl Tryd.func23 (by kernel_rfl) xs os hc
abbrev iNodesWrite.id : FuncId := 24
noncomputable def iNodesWrite (xs : List AV) (os : List PV.Obj) : Option Res := lim' Y 24 xs os
noncomputable def iNodesWrite.c : Code := codeOf Tryd.f24
theorem iNodesWrite.run (xs : List AV) (os : List PV.Obj) (hc : (decide (xs.length ≤ Tryd.f24.ntmps) && decide (os.length + Tryd.f24.ntmps < 1000000000) && !(Tryd.f24.name == "runtime.NumGoroutine")) = true) :
    iNodesWrite xs os = evK XX 24 (lpL XX 24) iNodesWrite.c (initSt Tryd.f24 xs os GL) (outE XX 24 Tryd.f24) :=
  lim_eq (Y := Y) (f := 24) (fn := Tryd.f24) (cd := iNodesWrite.c) rfl Tryd.func24 (by kernel_rfl) xs os hc
abbrev weqNodeOfS.id : FuncId := 25
noncomputable def weqNodeOfS (xs : List AV) (os : List PV.Obj) : Option Res := lim' Y 25 xs os
noncomputable def weqNodeOfS.c : Code := codeOf Tryd.f25
theorem weqNodeOfS.run (xs : List AV) (os : List PV.Obj) (hc : (decide (xs.length ≤ Tryd.f25.ntmps) && decide (os.length + Tryd.f25.ntmps < 1000000000) && !(Tryd.f25.name == "runtime.NumGoroutine")) = true) :
    weqNodeOfS xs os = evK XX 25 (lpL XX 25) weqNodeOfS.c (initSt Tryd.f25 xs os GL) (outE XX 25 Tryd.f25) :=
  lim_eq (Y := Y) (f := 25) (fn := Tryd.f25) (cd := weqNodeOfS.c) rfl Tryd.func25 (by kernel_rfl) xs os hc
abbrev wmarkNodeOfS.id : FuncId := 26
noncomputable def wmarkNodeOfS (xs : List AV) (os : List PV.Obj) : Option Res := lim' Y 26 xs os
noncomputable def wmarkNodeOfS.c : Code := codeOf Tryd.f26
theorem wmarkNodeOfS.run (xs : List AV) (os : List PV.Obj) (hc : (decide (xs.length ≤ Tryd.f26.ntmps) && decide (os.length + Tryd.f26.ntmps < 1000000000) && !(Tryd.f26.name == "runtime.NumGoroutine")) = true) :
    wmarkNodeOfS xs os = evK XX 26 (lpL XX 26) wmarkNodeOfS.c (initSt Tryd.f26 xs os GL) (outE XX 26 Tryd.f26) :=
  lim_eq (Y := Y) (f := 26) (fn := Tryd.f26) (cd := wmarkNodeOfS.c) rfl Tryd.func26 (by kernel_rfl) xs os hc
abbrev wheldNodeOfS.id : FuncId := 27
noncomputable def wheldNodeOfS (xs : List AV) (os : List PV.Obj) : Option Res := lim' Y 27 xs os
noncomputable def wheldNodeOfS.c : Code := codeOf Tryd.f27
theorem wheldNodeOfS.run (xs : List AV) (os : List PV.Obj) (hc : (decide (xs.length ≤ Tryd.f27.ntmps) && decide (os.length + Tryd.f27.ntmps < 1000000000) && !(Tryd.f27.name == "runtime.NumGoroutine")) = true) :
    wheldNodeOfS xs os = evK XX 27 (lpL XX 27) wheldNodeOfS.c (initSt Tryd.f27 xs os GL) (outE XX 27 Tryd.f27) :=
  lim_eq (Y := Y) (f := 27) (fn := Tryd.f27) (cd := wheldNodeOfS.c) rfl Tryd.func27 (by kernel_rfl) xs os hc
abbrev strings_Split.id : FuncId := 32
noncomputable def strings_Split (xs : List AV) (os : List PV.Obj) : Option Res := lim' Y 32 xs os
theorem strings_Split.ext (xs : List AV) (os : List PV.Obj) : strings_Split xs os = extSplit xs os := lim_extE (Y := Y) rfl xs os
abbrev weqStringS.id : FuncId := 36
noncomputable def weqStringS (xs : List AV) (os : List PV.Obj) : Option Res := lim' Y 36 xs os
noncomputable def weqStringS.c : Code := codeOf Tryd.f36
theorem weqStringS.run (xs : List AV) (os : List PV.Obj) (hc : (decide (xs.length ≤ Tryd.f36.ntmps) && decide (os.length + Tryd.f36.ntmps < 1000000000) && !(Tryd.f36.name == "runtime.NumGoroutine")) = true) :
    weqStringS xs os = evK XX 36 (lpL XX 36) weqStringS.c (initSt Tryd.f36 xs os GL) (outE XX 36 Tryd.f36) :=
  lim_eq (Y := Y) (f := 36) (fn := Tryd.f36) (cd := weqStringS.c) rfl Tryd.func36 (by kernel_rfl) xs os hc
abbrev wmarkStringS.id : FuncId := 37
noncomputable def wmarkStringS (xs : List AV) (os : List PV.Obj) : Option Res := lim' Y 37 xs os
noncomputable def wmarkStringS.c : Code := codeOf Tryd.f37
theorem wmarkStringS.run (xs : List AV) (os : List PV.Obj) (hc : (decide (xs.length ≤ Tryd.f37.ntmps) && decide (os.length + Tryd.f37.ntmps < 1000000000) && !(Tryd.f37.name == "runtime.NumGoroutine")) = true) :
    wmarkStringS xs os = evK XX 37 (lpL XX 37) wmarkStringS.c (initSt Tryd.f37 xs os GL) (outE XX 37 Tryd.f37) :=
  lim_eq (Y := Y) (f := 37) (fn := Tryd.f37) (cd := wmarkStringS.c) rfl Tryd.func37 (by kernel_rfl) xs os hc
abbrev wheldStringS.id : FuncId := 38
noncomputable def wheldStringS (xs : List AV) (os : List PV.Obj) : Option Res := lim' Y 38 xs os
noncomputable def wheldStringS.c : Code := codeOf Tryd.f38
theorem wheldStringS.run (xs : List AV) (os : List PV.Obj) (hc : (decide (xs.length ≤ Tryd.f38.ntmps) && decide (os.length + Tryd.f38.ntmps < 1000000000) && !(Tryd.f38.name == "runtime.NumGoroutine")) = true) :
    wheldStringS xs os = evK XX 38 (lpL XX 38) wheldStringS.c (initSt Tryd.f38 xs os GL) (outE XX 38 Tryd.f38) :=
  lim_eq (Y := Y) (f := 38) (fn := Tryd.f38) (cd := wheldStringS.c) rfl Tryd.func38 (by kernel_rfl) xs os hc
abbrev sl21In.id : FuncId := 39
noncomputable def sl21In (xs : List AV) (os : List PV.Obj) : Option Res := lim' Y 39 xs os
noncomputable def sl21In.c : Code := codeOf Tryd.f39
theorem sl21In.run (xs : List AV) (os : List PV.Obj) (hc : (decide (xs.length ≤ Tryd.f39.ntmps) && decide (os.length + Tryd.f39.ntmps < 1000000000) && !(Tryd.f39.name == "runtime.NumGoroutine")) = true) :
    sl21In xs os = evK XX 39 (lpL XX 39) sl21In.c (initSt Tryd.f39 xs os GL) (outE XX 39 Tryd.f39) :=
  lim_eq (Y := Y) (f := 39) (fn := Tryd.f39) (cd := sl21In.c) rfl Tryd.func39 (by kernel_rfl) xs os hc
abbrev sl1In.id : FuncId := 40
noncomputable def sl1In (xs : List AV) (os : List PV.Obj) : Option Res := lim' Y 40 xs os
noncomputable def sl1In.c : Code := codeOf Tryd.f40
theorem sl1In.run (xs : List AV) (os : List PV.Obj) (hc : (decide (xs.length ≤ Tryd.f40.ntmps) && decide (os.length + Tryd.f40.ntmps < 1000000000) && !(Tryd.f40.name == "runtime.NumGoroutine")) = true) :
    sl1In xs os = evK XX 40 (lpL XX 40) sl1In.c (initSt Tryd.f40 xs os GL) (outE XX 40 Tryd.f40) :=
  lim_eq (Y := Y) (f := 40) (fn := Tryd.f40) (cd := sl1In.c) rfl Tryd.func40 (by kernel_rfl) xs os hc
abbrev sl2PathOk.id : FuncId := 41
noncomputable def sl2PathOk (xs : List AV) (os : List PV.Obj) : Option Res := lim' Y 41 xs os
noncomputable def sl2PathOk.c : Code := codeOf Tryd.f41
theorem sl2PathOk.run (xs : List AV) (os : List PV.Obj) (hc : (decide (xs.length ≤ Tryd.f41.ntmps) && decide (os.length + Tryd.f41.ntmps < 1000000000) && !(Tryd.f41.name == "runtime.NumGoroutine")) = true) :
    sl2PathOk xs os = evK XX 41 (lpL XX 41) sl2PathOk.c (initSt Tryd.f41 xs os GL) (outE XX 41 Tryd.f41) :=
  lim_eq (Y := Y) (f := 41) (fn := Tryd.f41) (cd := sl2PathOk.c) rfl Tryd.func41 (by kernel_rfl) xs os hc
abbrev sl11Less.id : FuncId := 42
noncomputable def sl11Less (xs : List AV) (os : List PV.Obj) : Option Res := lim' Y 42 xs os
noncomputable def sl11Less.c : Code := codeOf Tryd.f42
theorem sl11Less.run (xs : List AV) (os : List PV.Obj) (hc : (decide (xs.length ≤ Tryd.f42.ntmps) && decide (os.length + Tryd.f42.ntmps < 1000000000) && !(Tryd.f42.name == "runtime.NumGoroutine")) = true) :
    sl11Less xs os = evK XX 42 (lpL XX 42) sl11Less.c (initSt Tryd.f42 xs os GL) (outE XX 42 Tryd.f42) :=
  lim_eq (Y := Y) (f := 42) (fn := Tryd.f42) (cd := sl11Less.c) rfl Tryd.func42 (by kernel_rfl) xs os hc
abbrev sl1Dec.id : FuncId := 43
noncomputable def sl1Dec (xs : List AV) (os : List PV.Obj) : Option Res := lim' Y 43 xs os
noncomputable def sl1Dec.c : Code := codeOf Tryd.f43
theorem sl1Dec.run (xs : List AV) (os : List PV.Obj) (hc : (decide (xs.length ≤ Tryd.f43.ntmps) && decide (os.length + Tryd.f43.ntmps < 1000000000) && !(Tryd.f43.name == "runtime.NumGoroutine")) = true) :
    sl1Dec xs os = evK XX 43 (lpL XX 43) sl1Dec.c (initSt Tryd.f43 xs os GL) (outE XX 43 Tryd.f43) :=
  lim_eq (Y := Y) (f := 43) (fn := Tryd.f43) (cd := sl1Dec.c) rfl Tryd.func43 (by kernel_rfl) xs os hc
abbrev sl3Name.id : FuncId := 44
noncomputable def sl3Name (xs : List AV) (os : List PV.Obj) : Option Res := lim' Y 44 xs os
noncomputable def sl3Name.c : Code := codeOf Tryd.f44
theorem sl3Name.run (xs : List AV) (os : List PV.Obj) (hc : (decide (xs.length ≤ Tryd.f44.ntmps) && decide (os.length + Tryd.f44.ntmps < 1000000000) && !(Tryd.f44.name == "runtime.NumGoroutine")) = true) :
    sl3Name xs os = evK XX 44 (lpL XX 44) sl3Name.c (initSt Tryd.f44 xs os GL) (outE XX 44 Tryd.f44) :=
  lim_eq (Y := Y) (f := 44) (fn := Tryd.f44) (cd := sl3Name.c) rfl Tryd.func44 (by kernel_rfl) xs os hc
abbrev strconv_Atoi.id : FuncId := 46
noncomputable def strconv_Atoi (xs : List AV) (os : List PV.Obj) : Option Res := lim' Y 46 xs os
theorem strconv_Atoi.ext (xs : List AV) (os : List PV.Obj) : strconv_Atoi xs os = extAtoi xs os := lim_extE (Y := Y) rfl xs os
abbrev strings_TrimPrefix.id : FuncId := 47
noncomputable def strings_TrimPrefix (xs : List AV) (os : List PV.Obj) : Option Res := lim' Y 47 xs os
theorem strings_TrimPrefix.ext (xs : List AV) (os : List PV.Obj) : strings_TrimPrefix xs os = extTrimPrefix xs os := lim_extE (Y := Y) rfl xs os
abbrev inodesWell.id : FuncId := 48
noncomputable def inodesWell (xs : List AV) (os : List PV.Obj) : Option Res := lim' Y 48 xs os
noncomputable def inodesWell.c : Code := codeOf Tryd.f48
theorem inodesWell.run (xs : List AV) (os : List PV.Obj) (hc : (decide (xs.length ≤ Tryd.f48.ntmps) && decide (os.length + Tryd.f48.ntmps < 1000000000) && !(Tryd.f48.name == "runtime.NumGoroutine")) = true) :
    inodesWell xs os = evK XX 48 (lpL XX 48) inodesWell.c (initSt Tryd.f48 xs os GL) (outE XX 48 Tryd.f48) :=
  lim_eq (Y := Y) (f := 48) (fn := Tryd.f48) (cd := inodesWell.c) rfl Tryd.func48 (by kernel_rfl) xs os hc
abbrev strconv_Itoa.id : FuncId := 49
noncomputable def strconv_Itoa (xs : List AV) (os : List PV.Obj) : Option Res := lim' Y 49 xs os
theorem strconv_Itoa.ext (xs : List AV) (os : List PV.Obj) : strconv_Itoa xs os = extItoa xs os := lim_extE (Y := Y) rfl xs os
abbrev ipathText.id : FuncId := 50
noncomputable def ipathText (xs : List AV) (os : List PV.Obj) : Option Res := lim' Y 50 xs os
noncomputable def ipathText.c : Code := codeOf Tryd.f50
theorem ipathText.run (xs : List AV) (os : List PV.Obj) (hc : (decide (xs.length ≤ Tryd.f50.ntmps) && decide (os.length + Tryd.f50.ntmps < 1000000000) && !(Tryd.f50.name == "runtime.NumGoroutine")) = true) :
    ipathText xs os = evK XX 50 (lpL XX 50) ipathText.c (initSt Tryd.f50 xs os GL) (outE XX 50 Tryd.f50) :=
  lim_eq (Y := Y) (f := 50) (fn := Tryd.f50) (cd := ipathText.c) rfl Tryd.func50 (by kernel_rfl) xs os hc
abbrev weqNodeOf.id : FuncId := 51
noncomputable def weqNodeOf (xs : List AV) (os : List PV.Obj) : Option Res := lim' Y 51 xs os
noncomputable def weqNodeOf.c : Code := codeOf Tryd.f51
theorem weqNodeOf.run (xs : List AV) (os : List PV.Obj) (hc : (decide (xs.length ≤ Tryd.f51.ntmps) && decide (os.length + Tryd.f51.ntmps < 1000000000) && !(Tryd.f51.name == "runtime.NumGoroutine")) = true) :
    weqNodeOf xs os = evK XX 51 (lpL XX 51) weqNodeOf.c (initSt Tryd.f51 xs os GL) (outE XX 51 Tryd.f51) :=
  lim_eq (Y := Y) (f := 51) (fn := Tryd.f51) (cd := weqNodeOf.c) rfl Tryd.func51 (by kernel_rfl) xs os hc
abbrev wmarkText.id : FuncId := 59
noncomputable def wmarkText (xs : List AV) (os : List PV.Obj) : Option Res := lim' Y 59 xs os
noncomputable def wmarkText.c : Code := codeOf Tryd.f59
theorem wmarkText.run (xs : List AV) (os : List PV.Obj) (hc : (decide (xs.length ≤ Tryd.f59.ntmps) && decide (os.length + Tryd.f59.ntmps < 1000000000) && !(Tryd.f59.name == "runtime.NumGoroutine")) = true) :
    wmarkText xs os = evK XX 59 (lpL XX 59) wmarkText.c (initSt Tryd.f59 xs os GL) (outE XX 59 Tryd.f59) :=
  lim_eq (Y := Y) (f := 59) (fn := Tryd.f59) (cd := wmarkText.c) rfl Tryd.func59 (by kernel_rfl) xs os hc
abbrev sl1NameOk.id : FuncId := 60
noncomputable def sl1NameOk (xs : List AV) (os : List PV.Obj) : Option Res := lim' Y 60 xs os
noncomputable def sl1NameOk.c : Code := codeOf Tryd.f60
theorem sl1NameOk.run (xs : List AV) (os : List PV.Obj) (hc : (decide (xs.length ≤ Tryd.f60.ntmps) && decide (os.length + Tryd.f60.ntmps < 1000000000) && !(Tryd.f60.name == "runtime.NumGoroutine")) = true) :
    sl1NameOk xs os = evK XX 60 (lpL XX 60) sl1NameOk.c (initSt Tryd.f60 xs os GL) (outE XX 60 Tryd.f60) :=
  lim_eq (Y := Y) (f := 60) (fn := Tryd.f60) (cd := sl1NameOk.c) rfl Tryd.func60 (by kernel_rfl) xs os hc
abbrev inamesOk.id : FuncId := 65
noncomputable def inamesOk (xs : List AV) (os : List PV.Obj) : Option Res := lim' Y 65 xs os
noncomputable def inamesOk.c : Code := codeOf Tryd.f65
theorem inamesOk.run (xs : List AV) (os : List PV.Obj) (hc : (decide (xs.length ≤ Tryd.f65.ntmps) && decide (os.length + Tryd.f65.ntmps < 1000000000) && !(Tryd.f65.name == "runtime.NumGoroutine")) = true) :
    inamesOk xs os = evK XX 65 (lpL XX 65) inamesOk.c (initSt Tryd.f65 xs os GL) (outE XX 65 Tryd.f65) :=
  lim_eq (Y := Y) (f := 65) (fn := Tryd.f65) (cd := inamesOk.c) rfl Tryd.func65 (by kernel_rfl) xs os hc
abbrev slices_Compare_Sstring_string.id : FuncId := 66
noncomputable def slices_Compare_Sstring_string (xs : List AV) (os : List PV.Obj) : Option Res := lim' Y 66 xs os
noncomputable def slices_Compare_Sstring_string.c : Code := codeOf Tryd.f66
theorem slices_Compare_Sstring_string.run (xs : List AV) (os : List PV.Obj) (hc : (decide (xs.length ≤ Tryd.f66.ntmps) && decide (os.length + Tryd.f66.ntmps < 1000000000) && !(Tryd.f66.name == "runtime.NumGoroutine")) = true) :
    slices_Compare_Sstring_string xs os = evK XX 66 (lpL XX 66) slices_Compare_Sstring_string.c (initSt Tryd.f66 xs os GL) (outE XX 66 Tryd.f66) :=
  lim_eq (Y := Y) (f := 66) (fn := Tryd.f66) (cd := slices_Compare_Sstring_string.c) rfl Tryd.func66 (by kernel_rfl) xs os hc
abbrev iwithin.id : FuncId := 67
noncomputable def iwithin (xs : List AV) (os : List PV.Obj) : Option Res := lim' Y 67 xs os
noncomputable def iwithin.c : Code := codeOf Tryd.f67
theorem iwithin.run (xs : List AV) (os : List PV.Obj) (hc : (decide (xs.length ≤ Tryd.f67.ntmps) && decide (os.length + Tryd.f67.ntmps < 1000000000) && !(Tryd.f67.name == "runtime.NumGoroutine")) = true) :
    iwithin xs os = evK XX 67 (lpL XX 67) iwithin.c (initSt Tryd.f67 xs os GL) (outE XX 67 Tryd.f67) :=
  lim_eq (Y := Y) (f := 67) (fn := Tryd.f67) (cd := iwithin.c) rfl Tryd.func67 (by kernel_rfl) xs os hc
abbrev strings_Join.id : FuncId := 69
noncomputable def strings_Join (xs : List AV) (os : List PV.Obj) : Option Res := lim' Y 69 xs os
theorem strings_Join.ext (xs : List AV) (os : List PV.Obj) : strings_Join xs os = extJoin xs os := lim_extE (Y := Y) rfl xs os
abbrev inameOk.id : FuncId := 86
noncomputable def inameOk (xs : List AV) (os : List PV.Obj) : Option Res := lim' Y 86 xs os
noncomputable def inameOk.c : Code := codeOf Tryd.f86
theorem inameOk.run (xs : List AV) (os : List PV.Obj) (hc : (decide (xs.length ≤ Tryd.f86.ntmps) && decide (os.length + Tryd.f86.ntmps < 1000000000) && !(Tryd.f86.name == "runtime.NumGoroutine")) = true) :
    inameOk xs os = evK XX 86 (lpL XX 86) inameOk.c (initSt Tryd.f86 xs os GL) (outE XX 86 Tryd.f86) :=
  lim_eq (Y := Y) (f := 86) (fn := Tryd.f86) (cd := inameOk.c) rfl Tryd.func86 (by kernel_rfl) xs os hc
abbrev cmp_Compare_string.id : FuncId := 87
noncomputable def cmp_Compare_string (xs : List AV) (os : List PV.Obj) : Option Res := lim' Y 87 xs os
noncomputable def cmp_Compare_string.c : Code := codeOf Tryd.f87
theorem cmp_Compare_string.run (xs : List AV) (os : List PV.Obj) (hc : (decide (xs.length ≤ Tryd.f87.ntmps) && decide (os.length + Tryd.f87.ntmps < 1000000000) && !(Tryd.f87.name == "runtime.NumGoroutine")) = true) :
    cmp_Compare_string xs os = evK XX 87 (lpL XX 87) cmp_Compare_string.c (initSt Tryd.f87 xs os GL) (outE XX 87 Tryd.f87) :=
  lim_eq (Y := Y) (f := 87) (fn := Tryd.f87) (cd := cmp_Compare_string.c) rfl Tryd.func87 (by kernel_rfl) xs os hc
abbrev cmp_isNaN_string.id : FuncId := 100
noncomputable def cmp_isNaN_string (xs : List AV) (os : List PV.Obj) : Option Res := lim' Y 100 xs os
noncomputable def cmp_isNaN_string.c : Code := codeOf Tryd.f100
theorem cmp_isNaN_string.run (xs : List AV) (os : List PV.Obj) (hc : (decide (xs.length ≤ Tryd.f100.ntmps) && decide (os.length + Tryd.f100.ntmps < 1000000000) && !(Tryd.f100.name == "runtime.NumGoroutine")) = true) :
    cmp_isNaN_string xs os = evK XX 100 (lpL XX 100) cmp_isNaN_string.c (initSt Tryd.f100 xs os GL) (outE XX 100 Tryd.f100) :=
  lim_eq (Y := Y) (f := 100) (fn := Tryd.f100) (cd := cmp_isNaN_string.c) rfl Tryd.func100 (by kernel_rfl) xs os hc
end Go.PVx
