/- A part of the proof: PvXTab. -/
import Derived.Test.YtjhnnagcebcedaaProg
import Derived.Test.YtjhnnagcebcedaaPvC
import Derived.KernelRfl
set_option linter.unusedSimpArgs false
set_option linter.unusedVariables false
/- PRINTED by a tool of this work (wip/pv/tool/gen2.py): the functions' tables: what they take over, what lives at their loops. -/
namespace Go.PVx
open Go.PV Go.Proofs
def sigs : FuncId → Sig
  | 5 => { res := .one (.bool) }
  | 6 => { res := .one (.bool) }
  | 7 => { res := .one (.int .i64) }
  | 8 => { res := .one (.int .i64) }
  | 10 => { res := .agg [.int .i64, .own .deep] }
  | 11 => { res := .one (.own .deep) }
  | 13 => { res := .one (.bool) }
  | 14 => { res := .one (.bool) }
  | 17 => { mu := [0], res := .one (.int .i64) }
  | 18 => { mu := [0], res := .one (.int .i64) }
  | 19 => { res := .one (.int .i64) }
  | 20 => { res := .one (.int .i64) }
  | 21 => { res := .agg [.int .i64, .sh] }
  | 22 => { res := .agg [.bool, .int .i64, .str, .own .deep, .own .deep] }
  | 23 => { res := .agg [.int .i64, .own .deep] }
  | 24 => { res := .one (.bool) }
  | 25 => { mu := [0], res := .one (.int .i64) }
  | 26 => { res := .one (.int .i64) }
  | 27 => { res := .one (.bool) }
  | 28 => { res := .one (.bool) }
  | 29 => { res := .one (.int .i64) }
  | 30 => { res := .one (.bool) }
  | 32 => { res := .one (.own .deep) }
  | 33 => { res := .one (.bool) }
  | 34 => { res := .one (.bool) }
  | 35 => { res := .one (.bool) }
  | 36 => { mu := [0], res := .one (.int .i64) }
  | 37 => { res := .one (.str) }
  | 38 => { res := .one (.int .i64) }
  | 39 => { res := .one (.bool) }
  | 40 => { res := .one .sh }
  | 41 => { res := .one (.own .deep) }
  | 42 => { res := .one (.bool) }
  | 43 => { res := .one (.own .deep) }
  | 44 => { res := .one (.bool) }
  | 45 => { mu := [0], res := .one (.int .i64) }
  | 46 => { res := .one (.int .i64) }
  | 47 => { res := .one (.bool) }
  | 48 => { res := .one (.bool) }
  | 49 => { res := .one (.bool) }
  | 50 => { res := .one (.int .i64) }
  | 51 => { res := .one (.bool) }
  | 52 => { res := .one (.bool) }
  | 53 => { res := .one (.bool) }
  | 54 => { res := .agg [.int .i64, .own .deep] }
  | 55 => { res := .one (.bool) }
  | 56 => { res := .one (.int .i64) }
  | 57 => { res := .one (.bool) }
  | 58 => { res := .one (.bool) }
  | 59 => { res := .one (.bool) }
  | 60 => { res := .one (.int .i64) }
  | 61 => { res := .one .sh }
  | 62 => { res := .one (.bool) }
  | 63 => { res := .one (.int .i64) }
  | 64 => { mu := [2], res := .none }
  | 65 => { mu := [2], res := .none }
  | 66 => { res := .one (.bool) }
  | 67 => { res := .one (.bool) }
  | 68 => { res := .one (.bool) }
  | 69 => { res := .one (.int .i64) }
  | 70 => { res := .one (.bool) }
  | 71 => { res := .one (.bool) }
  | 72 => { res := .one (.own .deep) }
  | 73 => { res := .one (.bool) }
  | _ => { res := .none }
def lives : FuncId → Nat → List Nat × List Nat
  | 5, 100005 => ([1], [1])
  | 5, 100007 => ([1, 4, 5], [1])
  | 5, 100010 => ([1, 4, 5, 6], [1])
  | 5, 100013 => ([1, 4, 5, 6, 7], [1])
  | 5, 100016 => ([1, 4, 6], [1])
  | 5, 100020 => ([1, 4, 6, 8, 9], [1])
  | 5, 100025 => ([4, 6, 8, 10], [1])
  | 5, 100029 => ([8, 9], [1])
  | 6, 100005 => ([2, 3, 5], [1])
  | 6, 100009 => ([2, 3, 6], [1])
  | 6, 100011 => ([2, 3, 6, 7, 8], [1])
  | 6, 100016 => ([3, 8], [1])
  | 8, 5 => ([0, 1, 5], [1, 4])
  | 11, 3 => ([0, 3, 4], [3])
  | 14, 4 => ([0, 1, 5], [4])
  | 18, 2 => ([0, 1, 5], [1])
  | 19, 2 => ([0, 1, 5], [1, 4])
  | 20, 100004 => ([1, 2], [1])
  | 20, 100008 => ([1], [1])
  | 21, 6 => ([2, 3, 4, 5], [2, 3])
  | 23, 5 => ([2, 3, 13, 14, 15], [2, 3])
  | 24, 100005 => ([2, 3], [1])
  | 24, 100009 => ([2, 3], [1])
  | 27, 5 => ([2, 5, 6], [2, 4, 5])
  | 29, 5 => ([0, 1, 5], [1, 4])
  | 30, 4 => ([1, 3], [2])
  | 30, 10 => ([1, 3, 4, 5], [1, 2, 3])
  | 32, 3 => ([0, 3, 4], [3])
  | 33, 2 => ([1, 8, 9, 10], [1, 2])
  | 33, 7 => ([1, 4, 8, 9, 10, 48, 49, 50], [1, 2, 8, 9, 10])
  | 34, 4 => ([0, 1, 12, 13], [4])
  | 35, 4 => ([0, 1, 5], [4])
  | 36, 2 => ([0, 1, 5], [1])
  | 37, 4 => ([0, 3], [3])
  | 38, 5 => ([0, 1, 5], [1, 4])
  | 40, 3 => ([0, 3, 5, 6], [5])
  | 41, 3 => ([0, 3, 4], [3])
  | 44, 4 => ([0, 1, 5], [4])
  | 45, 2 => ([0, 1, 5], [1])
  | 46, 2 => ([0, 1, 5], [1, 4])
  | 48, 4 => ([1, 2, 15, 16, 17], [6])
  | 52, 2 => ([0, 3], [0, 2])
  | 53, 2 => ([0, 1, 5], [0, 1, 4])
  | 55, 2 => ([0, 1, 7, 8, 9], [0, 1, 4])
  | 56, 2 => ([0, 1, 9, 10, 11], [0, 1, 4])
  | 59, 4 => ([1, 2, 5], [4])
  | 60, 3 => ([1, 3, 4], [3])
  | 62, 8 => ([1, 2, 41, 42, 43], [4])
  | 62, 100003 => ([1, 2], [1])
  | 62, 100005 => ([1, 2], [1])
  | 62, 100007 => ([1, 2], [1])
  | 62, 100013 => ([], [1])
  | 63, 3 => ([3, 7, 8, 9], [3])
  | 64, 3 => ([1, 2, 3, 13, 14, 15], [])
  | 66, 4 => ([0, 1, 5], [4])
  | 67, 2 => ([0, 3], [0, 2])
  | 68, 2 => ([0, 5, 6], [0, 2])
  | 70, 6 => ([1, 3], [1, 2])
  | 70, 100003 => ([1], [1])
  | 70, 100005 => ([1], [1])
  | 70, 100010 => ([1], [1])
  | _, _ => ([], [])
def mvs : FuncId → Nat → Nat → Bool
  | 10, 4, 1 => true
  | 17, 0, 0 => true
  | 21, 2, 1 => true
  | 21, 10, 1 => true
  | 22, 7, 1 => true
  | 23, 2, 1 => true
  | 23, 7, 6 => true
  | 23, 10, 1 => true
  | 25, 0, 0 => true
  | 54, 4, 1 => true
  | _, _, _ => false
noncomputable def Y : Prm := { P := Try.prog, sig := sigs, mv := mvs, live := lives, ext := fun _ => none }
noncomputable def XX : Ctx := Y.ctx (lim' Y)
abbrev wFnExactNodesStart.id : FuncId := 5
noncomputable def wFnExactNodesStart (xs : List AV) (os : List PV.Obj) : Option Res := lim' Y 5 xs os
noncomputable def wFnExactNodesStart.c : Code := codeOf Try.f5
theorem wFnExactNodesStart.run (xs : List AV) (os : List PV.Obj) (hc : (decide (xs.length ≤ Try.f5.ntmps) && decide (os.length + Try.f5.ntmps < 1000000000) && !(Try.f5.name == "runtime.NumGoroutine")) = true) :
    wFnExactNodesStart xs os = evK XX 5 (lpL XX 5) wFnExactNodesStart.c (initSt Try.f5 xs os) (outE XX 5 Try.f5) :=
  lim_eq (Y := Y) (f := 5) (fn := Try.f5) (cd := wFnExactNodesStart.c) rfl Try.func5 (by kernel_rfl) xs os hc
abbrev wFnExactNodesOk.id : FuncId := 6
noncomputable def wFnExactNodesOk (xs : List AV) (os : List PV.Obj) : Option Res := lim' Y 6 xs os
noncomputable def wFnExactNodesOk.c : Code := codeOf Try.f6
theorem wFnExactNodesOk.run (xs : List AV) (os : List PV.Obj) (hc : (decide (xs.length ≤ Try.f6.ntmps) && decide (os.length + Try.f6.ntmps < 1000000000) && !(Try.f6.name == "runtime.NumGoroutine")) = true) :
    wFnExactNodesOk xs os = evK XX 6 (lpL XX 6) wFnExactNodesOk.c (initSt Try.f6 xs os) (outE XX 6 Try.f6) :=
  lim_eq (Y := Y) (f := 6) (fn := Try.f6) (cd := wFnExactNodesOk.c) rfl Try.func6 (by kernel_rfl) xs os hc
abbrev wszNodes.id : FuncId := 7
noncomputable def wszNodes (xs : List AV) (os : List PV.Obj) : Option Res := lim' Y 7 xs os
noncomputable def wszNodes.c : Code := codeOf Try.f7
theorem wszNodes.run (xs : List AV) (os : List PV.Obj) (hc : (decide (xs.length ≤ Try.f7.ntmps) && decide (os.length + Try.f7.ntmps < 1000000000) && !(Try.f7.name == "runtime.NumGoroutine")) = true) :
    wszNodes xs os = evK XX 7 (lpL XX 7) wszNodes.c (initSt Try.f7 xs os) (outE XX 7 Try.f7) :=
  lim_eq (Y := Y) (f := 7) (fn := Try.f7) (cd := wszNodes.c) rfl Try.func7 (by kernel_rfl) xs os hc
abbrev wszStringS.id : FuncId := 8
noncomputable def wszStringS (xs : List AV) (os : List PV.Obj) : Option Res := lim' Y 8 xs os
noncomputable def wszStringS.c : Code := codeOf Try.f8
theorem wszStringS.run (xs : List AV) (os : List PV.Obj) (hc : (decide (xs.length ≤ Try.f8.ntmps) && decide (os.length + Try.f8.ntmps < 1000000000) && !(Try.f8.name == "runtime.NumGoroutine")) = true) :
    wszStringS xs os = evK XX 8 (lpL XX 8) wszStringS.c (initSt Try.f8 xs os) (outE XX 8 Try.f8) :=
  lim_eq (Y := Y) (f := 8) (fn := Try.f8) (cd := wszStringS.c) rfl Try.func8 (by kernel_rfl) xs os hc
abbrev wtoNodes.id : FuncId := 10
noncomputable def wtoNodes (xs : List AV) (os : List PV.Obj) : Option Res := lim' Y 10 xs os
noncomputable def wtoNodes.c : Code := codeOf Try.f10
theorem wtoNodes.run (xs : List AV) (os : List PV.Obj) (hc : (decide (xs.length ≤ Try.f10.ntmps) && decide (os.length + Try.f10.ntmps < 1000000000) && !(Try.f10.name == "runtime.NumGoroutine")) = true) :
    wtoNodes xs os = evK XX 10 (lpL XX 10) wtoNodes.c (initSt Try.f10 xs os) (outE XX 10 Try.f10) :=
  lim_eq (Y := Y) (f := 10) (fn := Try.f10) (cd := wtoNodes.c) rfl Try.func10 (by kernel_rfl) xs os hc
abbrev wtoStringS.id : FuncId := 11
noncomputable def wtoStringS (xs : List AV) (os : List PV.Obj) : Option Res := lim' Y 11 xs os
noncomputable def wtoStringS.c : Code := codeOf Try.f11
theorem wtoStringS.run (xs : List AV) (os : List PV.Obj) (hc : (decide (xs.length ≤ Try.f11.ntmps) && decide (os.length + Try.f11.ntmps < 1000000000) && !(Try.f11.name == "runtime.NumGoroutine")) = true) :
    wtoStringS xs os = evK XX 11 (lpL XX 11) wtoStringS.c (initSt Try.f11 xs os) (outE XX 11 Try.f11) :=
  lim_eq (Y := Y) (f := 11) (fn := Try.f11) (cd := wtoStringS.c) rfl Try.func11 (by kernel_rfl) xs os hc
abbrev weqNodes.id : FuncId := 13
noncomputable def weqNodes (xs : List AV) (os : List PV.Obj) : Option Res := lim' Y 13 xs os
noncomputable def weqNodes.c : Code := codeOf Try.f13
theorem weqNodes.run (xs : List AV) (os : List PV.Obj) (hc : (decide (xs.length ≤ Try.f13.ntmps) && decide (os.length + Try.f13.ntmps < 1000000000) && !(Try.f13.name == "runtime.NumGoroutine")) = true) :
    weqNodes xs os = evK XX 13 (lpL XX 13) weqNodes.c (initSt Try.f13 xs os) (outE XX 13 Try.f13) :=
  lim_eq (Y := Y) (f := 13) (fn := Try.f13) (cd := weqNodes.c) rfl Try.func13 (by kernel_rfl) xs os hc
abbrev weqStringS.id : FuncId := 14
noncomputable def weqStringS (xs : List AV) (os : List PV.Obj) : Option Res := lim' Y 14 xs os
noncomputable def weqStringS.c : Code := codeOf Try.f14
theorem weqStringS.run (xs : List AV) (os : List PV.Obj) (hc : (decide (xs.length ≤ Try.f14.ntmps) && decide (os.length + Try.f14.ntmps < 1000000000) && !(Try.f14.name == "runtime.NumGoroutine")) = true) :
    weqStringS xs os = evK XX 14 (lpL XX 14) weqStringS.c (initSt Try.f14 xs os) (outE XX 14 Try.f14) :=
  lim_eq (Y := Y) (f := 14) (fn := Try.f14) (cd := weqStringS.c) rfl Try.func14 (by kernel_rfl) xs os hc
abbrev wmarkNodes.id : FuncId := 17
noncomputable def wmarkNodes (xs : List AV) (os : List PV.Obj) : Option Res := lim' Y 17 xs os
noncomputable def wmarkNodes.c : Code := codeOf Try.f17
theorem wmarkNodes.run (xs : List AV) (os : List PV.Obj) (hc : (decide (xs.length ≤ Try.f17.ntmps) && decide (os.length + Try.f17.ntmps < 1000000000) && !(Try.f17.name == "runtime.NumGoroutine")) = true) :
    wmarkNodes xs os = evK XX 17 (lpL XX 17) wmarkNodes.c (initSt Try.f17 xs os) (outE XX 17 Try.f17) :=
  lim_eq (Y := Y) (f := 17) (fn := Try.f17) (cd := wmarkNodes.c) rfl Try.func17 (by kernel_rfl) xs os hc
abbrev wmarkStringS.id : FuncId := 18
noncomputable def wmarkStringS (xs : List AV) (os : List PV.Obj) : Option Res := lim' Y 18 xs os
noncomputable def wmarkStringS.c : Code := codeOf Try.f18
theorem wmarkStringS.run (xs : List AV) (os : List PV.Obj) (hc : (decide (xs.length ≤ Try.f18.ntmps) && decide (os.length + Try.f18.ntmps < 1000000000) && !(Try.f18.name == "runtime.NumGoroutine")) = true) :
    wmarkStringS xs os = evK XX 18 (lpL XX 18) wmarkStringS.c (initSt Try.f18 xs os) (outE XX 18 Try.f18) :=
  lim_eq (Y := Y) (f := 18) (fn := Try.f18) (cd := wmarkStringS.c) rfl Try.func18 (by kernel_rfl) xs os hc
abbrev wheldStringS.id : FuncId := 19
noncomputable def wheldStringS (xs : List AV) (os : List PV.Obj) : Option Res := lim' Y 19 xs os
noncomputable def wheldStringS.c : Code := codeOf Try.f19
theorem wheldStringS.run (xs : List AV) (os : List PV.Obj) (hc : (decide (xs.length ≤ Try.f19.ntmps) && decide (os.length + Try.f19.ntmps < 1000000000) && !(Try.f19.name == "runtime.NumGoroutine")) = true) :
    wheldStringS xs os = evK XX 19 (lpL XX 19) wheldStringS.c (initSt Try.f19 xs os) (outE XX 19 Try.f19) :=
  lim_eq (Y := Y) (f := 19) (fn := Try.f19) (cd := wheldStringS.c) rfl Try.func19 (by kernel_rfl) xs os hc
abbrev wszTree.id : FuncId := 20
noncomputable def wszTree (xs : List AV) (os : List PV.Obj) : Option Res := lim' Y 20 xs os
noncomputable def wszTree.c : Code := codeOf Try.f20
theorem wszTree.run (xs : List AV) (os : List PV.Obj) (hc : (decide (xs.length ≤ Try.f20.ntmps) && decide (os.length + Try.f20.ntmps < 1000000000) && !(Try.f20.name == "runtime.NumGoroutine")) = true) :
    wszTree xs os = evK XX 20 (lpL XX 20) wszTree.c (initSt Try.f20 xs os) (outE XX 20 Try.f20) :=
  lim_eq (Y := Y) (f := 20) (fn := Try.f20) (cd := wszTree.c) rfl Try.func20 (by kernel_rfl) xs os hc
abbrev sNodesStart.id : FuncId := 21
noncomputable def sNodesStart (xs : List AV) (os : List PV.Obj) : Option Res := lim' Y 21 xs os
noncomputable def sNodesStart.c : Code := codeOf Try.f21
theorem sNodesStart.run (xs : List AV) (os : List PV.Obj) (hc : (decide (xs.length ≤ Try.f21.ntmps) && decide (os.length + Try.f21.ntmps < 1000000000) && !(Try.f21.name == "runtime.NumGoroutine")) = true) :
    sNodesStart xs os = evK XX 21 (lpL XX 21) sNodesStart.c (initSt Try.f21 xs os) (outE XX 21 Try.f21) :=
  lim_eq (Y := Y) (f := 21) (fn := Try.f21) (cd := sNodesStart.c) rfl Try.func21 (by kernel_rfl) xs os hc
abbrev wtoTree.id : FuncId := 22
noncomputable def wtoTree (xs : List AV) (os : List PV.Obj) : Option Res := lim' Y 22 xs os
noncomputable def wtoTree.c : Code := codeOf Try.f22
theorem wtoTree.run (xs : List AV) (os : List PV.Obj) (hc : (decide (xs.length ≤ Try.f22.ntmps) && decide (os.length + Try.f22.ntmps < 1000000000) && !(Try.f22.name == "runtime.NumGoroutine")) = true) :
    wtoTree xs os = evK XX 22 (lpL XX 22) wtoTree.c (initSt Try.f22 xs os) (outE XX 22 Try.f22) :=
  lim_eq (Y := Y) (f := 22) (fn := Try.f22) (cd := wtoTree.c) rfl Try.func22 (by kernel_rfl) xs os hc
abbrev iNodesStart.id : FuncId := 23
noncomputable def iNodesStart (xs : List AV) (os : List PV.Obj) : Option Res := lim' Y 23 xs os
noncomputable def iNodesStart.c : Code := codeOf Try.f23
theorem iNodesStart.run (xs : List AV) (os : List PV.Obj) (hc : (decide (xs.length ≤ Try.f23.ntmps) && decide (os.length + Try.f23.ntmps < 1000000000) && !(Try.f23.name == "runtime.NumGoroutine")) = true) :
    iNodesStart xs os = evK XX 23 (lpL XX 23) iNodesStart.c (initSt Try.f23 xs os) (outE XX 23 Try.f23) :=
  lim_eq (Y := Y) (f := 23) (fn := Try.f23) (cd := iNodesStart.c) rfl Try.func23 (by kernel_rfl) xs os hc
abbrev weqTree.id : FuncId := 24
noncomputable def weqTree (xs : List AV) (os : List PV.Obj) : Option Res := lim' Y 24 xs os
noncomputable def weqTree.c : Code := codeOf Try.f24
theorem weqTree.run (xs : List AV) (os : List PV.Obj) (hc : (decide (xs.length ≤ Try.f24.ntmps) && decide (os.length + Try.f24.ntmps < 1000000000) && !(Try.f24.name == "runtime.NumGoroutine")) = true) :
    weqTree xs os = evK XX 24 (lpL XX 24) weqTree.c (initSt Try.f24 xs os) (outE XX 24 Try.f24) :=
  lim_eq (Y := Y) (f := 24) (fn := Try.f24) (cd := weqTree.c) rfl Try.func24 (by kernel_rfl) xs os hc
abbrev wmarkTree.id : FuncId := 25
noncomputable def wmarkTree (xs : List AV) (os : List PV.Obj) : Option Res := lim' Y 25 xs os
noncomputable def wmarkTree.c : Code := codeOf Try.f25
theorem wmarkTree.run (xs : List AV) (os : List PV.Obj) (hc : (decide (xs.length ≤ Try.f25.ntmps) && decide (os.length + Try.f25.ntmps < 1000000000) && !(Try.f25.name == "runtime.NumGoroutine")) = true) :
    wmarkTree xs os = evK XX 25 (lpL XX 25) wmarkTree.c (initSt Try.f25 xs os) (outE XX 25 Try.f25) :=
  lim_eq (Y := Y) (f := 25) (fn := Try.f25) (cd := wmarkTree.c) rfl Try.func25 (by kernel_rfl) xs os hc
abbrev wheldNodes.id : FuncId := 26
noncomputable def wheldNodes (xs : List AV) (os : List PV.Obj) : Option Res := lim' Y 26 xs os
noncomputable def wheldNodes.c : Code := codeOf Try.f26
theorem wheldNodes.run (xs : List AV) (os : List PV.Obj) (hc : (decide (xs.length ≤ Try.f26.ntmps) && decide (os.length + Try.f26.ntmps < 1000000000) && !(Try.f26.name == "runtime.NumGoroutine")) = true) :
    wheldNodes xs os = evK XX 26 (lpL XX 26) wheldNodes.c (initSt Try.f26 xs os) (outE XX 26 Try.f26) :=
  lim_eq (Y := Y) (f := 26) (fn := Try.f26) (cd := wheldNodes.c) rfl Try.func26 (by kernel_rfl) xs os hc
abbrev sNodesOk.id : FuncId := 27
noncomputable def sNodesOk (xs : List AV) (os : List PV.Obj) : Option Res := lim' Y 27 xs os
noncomputable def sNodesOk.c : Code := codeOf Try.f27
theorem sNodesOk.run (xs : List AV) (os : List PV.Obj) (hc : (decide (xs.length ≤ Try.f27.ntmps) && decide (os.length + Try.f27.ntmps < 1000000000) && !(Try.f27.name == "runtime.NumGoroutine")) = true) :
    sNodesOk xs os = evK XX 27 (lpL XX 27) sNodesOk.c (initSt Try.f27 xs os) (outE XX 27 Try.f27) :=
  lim_eq (Y := Y) (f := 27) (fn := Try.f27) (cd := sNodesOk.c) rfl Try.func27 (by kernel_rfl) xs os hc
abbrev iNodesOk.id : FuncId := 28
noncomputable def iNodesOk (xs : List AV) (os : List PV.Obj) : Option Res := lim' Y 28 xs os
noncomputable def iNodesOk.c : Code := codeOf Try.f28
theorem iNodesOk.run (xs : List AV) (os : List PV.Obj) (hc : (decide (xs.length ≤ Try.f28.ntmps) && decide (os.length + Try.f28.ntmps < 1000000000) && !(Try.f28.name == "runtime.NumGoroutine")) = true) :
    iNodesOk xs os = evK XX 28 (lpL XX 28) iNodesOk.c (initSt Try.f28 xs os) (outE XX 28 Try.f28) :=
  lim_eq (Y := Y) (f := 28) (fn := Try.f28) (cd := iNodesOk.c) rfl Try.func28 (by kernel_rfl) xs os hc
abbrev wszNodeOfS.id : FuncId := 29
noncomputable def wszNodeOfS (xs : List AV) (os : List PV.Obj) : Option Res := lim' Y 29 xs os
noncomputable def wszNodeOfS.c : Code := codeOf Try.f29
theorem wszNodeOfS.run (xs : List AV) (os : List PV.Obj) (hc : (decide (xs.length ≤ Try.f29.ntmps) && decide (os.length + Try.f29.ntmps < 1000000000) && !(Try.f29.name == "runtime.NumGoroutine")) = true) :
    wszNodeOfS xs os = evK XX 29 (lpL XX 29) wszNodeOfS.c (initSt Try.f29 xs os) (outE XX 29 Try.f29) :=
  lim_eq (Y := Y) (f := 29) (fn := Try.f29) (cd := wszNodeOfS.c) rfl Try.func29 (by kernel_rfl) xs os hc
abbrev sl33Ok.id : FuncId := 30
noncomputable def sl33Ok (xs : List AV) (os : List PV.Obj) : Option Res := lim' Y 30 xs os
noncomputable def sl33Ok.c : Code := codeOf Try.f30
theorem sl33Ok.run (xs : List AV) (os : List PV.Obj) (hc : (decide (xs.length ≤ Try.f30.ntmps) && decide (os.length + Try.f30.ntmps < 1000000000) && !(Try.f30.name == "runtime.NumGoroutine")) = true) :
    sl33Ok xs os = evK XX 30 (lpL XX 30) sl33Ok.c (initSt Try.f30 xs os) (outE XX 30 Try.f30) :=
  lim_eq (Y := Y) (f := 30) (fn := Try.f30) (cd := sl33Ok.c) rfl Try.func30 (by kernel_rfl) xs os hc
abbrev wtoNodeOfS.id : FuncId := 32
noncomputable def wtoNodeOfS (xs : List AV) (os : List PV.Obj) : Option Res := lim' Y 32 xs os
noncomputable def wtoNodeOfS.c : Code := codeOf Try.f32
theorem wtoNodeOfS.run (xs : List AV) (os : List PV.Obj) (hc : (decide (xs.length ≤ Try.f32.ntmps) && decide (os.length + Try.f32.ntmps < 1000000000) && !(Try.f32.name == "runtime.NumGoroutine")) = true) :
    wtoNodeOfS xs os = evK XX 32 (lpL XX 32) wtoNodeOfS.c (initSt Try.f32 xs os) (outE XX 32 Try.f32) :=
  lim_eq (Y := Y) (f := 32) (fn := Try.f32) (cd := wtoNodeOfS.c) rfl Try.func32 (by kernel_rfl) xs os hc
abbrev inodesWell.id : FuncId := 33
noncomputable def inodesWell (xs : List AV) (os : List PV.Obj) : Option Res := lim' Y 33 xs os
noncomputable def inodesWell.c : Code := codeOf Try.f33
theorem inodesWell.run (xs : List AV) (os : List PV.Obj) (hc : (decide (xs.length ≤ Try.f33.ntmps) && decide (os.length + Try.f33.ntmps < 1000000000) && !(Try.f33.name == "runtime.NumGoroutine")) = true) :
    inodesWell xs os = evK XX 33 (lpL XX 33) inodesWell.c (initSt Try.f33 xs os) (outE XX 33 Try.f33) :=
  lim_eq (Y := Y) (f := 33) (fn := Try.f33) (cd := inodesWell.c) rfl Try.func33 (by kernel_rfl) xs os hc
abbrev slices_Equal_Sstring_string.id : FuncId := 34
noncomputable def slices_Equal_Sstring_string (xs : List AV) (os : List PV.Obj) : Option Res := lim' Y 34 xs os
noncomputable def slices_Equal_Sstring_string.c : Code := codeOf Try.f34
theorem slices_Equal_Sstring_string.run (xs : List AV) (os : List PV.Obj) (hc : (decide (xs.length ≤ Try.f34.ntmps) && decide (os.length + Try.f34.ntmps < 1000000000) && !(Try.f34.name == "runtime.NumGoroutine")) = true) :
    slices_Equal_Sstring_string xs os = evK XX 34 (lpL XX 34) slices_Equal_Sstring_string.c (initSt Try.f34 xs os) (outE XX 34 Try.f34) :=
  lim_eq (Y := Y) (f := 34) (fn := Try.f34) (cd := slices_Equal_Sstring_string.c) rfl Try.func34 (by kernel_rfl) xs os hc
abbrev weqNodeOfS.id : FuncId := 35
noncomputable def weqNodeOfS (xs : List AV) (os : List PV.Obj) : Option Res := lim' Y 35 xs os
noncomputable def weqNodeOfS.c : Code := codeOf Try.f35
theorem weqNodeOfS.run (xs : List AV) (os : List PV.Obj) (hc : (decide (xs.length ≤ Try.f35.ntmps) && decide (os.length + Try.f35.ntmps < 1000000000) && !(Try.f35.name == "runtime.NumGoroutine")) = true) :
    weqNodeOfS xs os = evK XX 35 (lpL XX 35) weqNodeOfS.c (initSt Try.f35 xs os) (outE XX 35 Try.f35) :=
  lim_eq (Y := Y) (f := 35) (fn := Try.f35) (cd := weqNodeOfS.c) rfl Try.func35 (by kernel_rfl) xs os hc
abbrev wmarkNodeOfS.id : FuncId := 36
noncomputable def wmarkNodeOfS (xs : List AV) (os : List PV.Obj) : Option Res := lim' Y 36 xs os
noncomputable def wmarkNodeOfS.c : Code := codeOf Try.f36
theorem wmarkNodeOfS.run (xs : List AV) (os : List PV.Obj) (hc : (decide (xs.length ≤ Try.f36.ntmps) && decide (os.length + Try.f36.ntmps < 1000000000) && !(Try.f36.name == "runtime.NumGoroutine")) = true) :
    wmarkNodeOfS xs os = evK XX 36 (lpL XX 36) wmarkNodeOfS.c (initSt Try.f36 xs os) (outE XX 36 Try.f36) :=
  lim_eq (Y := Y) (f := 36) (fn := Try.f36) (cd := wmarkNodeOfS.c) rfl Try.func36 (by kernel_rfl) xs os hc
abbrev wmarkText.id : FuncId := 37
noncomputable def wmarkText (xs : List AV) (os : List PV.Obj) : Option Res := lim' Y 37 xs os
noncomputable def wmarkText.c : Code := codeOf Try.f37
theorem wmarkText.run (xs : List AV) (os : List PV.Obj) (hc : (decide (xs.length ≤ Try.f37.ntmps) && decide (os.length + Try.f37.ntmps < 1000000000) && !(Try.f37.name == "runtime.NumGoroutine")) = true) :
    wmarkText xs os = evK XX 37 (lpL XX 37) wmarkText.c (initSt Try.f37 xs os) (outE XX 37 Try.f37) :=
  lim_eq (Y := Y) (f := 37) (fn := Try.f37) (cd := wmarkText.c) rfl Try.func37 (by kernel_rfl) xs os hc
abbrev wszTreeS.id : FuncId := 38
noncomputable def wszTreeS (xs : List AV) (os : List PV.Obj) : Option Res := lim' Y 38 xs os
noncomputable def wszTreeS.c : Code := codeOf Try.f38
theorem wszTreeS.run (xs : List AV) (os : List PV.Obj) (hc : (decide (xs.length ≤ Try.f38.ntmps) && decide (os.length + Try.f38.ntmps < 1000000000) && !(Try.f38.name == "runtime.NumGoroutine")) = true) :
    wszTreeS xs os = evK XX 38 (lpL XX 38) wszTreeS.c (initSt Try.f38 xs os) (outE XX 38 Try.f38) :=
  lim_eq (Y := Y) (f := 38) (fn := Try.f38) (cd := wszTreeS.c) rfl Try.func38 (by kernel_rfl) xs os hc
abbrev sTreeOk.id : FuncId := 39
noncomputable def sTreeOk (xs : List AV) (os : List PV.Obj) : Option Res := lim' Y 39 xs os
noncomputable def sTreeOk.c : Code := codeOf Try.f39
theorem sTreeOk.run (xs : List AV) (os : List PV.Obj) (hc : (decide (xs.length ≤ Try.f39.ntmps) && decide (os.length + Try.f39.ntmps < 1000000000) && !(Try.f39.name == "runtime.NumGoroutine")) = true) :
    sTreeOk xs os = evK XX 39 (lpL XX 39) sTreeOk.c (initSt Try.f39 xs os) (outE XX 39 Try.f39) :=
  lim_eq (Y := Y) (f := 39) (fn := Try.f39) (cd := sTreeOk.c) rfl Try.func39 (by kernel_rfl) xs os hc
abbrev sl33Paths.id : FuncId := 40
noncomputable def sl33Paths (xs : List AV) (os : List PV.Obj) : Option Res := lim' Y 40 xs os
noncomputable def sl33Paths.c : Code := codeOf Try.f40
theorem sl33Paths.run (xs : List AV) (os : List PV.Obj) (hc : (decide (xs.length ≤ Try.f40.ntmps) && decide (os.length + Try.f40.ntmps < 1000000000) && !(Try.f40.name == "runtime.NumGoroutine")) = true) :
    sl33Paths xs os = evK XX 40 (lpL XX 40) sl33Paths.c (initSt Try.f40 xs os) (outE XX 40 Try.f40) :=
  lim_eq (Y := Y) (f := 40) (fn := Try.f40) (cd := sl33Paths.c) rfl Try.func40 (by kernel_rfl) xs os hc
abbrev wtoTreeS.id : FuncId := 41
noncomputable def wtoTreeS (xs : List AV) (os : List PV.Obj) : Option Res := lim' Y 41 xs os
noncomputable def wtoTreeS.c : Code := codeOf Try.f41
theorem wtoTreeS.run (xs : List AV) (os : List PV.Obj) (hc : (decide (xs.length ≤ Try.f41.ntmps) && decide (os.length + Try.f41.ntmps < 1000000000) && !(Try.f41.name == "runtime.NumGoroutine")) = true) :
    wtoTreeS xs os = evK XX 41 (lpL XX 41) wtoTreeS.c (initSt Try.f41 xs os) (outE XX 41 Try.f41) :=
  lim_eq (Y := Y) (f := 41) (fn := Try.f41) (cd := wtoTreeS.c) rfl Try.func41 (by kernel_rfl) xs os hc
abbrev iTreeOk.id : FuncId := 42
noncomputable def iTreeOk (xs : List AV) (os : List PV.Obj) : Option Res := lim' Y 42 xs os
noncomputable def iTreeOk.c : Code := codeOf Try.f42
theorem iTreeOk.run (xs : List AV) (os : List PV.Obj) (hc : (decide (xs.length ≤ Try.f42.ntmps) && decide (os.length + Try.f42.ntmps < 1000000000) && !(Try.f42.name == "runtime.NumGoroutine")) = true) :
    iTreeOk xs os = evK XX 42 (lpL XX 42) iTreeOk.c (initSt Try.f42 xs os) (outE XX 42 Try.f42) :=
  lim_eq (Y := Y) (f := 42) (fn := Try.f42) (cd := iTreeOk.c) rfl Try.func42 (by kernel_rfl) xs os hc
abbrev ipathsOf.id : FuncId := 43
noncomputable def ipathsOf (xs : List AV) (os : List PV.Obj) : Option Res := lim' Y 43 xs os
noncomputable def ipathsOf.c : Code := codeOf Try.f43
theorem ipathsOf.run (xs : List AV) (os : List PV.Obj) (hc : (decide (xs.length ≤ Try.f43.ntmps) && decide (os.length + Try.f43.ntmps < 1000000000) && !(Try.f43.name == "runtime.NumGoroutine")) = true) :
    ipathsOf xs os = evK XX 43 (lpL XX 43) ipathsOf.c (initSt Try.f43 xs os) (outE XX 43 Try.f43) :=
  lim_eq (Y := Y) (f := 43) (fn := Try.f43) (cd := ipathsOf.c) rfl Try.func43 (by kernel_rfl) xs os hc
abbrev weqTreeS.id : FuncId := 44
noncomputable def weqTreeS (xs : List AV) (os : List PV.Obj) : Option Res := lim' Y 44 xs os
noncomputable def weqTreeS.c : Code := codeOf Try.f44
theorem weqTreeS.run (xs : List AV) (os : List PV.Obj) (hc : (decide (xs.length ≤ Try.f44.ntmps) && decide (os.length + Try.f44.ntmps < 1000000000) && !(Try.f44.name == "runtime.NumGoroutine")) = true) :
    weqTreeS xs os = evK XX 44 (lpL XX 44) weqTreeS.c (initSt Try.f44 xs os) (outE XX 44 Try.f44) :=
  lim_eq (Y := Y) (f := 44) (fn := Try.f44) (cd := weqTreeS.c) rfl Try.func44 (by kernel_rfl) xs os hc
abbrev wmarkTreeS.id : FuncId := 45
noncomputable def wmarkTreeS (xs : List AV) (os : List PV.Obj) : Option Res := lim' Y 45 xs os
noncomputable def wmarkTreeS.c : Code := codeOf Try.f45
theorem wmarkTreeS.run (xs : List AV) (os : List PV.Obj) (hc : (decide (xs.length ≤ Try.f45.ntmps) && decide (os.length + Try.f45.ntmps < 1000000000) && !(Try.f45.name == "runtime.NumGoroutine")) = true) :
    wmarkTreeS xs os = evK XX 45 (lpL XX 45) wmarkTreeS.c (initSt Try.f45 xs os) (outE XX 45 Try.f45) :=
  lim_eq (Y := Y) (f := 45) (fn := Try.f45) (cd := wmarkTreeS.c) rfl Try.func45 (by kernel_rfl) xs os hc
abbrev wheldNodeOfS.id : FuncId := 46
noncomputable def wheldNodeOfS (xs : List AV) (os : List PV.Obj) : Option Res := lim' Y 46 xs os
noncomputable def wheldNodeOfS.c : Code := codeOf Try.f46
theorem wheldNodeOfS.run (xs : List AV) (os : List PV.Obj) (hc : (decide (xs.length ≤ Try.f46.ntmps) && decide (os.length + Try.f46.ntmps < 1000000000) && !(Try.f46.name == "runtime.NumGoroutine")) = true) :
    wheldNodeOfS xs os = evK XX 46 (lpL XX 46) wheldNodeOfS.c (initSt Try.f46 xs os) (outE XX 46 Try.f46) :=
  lim_eq (Y := Y) (f := 46) (fn := Try.f46) (cd := wheldNodeOfS.c) rfl Try.func46 (by kernel_rfl) xs os hc
abbrev sl11Same.id : FuncId := 47
noncomputable def sl11Same (xs : List AV) (os : List PV.Obj) : Option Res := lim' Y 47 xs os
noncomputable def sl11Same.c : Code := codeOf Try.f47
theorem sl11Same.run (xs : List AV) (os : List PV.Obj) (hc : (decide (xs.length ≤ Try.f47.ntmps) && decide (os.length + Try.f47.ntmps < 1000000000) && !(Try.f47.name == "runtime.NumGoroutine")) = true) :
    sl11Same xs os = evK XX 47 (lpL XX 47) sl11Same.c (initSt Try.f47 xs os) (outE XX 47 Try.f47) :=
  lim_eq (Y := Y) (f := 47) (fn := Try.f47) (cd := sl11Same.c) rfl Try.func47 (by kernel_rfl) xs os hc
abbrev slices_EqualFunc_SiNodeOf_SSstring_iNodeOf_Sstring.id : FuncId := 48
noncomputable def slices_EqualFunc_SiNodeOf_SSstring_iNodeOf_Sstring (xs : List AV) (os : List PV.Obj) : Option Res := lim' Y 48 xs os
noncomputable def slices_EqualFunc_SiNodeOf_SSstring_iNodeOf_Sstring.c : Code := codeOf Try.f48
theorem slices_EqualFunc_SiNodeOf_SSstring_iNodeOf_Sstring.run (xs : List AV) (os : List PV.Obj) (hc : (decide (xs.length ≤ Try.f48.ntmps) && decide (os.length + Try.f48.ntmps < 1000000000) && !(Try.f48.name == "runtime.NumGoroutine")) = true) :
    slices_EqualFunc_SiNodeOf_SSstring_iNodeOf_Sstring xs os = evK XX 48 (lpL XX 48) slices_EqualFunc_SiNodeOf_SSstring_iNodeOf_Sstring.c (initSt Try.f48 xs os) (outE XX 48 Try.f48) :=
  lim_eq (Y := Y) (f := 48) (fn := Try.f48) (cd := slices_EqualFunc_SiNodeOf_SSstring_iNodeOf_Sstring.c) rfl Try.func48 (by kernel_rfl) xs os hc
abbrev iNodesOk_1.id : FuncId := 49
noncomputable def iNodesOk_1 (xs : List AV) (os : List PV.Obj) : Option Res := lim' Y 49 xs os
noncomputable def iNodesOk_1.c : Code := codeOf Try.f49
theorem iNodesOk_1.run (xs : List AV) (os : List PV.Obj) (hc : (decide (xs.length ≤ Try.f49.ntmps) && decide (os.length + Try.f49.ntmps < 1000000000) && !(Try.f49.name == "runtime.NumGoroutine")) = true) :
    iNodesOk_1 xs os = evK XX 49 (lpL XX 49) iNodesOk_1.c (initSt Try.f49 xs os) (outE XX 49 Try.f49) :=
  lim_eq (Y := Y) (f := 49) (fn := Try.f49) (cd := iNodesOk_1.c) rfl Try.func49 (by kernel_rfl) xs os hc
abbrev wszNodeOf.id : FuncId := 50
noncomputable def wszNodeOf (xs : List AV) (os : List PV.Obj) : Option Res := lim' Y 50 xs os
noncomputable def wszNodeOf.c : Code := codeOf Try.f50
theorem wszNodeOf.run (xs : List AV) (os : List PV.Obj) (hc : (decide (xs.length ≤ Try.f50.ntmps) && decide (os.length + Try.f50.ntmps < 1000000000) && !(Try.f50.name == "runtime.NumGoroutine")) = true) :
    wszNodeOf xs os = evK XX 50 (lpL XX 50) wszNodeOf.c (initSt Try.f50 xs os) (outE XX 50 Try.f50) :=
  lim_eq (Y := Y) (f := 50) (fn := Try.f50) (cd := wszNodeOf.c) rfl Try.func50 (by kernel_rfl) xs os hc
abbrev sl1In.id : FuncId := 51
noncomputable def sl1In (xs : List AV) (os : List PV.Obj) : Option Res := lim' Y 51 xs os
noncomputable def sl1In.c : Code := codeOf Try.f51
theorem sl1In.run (xs : List AV) (os : List PV.Obj) (hc : (decide (xs.length ≤ Try.f51.ntmps) && decide (os.length + Try.f51.ntmps < 1000000000) && !(Try.f51.name == "runtime.NumGoroutine")) = true) :
    sl1In xs os = evK XX 51 (lpL XX 51) sl1In.c (initSt Try.f51 xs os) (outE XX 51 Try.f51) :=
  lim_eq (Y := Y) (f := 51) (fn := Try.f51) (cd := sl1In.c) rfl Try.func51 (by kernel_rfl) xs os hc
abbrev sl2PathOk.id : FuncId := 52
noncomputable def sl2PathOk (xs : List AV) (os : List PV.Obj) : Option Res := lim' Y 52 xs os
noncomputable def sl2PathOk.c : Code := codeOf Try.f52
theorem sl2PathOk.run (xs : List AV) (os : List PV.Obj) (hc : (decide (xs.length ≤ Try.f52.ntmps) && decide (os.length + Try.f52.ntmps < 1000000000) && !(Try.f52.name == "runtime.NumGoroutine")) = true) :
    sl2PathOk xs os = evK XX 52 (lpL XX 52) sl2PathOk.c (initSt Try.f52 xs os) (outE XX 52 Try.f52) :=
  lim_eq (Y := Y) (f := 52) (fn := Try.f52) (cd := sl2PathOk.c) rfl Try.func52 (by kernel_rfl) xs os hc
abbrev sl11Less.id : FuncId := 53
noncomputable def sl11Less (xs : List AV) (os : List PV.Obj) : Option Res := lim' Y 53 xs os
noncomputable def sl11Less.c : Code := codeOf Try.f53
theorem sl11Less.run (xs : List AV) (os : List PV.Obj) (hc : (decide (xs.length ≤ Try.f53.ntmps) && decide (os.length + Try.f53.ntmps < 1000000000) && !(Try.f53.name == "runtime.NumGoroutine")) = true) :
    sl11Less xs os = evK XX 53 (lpL XX 53) sl11Less.c (initSt Try.f53 xs os) (outE XX 53 Try.f53) :=
  lim_eq (Y := Y) (f := 53) (fn := Try.f53) (cd := sl11Less.c) rfl Try.func53 (by kernel_rfl) xs os hc
abbrev wtoNodeOf.id : FuncId := 54
noncomputable def wtoNodeOf (xs : List AV) (os : List PV.Obj) : Option Res := lim' Y 54 xs os
noncomputable def wtoNodeOf.c : Code := codeOf Try.f54
theorem wtoNodeOf.run (xs : List AV) (os : List PV.Obj) (hc : (decide (xs.length ≤ Try.f54.ntmps) && decide (os.length + Try.f54.ntmps < 1000000000) && !(Try.f54.name == "runtime.NumGoroutine")) = true) :
    wtoNodeOf xs os = evK XX 54 (lpL XX 54) wtoNodeOf.c (initSt Try.f54 xs os) (outE XX 54 Try.f54) :=
  lim_eq (Y := Y) (f := 54) (fn := Try.f54) (cd := wtoNodeOf.c) rfl Try.func54 (by kernel_rfl) xs os hc
abbrev inamesOk.id : FuncId := 55
noncomputable def inamesOk (xs : List AV) (os : List PV.Obj) : Option Res := lim' Y 55 xs os
noncomputable def inamesOk.c : Code := codeOf Try.f55
theorem inamesOk.run (xs : List AV) (os : List PV.Obj) (hc : (decide (xs.length ≤ Try.f55.ntmps) && decide (os.length + Try.f55.ntmps < 1000000000) && !(Try.f55.name == "runtime.NumGoroutine")) = true) :
    inamesOk xs os = evK XX 55 (lpL XX 55) inamesOk.c (initSt Try.f55 xs os) (outE XX 55 Try.f55) :=
  lim_eq (Y := Y) (f := 55) (fn := Try.f55) (cd := inamesOk.c) rfl Try.func55 (by kernel_rfl) xs os hc
abbrev slices_Compare_Sstring_string.id : FuncId := 56
noncomputable def slices_Compare_Sstring_string (xs : List AV) (os : List PV.Obj) : Option Res := lim' Y 56 xs os
noncomputable def slices_Compare_Sstring_string.c : Code := codeOf Try.f56
theorem slices_Compare_Sstring_string.run (xs : List AV) (os : List PV.Obj) (hc : (decide (xs.length ≤ Try.f56.ntmps) && decide (os.length + Try.f56.ntmps < 1000000000) && !(Try.f56.name == "runtime.NumGoroutine")) = true) :
    slices_Compare_Sstring_string xs os = evK XX 56 (lpL XX 56) slices_Compare_Sstring_string.c (initSt Try.f56 xs os) (outE XX 56 Try.f56) :=
  lim_eq (Y := Y) (f := 56) (fn := Try.f56) (cd := slices_Compare_Sstring_string.c) rfl Try.func56 (by kernel_rfl) xs os hc
abbrev iwithin.id : FuncId := 57
noncomputable def iwithin (xs : List AV) (os : List PV.Obj) : Option Res := lim' Y 57 xs os
noncomputable def iwithin.c : Code := codeOf Try.f57
theorem iwithin.run (xs : List AV) (os : List PV.Obj) (hc : (decide (xs.length ≤ Try.f57.ntmps) && decide (os.length + Try.f57.ntmps < 1000000000) && !(Try.f57.name == "runtime.NumGoroutine")) = true) :
    iwithin xs os = evK XX 57 (lpL XX 57) iwithin.c (initSt Try.f57 xs os) (outE XX 57 Try.f57) :=
  lim_eq (Y := Y) (f := 57) (fn := Try.f57) (cd := iwithin.c) rfl Try.func57 (by kernel_rfl) xs os hc
abbrev weqNodeOf.id : FuncId := 58
noncomputable def weqNodeOf (xs : List AV) (os : List PV.Obj) : Option Res := lim' Y 58 xs os
noncomputable def weqNodeOf.c : Code := codeOf Try.f58
theorem weqNodeOf.run (xs : List AV) (os : List PV.Obj) (hc : (decide (xs.length ≤ Try.f58.ntmps) && decide (os.length + Try.f58.ntmps < 1000000000) && !(Try.f58.name == "runtime.NumGoroutine")) = true) :
    weqNodeOf xs os = evK XX 58 (lpL XX 58) weqNodeOf.c (initSt Try.f58 xs os) (outE XX 58 Try.f58) :=
  lim_eq (Y := Y) (f := 58) (fn := Try.f58) (cd := weqNodeOf.c) rfl Try.func58 (by kernel_rfl) xs os hc
abbrev sl1Parts.id : FuncId := 59
noncomputable def sl1Parts (xs : List AV) (os : List PV.Obj) : Option Res := lim' Y 59 xs os
noncomputable def sl1Parts.c : Code := codeOf Try.f59
theorem sl1Parts.run (xs : List AV) (os : List PV.Obj) (hc : (decide (xs.length ≤ Try.f59.ntmps) && decide (os.length + Try.f59.ntmps < 1000000000) && !(Try.f59.name == "runtime.NumGoroutine")) = true) :
    sl1Parts xs os = evK XX 59 (lpL XX 59) sl1Parts.c (initSt Try.f59 xs os) (outE XX 59 Try.f59) :=
  lim_eq (Y := Y) (f := 59) (fn := Try.f59) (cd := sl1Parts.c) rfl Try.func59 (by kernel_rfl) xs os hc
abbrev sl1Count.id : FuncId := 60
noncomputable def sl1Count (xs : List AV) (os : List PV.Obj) : Option Res := lim' Y 60 xs os
noncomputable def sl1Count.c : Code := codeOf Try.f60
theorem sl1Count.run (xs : List AV) (os : List PV.Obj) (hc : (decide (xs.length ≤ Try.f60.ntmps) && decide (os.length + Try.f60.ntmps < 1000000000) && !(Try.f60.name == "runtime.NumGoroutine")) = true) :
    sl1Count xs os = evK XX 60 (lpL XX 60) sl1Count.c (initSt Try.f60 xs os) (outE XX 60 Try.f60) :=
  lim_eq (Y := Y) (f := 60) (fn := Try.f60) (cd := sl1Count.c) rfl Try.func60 (by kernel_rfl) xs os hc
abbrev sl3Path.id : FuncId := 61
noncomputable def sl3Path (xs : List AV) (os : List PV.Obj) : Option Res := lim' Y 61 xs os
noncomputable def sl3Path.c : Code := codeOf Try.f61
theorem sl3Path.run (xs : List AV) (os : List PV.Obj) (hc : (decide (xs.length ≤ Try.f61.ntmps) && decide (os.length + Try.f61.ntmps < 1000000000) && !(Try.f61.name == "runtime.NumGoroutine")) = true) :
    sl3Path xs os = evK XX 61 (lpL XX 61) sl3Path.c (initSt Try.f61 xs os) (outE XX 61 Try.f61) :=
  lim_eq (Y := Y) (f := 61) (fn := Try.f61) (cd := sl3Path.c) rfl Try.func61 (by kernel_rfl) xs os hc
abbrev iTree_sound.id : FuncId := 62
noncomputable def iTree_sound (xs : List AV) (os : List PV.Obj) : Option Res := lim' Y 62 xs os
noncomputable def iTree_sound.c : Code := codeOf Try.f62
theorem iTree_sound.run (xs : List AV) (os : List PV.Obj) (hc : (decide (xs.length ≤ Try.f62.ntmps) && decide (os.length + Try.f62.ntmps < 1000000000) && !(Try.f62.name == "runtime.NumGoroutine")) = true) :
    iTree_sound xs os = evK XX 62 (lpL XX 62) iTree_sound.c (initSt Try.f62 xs os) (outE XX 62 Try.f62) :=
  lim_eq (Y := Y) (f := 62) (fn := Try.f62) (cd := iTree_sound.c) rfl Try.func62 (by kernel_rfl) xs os hc
abbrev iTree_paths.id : FuncId := 63
noncomputable def iTree_paths (xs : List AV) (os : List PV.Obj) : Option Res := lim' Y 63 xs os
noncomputable def iTree_paths.c : Code := codeOf Try.f63
theorem iTree_paths.run (xs : List AV) (os : List PV.Obj) (hc : (decide (xs.length ≤ Try.f63.ntmps) && decide (os.length + Try.f63.ntmps < 1000000000) && !(Try.f63.name == "runtime.NumGoroutine")) = true) :
    iTree_paths xs os = evK XX 63 (lpL XX 63) iTree_paths.c (initSt Try.f63 xs os) (outE XX 63 Try.f63) :=
  lim_eq (Y := Y) (f := 63) (fn := Try.f63) (cd := iTree_paths.c) rfl Try.func63 (by kernel_rfl) xs os hc
abbrev iTree_each.id : FuncId := 64
noncomputable def iTree_each (xs : List AV) (os : List PV.Obj) : Option Res := lim' Y 64 xs os
noncomputable def iTree_each.c : Code := codeOf Try.f64
theorem iTree_each.run (xs : List AV) (os : List PV.Obj) (hc : (decide (xs.length ≤ Try.f64.ntmps) && decide (os.length + Try.f64.ntmps < 1000000000) && !(Try.f64.name == "runtime.NumGoroutine")) = true) :
    iTree_each xs os = evK XX 64 (lpL XX 64) iTree_each.c (initSt Try.f64 xs os) (outE XX 64 Try.f64) :=
  lim_eq (Y := Y) (f := 64) (fn := Try.f64) (cd := iTree_each.c) rfl Try.func64 (by kernel_rfl) xs os hc
abbrev ipathsOf_1.id : FuncId := 65
noncomputable def ipathsOf_1 (xs : List AV) (os : List PV.Obj) : Option Res := lim' Y 65 xs os
noncomputable def ipathsOf_1.c : Code := codeOf Try.f65
theorem ipathsOf_1.run (xs : List AV) (os : List PV.Obj) (hc : (decide (xs.length ≤ Try.f65.ntmps) && decide (os.length + Try.f65.ntmps < 1000000000) && !(Try.f65.name == "runtime.NumGoroutine")) = true) :
    ipathsOf_1 xs os = evK XX 65 (lpL XX 65) ipathsOf_1.c (initSt Try.f65 xs os) (outE XX 65 Try.f65) :=
  lim_eq (Y := Y) (f := 65) (fn := Try.f65) (cd := ipathsOf_1.c) rfl Try.func65 (by kernel_rfl) xs os hc
abbrev sl2Within.id : FuncId := 66
noncomputable def sl2Within (xs : List AV) (os : List PV.Obj) : Option Res := lim' Y 66 xs os
noncomputable def sl2Within.c : Code := codeOf Try.f66
theorem sl2Within.run (xs : List AV) (os : List PV.Obj) (hc : (decide (xs.length ≤ Try.f66.ntmps) && decide (os.length + Try.f66.ntmps < 1000000000) && !(Try.f66.name == "runtime.NumGoroutine")) = true) :
    sl2Within xs os = evK XX 66 (lpL XX 66) sl2Within.c (initSt Try.f66 xs os) (outE XX 66 Try.f66) :=
  lim_eq (Y := Y) (f := 66) (fn := Try.f66) (cd := sl2Within.c) rfl Try.func66 (by kernel_rfl) xs os hc
abbrev sl1NameOk.id : FuncId := 67
noncomputable def sl1NameOk (xs : List AV) (os : List PV.Obj) : Option Res := lim' Y 67 xs os
noncomputable def sl1NameOk.c : Code := codeOf Try.f67
theorem sl1NameOk.run (xs : List AV) (os : List PV.Obj) (hc : (decide (xs.length ≤ Try.f67.ntmps) && decide (os.length + Try.f67.ntmps < 1000000000) && !(Try.f67.name == "runtime.NumGoroutine")) = true) :
    sl1NameOk xs os = evK XX 67 (lpL XX 67) sl1NameOk.c (initSt Try.f67 xs os) (outE XX 67 Try.f67) :=
  lim_eq (Y := Y) (f := 67) (fn := Try.f67) (cd := sl1NameOk.c) rfl Try.func67 (by kernel_rfl) xs os hc
abbrev inameOk.id : FuncId := 68
noncomputable def inameOk (xs : List AV) (os : List PV.Obj) : Option Res := lim' Y 68 xs os
noncomputable def inameOk.c : Code := codeOf Try.f68
theorem inameOk.run (xs : List AV) (os : List PV.Obj) (hc : (decide (xs.length ≤ Try.f68.ntmps) && decide (os.length + Try.f68.ntmps < 1000000000) && !(Try.f68.name == "runtime.NumGoroutine")) = true) :
    inameOk xs os = evK XX 68 (lpL XX 68) inameOk.c (initSt Try.f68 xs os) (outE XX 68 Try.f68) :=
  lim_eq (Y := Y) (f := 68) (fn := Try.f68) (cd := inameOk.c) rfl Try.func68 (by kernel_rfl) xs os hc
abbrev cmp_Compare_string.id : FuncId := 69
noncomputable def cmp_Compare_string (xs : List AV) (os : List PV.Obj) : Option Res := lim' Y 69 xs os
noncomputable def cmp_Compare_string.c : Code := codeOf Try.f69
theorem cmp_Compare_string.run (xs : List AV) (os : List PV.Obj) (hc : (decide (xs.length ≤ Try.f69.ntmps) && decide (os.length + Try.f69.ntmps < 1000000000) && !(Try.f69.name == "runtime.NumGoroutine")) = true) :
    cmp_Compare_string xs os = evK XX 69 (lpL XX 69) cmp_Compare_string.c (initSt Try.f69 xs os) (outE XX 69 Try.f69) :=
  lim_eq (Y := Y) (f := 69) (fn := Try.f69) (cd := cmp_Compare_string.c) rfl Try.func69 (by kernel_rfl) xs os hc
abbrev sl1Plain.id : FuncId := 70
noncomputable def sl1Plain (xs : List AV) (os : List PV.Obj) : Option Res := lim' Y 70 xs os
noncomputable def sl1Plain.c : Code := codeOf Try.f70
theorem sl1Plain.run (xs : List AV) (os : List PV.Obj) (hc : (decide (xs.length ≤ Try.f70.ntmps) && decide (os.length + Try.f70.ntmps < 1000000000) && !(Try.f70.name == "runtime.NumGoroutine")) = true) :
    sl1Plain xs os = evK XX 70 (lpL XX 70) sl1Plain.c (initSt Try.f70 xs os) (outE XX 70 Try.f70) :=
  lim_eq (Y := Y) (f := 70) (fn := Try.f70) (cd := sl1Plain.c) rfl Try.func70 (by kernel_rfl) xs os hc
abbrev imodeOk.id : FuncId := 71
noncomputable def imodeOk (xs : List AV) (os : List PV.Obj) : Option Res := lim' Y 71 xs os
noncomputable def imodeOk.c : Code := codeOf Try.f71
theorem imodeOk.run (xs : List AV) (os : List PV.Obj) (hc : (decide (xs.length ≤ Try.f71.ntmps) && decide (os.length + Try.f71.ntmps < 1000000000) && !(Try.f71.name == "runtime.NumGoroutine")) = true) :
    imodeOk xs os = evK XX 71 (lpL XX 71) imodeOk.c (initSt Try.f71 xs os) (outE XX 71 Try.f71) :=
  lim_eq (Y := Y) (f := 71) (fn := Try.f71) (cd := imodeOk.c) rfl Try.func71 (by kernel_rfl) xs os hc
abbrev ibelow.id : FuncId := 72
noncomputable def ibelow (xs : List AV) (os : List PV.Obj) : Option Res := lim' Y 72 xs os
noncomputable def ibelow.c : Code := codeOf Try.f72
theorem ibelow.run (xs : List AV) (os : List PV.Obj) (hc : (decide (xs.length ≤ Try.f72.ntmps) && decide (os.length + Try.f72.ntmps < 1000000000) && !(Try.f72.name == "runtime.NumGoroutine")) = true) :
    ibelow xs os = evK XX 72 (lpL XX 72) ibelow.c (initSt Try.f72 xs os) (outE XX 72 Try.f72) :=
  lim_eq (Y := Y) (f := 72) (fn := Try.f72) (cd := ibelow.c) rfl Try.func72 (by kernel_rfl) xs os hc
abbrev cmp_isNaN_string.id : FuncId := 73
noncomputable def cmp_isNaN_string (xs : List AV) (os : List PV.Obj) : Option Res := lim' Y 73 xs os
noncomputable def cmp_isNaN_string.c : Code := codeOf Try.f73
theorem cmp_isNaN_string.run (xs : List AV) (os : List PV.Obj) (hc : (decide (xs.length ≤ Try.f73.ntmps) && decide (os.length + Try.f73.ntmps < 1000000000) && !(Try.f73.name == "runtime.NumGoroutine")) = true) :
    cmp_isNaN_string xs os = evK XX 73 (lpL XX 73) cmp_isNaN_string.c (initSt Try.f73 xs os) (outE XX 73 Try.f73) :=
  lim_eq (Y := Y) (f := 73) (fn := Try.f73) (cd := cmp_isNaN_string.c) rfl Try.func73 (by kernel_rfl) xs os hc
end Go.PVx
