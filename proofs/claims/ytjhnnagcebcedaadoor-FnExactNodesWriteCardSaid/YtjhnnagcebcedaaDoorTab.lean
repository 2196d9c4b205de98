/- A part of the proof: PvDTab. -/
import Derived.Test.YtjhnnagcebcedaaDoorProg
import Derived.Test.YtjhnnagcebcedaaDoorPvC
import Derived.KernelRfl
import Derived.Test.YtjhnnagcebcedaaDoorExt
set_option linter.unusedSimpArgs false
set_option linter.unusedVariables false
/- PRINTED by a tool of this work (wip/pv/tool/gen2.py): the functions' tables: what they take over, what lives at their loops. -/
namespace Go.PVx
open Go.PV Go.Proofs
def sigs : FuncId → Sig
  | 24 => { res := .one (.str) }
  | 37 => { res := .one (.str) }
  | 4 => { res := .one (.bool) }
  | 10 => { res := .one (.int .i64) }
  | 11 => { res := .one (.str) }
  | 12 => { res := .agg [.int .i64, .own .deep] }
  | 13 => { res := .one (.str) }
  | 14 => { res := .one (.bool) }
  | 15 => { res := .one (.int .i64) }
  | 18 => { res := .one (.str) }
  | 19 => { res := .one (.str) }
  | 21 => { res := .one (.own .deep) }
  | 23 => { res := .one (.str) }
  | 26 => { res := .one (.bool) }
  | 27 => { res := .one (.int .i64) }
  | 28 => { res := .one (.bool) }
  | 29 => { res := .one (.own .deep) }
  | 30 => { res := .one (.bool) }
  | 31 => { res := .one (.bool) }
  | 32 => { res := .one (.bool) }
  | 33 => { res := .one (.bool) }
  | 34 => { res := .one (.bool) }
  | 35 => { res := .one (.bool) }
  | 40 => { res := .one (.int .i64) }
  | 41 => { res := .one (.bool) }
  | 42 => { res := .agg [.int .i64, .own .deep] }
  | 43 => { res := .one (.int .i64) }
  | 44 => { res := .one (.bool) }
  | 45 => { res := .one (.bool) }
  | 46 => { res := .one (.bool) }
  | 51 => { res := .one (.int .i64) }
  | 58 => { res := .one (.bool) }
  | _ => { res := .none }
def lives : FuncId → Nat → List Nat × List Nat
  | 4, 100005 => ([1], [1])
  | 4, 100007 => ([1, 4, 5], [1])
  | 4, 100012 => ([], [1])
  | 11, 5 => ([1, 3, 4], [3])
  | 13, 5 => ([3, 15, 16, 17], [3])
  | 15, 5 => ([0, 1, 5], [1, 4])
  | 18, 3 => ([0, 3, 4], [3])
  | 19, 100005 => ([0], [1])
  | 21, 3 => ([0, 3, 4], [3])
  | 26, 4 => ([0, 1, 5], [4])
  | 27, 5 => ([0, 1, 5], [1, 4])
  | 28, 4 => ([1, 3], [2])
  | 28, 10 => ([1, 3, 4, 5], [1, 2, 3])
  | 29, 3 => ([0, 3, 4], [3])
  | 30, 2 => ([1, 8, 9, 10], [1, 2])
  | 30, 7 => ([1, 4, 8, 9, 10, 48, 49, 50], [1, 2, 8, 9, 10])
  | 31, 4 => ([0, 1, 5], [4])
  | 32, 2 => ([0, 3], [0, 2])
  | 35, 2 => ([0, 1, 7, 8, 9], [0, 1, 4])
  | 41, 2 => ([0, 1, 5], [0, 1, 4])
  | 43, 2 => ([0, 1, 9, 10, 11], [0, 1, 4])
  | 45, 2 => ([0, 3], [0, 2])
  | 46, 2 => ([0, 5, 6], [0, 2])
  | _, _ => ([], [])
def mvs : FuncId → Nat → Nat → Bool
  | 12, 4, 1 => true
  | 42, 4, 1 => true
  | _, _, _ => false
noncomputable def exts : FuncId → Option (List AV → List PV.Obj → Option Res)
  | 24 => some extItoa
  | 37 => some extJoin
  | _ => none
def GL : List (Nat × List D) := [(1, Lib.pow10Tab.map fun z => .v (.int .u64 z))]
noncomputable def Y : Prm := { P := Tryd.prog, sig := sigs, mv := mvs, live := lives, ext := exts, gl := GL }
noncomputable def XX : Ctx := Y.ctx (lim' Y)
abbrev wFnExactNodesWrite.id : FuncId := 4
noncomputable def wFnExactNodesWrite (xs : List AV) (os : List PV.Obj) : Option Res := lim' Y 4 xs os
noncomputable def wFnExactNodesWrite.c : Code := codeOf Tryd.f4
theorem wFnExactNodesWrite.run (xs : List AV) (os : List PV.Obj) (hc : (decide (xs.length ≤ Tryd.f4.ntmps) && decide (os.length + Tryd.f4.ntmps < 1000000000) && !(Tryd.f4.name == "runtime.NumGoroutine")) = true) :
    wFnExactNodesWrite xs os = evK XX 4 (lpL XX 4) wFnExactNodesWrite.c (initSt Tryd.f4 xs os GL) (outE XX 4 Tryd.f4) :=
  lim_eq (Y := Y) (f := 4) (fn := Tryd.f4) (cd := wFnExactNodesWrite.c) rfl Tryd.func4 (by kernel_rfl) xs os hc
abbrev wszNodes.id : FuncId := 10
noncomputable def wszNodes (xs : List AV) (os : List PV.Obj) : Option Res := lim' Y 10 xs os
noncomputable def wszNodes.c : Code := codeOf Tryd.f10
theorem wszNodes.run (xs : List AV) (os : List PV.Obj) (hc : (decide (xs.length ≤ Tryd.f10.ntmps) && decide (os.length + Tryd.f10.ntmps < 1000000000) && !(Tryd.f10.name == "runtime.NumGoroutine")) = true) :
    wszNodes xs os = evK XX 10 (lpL XX 10) wszNodes.c (initSt Tryd.f10 xs os GL) (outE XX 10 Tryd.f10) :=
  lim_eq (Y := Y) (f := 10) (fn := Tryd.f10) (cd := wszNodes.c) rfl Tryd.func10 (by kernel_rfl) xs os hc
abbrev sNodesWrite.id : FuncId := 11
noncomputable def sNodesWrite (xs : List AV) (os : List PV.Obj) : Option Res := lim' Y 11 xs os
noncomputable def sNodesWrite.c : Code := codeOf Tryd.f11
theorem sNodesWrite.run (xs : List AV) (os : List PV.Obj) (hc : (decide (xs.length ≤ Tryd.f11.ntmps) && decide (os.length + Tryd.f11.ntmps < 1000000000) && !(Tryd.f11.name == "runtime.NumGoroutine")) = true) :
    sNodesWrite xs os = evK XX 11 (lpL XX 11) sNodesWrite.c (initSt Tryd.f11 xs os GL) (outE XX 11 Tryd.f11) :=
  lim_eq (Y := Y) (f := 11) (fn := Tryd.f11) (cd := sNodesWrite.c) rfl Tryd.func11 (by kernel_rfl) xs os hc
abbrev wtoNodes.id : FuncId := 12
noncomputable def wtoNodes (xs : List AV) (os : List PV.Obj) : Option Res := lim' Y 12 xs os
noncomputable def wtoNodes.c : Code := codeOf Tryd.f12
theorem wtoNodes.run (xs : List AV) (os : List PV.Obj) (hc : (decide (xs.length ≤ Tryd.f12.ntmps) && decide (os.length + Tryd.f12.ntmps < 1000000000) && !(Tryd.f12.name == "runtime.NumGoroutine")) = true) :
    wtoNodes xs os = evK XX 12 (lpL XX 12) wtoNodes.c (initSt Tryd.f12 xs os GL) (outE XX 12 Tryd.f12) :=
  lim_eq (Y := Y) (f := 12) (fn := Tryd.f12) (cd := wtoNodes.c) rfl Tryd.func12 (by kernel_rfl) xs os hc
abbrev iNodesWrite.id : FuncId := 13
noncomputable def iNodesWrite (xs : List AV) (os : List PV.Obj) : Option Res := lim' Y 13 xs os
noncomputable def iNodesWrite.c : Code := codeOf Tryd.f13
theorem iNodesWrite.run (xs : List AV) (os : List PV.Obj) (hc : (decide (xs.length ≤ Tryd.f13.ntmps) && decide (os.length + Tryd.f13.ntmps < 1000000000) && !(Tryd.f13.name == "runtime.NumGoroutine")) = true) :
    iNodesWrite xs os = evK XX 13 (lpL XX 13) iNodesWrite.c (initSt Tryd.f13 xs os GL) (outE XX 13 Tryd.f13) :=
  lim_eq (Y := Y) (f := 13) (fn := Tryd.f13) (cd := iNodesWrite.c) rfl Tryd.func13 (by kernel_rfl) xs os hc
abbrev weqNodes.id : FuncId := 14
noncomputable def weqNodes (xs : List AV) (os : List PV.Obj) : Option Res := lim' Y 14 xs os
noncomputable def weqNodes.c : Code := codeOf Tryd.f14
theorem weqNodes.run (xs : List AV) (os : List PV.Obj) (hc : (decide (xs.length ≤ Tryd.f14.ntmps) && decide (os.length + Tryd.f14.ntmps < 1000000000) && !(Tryd.f14.name == "runtime.NumGoroutine")) = true) :
    weqNodes xs os = evK XX 14 (lpL XX 14) weqNodes.c (initSt Tryd.f14 xs os GL) (outE XX 14 Tryd.f14) :=
  lim_eq (Y := Y) (f := 14) (fn := Tryd.f14) (cd := weqNodes.c) rfl Tryd.func14 (by kernel_rfl) xs os hc
abbrev wszStringS.id : FuncId := 15
noncomputable def wszStringS (xs : List AV) (os : List PV.Obj) : Option Res := lim' Y 15 xs os
noncomputable def wszStringS.c : Code := codeOf Tryd.f15
theorem wszStringS.run (xs : List AV) (os : List PV.Obj) (hc : (decide (xs.length ≤ Tryd.f15.ntmps) && decide (os.length + Tryd.f15.ntmps < 1000000000) && !(Tryd.f15.name == "runtime.NumGoroutine")) = true) :
    wszStringS xs os = evK XX 15 (lpL XX 15) wszStringS.c (initSt Tryd.f15 xs os GL) (outE XX 15 Tryd.f15) :=
  lim_eq (Y := Y) (f := 15) (fn := Tryd.f15) (cd := wszStringS.c) rfl Tryd.func15 (by kernel_rfl) xs os hc
abbrev sl3Name.id : FuncId := 18
noncomputable def sl3Name (xs : List AV) (os : List PV.Obj) : Option Res := lim' Y 18 xs os
noncomputable def sl3Name.c : Code := codeOf Tryd.f18
theorem sl3Name.run (xs : List AV) (os : List PV.Obj) (hc : (decide (xs.length ≤ Tryd.f18.ntmps) && decide (os.length + Tryd.f18.ntmps < 1000000000) && !(Tryd.f18.name == "runtime.NumGoroutine")) = true) :
    sl3Name xs os = evK XX 18 (lpL XX 18) sl3Name.c (initSt Tryd.f18 xs os GL) (outE XX 18 Tryd.f18) :=
  lim_eq (Y := Y) (f := 18) (fn := Tryd.f18) (cd := sl3Name.c) rfl Tryd.func18 (by kernel_rfl) xs os hc
abbrev sl1Dec.id : FuncId := 19
noncomputable def sl1Dec (xs : List AV) (os : List PV.Obj) : Option Res := lim' Y 19 xs os
noncomputable def sl1Dec.c : Code := codeOf Tryd.f19
theorem sl1Dec.run (xs : List AV) (os : List PV.Obj) (hc : (decide (xs.length ≤ Tryd.f19.ntmps) && decide (os.length + Tryd.f19.ntmps < 1000000000) && !(Tryd.f19.name == "runtime.NumGoroutine")) = true) :
    sl1Dec xs os = evK XX 19 (lpL XX 19) sl1Dec.c (initSt Tryd.f19 xs os GL) (outE XX 19 Tryd.f19) :=
  lim_eq (Y := Y) (f := 19) (fn := Tryd.f19) (cd := sl1Dec.c) rfl Tryd.func19 (by kernel_rfl) xs os hc
abbrev wtoStringS.id : FuncId := 21
noncomputable def wtoStringS (xs : List AV) (os : List PV.Obj) : Option Res := lim' Y 21 xs os
noncomputable def wtoStringS.c : Code := codeOf Tryd.f21
theorem wtoStringS.run (xs : List AV) (os : List PV.Obj) (hc : (decide (xs.length ≤ Tryd.f21.ntmps) && decide (os.length + Tryd.f21.ntmps < 1000000000) && !(Tryd.f21.name == "runtime.NumGoroutine")) = true) :
    wtoStringS xs os = evK XX 21 (lpL XX 21) wtoStringS.c (initSt Tryd.f21 xs os GL) (outE XX 21 Tryd.f21) :=
  lim_eq (Y := Y) (f := 21) (fn := Tryd.f21) (cd := wtoStringS.c) rfl Tryd.func21 (by kernel_rfl) xs os hc
abbrev ipathText.id : FuncId := 23
noncomputable def ipathText (xs : List AV) (os : List PV.Obj) : Option Res := lim' Y 23 xs os
noncomputable def ipathText.c : Code := codeOf Tryd.f23
theorem ipathText.run (xs : List AV) (os : List PV.Obj) (hc : (decide (xs.length ≤ Tryd.f23.ntmps) && decide (os.length + Tryd.f23.ntmps < 1000000000) && !(Tryd.f23.name == "runtime.NumGoroutine")) = true) :
    ipathText xs os = evK XX 23 (lpL XX 23) ipathText.c (initSt Tryd.f23 xs os GL) (outE XX 23 Tryd.f23) :=
  lim_eq (Y := Y) (f := 23) (fn := Tryd.f23) (cd := ipathText.c) rfl Tryd.func23 (by kernel_rfl) xs os hc
abbrev strconv_Itoa.id : FuncId := 24
noncomputable def strconv_Itoa (xs : List AV) (os : List PV.Obj) : Option Res := lim' Y 24 xs os
theorem strconv_Itoa.ext (xs : List AV) (os : List PV.Obj) : strconv_Itoa xs os = extItoa xs os := lim_extE (Y := Y) rfl xs os
abbrev weqStringS.id : FuncId := 26
noncomputable def weqStringS (xs : List AV) (os : List PV.Obj) : Option Res := lim' Y 26 xs os
noncomputable def weqStringS.c : Code := codeOf Tryd.f26
theorem weqStringS.run (xs : List AV) (os : List PV.Obj) (hc : (decide (xs.length ≤ Tryd.f26.ntmps) && decide (os.length + Tryd.f26.ntmps < 1000000000) && !(Tryd.f26.name == "runtime.NumGoroutine")) = true) :
    weqStringS xs os = evK XX 26 (lpL XX 26) weqStringS.c (initSt Tryd.f26 xs os GL) (outE XX 26 Tryd.f26) :=
  lim_eq (Y := Y) (f := 26) (fn := Tryd.f26) (cd := weqStringS.c) rfl Tryd.func26 (by kernel_rfl) xs os hc
abbrev wszNodeOfS.id : FuncId := 27
noncomputable def wszNodeOfS (xs : List AV) (os : List PV.Obj) : Option Res := lim' Y 27 xs os
noncomputable def wszNodeOfS.c : Code := codeOf Tryd.f27
theorem wszNodeOfS.run (xs : List AV) (os : List PV.Obj) (hc : (decide (xs.length ≤ Tryd.f27.ntmps) && decide (os.length + Tryd.f27.ntmps < 1000000000) && !(Tryd.f27.name == "runtime.NumGoroutine")) = true) :
    wszNodeOfS xs os = evK XX 27 (lpL XX 27) wszNodeOfS.c (initSt Tryd.f27 xs os GL) (outE XX 27 Tryd.f27) :=
  lim_eq (Y := Y) (f := 27) (fn := Tryd.f27) (cd := wszNodeOfS.c) rfl Tryd.func27 (by kernel_rfl) xs os hc
abbrev sl33Ok.id : FuncId := 28
noncomputable def sl33Ok (xs : List AV) (os : List PV.Obj) : Option Res := lim' Y 28 xs os
noncomputable def sl33Ok.c : Code := codeOf Tryd.f28
theorem sl33Ok.run (xs : List AV) (os : List PV.Obj) (hc : (decide (xs.length ≤ Tryd.f28.ntmps) && decide (os.length + Tryd.f28.ntmps < 1000000000) && !(Tryd.f28.name == "runtime.NumGoroutine")) = true) :
    sl33Ok xs os = evK XX 28 (lpL XX 28) sl33Ok.c (initSt Tryd.f28 xs os GL) (outE XX 28 Tryd.f28) :=
  lim_eq (Y := Y) (f := 28) (fn := Tryd.f28) (cd := sl33Ok.c) rfl Tryd.func28 (by kernel_rfl) xs os hc
abbrev wtoNodeOfS.id : FuncId := 29
noncomputable def wtoNodeOfS (xs : List AV) (os : List PV.Obj) : Option Res := lim' Y 29 xs os
noncomputable def wtoNodeOfS.c : Code := codeOf Tryd.f29
theorem wtoNodeOfS.run (xs : List AV) (os : List PV.Obj) (hc : (decide (xs.length ≤ Tryd.f29.ntmps) && decide (os.length + Tryd.f29.ntmps < 1000000000) && !(Tryd.f29.name == "runtime.NumGoroutine")) = true) :
    wtoNodeOfS xs os = evK XX 29 (lpL XX 29) wtoNodeOfS.c (initSt Tryd.f29 xs os GL) (outE XX 29 Tryd.f29) :=
  lim_eq (Y := Y) (f := 29) (fn := Tryd.f29) (cd := wtoNodeOfS.c) rfl Tryd.func29 (by kernel_rfl) xs os hc
abbrev inodesWell.id : FuncId := 30
noncomputable def inodesWell (xs : List AV) (os : List PV.Obj) : Option Res := lim' Y 30 xs os
noncomputable def inodesWell.c : Code := codeOf Tryd.f30
theorem inodesWell.run (xs : List AV) (os : List PV.Obj) (hc : (decide (xs.length ≤ Tryd.f30.ntmps) && decide (os.length + Tryd.f30.ntmps < 1000000000) && !(Tryd.f30.name == "runtime.NumGoroutine")) = true) :
    inodesWell xs os = evK XX 30 (lpL XX 30) inodesWell.c (initSt Tryd.f30 xs os GL) (outE XX 30 Tryd.f30) :=
  lim_eq (Y := Y) (f := 30) (fn := Tryd.f30) (cd := inodesWell.c) rfl Tryd.func30 (by kernel_rfl) xs os hc
abbrev weqNodeOfS.id : FuncId := 31
noncomputable def weqNodeOfS (xs : List AV) (os : List PV.Obj) : Option Res := lim' Y 31 xs os
noncomputable def weqNodeOfS.c : Code := codeOf Tryd.f31
theorem weqNodeOfS.run (xs : List AV) (os : List PV.Obj) (hc : (decide (xs.length ≤ Tryd.f31.ntmps) && decide (os.length + Tryd.f31.ntmps < 1000000000) && !(Tryd.f31.name == "runtime.NumGoroutine")) = true) :
    weqNodeOfS xs os = evK XX 31 (lpL XX 31) weqNodeOfS.c (initSt Tryd.f31 xs os GL) (outE XX 31 Tryd.f31) :=
  lim_eq (Y := Y) (f := 31) (fn := Tryd.f31) (cd := weqNodeOfS.c) rfl Tryd.func31 (by kernel_rfl) xs os hc
abbrev sl2PathOk.id : FuncId := 32
noncomputable def sl2PathOk (xs : List AV) (os : List PV.Obj) : Option Res := lim' Y 32 xs os
noncomputable def sl2PathOk.c : Code := codeOf Tryd.f32
theorem sl2PathOk.run (xs : List AV) (os : List PV.Obj) (hc : (decide (xs.length ≤ Tryd.f32.ntmps) && decide (os.length + Tryd.f32.ntmps < 1000000000) && !(Tryd.f32.name == "runtime.NumGoroutine")) = true) :
    sl2PathOk xs os = evK XX 32 (lpL XX 32) sl2PathOk.c (initSt Tryd.f32 xs os GL) (outE XX 32 Tryd.f32) :=
  lim_eq (Y := Y) (f := 32) (fn := Tryd.f32) (cd := sl2PathOk.c) rfl Tryd.func32 (by kernel_rfl) xs os hc
abbrev sl1In.id : FuncId := 33
noncomputable def sl1In (xs : List AV) (os : List PV.Obj) : Option Res := lim' Y 33 xs os
noncomputable def sl1In.c : Code := codeOf Tryd.f33
theorem sl1In.run (xs : List AV) (os : List PV.Obj) (hc : (decide (xs.length ≤ Tryd.f33.ntmps) && decide (os.length + Tryd.f33.ntmps < 1000000000) && !(Tryd.f33.name == "runtime.NumGoroutine")) = true) :
    sl1In xs os = evK XX 33 (lpL XX 33) sl1In.c (initSt Tryd.f33 xs os GL) (outE XX 33 Tryd.f33) :=
  lim_eq (Y := Y) (f := 33) (fn := Tryd.f33) (cd := sl1In.c) rfl Tryd.func33 (by kernel_rfl) xs os hc
abbrev iwithin.id : FuncId := 34
noncomputable def iwithin (xs : List AV) (os : List PV.Obj) : Option Res := lim' Y 34 xs os
noncomputable def iwithin.c : Code := codeOf Tryd.f34
theorem iwithin.run (xs : List AV) (os : List PV.Obj) (hc : (decide (xs.length ≤ Tryd.f34.ntmps) && decide (os.length + Tryd.f34.ntmps < 1000000000) && !(Tryd.f34.name == "runtime.NumGoroutine")) = true) :
    iwithin xs os = evK XX 34 (lpL XX 34) iwithin.c (initSt Tryd.f34 xs os GL) (outE XX 34 Tryd.f34) :=
  lim_eq (Y := Y) (f := 34) (fn := Tryd.f34) (cd := iwithin.c) rfl Tryd.func34 (by kernel_rfl) xs os hc
abbrev inamesOk.id : FuncId := 35
noncomputable def inamesOk (xs : List AV) (os : List PV.Obj) : Option Res := lim' Y 35 xs os
noncomputable def inamesOk.c : Code := codeOf Tryd.f35
theorem inamesOk.run (xs : List AV) (os : List PV.Obj) (hc : (decide (xs.length ≤ Tryd.f35.ntmps) && decide (os.length + Tryd.f35.ntmps < 1000000000) && !(Tryd.f35.name == "runtime.NumGoroutine")) = true) :
    inamesOk xs os = evK XX 35 (lpL XX 35) inamesOk.c (initSt Tryd.f35 xs os GL) (outE XX 35 Tryd.f35) :=
  lim_eq (Y := Y) (f := 35) (fn := Tryd.f35) (cd := inamesOk.c) rfl Tryd.func35 (by kernel_rfl) xs os hc
abbrev strings_Join.id : FuncId := 37
noncomputable def strings_Join (xs : List AV) (os : List PV.Obj) : Option Res := lim' Y 37 xs os
theorem strings_Join.ext (xs : List AV) (os : List PV.Obj) : strings_Join xs os = extJoin xs os := lim_extE (Y := Y) rfl xs os
abbrev wszNodeOf.id : FuncId := 40
noncomputable def wszNodeOf (xs : List AV) (os : List PV.Obj) : Option Res := lim' Y 40 xs os
noncomputable def wszNodeOf.c : Code := codeOf Tryd.f40
theorem wszNodeOf.run (xs : List AV) (os : List PV.Obj) (hc : (decide (xs.length ≤ Tryd.f40.ntmps) && decide (os.length + Tryd.f40.ntmps < 1000000000) && !(Tryd.f40.name == "runtime.NumGoroutine")) = true) :
    wszNodeOf xs os = evK XX 40 (lpL XX 40) wszNodeOf.c (initSt Tryd.f40 xs os GL) (outE XX 40 Tryd.f40) :=
  lim_eq (Y := Y) (f := 40) (fn := Tryd.f40) (cd := wszNodeOf.c) rfl Tryd.func40 (by kernel_rfl) xs os hc
abbrev sl11Less.id : FuncId := 41
noncomputable def sl11Less (xs : List AV) (os : List PV.Obj) : Option Res := lim' Y 41 xs os
noncomputable def sl11Less.c : Code := codeOf Tryd.f41
theorem sl11Less.run (xs : List AV) (os : List PV.Obj) (hc : (decide (xs.length ≤ Tryd.f41.ntmps) && decide (os.length + Tryd.f41.ntmps < 1000000000) && !(Tryd.f41.name == "runtime.NumGoroutine")) = true) :
    sl11Less xs os = evK XX 41 (lpL XX 41) sl11Less.c (initSt Tryd.f41 xs os GL) (outE XX 41 Tryd.f41) :=
  lim_eq (Y := Y) (f := 41) (fn := Tryd.f41) (cd := sl11Less.c) rfl Tryd.func41 (by kernel_rfl) xs os hc
abbrev wtoNodeOf.id : FuncId := 42
noncomputable def wtoNodeOf (xs : List AV) (os : List PV.Obj) : Option Res := lim' Y 42 xs os
noncomputable def wtoNodeOf.c : Code := codeOf Tryd.f42
theorem wtoNodeOf.run (xs : List AV) (os : List PV.Obj) (hc : (decide (xs.length ≤ Tryd.f42.ntmps) && decide (os.length + Tryd.f42.ntmps < 1000000000) && !(Tryd.f42.name == "runtime.NumGoroutine")) = true) :
    wtoNodeOf xs os = evK XX 42 (lpL XX 42) wtoNodeOf.c (initSt Tryd.f42 xs os GL) (outE XX 42 Tryd.f42) :=
  lim_eq (Y := Y) (f := 42) (fn := Tryd.f42) (cd := wtoNodeOf.c) rfl Tryd.func42 (by kernel_rfl) xs os hc
abbrev slices_Compare_Sstring_string.id : FuncId := 43
noncomputable def slices_Compare_Sstring_string (xs : List AV) (os : List PV.Obj) : Option Res := lim' Y 43 xs os
noncomputable def slices_Compare_Sstring_string.c : Code := codeOf Tryd.f43
theorem slices_Compare_Sstring_string.run (xs : List AV) (os : List PV.Obj) (hc : (decide (xs.length ≤ Tryd.f43.ntmps) && decide (os.length + Tryd.f43.ntmps < 1000000000) && !(Tryd.f43.name == "runtime.NumGoroutine")) = true) :
    slices_Compare_Sstring_string xs os = evK XX 43 (lpL XX 43) slices_Compare_Sstring_string.c (initSt Tryd.f43 xs os GL) (outE XX 43 Tryd.f43) :=
  lim_eq (Y := Y) (f := 43) (fn := Tryd.f43) (cd := slices_Compare_Sstring_string.c) rfl Tryd.func43 (by kernel_rfl) xs os hc
abbrev weqNodeOf.id : FuncId := 44
noncomputable def weqNodeOf (xs : List AV) (os : List PV.Obj) : Option Res := lim' Y 44 xs os
noncomputable def weqNodeOf.c : Code := codeOf Tryd.f44
theorem weqNodeOf.run (xs : List AV) (os : List PV.Obj) (hc : (decide (xs.length ≤ Tryd.f44.ntmps) && decide (os.length + Tryd.f44.ntmps < 1000000000) && !(Tryd.f44.name == "runtime.NumGoroutine")) = true) :
    weqNodeOf xs os = evK XX 44 (lpL XX 44) weqNodeOf.c (initSt Tryd.f44 xs os GL) (outE XX 44 Tryd.f44) :=
  lim_eq (Y := Y) (f := 44) (fn := Tryd.f44) (cd := weqNodeOf.c) rfl Tryd.func44 (by kernel_rfl) xs os hc
abbrev sl1NameOk.id : FuncId := 45
noncomputable def sl1NameOk (xs : List AV) (os : List PV.Obj) : Option Res := lim' Y 45 xs os
noncomputable def sl1NameOk.c : Code := codeOf Tryd.f45
theorem sl1NameOk.run (xs : List AV) (os : List PV.Obj) (hc : (decide (xs.length ≤ Tryd.f45.ntmps) && decide (os.length + Tryd.f45.ntmps < 1000000000) && !(Tryd.f45.name == "runtime.NumGoroutine")) = true) :
    sl1NameOk xs os = evK XX 45 (lpL XX 45) sl1NameOk.c (initSt Tryd.f45 xs os GL) (outE XX 45 Tryd.f45) :=
  lim_eq (Y := Y) (f := 45) (fn := Tryd.f45) (cd := sl1NameOk.c) rfl Tryd.func45 (by kernel_rfl) xs os hc
abbrev inameOk.id : FuncId := 46
noncomputable def inameOk (xs : List AV) (os : List PV.Obj) : Option Res := lim' Y 46 xs os
noncomputable def inameOk.c : Code := codeOf Tryd.f46
theorem inameOk.run (xs : List AV) (os : List PV.Obj) (hc : (decide (xs.length ≤ Tryd.f46.ntmps) && decide (os.length + Tryd.f46.ntmps < 1000000000) && !(Tryd.f46.name == "runtime.NumGoroutine")) = true) :
    inameOk xs os = evK XX 46 (lpL XX 46) inameOk.c (initSt Tryd.f46 xs os GL) (outE XX 46 Tryd.f46) :=
  lim_eq (Y := Y) (f := 46) (fn := Tryd.f46) (cd := inameOk.c) rfl Tryd.func46 (by kernel_rfl) xs os hc
abbrev cmp_Compare_string.id : FuncId := 51
noncomputable def cmp_Compare_string (xs : List AV) (os : List PV.Obj) : Option Res := lim' Y 51 xs os
noncomputable def cmp_Compare_string.c : Code := codeOf Tryd.f51
theorem cmp_Compare_string.run (xs : List AV) (os : List PV.Obj) (hc : (decide (xs.length ≤ Tryd.f51.ntmps) && decide (os.length + Tryd.f51.ntmps < 1000000000) && !(Tryd.f51.name == "runtime.NumGoroutine")) = true) :
    cmp_Compare_string xs os = evK XX 51 (lpL XX 51) cmp_Compare_string.c (initSt Tryd.f51 xs os GL) (outE XX 51 Tryd.f51) :=
  lim_eq (Y := Y) (f := 51) (fn := Tryd.f51) (cd := cmp_Compare_string.c) rfl Tryd.func51 (by kernel_rfl) xs os hc
abbrev cmp_isNaN_string.id : FuncId := 58
noncomputable def cmp_isNaN_string (xs : List AV) (os : List PV.Obj) : Option Res := lim' Y 58 xs os
noncomputable def cmp_isNaN_string.c : Code := codeOf Tryd.f58
theorem cmp_isNaN_string.run (xs : List AV) (os : List PV.Obj) (hc : (decide (xs.length ≤ Tryd.f58.ntmps) && decide (os.length + Tryd.f58.ntmps < 1000000000) && !(Tryd.f58.name == "runtime.NumGoroutine")) = true) :
    cmp_isNaN_string xs os = evK XX 58 (lpL XX 58) cmp_isNaN_string.c (initSt Tryd.f58 xs os GL) (outE XX 58 Tryd.f58) :=
  lim_eq (Y := Y) (f := 58) (fn := Tryd.f58) (cd := cmp_isNaN_string.c) rfl Tryd.func58 (by kernel_rfl) xs os hc
end Go.PVx
