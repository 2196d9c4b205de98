/- A part of the proof: PvETab. -/
import Derived.Test.YtjhnnagcebcedaaDoorProg
import Derived.Test.YtjhnnagcebcedaaDoorPvC
import Derived.KernelRfl
import Derived.Test.YtjhnnagcebcedaaDoorExt
set_option linter.unusedSimpArgs false
set_option linter.unusedVariables false
/- PRINTED by a tool of this work (wip/pv/tool/gen2.py): the functions' tables: what they take over, what lives at their loops. -/
namespace Go.PVx
open Go.PV Go.Proofs
def sigs : FuncId → Sig
  | 24 => { res := .one (.str) }
  | 37 => { res := .one (.str) }
  | 3 => { res := .one (.bool) }
  | 5 => { res := .one (.int .i64) }
  | 6 => { res := .one (.str) }
  | 7 => { res := .agg [.int .i64, .own .deep, .own .deep, .int .i64, .str] }
  | 8 => { res := .one (.str) }
  | 9 => { res := .one (.bool) }
  | 15 => { res := .one (.int .i64) }
  | 16 => { res := .one (.bool) }
  | 17 => { res := .one (.own .deep) }
  | 18 => { res := .one (.str) }
  | 19 => { res := .one (.str) }
  | 20 => { res := .one (.str) }
  | 21 => { res := .one (.own .deep) }
  | 22 => { res := .one (.bool) }
  | 23 => { res := .one (.str) }
  | 25 => { res := .one (.str) }
  | 26 => { res := .one (.bool) }
  | 32 => { res := .one (.bool) }
  | 33 => { res := .one (.bool) }
  | 34 => { res := .one (.bool) }
  | 35 => { res := .one (.bool) }
  | 36 => { res := .one (.bool) }
  | 39 => { res := .one (.str) }
  | 45 => { res := .one (.bool) }
  | 46 => { res := .one (.bool) }
  | _ => { res := .none }
def lives : FuncId → Nat → List Nat × List Nat
  | 3, 100005 => ([1], [1])
  | 3, 100007 => ([1, 4, 5], [1])
  | 3, 100012 => ([], [1])
  | 5, 100004 => ([1, 2], [1])
  | 5, 100008 => ([1], [1])
  | 6, 100003 => ([1], [1])
  | 6, 100004 => ([1, 3], [1])
  | 6, 100013 => ([3], [1])
  | 8, 100004 => ([1, 3], [1])
  | 8, 100014 => ([3, 4], [1])
  | 9, 100005 => ([2, 3], [1])
  | 9, 100009 => ([2, 3], [1])
  | 15, 5 => ([0, 1, 5], [1, 4])
  | 16, 100012 => ([], [1])
  | 18, 3 => ([0, 3, 4], [3])
  | 19, 100005 => ([0], [1])
  | 20, 3 => ([0, 3, 4], [3])
  | 21, 3 => ([0, 3, 4], [3])
  | 22, 100003 => ([1], [1])
  | 22, 100012 => ([], [1])
  | 26, 4 => ([0, 1, 5], [4])
  | 32, 2 => ([0, 3], [0, 2])
  | 35, 2 => ([0, 1, 7, 8, 9], [0, 1, 4])
  | 39, 3 => ([0, 3, 4], [3])
  | 45, 2 => ([0, 3], [0, 2])
  | 46, 2 => ([0, 5, 6], [0, 2])
  | _, _ => ([], [])
def mvs : FuncId → Nat → Nat → Bool
  | 7, 7, 1 => true
  | _, _, _ => false
noncomputable def exts : FuncId → Option (List AV → List PV.Obj → Option Res)
  | 24 => some extItoa
  | 37 => some extJoin
  | _ => none
def GL : List (Nat × List D) := [(0, [.s [[.v (.string ⟨#[]⟩)], [.v (.string ⟨#[109, 107, 100, 105, 114]⟩)], [.v (.string ⟨#[119, 114, 105, 116, 101]⟩)], [.v (.string ⟨#[116, 114, 117, 110, 99, 97, 116, 101]⟩)], [.v (.string ⟨#[114, 101, 109, 111, 118, 101]⟩)], [.v (.string ⟨#[114, 101, 110, 97, 109, 101]⟩)], [.v (.string ⟨#[99, 104, 109, 111, 100]⟩)]]]), (1, Lib.pow10Tab.map fun z => .v (.int .u64 z))]
noncomputable def Y : Prm := { P := Tryd.prog, sig := sigs, mv := mvs, live := lives, ext := exts, gl := GL }
noncomputable def XX : Ctx := Y.ctx (lim' Y)
abbrev wFnExactCallText.id : FuncId := 3
noncomputable def wFnExactCallText (xs : List AV) (os : List PV.Obj) : Option Res := lim' Y 3 xs os
noncomputable def wFnExactCallText.c : Code := codeOf Tryd.f3
theorem wFnExactCallText.run (xs : List AV) (os : List PV.Obj) (hc : (decide (xs.length ≤ Tryd.f3.ntmps) && decide (os.length + Tryd.f3.ntmps < 1000000000) && !(Tryd.f3.name == "runtime.NumGoroutine")) = true) :
    wFnExactCallText xs os = evK XX 3 (lpL XX 3) wFnExactCallText.c (initSt Tryd.f3 xs os GL) (outE XX 3 Tryd.f3) :=
  lim_eq (Y := Y) (f := 3) (fn := Tryd.f3) (cd := wFnExactCallText.c) rfl Tryd.func3 (by kernel_rfl) xs os hc
abbrev wszCall.id : FuncId := 5
noncomputable def wszCall (xs : List AV) (os : List PV.Obj) : Option Res := lim' Y 5 xs os
noncomputable def wszCall.c : Code := codeOf Tryd.f5
theorem wszCall.run (xs : List AV) (os : List PV.Obj) (hc : (decide (xs.length ≤ Tryd.f5.ntmps) && decide (os.length + Tryd.f5.ntmps < 1000000000) && !(Tryd.f5.name == "runtime.NumGoroutine")) = true) :
    wszCall xs os = evK XX 5 (lpL XX 5) wszCall.c (initSt Tryd.f5 xs os GL) (outE XX 5 Tryd.f5) :=
  lim_eq (Y := Y) (f := 5) (fn := Tryd.f5) (cd := wszCall.c) rfl Tryd.func5 (by kernel_rfl) xs os hc
abbrev sCallText.id : FuncId := 6
noncomputable def sCallText (xs : List AV) (os : List PV.Obj) : Option Res := lim' Y 6 xs os
noncomputable def sCallText.c : Code := codeOf Tryd.f6
theorem sCallText.run (xs : List AV) (os : List PV.Obj) (hc : (decide (xs.length ≤ Tryd.f6.ntmps) && decide (os.length + Tryd.f6.ntmps < 1000000000) && !(Tryd.f6.name == "runtime.NumGoroutine")) = true) :
    sCallText xs os = evK XX 6 (lpL XX 6) sCallText.c (initSt Tryd.f6 xs os GL) (outE XX 6 Tryd.f6) :=
  lim_eq (Y := Y) (f := 6) (fn := Tryd.f6) (cd := sCallText.c) rfl Tryd.func6 (by kernel_rfl) xs os hc
abbrev wtoCall.id : FuncId := 7
noncomputable def wtoCall (xs : List AV) (os : List PV.Obj) : Option Res := lim' Y 7 xs os
noncomputable def wtoCall.c : Code := codeOf Tryd.f7
theorem wtoCall.run (xs : List AV) (os : List PV.Obj) (hc : (decide (xs.length ≤ Tryd.f7.ntmps) && decide (os.length + Tryd.f7.ntmps < 1000000000) && !(Tryd.f7.name == "runtime.NumGoroutine")) = true) :
    wtoCall xs os = evK XX 7 (lpL XX 7) wtoCall.c (initSt Tryd.f7 xs os GL) (outE XX 7 Tryd.f7) :=
  lim_eq (Y := Y) (f := 7) (fn := Tryd.f7) (cd := wtoCall.c) rfl Tryd.func7 (by kernel_rfl) xs os hc
abbrev iCallText.id : FuncId := 8
noncomputable def iCallText (xs : List AV) (os : List PV.Obj) : Option Res := lim' Y 8 xs os
noncomputable def iCallText.c : Code := codeOf Tryd.f8
theorem iCallText.run (xs : List AV) (os : List PV.Obj) (hc : (decide (xs.length ≤ Tryd.f8.ntmps) && decide (os.length + Tryd.f8.ntmps < 1000000000) && !(Tryd.f8.name == "runtime.NumGoroutine")) = true) :
    iCallText xs os = evK XX 8 (lpL XX 8) iCallText.c (initSt Tryd.f8 xs os GL) (outE XX 8 Tryd.f8) :=
  lim_eq (Y := Y) (f := 8) (fn := Tryd.f8) (cd := iCallText.c) rfl Tryd.func8 (by kernel_rfl) xs os hc
abbrev weqCall.id : FuncId := 9
noncomputable def weqCall (xs : List AV) (os : List PV.Obj) : Option Res := lim' Y 9 xs os
noncomputable def weqCall.c : Code := codeOf Tryd.f9
theorem weqCall.run (xs : List AV) (os : List PV.Obj) (hc : (decide (xs.length ≤ Tryd.f9.ntmps) && decide (os.length + Tryd.f9.ntmps < 1000000000) && !(Tryd.f9.name == "runtime.NumGoroutine")) = true) :
    weqCall xs os = evK XX 9 (lpL XX 9) weqCall.c (initSt Tryd.f9 xs os GL) (outE XX 9 Tryd.f9) :=
  lim_eq (Y := Y) (f := 9) (fn := Tryd.f9) (cd := weqCall.c) rfl Tryd.func9 (by kernel_rfl) xs os hc
abbrev wszStringS.id : FuncId := 15
noncomputable def wszStringS (xs : List AV) (os : List PV.Obj) : Option Res := lim' Y 15 xs os
noncomputable def wszStringS.c : Code := codeOf Tryd.f15
theorem wszStringS.run (xs : List AV) (os : List PV.Obj) (hc : (decide (xs.length ≤ Tryd.f15.ntmps) && decide (os.length + Tryd.f15.ntmps < 1000000000) && !(Tryd.f15.name == "runtime.NumGoroutine")) = true) :
    wszStringS xs os = evK XX 15 (lpL XX 15) wszStringS.c (initSt Tryd.f15 xs os GL) (outE XX 15 Tryd.f15) :=
  lim_eq (Y := Y) (f := 15) (fn := Tryd.f15) (cd := wszStringS.c) rfl Tryd.func15 (by kernel_rfl) xs os hc
abbrev sl2CallOk.id : FuncId := 16
noncomputable def sl2CallOk (xs : List AV) (os : List PV.Obj) : Option Res := lim' Y 16 xs os
noncomputable def sl2CallOk.c : Code := codeOf Tryd.f16
theorem sl2CallOk.run (xs : List AV) (os : List PV.Obj) (hc : (decide (xs.length ≤ Tryd.f16.ntmps) && decide (os.length + Tryd.f16.ntmps < 1000000000) && !(Tryd.f16.name == "runtime.NumGoroutine")) = true) :
    sl2CallOk xs os = evK XX 16 (lpL XX 16) sl2CallOk.c (initSt Tryd.f16 xs os GL) (outE XX 16 Tryd.f16) :=
  lim_eq (Y := Y) (f := 16) (fn := Tryd.f16) (cd := sl2CallOk.c) rfl Tryd.func16 (by kernel_rfl) xs os hc
abbrev sl42Words.id : FuncId := 17
noncomputable def sl42Words (xs : List AV) (os : List PV.Obj) : Option Res := lim' Y 17 xs os
noncomputable def sl42Words.c : Code := codeOf Tryd.f17
theorem sl42Words.run (xs : List AV) (os : List PV.Obj) (hc : (decide (xs.length ≤ Tryd.f17.ntmps) && decide (os.length + Tryd.f17.ntmps < 1000000000) && !(Tryd.f17.name == "runtime.NumGoroutine")) = true) :
    sl42Words xs os = evK XX 17 (lpL XX 17) sl42Words.c (initSt Tryd.f17 xs os GL) (outE XX 17 Tryd.f17) :=
  lim_eq (Y := Y) (f := 17) (fn := Tryd.f17) (cd := sl42Words.c) rfl Tryd.func17 (by kernel_rfl) xs os hc
abbrev sl3Name.id : FuncId := 18
noncomputable def sl3Name (xs : List AV) (os : List PV.Obj) : Option Res := lim' Y 18 xs os
noncomputable def sl3Name.c : Code := codeOf Tryd.f18
theorem sl3Name.run (xs : List AV) (os : List PV.Obj) (hc : (decide (xs.length ≤ Tryd.f18.ntmps) && decide (os.length + Tryd.f18.ntmps < 1000000000) && !(Tryd.f18.name == "runtime.NumGoroutine")) = true) :
    sl3Name xs os = evK XX 18 (lpL XX 18) sl3Name.c (initSt Tryd.f18 xs os GL) (outE XX 18 Tryd.f18) :=
  lim_eq (Y := Y) (f := 18) (fn := Tryd.f18) (cd := sl3Name.c) rfl Tryd.func18 (by kernel_rfl) xs os hc
abbrev sl1Dec.id : FuncId := 19
noncomputable def sl1Dec (xs : List AV) (os : List PV.Obj) : Option Res := lim' Y 19 xs os
noncomputable def sl1Dec.c : Code := codeOf Tryd.f19
theorem sl1Dec.run (xs : List AV) (os : List PV.Obj) (hc : (decide (xs.length ≤ Tryd.f19.ntmps) && decide (os.length + Tryd.f19.ntmps < 1000000000) && !(Tryd.f19.name == "runtime.NumGoroutine")) = true) :
    sl1Dec xs os = evK XX 19 (lpL XX 19) sl1Dec.c (initSt Tryd.f19 xs os GL) (outE XX 19 Tryd.f19) :=
  lim_eq (Y := Y) (f := 19) (fn := Tryd.f19) (cd := sl1Dec.c) rfl Tryd.func19 (by kernel_rfl) xs os hc
abbrev sl1Hex.id : FuncId := 20
noncomputable def sl1Hex (xs : List AV) (os : List PV.Obj) : Option Res := lim' Y 20 xs os
noncomputable def sl1Hex.c : Code := codeOf Tryd.f20
theorem sl1Hex.run (xs : List AV) (os : List PV.Obj) (hc : (decide (xs.length ≤ Tryd.f20.ntmps) && decide (os.length + Tryd.f20.ntmps < 1000000000) && !(Tryd.f20.name == "runtime.NumGoroutine")) = true) :
    sl1Hex xs os = evK XX 20 (lpL XX 20) sl1Hex.c (initSt Tryd.f20 xs os GL) (outE XX 20 Tryd.f20) :=
  lim_eq (Y := Y) (f := 20) (fn := Tryd.f20) (cd := sl1Hex.c) rfl Tryd.func20 (by kernel_rfl) xs os hc
abbrev wtoStringS.id : FuncId := 21
noncomputable def wtoStringS (xs : List AV) (os : List PV.Obj) : Option Res := lim' Y 21 xs os
noncomputable def wtoStringS.c : Code := codeOf Tryd.f21
theorem wtoStringS.run (xs : List AV) (os : List PV.Obj) (hc : (decide (xs.length ≤ Tryd.f21.ntmps) && decide (os.length + Tryd.f21.ntmps < 1000000000) && !(Tryd.f21.name == "runtime.NumGoroutine")) = true) :
    wtoStringS xs os = evK XX 21 (lpL XX 21) wtoStringS.c (initSt Tryd.f21 xs os GL) (outE XX 21 Tryd.f21) :=
  lim_eq (Y := Y) (f := 21) (fn := Tryd.f21) (cd := wtoStringS.c) rfl Tryd.func21 (by kernel_rfl) xs os hc
abbrev iCall_isCall.id : FuncId := 22
noncomputable def iCall_isCall (xs : List AV) (os : List PV.Obj) : Option Res := lim' Y 22 xs os
noncomputable def iCall_isCall.c : Code := codeOf Tryd.f22
theorem iCall_isCall.run (xs : List AV) (os : List PV.Obj) (hc : (decide (xs.length ≤ Tryd.f22.ntmps) && decide (os.length + Tryd.f22.ntmps < 1000000000) && !(Tryd.f22.name == "runtime.NumGoroutine")) = true) :
    iCall_isCall xs os = evK XX 22 (lpL XX 22) iCall_isCall.c (initSt Tryd.f22 xs os GL) (outE XX 22 Tryd.f22) :=
  lim_eq (Y := Y) (f := 22) (fn := Tryd.f22) (cd := iCall_isCall.c) rfl Tryd.func22 (by kernel_rfl) xs os hc
abbrev ipathText.id : FuncId := 23
noncomputable def ipathText (xs : List AV) (os : List PV.Obj) : Option Res := lim' Y 23 xs os
noncomputable def ipathText.c : Code := codeOf Tryd.f23
theorem ipathText.run (xs : List AV) (os : List PV.Obj) (hc : (decide (xs.length ≤ Tryd.f23.ntmps) && decide (os.length + Tryd.f23.ntmps < 1000000000) && !(Tryd.f23.name == "runtime.NumGoroutine")) = true) :
    ipathText xs os = evK XX 23 (lpL XX 23) ipathText.c (initSt Tryd.f23 xs os GL) (outE XX 23 Tryd.f23) :=
  lim_eq (Y := Y) (f := 23) (fn := Tryd.f23) (cd := ipathText.c) rfl Tryd.func23 (by kernel_rfl) xs os hc
abbrev strconv_Itoa.id : FuncId := 24
noncomputable def strconv_Itoa (xs : List AV) (os : List PV.Obj) : Option Res := lim' Y 24 xs os
theorem strconv_Itoa.ext (xs : List AV) (os : List PV.Obj) : strconv_Itoa xs os = extItoa xs os := lim_extE (Y := Y) rfl xs os
abbrev idataText.id : FuncId := 25
noncomputable def idataText (xs : List AV) (os : List PV.Obj) : Option Res := lim' Y 25 xs os
noncomputable def idataText.c : Code := codeOf Tryd.f25
theorem idataText.run (xs : List AV) (os : List PV.Obj) (hc : (decide (xs.length ≤ Tryd.f25.ntmps) && decide (os.length + Tryd.f25.ntmps < 1000000000) && !(Tryd.f25.name == "runtime.NumGoroutine")) = true) :
    idataText xs os = evK XX 25 (lpL XX 25) idataText.c (initSt Tryd.f25 xs os GL) (outE XX 25 Tryd.f25) :=
  lim_eq (Y := Y) (f := 25) (fn := Tryd.f25) (cd := idataText.c) rfl Tryd.func25 (by kernel_rfl) xs os hc
abbrev weqStringS.id : FuncId := 26
noncomputable def weqStringS (xs : List AV) (os : List PV.Obj) : Option Res := lim' Y 26 xs os
noncomputable def weqStringS.c : Code := codeOf Tryd.f26
theorem weqStringS.run (xs : List AV) (os : List PV.Obj) (hc : (decide (xs.length ≤ Tryd.f26.ntmps) && decide (os.length + Tryd.f26.ntmps < 1000000000) && !(Tryd.f26.name == "runtime.NumGoroutine")) = true) :
    weqStringS xs os = evK XX 26 (lpL XX 26) weqStringS.c (initSt Tryd.f26 xs os GL) (outE XX 26 Tryd.f26) :=
  lim_eq (Y := Y) (f := 26) (fn := Tryd.f26) (cd := weqStringS.c) rfl Tryd.func26 (by kernel_rfl) xs os hc
abbrev sl2PathOk.id : FuncId := 32
noncomputable def sl2PathOk (xs : List AV) (os : List PV.Obj) : Option Res := lim' Y 32 xs os
noncomputable def sl2PathOk.c : Code := codeOf Tryd.f32
theorem sl2PathOk.run (xs : List AV) (os : List PV.Obj) (hc : (decide (xs.length ≤ Tryd.f32.ntmps) && decide (os.length + Tryd.f32.ntmps < 1000000000) && !(Tryd.f32.name == "runtime.NumGoroutine")) = true) :
    sl2PathOk xs os = evK XX 32 (lpL XX 32) sl2PathOk.c (initSt Tryd.f32 xs os GL) (outE XX 32 Tryd.f32) :=
  lim_eq (Y := Y) (f := 32) (fn := Tryd.f32) (cd := sl2PathOk.c) rfl Tryd.func32 (by kernel_rfl) xs os hc
abbrev sl1In.id : FuncId := 33
noncomputable def sl1In (xs : List AV) (os : List PV.Obj) : Option Res := lim' Y 33 xs os
noncomputable def sl1In.c : Code := codeOf Tryd.f33
theorem sl1In.run (xs : List AV) (os : List PV.Obj) (hc : (decide (xs.length ≤ Tryd.f33.ntmps) && decide (os.length + Tryd.f33.ntmps < 1000000000) && !(Tryd.f33.name == "runtime.NumGoroutine")) = true) :
    sl1In xs os = evK XX 33 (lpL XX 33) sl1In.c (initSt Tryd.f33 xs os GL) (outE XX 33 Tryd.f33) :=
  lim_eq (Y := Y) (f := 33) (fn := Tryd.f33) (cd := sl1In.c) rfl Tryd.func33 (by kernel_rfl) xs os hc
abbrev iwithin.id : FuncId := 34
noncomputable def iwithin (xs : List AV) (os : List PV.Obj) : Option Res := lim' Y 34 xs os
noncomputable def iwithin.c : Code := codeOf Tryd.f34
theorem iwithin.run (xs : List AV) (os : List PV.Obj) (hc : (decide (xs.length ≤ Tryd.f34.ntmps) && decide (os.length + Tryd.f34.ntmps < 1000000000) && !(Tryd.f34.name == "runtime.NumGoroutine")) = true) :
    iwithin xs os = evK XX 34 (lpL XX 34) iwithin.c (initSt Tryd.f34 xs os GL) (outE XX 34 Tryd.f34) :=
  lim_eq (Y := Y) (f := 34) (fn := Tryd.f34) (cd := iwithin.c) rfl Tryd.func34 (by kernel_rfl) xs os hc
abbrev inamesOk.id : FuncId := 35
noncomputable def inamesOk (xs : List AV) (os : List PV.Obj) : Option Res := lim' Y 35 xs os
noncomputable def inamesOk.c : Code := codeOf Tryd.f35
theorem inamesOk.run (xs : List AV) (os : List PV.Obj) (hc : (decide (xs.length ≤ Tryd.f35.ntmps) && decide (os.length + Tryd.f35.ntmps < 1000000000) && !(Tryd.f35.name == "runtime.NumGoroutine")) = true) :
    inamesOk xs os = evK XX 35 (lpL XX 35) inamesOk.c (initSt Tryd.f35 xs os GL) (outE XX 35 Tryd.f35) :=
  lim_eq (Y := Y) (f := 35) (fn := Tryd.f35) (cd := inamesOk.c) rfl Tryd.func35 (by kernel_rfl) xs os hc
abbrev imodeOk.id : FuncId := 36
noncomputable def imodeOk (xs : List AV) (os : List PV.Obj) : Option Res := lim' Y 36 xs os
noncomputable def imodeOk.c : Code := codeOf Tryd.f36
theorem imodeOk.run (xs : List AV) (os : List PV.Obj) (hc : (decide (xs.length ≤ Tryd.f36.ntmps) && decide (os.length + Tryd.f36.ntmps < 1000000000) && !(Tryd.f36.name == "runtime.NumGoroutine")) = true) :
    imodeOk xs os = evK XX 36 (lpL XX 36) imodeOk.c (initSt Tryd.f36 xs os GL) (outE XX 36 Tryd.f36) :=
  lim_eq (Y := Y) (f := 36) (fn := Tryd.f36) (cd := imodeOk.c) rfl Tryd.func36 (by kernel_rfl) xs os hc
abbrev strings_Join.id : FuncId := 37
noncomputable def strings_Join (xs : List AV) (os : List PV.Obj) : Option Res := lim' Y 37 xs os
theorem strings_Join.ext (xs : List AV) (os : List PV.Obj) : strings_Join xs os = extJoin xs os := lim_extE (Y := Y) rfl xs os
abbrev ihexOf.id : FuncId := 39
noncomputable def ihexOf (xs : List AV) (os : List PV.Obj) : Option Res := lim' Y 39 xs os
noncomputable def ihexOf.c : Code := codeOf Tryd.f39
theorem ihexOf.run (xs : List AV) (os : List PV.Obj) (hc : (decide (xs.length ≤ Tryd.f39.ntmps) && decide (os.length + Tryd.f39.ntmps < 1000000000) && !(Tryd.f39.name == "runtime.NumGoroutine")) = true) :
    ihexOf xs os = evK XX 39 (lpL XX 39) ihexOf.c (initSt Tryd.f39 xs os GL) (outE XX 39 Tryd.f39) :=
  lim_eq (Y := Y) (f := 39) (fn := Tryd.f39) (cd := ihexOf.c) rfl Tryd.func39 (by kernel_rfl) xs os hc
abbrev sl1NameOk.id : FuncId := 45
noncomputable def sl1NameOk (xs : List AV) (os : List PV.Obj) : Option Res := lim' Y 45 xs os
noncomputable def sl1NameOk.c : Code := codeOf Tryd.f45
theorem sl1NameOk.run (xs : List AV) (os : List PV.Obj) (hc : (decide (xs.length ≤ Tryd.f45.ntmps) && decide (os.length + Tryd.f45.ntmps < 1000000000) && !(Tryd.f45.name == "runtime.NumGoroutine")) = true) :
    sl1NameOk xs os = evK XX 45 (lpL XX 45) sl1NameOk.c (initSt Tryd.f45 xs os GL) (outE XX 45 Tryd.f45) :=
  lim_eq (Y := Y) (f := 45) (fn := Tryd.f45) (cd := sl1NameOk.c) rfl Tryd.func45 (by kernel_rfl) xs os hc
abbrev inameOk.id : FuncId := 46
noncomputable def inameOk (xs : List AV) (os : List PV.Obj) : Option Res := lim' Y 46 xs os
noncomputable def inameOk.c : Code := codeOf Tryd.f46
theorem inameOk.run (xs : List AV) (os : List PV.Obj) (hc : (decide (xs.length ≤ Tryd.f46.ntmps) && decide (os.length + Tryd.f46.ntmps < 1000000000) && !(Tryd.f46.name == "runtime.NumGoroutine")) = true) :
    inameOk xs os = evK XX 46 (lpL XX 46) inameOk.c (initSt Tryd.f46 xs os GL) (outE XX 46 Tryd.f46) :=
  lim_eq (Y := Y) (f := 46) (fn := Tryd.f46) (cd := inameOk.c) rfl Tryd.func46 (by kernel_rfl) xs os hc
end Go.PVx
