/- A part of the proof: PvR1Tab. -/
import Derived.Test.YtjhnnagcebcedaaProg
import Derived.Test.YtjhnnagcebcedaaPvC
set_option linter.unusedSimpArgs false
set_option linter.unusedVariables false
/- The functions' tables: what they take over, what lives at their loops. -/
namespace Go.PVr1
open Go.PV Go.Proofs
def sigs : FuncId → Sig
  | 3 => { res := .one (.bool) }
  | 4 => { res := .one (.bool) }
  | 7 => { res := .one (.int .i64) }
  | 8 => { res := .one (.int .i64) }
  | 9 => { res := .one (.int .i64) }
  | 10 => { res := .agg [.int .i64, .own .deep] }
  | 11 => { res := .one (.own .deep) }
  | 12 => { res := .one (.int .i64) }
  | 13 => { res := .one (.bool) }
  | 14 => { res := .one (.bool) }
  | 15 => { res := .tup [(false, [.own .deep]), (false, [.bool])] }
  | 16 => { res := .tup [(false, [.own .deep]), (false, [.bool])] }
  | 17 => { con := [0], res := .one (.int .i64) }
  | 18 => { mu := [0], res := .one (.int .i64) }
  | 19 => { res := .one (.int .i64) }
  | 29 => { res := .one (.int .i64) }
  | 30 => { res := .one (.bool) }
  | 31 => { res := .one (.int .i64) }
  | 32 => { res := .one (.own .deep) }
  | 33 => { res := .one (.bool) }
  | 34 => { res := .one (.bool) }
  | 35 => { res := .one (.bool) }
  | 36 => { mu := [0], res := .one (.int .i64) }
  | 37 => { res := .one (.str) }
  | 47 => { res := .one (.bool) }
  | 50 => { res := .one (.int .i64) }
  | 51 => { res := .one (.bool) }
  | 52 => { res := .one (.bool) }
  | 53 => { res := .one (.bool) }
  | 54 => { res := .agg [.int .i64, .own .deep] }
  | 55 => { res := .one (.bool) }
  | 56 => { res := .one (.int .i64) }
  | 57 => { res := .one (.bool) }
  | 58 => { res := .one (.bool) }
  | 66 => { res := .one (.bool) }
  | 67 => { res := .one (.bool) }
  | 68 => { res := .one (.bool) }
  | 69 => { res := .one (.int .i64) }
  | 73 => { res := .one (.bool) }
  | _ => { res := .none }
def lives : FuncId → Nat → List Nat × List Nat
  | 3, 100000 => ([4], [1])
  | 3, 100005 => ([1, 2, 5], [1])
  | 3, 100009 => ([1, 2, 6], [1])
  | 3, 100012 => ([1, 2, 6, 7, 8, 9], [1])
  | 3, 100016 => ([1, 8], [1])
  | 4, 100000 => ([4], [1])
  | 4, 100005 => ([1, 2], [1])
  | 4, 100006 => ([1, 2, 6, 7], [1])
  | 4, 100008 => ([1, 2, 6, 7, 8, 9, 10], [1])
  | 4, 100010 => ([1, 2, 6, 7, 8, 9, 10], [1])
  | 4, 100013 => ([1, 2, 6, 7, 8, 9, 10, 11], [1])
  | 4, 100016 => ([1, 2, 6, 7, 9], [1])
  | 4, 100020 => ([1, 2, 6, 7, 9, 12, 13], [1])
  | 4, 100025 => ([6, 7, 9, 12, 14, 15], [1])
  | 4, 100027 => ([9, 12], [1])
  | 4, 100033 => ([], [1])
  | 8, 5 => ([0, 1, 5], [1, 4])
  | 11, 3 => ([0, 3, 4], [3])
  | 12, 3 => ([1, 10, 11, 12], [4])
  | 14, 4 => ([0, 1, 5], [4])
  | 15, 2 => ([1, 2, 6], [4, 5])
  | 16, 3 => ([1, 11, 12, 13], [4, 5])
  | 18, 2 => ([0, 1, 5], [1])
  | 19, 2 => ([0, 1, 5], [1, 4])
  | 29, 5 => ([0, 1, 5], [1, 4])
  | 30, 4 => ([1, 3], [2])
  | 30, 10 => ([1, 3, 4, 5], [1, 2, 3])
  | 31, 2 => ([1, 2, 5], [4])
  | 32, 3 => ([0, 3, 4], [3])
  | 33, 2 => ([1, 8, 9, 10], [1, 2])
  | 33, 7 => ([1, 4, 8, 9, 10, 48, 49, 50], [1, 2, 8, 9, 10])
  | 34, 4 => ([0, 1, 12, 13], [4])
  | 35, 4 => ([0, 1, 5], [4])
  | 36, 2 => ([0, 1, 5], [1])
  | 37, 4 => ([0, 3], [3])
  | 52, 2 => ([0, 3], [0, 2])
  | 53, 2 => ([0, 1, 5], [0, 1, 4])
  | 55, 2 => ([0, 1, 7, 8, 9], [0, 1, 4])
  | 56, 2 => ([0, 1, 9, 10, 11], [0, 1, 4])
  | 66, 4 => ([0, 1, 5], [4])
  | 67, 2 => ([0, 3], [0, 2])
  | 68, 2 => ([0, 5, 6], [0, 2])
  | _, _ => ([], [])
def mvs : FuncId → Nat → Nat → Bool
  | 10, 4, 1 => true
  | 54, 4, 1 => true
  | _, _, _ => false
noncomputable def Y : Prm := { P := Try.prog, sig := sigs, mv := mvs, live := lives, ext := fun _ => none }
noncomputable def c3 : Code := codeOf Try.f3
noncomputable def c4 : Code := codeOf Try.f4
noncomputable def c7 : Code := codeOf Try.f7
noncomputable def c8 : Code := codeOf Try.f8
noncomputable def c9 : Code := codeOf Try.f9
noncomputable def c10 : Code := codeOf Try.f10
noncomputable def c11 : Code := codeOf Try.f11
noncomputable def c12 : Code := codeOf Try.f12
noncomputable def c13 : Code := codeOf Try.f13
noncomputable def c14 : Code := codeOf Try.f14
noncomputable def c15 : Code := codeOf Try.f15
noncomputable def c16 : Code := codeOf Try.f16
noncomputable def c17 : Code := codeOf Try.f17
noncomputable def c18 : Code := codeOf Try.f18
noncomputable def c19 : Code := codeOf Try.f19
noncomputable def c29 : Code := codeOf Try.f29
noncomputable def c30 : Code := codeOf Try.f30
noncomputable def c31 : Code := codeOf Try.f31
noncomputable def c32 : Code := codeOf Try.f32
noncomputable def c33 : Code := codeOf Try.f33
noncomputable def c34 : Code := codeOf Try.f34
noncomputable def c35 : Code := codeOf Try.f35
noncomputable def c36 : Code := codeOf Try.f36
noncomputable def c37 : Code := codeOf Try.f37
noncomputable def c47 : Code := codeOf Try.f47
noncomputable def c50 : Code := codeOf Try.f50
noncomputable def c51 : Code := codeOf Try.f51
noncomputable def c52 : Code := codeOf Try.f52
noncomputable def c53 : Code := codeOf Try.f53
noncomputable def c54 : Code := codeOf Try.f54
noncomputable def c55 : Code := codeOf Try.f55
noncomputable def c56 : Code := codeOf Try.f56
noncomputable def c57 : Code := codeOf Try.f57
noncomputable def c58 : Code := codeOf Try.f58
noncomputable def c66 : Code := codeOf Try.f66
noncomputable def c67 : Code := codeOf Try.f67
noncomputable def c68 : Code := codeOf Try.f68
noncomputable def c69 : Code := codeOf Try.f69
noncomputable def c73 : Code := codeOf Try.f73
end Go.PVr1
