/- A part of the proof: PvY1, PvW0, PvW1, PvW2, PvN1, PvN2, PvN3, PvN4, PvN5, PvN6, PvY2, PvY3, PvY4, PvX1, PvX4. -/
import Derived.Test.YtkaclcgkndbppaaGreatDoorDat
import Derived.Test.YtkaclcgkndbppaaGreatDoorTy
import Derived.Test.YtkaclcgkndbppaaGreatDoorExt
import Derived.Lib.AtoiAllCases
set_option linter.unusedSimpArgs false
set_option linter.unusedVariables false
namespace Go.PVx
open Go.PV Go.Proofs
theorem zgW (s : Str) : (dataT s).length ≤ 1 + 2 * s.length := by
 unfold dataT
 split
 · simp
 · rw [zfY]; omega
theorem zlU (a : Int) (h0 : 0 ≤ a) (h1 : a ≤ 1000000) : zc1 [AV.one (A1.v (Value.int IntKind.i64 a))] [] = rS (dec a.toNat) := by
 have := znt a.toNat (by omega)
 rwa [show ((a.toNat : Nat) : Int) = a by omega] at this
theorem zeB (a : Int) (h1 : a ≤ 1000000) : (dec a.toNat).length ≤ 7 := zns a.toNat (by omega)
end Go.PVx
namespace Go.PVx
open Go.PV Go.Proofs
end Go.PVx
namespace Go.PVx
open Go.PV Go.Proofs
def kindB (e : Entry) : Bool :=
 if e.what = 1 then !e.dir && (e.mode == 0 && e.data == []) else if e.what = 2 then !e.dir || e.data == [] else if e.what = 3 then !e.dir && e.data == [] else if e.what = 4 then !e.dir && e.mode == 0 else false
def entB (e : Entry) : Bool := pathB (if e.what = 3 then 0 else 1) e.path && (inB e.mode 0 7 && (decide (e.data.length ≤ 24) && kindB e))
end Go.PVx
namespace Go.PVx
open Go.PV Go.Proofs
def lineT (d : Bool) (m : Int) (s : Str) (p : List Str) : Str :=
 bif d then [100, 105, 114, 32] ++ pt p ++ [32] ++ dec m.toNat ++ [10] else [102, 105, 108, 101, 32] ++ pt p ++ [32] ++ dec m.toNat ++ [32] ++ dataT s ++ [10]
theorem znz (d : Bool) (m : Int) (s : Str) (p : List Str) (h : m ≤ 1000000) : (lineT d m s p).length ≤ 17 + wP p + 2 * s.length := by
 have h1 := zle p
 have h2 := zeB m h
 have h3 := zgW s
 unfold lineT
 cases d <;> simp only [cond_true, cond_false, List.length_append, List.length_cons, List.length_nil] <;> omega
def putB (e : Entry) : Bool := e.what == 2 && bif e.path == [] then e.dir && (e.data == [] && inB e.mode 0 7) else entB e
def putL (e : Entry) : Str := lineT e.dir e.mode e.data e.path
theorem znA {e : Entry} (h : putB e = true) : 0 ≤ e.mode ∧ e.mode ≤ 7 := by
 unfold putB entB inB at h
 grind
end Go.PVx
namespace Go.PVx
open Go.PV Go.Proofs
def cutAt (b : UInt8) : Str → List Str
 | [] => [[]]
 | c :: s => if c = b then [] :: cutAt b s else ((c :: (cutAt b s).headD []) :: (cutAt b s).tail)
end Go.PVx
namespace Go.PVx
open Go.PV Go.Proofs
def valS : Int → Str → Int
 | a, [] => a
 | a, c :: r => if (c.toNat : Int) < 48 ∨ (c.toNat : Int) > 57 then -1 else valS (a * 10 + ((c.toNat : Int) - 48)) r
def numS (s : Str) : Int := if inB s.length 1 5 = false ∨ (1 < s.length ∧ s.headD 0 = 48) then -1 else valS 0 s
end Go.PVx
namespace Go.PVx
open Go.PV Go.Proofs
end Go.PVx
namespace Go.PVx
open Go.PV Go.Proofs
def znB : Nat → Int → List NodeOf → List Str → Option Nodes
 | _, nx, acc, [] => some ⟨nx, acc⟩
 | i, nx, acc, l :: ls =>
  if (cutAt 32 l).length ≠ 2 ∨ 30 < i then none
  else if i = 0 then znB (i + 1) (numS ((cutAt 32 l).getD 1 [])) acc ls
  else znB (i + 1) nx (acc ++ [⟨numS ((cutAt 32 l).getD 0 []), (cutAt 47 ((cutAt 32 l).getD 1 [])).drop 1⟩]) ls
def linesT (s : Str) : List Str := (cutAt 10 s).dropLast
def RS (s : Str) : Option Nodes := match znB 0 0 [] (linesT s) with
 | some n => if okB n = true ∧ znu n = s then some n else none
 | none => none
end Go.PVx
namespace Go.PVx
open Go.PV Go.Proofs
theorem oP_of {p : List Str} (h : wP p ≤ 1048576) : oP p := by
 unfold wP at h
 refine ⟨?_, fun x hx => ?_⟩
 · have := zbX List.length p; omega
 · have := zhL List.length p x hx
   unfold sS
   omega
end Go.PVx
namespace Go.PVx
open Go.PV Go.Proofs
end Go.PVx
namespace Go.PVx
open Go.PV Go.Proofs
def hx (a b : Int) : UInt8 := UInt8.ofNat (16 * a + b).toNat
theorem two {α : Type} (s : List α) (k : Nat) (h : k + 1 < s.length) : s.drop k = s[k] :: s[k + 1] :: s.drop (k + 2) := by
 rw [zaO s k (by omega), zaO s (k + 1) h]
end Go.PVx
namespace Go.PVx
open Go.PV Go.Proofs
end Go.PVx
namespace Go.PVx
open Go.PV Go.Proofs
end Go.PVx
namespace Go.PVx
open Go.PV Go.Proofs
def hideW : Str := [104, 105, 100, 101]
def gl (g : List Str) : Str := hideW ++ 32 :: pt g
def pl (e : Entry) : Str := bif e.dir then [100, 105, 114] ++ ([pt e.path, dec e.mode.toNat].map fun y => 32 :: y).flatten else [102, 105, 108, 101] ++ ([pt e.path, dec e.mode.toNat, dataT e.data].map fun y => 32 :: y).flatten
theorem znC {e : Entry} (h : putB e = true) : e.what = 2 ∧ (e.dir = true → e.data = []) ∧ (e.dir = false → e.path ≠ []) ∧ (e.path ≠ [] → pathB 1 e.path = true) ∧ 0 ≤ e.mode ∧ e.mode ≤ 7 := by
 have hm := znA h
 refine ⟨?_, ?_, ?_, ?_, hm⟩
 all_goals
  unfold putB entB kindB at h
  grind
end Go.PVx
namespace Go.PVx
open Go.PV Go.Proofs
end Go.PVx
