/- A part of the proof: PvY1, PvW0, PvW1, PvW2, PvN1, PvN2, PvN3, PvN4, PvN5, PvN6, PvY2, PvY3, PvY4, PvX1, PvX4. -/
import Derived.Test.YtkaclcgkndbppaaGreatDoorDat
import Derived.Test.YtkaclcgkndbppaaGreatDoorTy
import Derived.Test.YtkaclcgkndbppaaGreatDoorExt
import Derived.Lib.AtoiAllCases
set_option linter.unusedSimpArgs false
set_option linter.unusedVariables false
namespace Go.PVx
open Go.PV Go.Proofs
theorem zgK (s : Str) : (dataT s).length ≤ 1 + 2 * s.length := by
 unfold dataT
 split
 · simp
 · rw [zfN]; omega
theorem zlr (a : Int) (h0 : 0 ≤ a) (h1 : a ≤ 1000000) : zdb [AV.one (A1.v (Value.int IntKind.i64 a))] [] = rS (dec a.toNat) := by
 have := zmV a.toNat (by omega)
 rwa [show ((a.toNat : Nat) : Int) = a by omega] at this
theorem zeC (a : Int) (h1 : a ≤ 1000000) : (dec a.toNat).length ≤ 7 := zmU a.toNat (by omega)
end Go.PVx
namespace Go.PVx
open Go.PV Go.Proofs
def wE (e : Entry) : Nat := wP e.path + e.data.length
def wU (u : Upper) : Nat := wL wP u.gone + wL wE u.puts
abbrev vU (u : Upper) : AV := .g [.s (u.gone.map ePa), .s (u.puts.map eE)]
theorem zn5 {l : List (List Str)} {k : Nat} (h : k < l.length) : (l.map ePa).getD k [] = [.s (eSs l[k])] := by
 rw [zcb ePa l k h]; rfl
theorem zn6 {l : List Entry} {k : Nat} (h : k < l.length) : (l.map eE).getD k [] = [.s (eSs l[k].path), .v (.int .i64 l[k].what), .v (.bool l[k].dir), .v (.int .i64 l[k].mode), .v (.string (mkS l[k].data))] := by
 rw [zcb eE l k h]; rfl
theorem zgX (l : List (List Str)) (hl : l.length ≤ 9223372036854775807) (hX : ∀ a ∈ l, zao [vP a, vP a] [] = rB true) : zax [.one (.s (l.map ePa)), .one (.s (l.map ePa))] [] = rB true := by
 have key : ∀ k, k ≤ l.length → zax.L4 (l.map ePa) (l.map ePa) (k : Int) = some zax.x4 := by
  refine up l.length ?_ fun k hk ih => ?_
  · rw [zax.s4]; simp
  · rw [zax.s4]
    have h := hX l[k] (List.getElem_mem hk)
    simp only [Int.toNat_natCast, zn5 hk, zbk k (by omega), ih]
    simp [hk, h]
 have h0 : zax.L4 (l.map ePa) (l.map ePa) 0 = _ := key 0 (by omega)
 rw [zax.e, h0]
 simp [zax.a4x4]
theorem zjj (l : List Entry) (hl : l.length ≤ 9223372036854775807) (hX : ∀ a ∈ l, zbt [vE a, vE a] [] = rB true) : zaO [.one (.s (l.map eE)), .one (.s (l.map eE))] [] = rB true := by
 have key : ∀ k, k ≤ l.length → zaO.L4 (l.map eE) (l.map eE) (k : Int) = some zaO.x4 := by
  refine up l.length ?_ fun k hk ih => ?_
  · rw [zaO.s4]; simp
  · rw [zaO.s4]
    have h := hX l[k] (List.getElem_mem hk)
    simp only [Int.toNat_natCast, zn6 hk, zbk k (by omega), ih]
    simp [hk, h]
 have h0 : zaO.L4 (l.map eE) (l.map eE) 0 = _ := key 0 (by omega)
 rw [zaO.e, h0]
 simp [zaO.a4x4]
theorem zh6 (e : Entry) (hw : wE e ≤ 1048576) : zbt [vE e, vE e] [] = rB true := by
 have := zdg e.path
 unfold wE at hw
 rw [zbt.e, zb8 e.path (by omega)]
 have b1 : (e.dir != e.dir) = false := by simp
 have b2 : (e.what != e.what) = false := by simp
 have b3 : (e.mode != e.mode) = false := by simp
 have b4 : (e.data == e.data) = true := by simp
 simp (disch := omega) only [pvS, pvT, pvC, pvL, pvR, pvN, b1, b2, b3, b4, zbt.p9]
 try simp
theorem zh7 (u : Upper) (hw : wU u ≤ 1048576) : zcg [vU u, vU u] [] = rB true := by
 unfold wU at hw
 have h1 := zcV wP u.gone
 have h2 := zcV wE u.puts
 have e1 := zgX u.gone (by omega) (fun p hp => zb8 p (by have := zd4 wP u.gone p hp; have := zdg p; omega))
 have e2 := zjj u.puts (by omega) (fun p hp => zh6 p (by have := zd4 wE u.puts p hp; omega))
 rw [zcg.e, e1, Option.bind_some]
 simp (disch := omega) only [pvS, pvT, pvC, pvL, pvR, pvN, e2]
end Go.PVx
namespace Go.PVx
open Go.PV Go.Proofs
end Go.PVx
namespace Go.PVx
open Go.PV Go.Proofs
def lineT (d : Bool) (m : Int) (s : Str) (p : List Str) : Str :=
 bif d then [100, 105, 114, 32] ++ pt p ++ [32] ++ dec m.toNat ++ [10] else [102, 105, 108, 101, 32] ++ pt p ++ [32] ++ dec m.toNat ++ [32] ++ dataT s ++ [10]
theorem zm4 (d : Bool) (m : Int) (s : Str) (p : List Str) (h : m ≤ 1000000) : (lineT d m s p).length ≤ 17 + wP p + 2 * s.length := by
 have h1 := zkT p
 have h2 := zeC m h
 have h3 := zgK s
 unfold lineT
 cases d <;> simp only [cond_true, cond_false, List.length_append, List.length_cons, List.length_nil] <;> omega
def putL (e : Entry) : Str := lineT e.dir e.mode e.data e.path
end Go.PVx
namespace Go.PVx
open Go.PV Go.Proofs
def cutAt (b : UInt8) : Str → List Str
 | [] => [[]]
 | c :: s => if c = b then [] :: cutAt b s else ((c :: (cutAt b s).headD []) :: (cutAt b s).tail)
end Go.PVx
namespace Go.PVx
open Go.PV Go.Proofs
def valS : Int → Str → Int
 | a, [] => a
 | a, c :: r => if (c.toNat : Int) < 48 ∨ (c.toNat : Int) > 57 then -1 else valS (a * 10 + ((c.toNat : Int) - 48)) r
def numS (s : Str) : Int := if inB s.length 1 5 = false ∨ (1 < s.length ∧ s.headD 0 = 48) then -1 else valS 0 s
end Go.PVx
namespace Go.PVx
open Go.PV Go.Proofs
end Go.PVx
namespace Go.PVx
open Go.PV Go.Proofs
def zm5 : Nat → Int → List NodeOf → List Str → Option Nodes
 | _, nx, acc, [] => some ⟨nx, acc⟩
 | i, nx, acc, l :: ls =>
  if (cutAt 32 l).length ≠ 2 ∨ 30 < i then none
  else if i = 0 then zm5 (i + 1) (numS ((cutAt 32 l).getD 1 [])) acc ls
  else zm5 (i + 1) nx (acc ++ [⟨numS ((cutAt 32 l).getD 0 []), (cutAt 47 ((cutAt 32 l).getD 1 [])).drop 1⟩]) ls
def linesT (s : Str) : List Str := (cutAt 10 s).dropLast
def RS (s : Str) : Option Nodes := match zm5 0 0 [] (linesT s) with
 | some n => if okB n = true ∧ zmW n = s then some n else none
 | none => none
end Go.PVx
namespace Go.PVx
open Go.PV Go.Proofs
theorem oP_of {p : List Str} (h : wP p ≤ 1048576) : oP p := by
 unfold wP at h
 refine ⟨?_, fun x hx => ?_⟩
 · have := zcV List.length p; omega
 · have := zd4 List.length p x hx
   unfold sS
   omega
end Go.PVx
namespace Go.PVx
open Go.PV Go.Proofs
end Go.PVx
namespace Go.PVx
open Go.PV Go.Proofs
def hx (a b : Int) : UInt8 := UInt8.ofNat (16 * a + b).toNat
theorem two {α : Type} (s : List α) (k : Nat) (h : k + 1 < s.length) : s.drop k = s[k] :: s[k + 1] :: s.drop (k + 2) := by
 rw [zbe s k (by omega), zbe s (k + 1) h]
end Go.PVx
namespace Go.PVx
open Go.PV Go.Proofs
end Go.PVx
namespace Go.PVx
open Go.PV Go.Proofs
end Go.PVx
namespace Go.PVx
open Go.PV Go.Proofs
def hideW : Str := [104, 105, 100, 101]
def gl (g : List Str) : Str := hideW ++ 32 :: pt g
def pl (e : Entry) : Str := bif e.dir then [100, 105, 114] ++ ([pt e.path, dec e.mode.toNat].map fun y => 32 :: y).flatten else [102, 105, 108, 101] ++ ([pt e.path, dec e.mode.toNat, dataT e.data].map fun y => 32 :: y).flatten
end Go.PVx
namespace Go.PVx
open Go.PV Go.Proofs
end Go.PVx
