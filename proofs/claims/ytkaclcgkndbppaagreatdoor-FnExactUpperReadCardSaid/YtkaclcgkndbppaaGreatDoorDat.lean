/- A part of the proof: PvU1, PvU2, PvU3, PvU4, PvL0, PvL1, PvV1, PvV2, PvV3, PvV4, PvM1, PvM2. -/
import Derived.Test.YtkaclcgkndbppaaGreatDoorRes
import Derived.Test.YtkaclcgkndbppaaGreatDoorTy
import Derived.Test.YtkaclcgkndbppaaGreatDoorExt
set_option linter.unusedSimpArgs false
set_option linter.unusedVariables false
namespace Go.PVx
open Go.PV Go.Proofs
def inB (a b c : Int) : Bool := decide (b ≤ a) && decide (a ≤ c)
theorem sl1In_ok (a b c : Int) : sl1In [vI a, vI b, vI c] [] = rB (inB a b c) := by
  rw [sl1In.e]; unfold inB; by_cases h : b ≤ a <;> simp [h]
theorem iwithin_ok (a b c : Int) : iwithin [vI a, vI b, vI c] [] = rB (inB a b c) := by
  rw [iwithin.e]; unfold inB; by_cases h : b ≤ a <;> simp [h]
theorem imodeOk_ok (a : Int) : imodeOk [vI a] [] = rB (inB a 0 7) := by
  rw [imodeOk.e, iwithin_ok]; simp
def okc (b : UInt8) : Bool := (decide (97 ≤ (b.toNat : Int)) && decide ((b.toNat : Int) ≤ 122)) || (decide (48 ≤ (b.toNat : Int)) && decide ((b.toNat : Int) ≤ 57))
def nameB (s : Str) : Bool := s.all okc && inB s.length 1 5
theorem sl1NameOk.l2 (s : Str) (hs : sS s) : ∀ k, k ≤ s.length → sl1NameOk.L2 (mkS s) (k : Int) = some (bif (s.drop k).all okc then sl1NameOk.x2 (mkS s) else sl1NameOk.q2 (mkS s) false) := by
  unfold sS at hs
  refine up s.length ?_ fun k hk ih => ?_
  · rw [sl1NameOk.s2]; simp
  · rw [sl1NameOk.s2, drop_cons s k hk, List.all_cons]
    simp only [Int.toNat_natCast, byteAt_lt s k hk, sl1NameOk.p5, wrap_nat k (by omega), ih, okc]
    by_cases h1 : 97 ≤ (s[k].toNat : Int) <;> by_cases h2 : (s[k].toNat : Int) ≤ 122 <;> by_cases h3 : 48 ≤ (s[k].toNat : Int) <;> by_cases h4 : (s[k].toNat : Int) ≤ 57 <;> simp [h1, h2, h3, h4, hk]
theorem sl1NameOk_ok (s : Str) (hs : sS s) : sl1NameOk [vS s] [] = rB (nameB s) := by
  have h := sl1NameOk.l2 s hs 0 (by omega)
  rw [sl1NameOk.e, show (0 : Int) = ((0 : Nat) : Int) from rfl, h]
  unfold nameB
  cases h : s.all okc <;> simp [h, sl1NameOk.a2q2, sl1NameOk.a2x2, sl1In_ok]
theorem inameOk.l2 (s : Str) (hs : sS s) : ∀ k, k ≤ s.length → inameOk.L2 (mkS s) s.length (k : Int) = some (bif (s.drop k).all okc then inameOk.x2 (mkS s) else inameOk.q2 (mkS s) false) := by
  unfold sS at hs
  refine up s.length ?_ fun k hk ih => ?_
  · rw [inameOk.s2]; simp
  · rw [inameOk.s2, drop_cons s k hk, List.all_cons]
    simp only [Int.toNat_natCast, byteAt_lt s k hk, inameOk.p5, wrap_nat k (by omega), ih, okc]
    have e1 : decide ((s[k].toNat : Int) < 97) = !decide (97 ≤ (s[k].toNat : Int)) := by by_cases h : 97 ≤ (s[k].toNat : Int) <;> simp [h] <;> omega
    have e2 : decide ((s[k].toNat : Int) > 122) = !decide ((s[k].toNat : Int) ≤ 122) := by by_cases h : (s[k].toNat : Int) ≤ 122 <;> simp [h] <;> omega
    have e3 : decide ((s[k].toNat : Int) < 48) = !decide (48 ≤ (s[k].toNat : Int)) := by by_cases h : 48 ≤ (s[k].toNat : Int) <;> simp [h] <;> omega
    have e4 : decide ((s[k].toNat : Int) > 57) = !decide ((s[k].toNat : Int) ≤ 57) := by by_cases h : (s[k].toNat : Int) ≤ 57 <;> simp [h] <;> omega
    simp only [e1, e2, e3, e4]
    cases decide (97 ≤ (s[k].toNat : Int)) <;> cases decide ((s[k].toNat : Int) ≤ 122) <;> cases decide (48 ≤ (s[k].toNat : Int)) <;> cases decide ((s[k].toNat : Int) ≤ 57) <;> simp [hk]
theorem inameOk_ok (s : Str) (hs : sS s) : inameOk [vS s] [] = rB (nameB s) := by
  have h := inameOk.l2 s hs 0 (by omega)
  rw [inameOk.e, size_mkS, show (0 : Int) = ((0 : Nat) : Int) from rfl, h]
  unfold nameB
  cases h : s.all okc <;> simp [h, inameOk.a2q2, inameOk.a2x2, iwithin_ok]
def pathB (least : Int) (p : List Str) : Bool := p.all nameB && inB p.length least 4
theorem sl2PathOk.l2 (p : List Str) (hp : oP p) : ∀ k, k ≤ p.length → sl2PathOk.L2 (eSs p) (k : Int) = some (bif (p.drop k).all nameB then sl2PathOk.x2 (eSs p) else sl2PathOk.q2 (eSs p) false) := by
  have hl := hp.1
  refine up p.length ?_ fun k hk ih => ?_
  · rw [sl2PathOk.s2]; simp
  · rw [sl2PathOk.s2, drop_cons p k hk, List.all_cons]
    simp only [Int.toNat_natCast, getD_map eS p k hk, wrap_nat k (by omega), ih]
    have h := sl1NameOk_ok p[k] (sL_at hp hk)
    cases hn : nameB p[k] <;> rw [hn] at h <;> simp [hk, eS, h]
theorem sl2PathOk_ok (p : List Str) (hp : oP p) : sl2PathOk [vP p] [] = rB (pathB 1 p) := by
  have h := sl2PathOk.l2 p hp 0 (by omega)
  rw [sl2PathOk.e, show (0 : Int) = ((0 : Nat) : Int) from rfl, h]
  unfold pathB
  cases h : p.all nameB <;> simp [h, sl2PathOk.a2q2, sl2PathOk.a2x2, sl1In_ok]
theorem inamesOk.l2 (p : List Str) (hp : oP p) (least : Int) : ∀ k, k ≤ p.length → inamesOk.L2 (eSs p) least (eSs p) p.length (k : Int) =
    some (bif (p.drop k).all nameB then inamesOk.x2 (eSs p) least else inamesOk.q2 (eSs p) least false) := by
  have hl := hp.1
  refine up p.length ?_ fun k hk ih => ?_
  · rw [inamesOk.s2]; simp
  · rw [inamesOk.s2, drop_cons p k hk, List.all_cons]
    simp only [Int.toNat_natCast, getD_map eS p k hk, wrap_nat k (by omega), ih]
    have h := inameOk_ok p[k] (sL_at hp hk)
    cases hn : nameB p[k] <;> rw [hn] at h <;> simp [hk, eS, h]
theorem inamesOk_ok (p : List Str) (hp : oP p) (least : Int) : inamesOk [vP p, vI least] [] = rB (pathB least p) := by
  have h := inamesOk.l2 p hp least 0 (by omega)
  rw [inamesOk.e]
  simp only [List.length_map]
  rw [show (0 : Int) = ((0 : Nat) : Int) from rfl, h]
  unfold pathB
  cases h : p.all nameB <;> simp [h, inamesOk.a2q2, inamesOk.a2x2, iwithin_ok]
def lessP : List Str → List Str → Bool
  | _, [] => false
  | [], _ :: _ => true
  | x :: a, y :: b => bif x == y then lessP a b else Op.bytesLess x y
end Go.PVx
namespace Go.PVx
open Go.PV Go.Proofs
def namesB : Option Str → List Str → Bool
  | _, [] => true
  | p, x :: l => nameB x && (match p with | none => true | some y => Op.bytesLess y x) && namesB (some x) l
def plainB (t : Tree) : Bool := inB t.mode 0 7 && decide (t.names.length = t.kids.length) && (bif t.dir then namesB none t.names && decide (t.data = []) else decide (t.data.length ≤ 24) && decide (t.names.length = 0))
end Go.PVx
namespace Go.PVx
open Go.PV Go.Proofs
def nodesB (nx : Int) : List NodeOf → List NodeOf → Bool
  | _, [] => true
  | pre, x :: l => inB x.id 1 (IntKind.i64.wrap (nx - 1)) && (pathB 1 x.path && ((match pre.getLast? with | none => true | some y => lessP y.path x.path) && (pre.all (fun y => !(y.id == x.id)) && nodesB nx (pre ++ [x]) l)))
def okB (n : Nodes) : Bool := inB n.next 1 10000 && decide (n.list.length ≤ 30) && nodesB n.next [] n.list
end Go.PVx
namespace Go.PVx
open Go.PV Go.Proofs
theorem rowsLen_map {α : Type} (f : α → List D) (n : Nat) (h : ∀ x, (f x).length = n) (l : List α) : rowsLen n (l.map f) = true := by
  simp [rowsLen, h]
@[simp] theorem rowsLen_eS (l : List Str) : rowsLen 1 (eSs l) = true := rowsLen_map eS 1 (fun _ => rfl) l
@[simp] theorem rowsLen_ePa (l : List (List Str)) : rowsLen 1 (l.map ePa) = true := rowsLen_map ePa 1 (fun _ => rfl) l
@[simp] theorem rowsLen_eN (l : List NodeOf) : rowsLen 2 (l.map eN) = true := rowsLen_map eN 2 (fun _ => rfl) l
@[simp] theorem rowsCell_eS (b : Bool) (l : List Str) : rowsCell b (eSs l) = true := by simp [rowsCell, eS, cellD, isCell]
@[simp] theorem rowsCell_ePa (l : List (List Str)) : rowsCell true (l.map ePa) = true := by simp [rowsCell, ePa, cellD]
end Go.PVx
namespace Go.PVx
open Go.PV Go.Proofs
def sumW {α : Type} (w : α → Nat) : List α → Nat
  | [] => 0
  | x :: l => w x + sumW w l
theorem str_at {l : List Str} {k : Nat} (h : k < l.length) : (eSs l).getD k [] = [.v (.string (mkS l[k]))] := by
  rw [getD_map eS l k h]; rfl
theorem weqStringS_refl (l : List Str) (hl : l.length ≤ 9223372036854775807) : weqStringS [vP l, vP l] [] = rB true := by
  have key : ∀ k, k ≤ l.length → weqStringS.L4 (eSs l) (eSs l) (k : Int) = some weqStringS.x4 := by
    refine up l.length ?_ fun k hk ih => ?_
    · rw [weqStringS.s4]; simp
    · rw [weqStringS.s4]
      simp only [Int.toNat_natCast, str_at hk, wrap_nat k (by omega), ih]
      simp [hk]
  have h0 : weqStringS.L4 (eSs l) (eSs l) 0 = _ := key 0 (by omega)
  rw [weqStringS.e, h0]
  simp [weqStringS.a4x4]
end Go.PVx
namespace Go.PVx
open Go.PV Go.Proofs
theorem wP_len (p : List Str) : p.length ≤ wP p := wL_len _ p
end Go.PVx
namespace Go.PVx
open Go.PV Go.Proofs
abbrev dec (n : Nat) : Str := Lib.decDigits n
theorem dec_len (n : Nat) (h : n ≤ 1000000) : (dec n).length ≤ 7 := by
  unfold dec
  rw [Lib.decDigits_length]
  by_cases h0 : n = 0
  · subst h0; rw [Lib.nDigits_small (by omega)]; omega
  · have : ∀ (k m : Nat), m < 10 ^ (k + 1) → Lib.nDigits m ≤ k + 1 := by
      intro k
      induction k with
      | zero => intro m hm; rw [Lib.nDigits_small (by simpa using hm)]; omega
      | succ k ih =>
        intro m hm
        by_cases h10 : m < 10
        · rw [Lib.nDigits_small h10]; omega
        · rw [Lib.nDigits_big h10]
          have := ih (m / 10) (by rw [Nat.pow_succ] at hm; omega)
          omega
    exact this 6 n (by omega)
theorem strOf_byte (d : Nat) (h : d < 10) : strOf [[D.v (Value.int IntKind.u8 (IntKind.u8.wrap (IntKind.i64.wrap (48 + (d : Int)))))]] = mkS [UInt8.ofNat (48 + d)] := by
  rw [wrap_in _ (by omega), IntKind.wrap_u8]
  have : (48 + (d : Int)) % 256 = ((48 + d : Nat) : Int) := by omega
  rw [this]
  rfl
theorem sl1Dec_ok : ∀ (n : Nat), n ≤ 1000000 → sl1Dec [vI n] [] = rS (dec n) := by
  intro n
  induction n using Nat.strongRecOn with
  | _ n ih =>
    intro h
    rw [sl1Dec.e]
    have h1 : decide ((n : Int) < -9223372036854775807) = false := decide_eq_false (by omega)
    have h2 : decide ((n : Int) < 0) = false := by simp
    rw [h1, h2]
    simp only [cond_false]
    unfold dec
    rw [Lib.decDigits]
    by_cases h10 : n < 10
    · have h3 : decide ((n : Int) < 10) = true := by simp; omega
      rw [h3, dif_pos h10, cond_true, strOf_byte n h10]
    · have h3 : decide ((n : Int) < 10) = false := by simp; omega
      have hq : (n : Int).tdiv 10 = ((n / 10 : Nat) : Int) := by rw [Int.tdiv_eq_ediv_of_nonneg (by omega)]; omega
      have hr : (n : Int).tmod 10 = ((n % 10 : Nat) : Int) := by rw [Int.tmod_eq_emod_of_nonneg (by omega)]; omega
      have hw : IntKind.i64.wrap ((n / 10 : Nat) : Int) = ((n / 10 : Nat) : Int) := wrap_in _ (by omega)
      have hi := ih (n / 10) (by omega) (by omega)
      have hl := dec_len (n / 10) (by omega)
      unfold dec at hi hl
      have e1 : (Lib.decDigits (n / 10)).length ≤ 70368744177663 := by omega
      rw [h3, dif_neg h10, cond_false, hq, hw, hi, hr, strOf_byte (n % 10) (by omega)]
      simp [e1]
theorem strconv_Itoa_ok (n : Nat) (h : n ≤ 1000000) : strconv_Itoa [vI n] [] = rS (dec n) := by
  rw [strconv_Itoa.ext]
  have h1 : decide (-9223372036854775808 ≤ (n : Int)) = true := decide_eq_true (by omega)
  have h2 : decide ((n : Int) ≤ 9223372036854775807) = true := decide_eq_true (by omega)
  simp only [extItoa, h1, h2, Bool.and_self, cond_true, Lib.itoa_nonneg]
  rfl
def pt (p : List Str) : Str := if p = [] then [47] else Lib.joinTail [47] p
theorem joinTail_len (p : List Str) : (Lib.joinTail [47] p).length = wP p := by
  unfold wP
  induction p with
  | nil => rfl
  | cons x p ih =>
    have : Lib.joinTail [47] (x :: p) = [47] ++ x ++ Lib.joinTail [47] p := by simp [Lib.joinTail]
    rw [this]
    simp only [List.length_append, List.length_cons, List.length_nil, ih, wL]
theorem pt_len (p : List Str) : (pt p).length ≤ 1 + wP p := by
  unfold pt
  split
  · simp
  · rw [joinTail_len]; omega
theorem strRows_eSs : ∀ p : List Str, strRows (eSs p) = some (p.map mkS)
  | [] => rfl
  | x :: p => by
    have := strRows_eSs p
    simp only [List.map_cons, strRows, this]
    rfl
theorem strings_Join_ok (p : List Str) (hp : wP p ≤ 1048576) (h0 : p ≠ []) : strings_Join [vP p, vS [47]] [] = rS (Lib.join p [47]) := by
  rw [strings_Join.ext]
  have hm : (p.map mkS).map (fun x => x.data.toList) = p := by simp [List.map_map, Function.comp_def]
  have hlen : (Lib.join p [47]).length ≤ wP p := by
    cases p with
    | nil => exact absurd rfl h0
    | cons x r =>
      have hj := joinTail_len r
      rw [Lib.join_cons, List.length_append, hj]
      unfold wP
      simp only [wL]; omega
  have hpl := wP_len p
  have e1 : decide ((p.map mkS).length ≤ 140737488355328) = true := by simp; omega
  have e2 : decide ((Lib.join p [47]).length ≤ 140737488355328) = true := by simp; omega
  have hx : joinD (p.map mkS) (mkS [47]) = mkS (Lib.join p [47]) := by
    unfold joinD
    rw [hm]
    rfl
  show extJoin [.one (.s (eSs p)), .one (.v (.string (mkS [47])))] [] = _
  simp only [extJoin, strRows_eSs, e1, hm]
  have hs : (mkS [47]).data.toList = [47] := rfl
  rw [hs, e2]
  simp only [Bool.and_self, cond_true, hx]
theorem ipathText_ok (p : List Str) (hp : wP p ≤ 1048576) : ipathText [vP p] [] = rS (pt p) := by
  rw [ipathText.e]
  cases p with
  | nil => rfl
  | cons x r =>
    have h1 := strings_Join_ok (x :: r) hp (by simp)
    have h2 : (Lib.join (x :: r) [47]).length ≤ 1048576 := by
      have hj := joinTail_len r
      unfold wP at hp hj
      rw [Lib.join_cons, List.length_append, hj]
      simp only [wL] at hp; omega
    have e1 : decide (1 + (Lib.join (x :: r) [47]).length ≤ 70368744177664) = true := by simp; omega
    have h3 : ((((eSs (x :: r)).length : Nat) : Int) == 0) = false := by simp; omega
    have h4 : (ByteArray.mk #[47]) = mkS [47] := rfl
    rw [h3, cond_false, h4, h1]
    have h5 : pt (x :: r) = 47 :: Lib.join (x :: r) [47] := by
      unfold pt
      rw [if_neg (by simp), Lib.join_cons]
      simp [Lib.joinTail]
    rw [h5]
    simp [e1]
theorem sl3Name_ok (p : List Str) (hp : wP p ≤ 1048576) : sl3Name [vP p] [] = rS (pt p) := by
  have hpl := wP_len p
  have hlen := joinTail_len p
  have key : ∀ k, k ≤ p.length → sl3Name.L3 (eSs p) (mkS (Lib.joinTail [47] (p.take k))) (k : Int) = some (sl3Name.x3 (mkS (Lib.joinTail [47] p))) := by
    refine up p.length ?_ fun k hk ih => ?_
    · rw [sl3Name.s3]; simp
    · have hs : Lib.joinTail [47] (p.take (k + 1)) = Lib.joinTail [47] (p.take k) ++ [47] ++ p[k] := Lib.joinTail_take_succ [47] p k p[k] (by simp [hk])
      have hle := Lib.joinTail_take_le [47] p (k + 1)
      rw [hs] at hle
      simp only [List.length_append, List.length_cons, List.length_nil] at hle
      have e1 : decide ((Lib.joinTail [47] (p.take k)).length + 1 ≤ 70368744177664) = true := by simp; omega
      have e2 : decide ((Lib.joinTail [47] (p.take k)).length + 1 + p[k].length ≤ 70368744177664) = true := by simp; omega
      have h4 : (ByteArray.mk #[47]) = mkS [47] := rfl
      rw [hs] at ih
      rw [sl3Name.s3]
      simp only [Int.toNat_natCast, str_at hk, wrap_nat k (by omega), h4, mkS_append, size_mkS, List.getD_cons_zero, str_v, List.length_append, List.length_cons, List.length_nil, e1, e2, ih]
      simp [hk]
  have h0 := key 0 (by omega)
  rw [sl3Name.e]
  have h5 : (ByteArray.mk #[]) = mkS (Lib.joinTail [47] (p.take 0)) := rfl
  rw [h5]
  have h0 : sl3Name.L3 (eSs p) (mkS (Lib.joinTail [47] (p.take 0))) 0 = _ := h0
  rw [h0, Option.bind_some, sl3Name.a3x3, toList_mkS]
  cases p with
  | nil => rfl
  | cons x r =>
    have : Lib.joinTail [47] (x :: r) = 47 :: (x ++ Lib.joinTail [47] r) := by simp [Lib.joinTail]
    simp [pt, this]
end Go.PVx
namespace Go.PVx
open Go.PV Go.Proofs
def line (a : NodeOf) : Str := dec a.id.toNat ++ [32] ++ pt a.path ++ [10]
def head5 (n : Nodes) : Str := [110, 101, 120, 116, 32] ++ dec n.next.toNat ++ [10]
def nodesText (n : Nodes) : Str := bif okB n then head5 n ++ (n.list.map line).flatten else []
theorem inB_iff (a b c : Int) : inB a b c = true ↔ b ≤ a ∧ a ≤ c := by simp [inB]
end Go.PVx
namespace Go.PVx
open Go.PV Go.Proofs
def hexD : Str := [48, 49, 50, 51, 52, 53, 54, 55, 56, 57, 97, 98, 99, 100, 101, 102]
theorem hexD_mk : (ByteArray.mk #[48, 49, 50, 51, 52, 53, 54, 55, 56, 57, 97, 98, 99, 100, 101, 102]) = mkS hexD := rfl
def dig (n : Nat) : UInt8 := hexD.getD n 0
def hexB (b : UInt8) : Str := [dig (b.toNat / 16), dig (b.toNat % 16)]
def hexS (s : Str) : Str := (s.map hexB).flatten
def dataT (s : Str) : Str := if s = [] then [45] else hexS s
theorem dig_fin : ∀ i : Fin 16, (hexD.take (i.val + 1)).drop i.val = [dig i.val] := by decide
theorem dig_at {i : Nat} (h : i < 16) : (hexD.take (i + 1)).drop i = [dig i] := dig_fin ⟨i, h⟩
theorem hexS_len : ∀ s : Str, (hexS s).length = 2 * s.length
  | [] => rfl
  | b :: s => by
    have : hexS (b :: s) = hexB b ++ hexS s := by simp [hexS]
    rw [this, List.length_append, hexS_len s]
    simp only [hexB, List.length_cons, List.length_nil]; omega
theorem hexS_succ (s : Str) (k : Nat) (h : k < s.length) : hexS (s.take (k + 1)) = hexS (s.take k) ++ hexB s[k] := by
  unfold hexS
  rw [take_snoc s k h]
  simp only [List.map_append, List.flatten_append, List.map_cons, List.map_nil, List.flatten_cons, List.flatten_nil, List.append_nil]
theorem nib (b : UInt8) : (IntKind.u8.wrap ((b.toNat : Int).tdiv 16)) = ((b.toNat / 16 : Nat) : Int) ∧ IntKind.u8.wrap (((b.toNat / 16 : Nat) : Int) + 1) = ((b.toNat / 16 + 1 : Nat) : Int) ∧
    (b.toNat : Int).tmod 16 = ((b.toNat % 16 : Nat) : Int) ∧ IntKind.u8.wrap (((b.toNat % 16 : Nat) : Int) + 1) = ((b.toNat % 16 + 1 : Nat) : Int) ∧ b.toNat / 16 < 16 ∧ b.toNat % 16 < 16 := by
  have hb : b.toNat < 256 := b.toNat_lt
  refine ⟨?_, ?_, ?_, ?_, by omega, by omega⟩
  · rw [IntKind.wrap_u8, Int.tdiv_eq_ediv_of_nonneg (by omega)]; omega
  · rw [IntKind.wrap_u8]; omega
  · rw [Int.tmod_eq_emod_of_nonneg (by omega)]; omega
  · rw [IntKind.wrap_u8]; omega
theorem sl1Hex_ok (s : Str) (hs : s.length ≤ 1048576) : sl1Hex [vS s] [] = rS (dataT s) := by
  have key : ∀ k, k ≤ s.length → sl1Hex.L3 (mkS s) (mkS (hexS (s.take k))) (k : Int) = some (sl1Hex.x3 (mkS (hexS s))) := by
    refine up s.length ?_ fun k hk ih => ?_
    · rw [sl1Hex.s3]; simp
    · obtain ⟨n1, n2, n3, n4, n5, n6⟩ := nib s[k]
      have hl := hexS_len (s.take k)
      rw [List.length_take] at hl
      rw [hexS_succ s k hk] at ih
      have e0 : decide ((k : Int) < (s.length : Int)) = true := by simp; omega
      have e1 : decide ((0 : Int) ≤ (k : Int)) = true := by simp
      have e2 : decide (((s[k].toNat / 16 : Nat) : Int) ≤ ((s[k].toNat / 16 + 1 : Nat) : Int)) = true := decide_eq_true (by omega)
      have e3 : decide (((s[k].toNat / 16 + 1 : Nat) : Int) ≤ ((hexD.length : Nat) : Int)) = true := decide_eq_true (by show _ ≤ ((16 : Nat) : Int); omega)
      have e4 : decide (((s[k].toNat % 16 : Nat) : Int) ≤ ((s[k].toNat % 16 + 1 : Nat) : Int)) = true := decide_eq_true (by omega)
      have e5 : decide (((s[k].toNat % 16 + 1 : Nat) : Int) ≤ ((hexD.length : Nat) : Int)) = true := decide_eq_true (by show _ ≤ ((16 : Nat) : Int); omega)
      have e6 : decide ((hexS (s.take k)).length + 1 ≤ 70368744177664) = true := decide_eq_true (by omega)
      have e7 : decide ((hexS (s.take k)).length + 1 + 1 ≤ 70368744177664) = true := decide_eq_true (by omega)
      have hx : hexS (s.take k) ++ [dig (s[k].toNat / 16)] ++ [dig (s[k].toNat % 16)] = hexS (s.take k) ++ hexB s[k] := by simp [hexB]
      rw [sl1Hex.s3]
      simp only [Int.toNat_natCast, byteAt_lt s k hk, hexD_mk, size_mkS, n1, n2, n3, n4, extract_mkS, dig_at n5, dig_at n6, mkS_append, List.length_append, List.length_cons, List.length_nil, Nat.zero_add, wrap_nat k (by omega), e0, e1, e2, e3, e4, e5, e6, e7, hx, ih]
      rfl
  have h0 : sl1Hex.L3 (mkS s) (mkS (hexS (s.take 0))) 0 = _ := key 0 (by omega)
  have h1 : (ByteArray.mk #[]) = mkS (hexS (s.take 0)) := rfl
  rw [sl1Hex.e, h1, h0, Option.bind_some, sl1Hex.a3x3, toList_mkS]
  unfold dataT
  cases s with
  | nil => rfl
  | cons b s =>
    have : hexS (b :: s) = dig (b.toNat / 16) :: dig (b.toNat % 16) :: hexS s := by simp [hexS, hexB]
    rw [this]
    rfl
def byteRow (b : UInt8) : List D := [.v (.int .u8 (b.toNat : Int))]
theorem strOf_bytes (l : Str) : strOf (l.map byteRow) = mkS l := by
  have key : ∀ (l : Str) (acc : Str), ((l.map byteRow).map fun r => (r.getD 0 .h).int).foldl (fun r n => r.push (UInt8.ofNat n.toNat)) (mkS acc) = mkS (acc ++ l) := by
    intro l
    induction l with
    | nil => intro acc; simp
    | cons b l ih =>
      intro acc
      have hp : (mkS acc).push b = mkS (acc ++ [b]) := by
        show ByteArray.mk (acc.toArray.push b) = ByteArray.mk (acc ++ [b]).toArray
        rw [List.push_toArray]
      have hb : UInt8.ofNat (b.toNat : Int).toNat = b := by simp
      simp only [List.map_cons, List.foldl_cons, byteRow, List.getD_cons_zero, int_v]
      rw [hb, hp]
      have := ih (acc ++ [b])
      simp only [byteRow, List.append_assoc, List.cons_append, List.nil_append] at this
      exact this
  exact key l []
theorem bytesB_bytes (l : Str) : bytesB (l.map byteRow) = true := by
  simp [bytesB, byteRow]
theorem rowsLen_bytes (l : Str) : rowsLen 1 (l.map byteRow) = true := rowsLen_map byteRow 1 (fun _ => rfl) l
theorem ihexOf_ok (s : Str) (hs : s.length ≤ 1048576) : ihexOf [vS s] [] = rS (hexS s) := by
  have key : ∀ k, k ≤ s.length → ihexOf.L3 (mkS s) (k : Int) ((hexS (s.take k)).map byteRow) = some (ihexOf.x3 ((hexS s).map byteRow)) := by
    refine up s.length ?_ fun k hk ih => ?_
    · rw [ihexOf.s3]; simp
    · obtain ⟨n1, n2, n3, n4, n5, n6⟩ := nib s[k]
      have hl := hexS_len (s.take k)
      rw [List.length_take] at hl
      rw [hexS_succ s k hk] at ih
      have e0 : decide ((k : Int) < (s.length : Int)) = true := by simp; omega
      have e1 : decide ((0 : Int) ≤ (k : Int)) = true := by simp
      have e2 : decide (((s[k].toNat / 16 : Nat) : Int) < ((hexD.length : Nat) : Int)) = true := decide_eq_true (by show _ < ((16 : Nat) : Int); omega)
      have e3 : decide (((s[k].toNat % 16 : Nat) : Int) < ((hexD.length : Nat) : Int)) = true := decide_eq_true (by show _ < ((16 : Nat) : Int); omega)
      have e6 : decide ((((hexS (s.take k)).map byteRow).length + 2) * 2 ≤ 70368744177664) = true := decide_eq_true (by rw [List.length_map]; omega)
      have hx : (hexS (s.take k)).map byteRow ++ [[D.v (Value.int IntKind.u8 ((dig (s[k].toNat / 16)).toNat : Int))], [D.v (Value.int IntKind.u8 ((dig (s[k].toNat % 16)).toNat : Int))]] = (hexS (s.take k) ++ hexB s[k]).map byteRow := by
        simp [hexB, byteRow]
      have d1 : byteAt (mkS hexD) (s[k].toNat / 16) = ((dig (s[k].toNat / 16)).toNat : Int) := byteAt_mkS _ _
      have d2 : byteAt (mkS hexD) (s[k].toNat % 16) = ((dig (s[k].toNat % 16)).toNat : Int) := byteAt_mkS _ _
      rw [ihexOf.s3]
      simp only [Int.toNat_natCast, byteAt_lt s k hk, hexD_mk, size_mkS, n1, n3, wrap_nat k (by omega), e0, e1, e2, e3, e6, rowsLen_bytes, d1, d2, hx, ih]
      rfl
  have h0 : ihexOf.L3 (mkS s) 0 [] = _ := key 0 (by omega)
  rw [ihexOf.e, h0, Option.bind_some, ihexOf.a3x3, bytesB_bytes, strOf_bytes]
  rfl
theorem idataText_ok (s : Str) (hs : s.length ≤ 1048576) : idataText [vS s] [] = rS (dataT s) := by
  rw [idataText.e, ihexOf_ok s hs, toList_mkS]
  unfold dataT
  cases s with
  | nil => rfl
  | cons b s => simp
end Go.PVx
namespace Go.PVx
open Go.PV Go.Proofs
end Go.PVx
namespace Go.PVx
open Go.PV Go.Proofs
abbrev Top : Int := 1000000000000
theorem strOf_one (n : Int) : (strOf [[D.v (Value.int IntKind.u8 n)]]).size = 1 := rfl
theorem wmarkText.l4 : ∀ (n : Nat) (k : Int) (b : ByteArray), 0 ≤ k → k ≤ 1000000000000 → k < 10 ^ n → b.size + n ≤ 40 → ∃ b' : ByteArray, wmarkText.L4 k b = some (wmarkText.x4 b') ∧ b'.size ≤ 40
  | 0, k, b, h0, ht, h1, h3 => by
    have : k = 0 := by simp at h1; omega
    subst this
    refine ⟨b, ?_, by omega⟩
    rw [wmarkText.s4]
    simp
  | n + 1, k, b, h0, ht, h1, h3 => by
    rw [wmarkText.s4]
    by_cases hk : k > 0
    · have hd : k.tdiv 10 = k / 10 := Int.tdiv_eq_ediv_of_nonneg h0
      have hp : (10 : Int) ^ (n + 1) = 10 ^ n * 10 := Int.pow_succ _ _
      have hq : k / 10 < 10 ^ n := by omega
      have hw : IntKind.i64.wrap (k / 10) = k / 10 := wrap_in _ (by omega)
      have hsz : (strOf [[D.v (Value.int IntKind.u8 (IntKind.u8.wrap (IntKind.i64.wrap (48 + k.tmod 10))))]] ++ b).size = 1 + b.size := by
        rw [ByteArray.size_append, strOf_one]
      obtain ⟨b', h4, h5⟩ := wmarkText.l4 n (k / 10) (strOf [[D.v (Value.int IntKind.u8 (IntKind.u8.wrap (IntKind.i64.wrap (48 + k.tmod 10))))]] ++ b) (by omega) (by omega) hq (by rw [hsz]; omega)
      refine ⟨b', ?_, h5⟩
      rw [hd, hw, h4]
      have h6 : decide (1 + b.size ≤ 70368744177664) = true := by simp; omega
      rw [h6]
      simp [hk]
    · have : k = 0 := by omega
      subst this
      exact ⟨b, by simp, by omega⟩
theorem wmarkText_ex (k : Int) (h0 : 0 ≤ k) (h1 : k ≤ Top) : ∃ s : Str, wmarkText [vI k] [] = rS s := by
  rw [wmarkText.e]
  by_cases hk : k ≤ 0
  · exact ⟨[109, 48], by simp only [hk, decide_true, cond_true]; rfl⟩
  · have hT : Top = 1000000000000 := rfl
    obtain ⟨b', h4, h5⟩ := wmarkText.l4 20 k { data := #[] } (by omega) (by omega) (by omega) (by decide)
    refine ⟨(ByteArray.mk #[109] ++ b').data.toList, ?_⟩
    rw [h4]
    have h6 : decide (1 + b'.size ≤ 70368744177664) = true := by simp; omega
    simp only [hk, decide_false, cond_false, Option.bind_some, wmarkText.a4x4, h6, cond_true]
    rfl
noncomputable def mt (k : Int) : Str := by
  classical
  exact if h : ∃ s : Str, wmarkText [vI k] [] = rS s then h.choose else []
theorem wmarkText_ok (k : Int) (h0 : 0 ≤ k) (h1 : k ≤ Top) : wmarkText [vI k] [] = rS (mt k) := by
  have h := wmarkText_ex k h0 h1
  unfold mt
  rw [dif_pos h]
  exact h.choose_spec
noncomputable def mP (k : Int) : List Str → List Str
  | [] => []
  | _ :: l => mt k :: mP (k + 1) l
@[simp] theorem mP_len : ∀ (l : List Str) (k : Int), (mP k l).length = l.length
  | [], _ => rfl
  | _ :: l, k => by simp [mP, mP_len l]
theorem mP_at : ∀ (l : List Str) (k : Int) (i : Nat) (h : i < (mP k l).length), (mP k l)[i] = mt (k + i)
  | [], _, i, h => by simp [mP] at h
  | x :: l, k, 0, h => by simp [mP]
  | x :: l, k, i + 1, h => by
    simp only [mP, List.getElem_cons_succ]
    rw [mP_at l (k + 1) i (by simpa [mP] using h)]
    congr 1; push_cast; omega
abbrev gV (es : List (List D)) : PV.Obj := { kind := Kind.virt, row := [D.s es], fl := [Own.deep] }
abbrev rM (k : Int) (es : List (List D)) : Option Res := some ⟨[.v (.int .i64 k)], [gV es]⟩
theorem wmarkStringS_ok (l : List Str) (k : Int) (h0 : 0 ≤ k) (h1 : k + l.length ≤ Top) :
    wmarkStringS [.one (.r 0 [] 0), vI k] [gV (eSs l)] = rM (k + l.length) (eSs (mP k l)) := by
  have hT : Top = 1000000000000 := rfl
  have key : ∀ j, j ≤ l.length → ∀ m : List Str, m.length = j → (wmarkStringS.L2 (k + j) (j : Int) (m.map eS ++ (l.drop j).map eS)).bind wmarkStringS.A2 = rM (k + l.length) (eSs (m ++ mP (k + j) (l.drop j))) := by
    refine up l.length ?_ fun j hj ih m hm => ?_
    · intro m hm
      rw [wmarkStringS.s2]
      simp [hm, wmarkStringS.a2x2, mP]
    · have hg := turn_get eS eS l m j hj hm
      have hl := turn_len eS eS l m j (by omega) hm
      have hs := turn_set eS eS l m j hj hm (mt (k + j))
      have ht := wmarkText_ok (k + j) (by omega) (by omega)
      have hw : IntKind.i64.wrap (k + j + 1) = k + j + 1 := wrap_in _ (by omega)
      have := ih (m ++ [mt (k + j)]) (by simp [hm])
      rw [wmarkStringS.s2]
      simp only [Int.toNat_natCast, hg, hl, hw, wrap_nat j (by omega)]
      have hs' : List.set (m.map eS ++ (l.drop j).map eS) j (D.v (Value.string (mkS (mt (k + j)))) :: List.drop 1 (eS l[j])) = _ := hs
      push_cast at this
      rw [show k + ((j : Int) + 1) = k + j + 1 from by omega] at this
      have hd : mP (k + j) (l.drop j) = mt (k + j) :: mP (k + j + 1) (l.drop (j + 1)) := by rw [drop_cons l j hj, mP]
      rw [hd]
      rw [show m ++ mt (k + j) :: mP (k + j + 1) (l.drop (j + 1)) = m ++ [mt (k + j)] ++ mP (k + j + 1) (l.drop (j + 1)) from by simp, ← this]
      have h2 : decide ((j : Int) < (l.length : Int)) = true := by simp; omega
      have h3 : decide ((0 : Int) ≤ (j : Int)) = true := by simp
      have h4 : (eS l[j]).length = 1 := rfl
      simp only [h2, h3, h4, ht, Option.bind_some]
      have h5 : (fitsCells [R1.str] [TC.v (Value.string (mkS (mt (k + j))))]) = true := rfl
      simp only [h5, Bool.and_true, decide_true, Bool.and_self, cond_true, Nat.le_refl, List.getD_cons_zero, tstr_v, hs']
      push_cast
      rfl
  rw [wmarkStringS.e]
  have := key 0 (by omega) [] rfl
  simpa using this
theorem wheldStringS_ok (l : List Str) (k : Int) (h0 : 0 ≤ k) (h1 : k + l.length ≤ Top) : wheldStringS [vP (mP k l), vI k] [] = rI (k + l.length) := by
  have hT : Top = 1000000000000 := rfl
  have hlen := mP_len l k
  have key : ∀ j, j ≤ l.length → (wheldStringS.L2 (eSs (mP k l)) (k + j) (j : Int)).bind wheldStringS.A2 = rI (k + l.length) := by
    refine up l.length ?_ fun j hj ih => ?_
    · rw [wheldStringS.s2]
      simp [wheldStringS.a2x2]
    · have hj' : j < (mP k l).length := by omega
      have ht := wmarkText_ok (k + j) (by omega) (by omega)
      have hw : IntKind.i64.wrap (k + j + 1) = k + j + 1 := wrap_in _ (by omega)
      push_cast at ih
      rw [show k + ((j : Int) + 1) = k + j + 1 from by omega] at ih
      rw [wheldStringS.s2]
      simp only [Int.toNat_natCast, str_at hj', mP_at l k j hj', wrap_nat j (by omega), hw, ht, Option.bind_some]
      rw [← ih]
      simp [hj]
  rw [wheldStringS.e]
  have := key 0 (by omega)
  simpa using this
end Go.PVx
namespace Go.PVx
open Go.PV Go.Proofs
def cN (a : NodeOf) : Nat := 1 + a.path.length
noncomputable def mN (k : Int) (a : NodeOf) : NodeOf := ⟨k, mP (k + 1) a.path⟩
noncomputable def mNs (k : Int) : List NodeOf → List NodeOf
  | [] => []
  | a :: l => mN k a :: mNs (k + cN a) l
@[simp] theorem mNs_len : ∀ (l : List NodeOf) (k : Int), (mNs k l).length = l.length
  | [], _ => rfl
  | _ :: l, k => by simp [mNs, mNs_len l]
theorem eN_len (a : NodeOf) : (eN a).length = 2 := rfl
end Go.PVx
