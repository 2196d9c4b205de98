/- A part of the proof: PvU1, PvU2, PvU3, PvU4, PvL0, PvL1, PvV1, PvV2, PvM1, PvM2, PvN1, PvN2, PvN3, PvN4, PvN5, PvN6, PvN7. -/
import Derived.Test.YtgpfhocdahjnmaaDoorRes
import Derived.Test.YtgpfhocdahjnmaaDoorTy
import Derived.Test.YtgpfhocdahjnmaaDoorExt
import Derived.Lib.AtoiAllCases
set_option linter.unusedSimpArgs false
set_option linter.unusedVariables false
/- Names, paths, their order. -/
namespace Go.PVx
open Go.PV Go.Proofs

def inB (a b c : Int) : Bool := decide (b ≤ a) && decide (a ≤ c)
theorem sl1In_ok (a b c : Int) : sl1In [vI a, vI b, vI c] [] = rB (inB a b c) := by
  rw [sl1In.e]; unfold inB; by_cases h : b ≤ a <;> simp [h]
theorem iwithin_ok (a b c : Int) : iwithin [vI a, vI b, vI c] [] = rB (inB a b c) := by
  rw [iwithin.e]; unfold inB; by_cases h : b ≤ a <;> simp [h]
/-! ### names -/
def okc (b : UInt8) : Bool := (decide (97 ≤ (b.toNat : Int)) && decide ((b.toNat : Int) ≤ 122)) || (decide (48 ≤ (b.toNat : Int)) && decide ((b.toNat : Int) ≤ 57))
def nameB (s : Str) : Bool := s.all okc && inB s.length 1 5
theorem sl1NameOk.l2 (s : Str) (hs : sS s) : ∀ k, k ≤ s.length → sl1NameOk.L2 (mkS s) (k : Int) = some (bif (s.drop k).all okc then sl1NameOk.x2 (mkS s) else sl1NameOk.q2 (mkS s) false) := by
  unfold sS at hs
  refine up s.length ?_ fun k hk ih => ?_
  · rw [sl1NameOk.s2]; simp
  · rw [sl1NameOk.s2, drop_cons s k hk, List.all_cons]
    simp only [Int.toNat_natCast, byteAt_lt s k hk, sl1NameOk.p5, wrap_nat k (by omega), ih, okc]
    by_cases h1 : 97 ≤ (s[k].toNat : Int) <;> by_cases h2 : (s[k].toNat : Int) ≤ 122 <;> by_cases h3 : 48 ≤ (s[k].toNat : Int) <;> by_cases h4 : (s[k].toNat : Int) ≤ 57 <;> simp [h1, h2, h3, h4, hk]
theorem sl1NameOk_ok (s : Str) (hs : sS s) : sl1NameOk [vS s] [] = rB (nameB s) := by
  have h := sl1NameOk.l2 s hs 0 (by omega)
  rw [sl1NameOk.e, show (0 : Int) = ((0 : Nat) : Int) from rfl, h]
  unfold nameB
  cases h : s.all okc <;> simp [h, sl1NameOk.a2q2, sl1NameOk.a2x2, sl1In_ok]
theorem inameOk.l2 (s : Str) (hs : sS s) : ∀ k, k ≤ s.length → inameOk.L2 (mkS s) s.length (k : Int) = some (bif (s.drop k).all okc then inameOk.x2 (mkS s) else inameOk.q2 (mkS s) false) := by
  unfold sS at hs
  refine up s.length ?_ fun k hk ih => ?_
  · rw [inameOk.s2]; simp
  · rw [inameOk.s2, drop_cons s k hk, List.all_cons]
    simp only [Int.toNat_natCast, byteAt_lt s k hk, inameOk.p5, wrap_nat k (by omega), ih, okc]
    have e1 : decide ((s[k].toNat : Int) < 97) = !decide (97 ≤ (s[k].toNat : Int)) := by by_cases h : 97 ≤ (s[k].toNat : Int) <;> simp [h] <;> omega
    have e2 : decide ((s[k].toNat : Int) > 122) = !decide ((s[k].toNat : Int) ≤ 122) := by by_cases h : (s[k].toNat : Int) ≤ 122 <;> simp [h] <;> omega
    have e3 : decide ((s[k].toNat : Int) < 48) = !decide (48 ≤ (s[k].toNat : Int)) := by by_cases h : 48 ≤ (s[k].toNat : Int) <;> simp [h] <;> omega
    have e4 : decide ((s[k].toNat : Int) > 57) = !decide ((s[k].toNat : Int) ≤ 57) := by by_cases h : (s[k].toNat : Int) ≤ 57 <;> simp [h] <;> omega
    simp only [e1, e2, e3, e4]
    cases decide (97 ≤ (s[k].toNat : Int)) <;> cases decide ((s[k].toNat : Int) ≤ 122) <;> cases decide (48 ≤ (s[k].toNat : Int)) <;> cases decide ((s[k].toNat : Int) ≤ 57) <;> simp [hk]
theorem inameOk_ok (s : Str) (hs : sS s) : inameOk [vS s] [] = rB (nameB s) := by
  have h := inameOk.l2 s hs 0 (by omega)
  rw [inameOk.e, size_mkS, show (0 : Int) = ((0 : Nat) : Int) from rfl, h]
  unfold nameB
  cases h : s.all okc <;> simp [h, inameOk.a2q2, inameOk.a2x2, iwithin_ok]

/-! ### paths -/
def pathB (least : Int) (p : List Str) : Bool := p.all nameB && inB p.length least 4
theorem sl2PathOk.l2 (p : List Str) (hp : oP p) : ∀ k, k ≤ p.length → sl2PathOk.L2 (eSs p) (k : Int) = some (bif (p.drop k).all nameB then sl2PathOk.x2 (eSs p) else sl2PathOk.q2 (eSs p) false) := by
  have hl := hp.1
  refine up p.length ?_ fun k hk ih => ?_
  · rw [sl2PathOk.s2]; simp
  · rw [sl2PathOk.s2, drop_cons p k hk, List.all_cons]
    simp only [Int.toNat_natCast, getD_map eS p k hk, wrap_nat k (by omega), ih]
    have h := sl1NameOk_ok p[k] (sL_at hp hk)
    cases hn : nameB p[k] <;> rw [hn] at h <;> simp [hk, eS, h]
theorem sl2PathOk_ok (p : List Str) (hp : oP p) : sl2PathOk [vP p] [] = rB (pathB 1 p) := by
  have h := sl2PathOk.l2 p hp 0 (by omega)
  rw [sl2PathOk.e, show (0 : Int) = ((0 : Nat) : Int) from rfl, h]
  unfold pathB
  cases h : p.all nameB <;> simp [h, sl2PathOk.a2q2, sl2PathOk.a2x2, sl1In_ok]
theorem inamesOk.l2 (p : List Str) (hp : oP p) (least : Int) : ∀ k, k ≤ p.length → inamesOk.L2 (eSs p) least (eSs p) p.length (k : Int) =
    some (bif (p.drop k).all nameB then inamesOk.x2 (eSs p) least else inamesOk.q2 (eSs p) least false) := by
  have hl := hp.1
  refine up p.length ?_ fun k hk ih => ?_
  · rw [inamesOk.s2]; simp
  · rw [inamesOk.s2, drop_cons p k hk, List.all_cons]
    simp only [Int.toNat_natCast, getD_map eS p k hk, wrap_nat k (by omega), ih]
    have h := inameOk_ok p[k] (sL_at hp hk)
    cases hn : nameB p[k] <;> rw [hn] at h <;> simp [hk, eS, h]
theorem inamesOk_ok (p : List Str) (hp : oP p) (least : Int) : inamesOk [vP p, vI least] [] = rB (pathB least p) := by
  have h := inamesOk.l2 p hp least 0 (by omega)
  rw [inamesOk.e]
  simp only [List.length_map]
  rw [show (0 : Int) = ((0 : Nat) : Int) from rfl, h]
  unfold pathB
  cases h : p.all nameB <;> simp [h, inamesOk.a2q2, inamesOk.a2x2, iwithin_ok]

/-! ### the same path -/
def isPre (b a : List Str) : Bool := b.isPrefixOf a
theorem isPre_take (a b : List Str) (h : b.length ≤ a.length) : decide (b = a.take b.length) = isPre b a := by
  unfold isPre
  rw [Bool.eq_iff_iff, decide_eq_true_iff, List.isPrefixOf_iff_prefix, List.prefix_iff_eq_take]
theorem isPre_len (a b : List Str) (h : a.length = b.length) : isPre b a = decide (a = b) := by
  rw [← isPre_take a b (by omega), Bool.eq_iff_iff, decide_eq_true_iff, decide_eq_true_iff, ← h, List.take_length]
  exact ⟨Eq.symm, Eq.symm⟩
/-! ### the order of paths -/
def lessP : List Str → List Str → Bool
  | _, [] => false
  | [], _ :: _ => true
  | x :: a, y :: b => bif x == y then lessP a b else Op.bytesLess x y
theorem sl11Less.l2 (a b : List Str) (ha : a.length ≤ 9223372036854775807) : ∀ k, k ≤ min a.length b.length → ∃ r, sl11Less.L2 (eSs a) (eSs b) (k : Int) = some r ∧ sl11Less.A2 r = rB (lessP (a.drop k) (b.drop k)) := by
  refine up (min a.length b.length) ?_ fun k hk ih => ?_
  · refine ⟨sl11Less.x2 (eSs a) (eSs b), ?_, ?_⟩
    · rw [sl11Less.s2]
      rcases Nat.lt_or_ge a.length b.length with h | h
      · simp [show min a.length b.length = a.length from by omega]
      · rcases Nat.lt_or_ge b.length a.length with h2 | h2
        · simp [show min a.length b.length = b.length from by omega, h2]
        · simp [show min a.length b.length = b.length from by omega, show a.length = b.length from by omega]
    · rw [sl11Less.a2x2]
      rcases Nat.lt_or_ge a.length b.length with h | h
      · rw [show min a.length b.length = a.length from by omega, List.drop_length, drop_cons b _ h]
        simp [lessP, h]
      · rw [show min a.length b.length = b.length from by omega, List.drop_length]
        have : ¬ a.length < b.length := by omega
        simp [lessP, this]
  · obtain ⟨r, h1, h2⟩ := ih
    have hk1 : k < a.length := by omega
    have hk2 : k < b.length := by omega
    rw [sl11Less.s2, drop_cons a k hk1, drop_cons b k hk2]
    simp only [Int.toNat_natCast, sl11Less.p4, getD_map eS a k hk1, getD_map eS b k hk2, wrap_nat k (by omega), h1, lessP]
    by_cases he : a[k] = b[k]
    · refine ⟨r, by simp [hk1, hk2, eS, he], by rw [h2]; simp [he]⟩
    · refine ⟨sl11Less.q2 (eSs a) (eSs b) (Op.bytesLess a[k] b[k]), by simp [hk1, hk2, eS, beq_eq_false_iff_ne.2 he], by rw [sl11Less.a2q2]; simp [beq_eq_false_iff_ne.2 he]⟩
theorem sl11Less_ok (a b : List Str) (ha : a.length ≤ 9223372036854775807) : sl11Less [vP a, vP b] [] = rB (lessP a b) := by
  obtain ⟨r, h1, h2⟩ := sl11Less.l2 a b ha 0 (by omega)
  rw [sl11Less.e, show (0 : Int) = ((0 : Nat) : Int) from rfl, h1]
  exact h2

theorem cmp_isNaN_ok (a : Str) : cmp_isNaN_string [vS a] [] = rB false := by
  rw [cmp_isNaN_string.e]; simp
def cmpS (a b : Str) : Int := bif Op.bytesLess a b then -1 else bif a == b then 0 else 1
theorem cmp_Compare_ok (a b : Str) : cmp_Compare_string [vS a, vS b] [] = rI (cmpS a b) := by
  rw [cmp_Compare_string.e, cmp_isNaN_ok, cmp_isNaN_ok]
  unfold cmpS
  cases h1 : Op.bytesLess a b <;> cases h2 : (a == b) <;> simp [h1, h2]
theorem less_irr : ∀ a : Str, Op.bytesLess a a = false := by
  intro a
  induction a with
  | nil => rfl
  | cons x a ih => simp [Op.bytesLess, ih]
/-- What slices.Compare answers. -/
def cmpP : List Str → List Str → Int
  | [], [] => 0
  | [], _ :: _ => -1
  | _ :: _, [] => 1
  | x :: a, y :: b => bif cmpS x y != 0 then cmpS x y else cmpP a b
theorem slices_Compare.l2 (a b : List Str) (ha : a.length ≤ 9223372036854775807) : ∀ k, k ≤ a.length → ∃ r, slices_Compare_Sstring_string.L2 (eSs a) (eSs b) (eSs a) a.length (k : Int) = some r ∧
    (k ≤ b.length → slices_Compare_Sstring_string.A2 r = rI (cmpP (a.drop k) (b.drop k))) := by
  refine up a.length ?_ fun k hk ih => ?_
  · refine ⟨slices_Compare_Sstring_string.x2 (eSs a) (eSs b), by rw [slices_Compare_Sstring_string.s2]; simp, fun hb => ?_⟩
    rw [slices_Compare_Sstring_string.a2x2, List.drop_length]
    rcases Nat.lt_or_ge a.length b.length with h | h
    · rw [drop_cons b _ h]; simp [h, cmpP]
    · rw [List.drop_eq_nil_of_le (by omega)]
      have : ¬ a.length < b.length := by omega
      simp [this, cmpP]
  · obtain ⟨r, h1, h2⟩ := ih
    rw [slices_Compare_Sstring_string.s2, drop_cons a k hk]
    simp only [Int.toNat_natCast, getD_map eS a k hk, wrap_nat k (by omega), h1]
    rcases Nat.lt_or_ge k b.length with hb | hb
    · rw [drop_cons b k hb]
      have hc := cmp_Compare_ok a[k] b[k]
      have hb' : ¬ b.length ≤ k := by omega
      simp only [getD_map eS b k hb, cmpP]
      by_cases he : cmpS a[k] b[k] = 0
      · exact ⟨r, by simp [hk, hb, hb', eS, hc, he], fun _ => by rw [h2 (by omega)]; simp [he]⟩
      · exact ⟨slices_Compare_Sstring_string.q2 (eSs a) (eSs b) (cmpS a[k] b[k]), by simp [hk, hb, hb', eS, hc, bne, beq_eq_false_iff_ne.2 he], fun _ => by rw [slices_Compare_Sstring_string.a2q2]; simp [bne, beq_eq_false_iff_ne.2 he]⟩
    · refine ⟨slices_Compare_Sstring_string.q2 (eSs a) (eSs b) 1, by simp [hk, hb, eS], fun hb' => ?_⟩
      rw [slices_Compare_Sstring_string.a2q2, show b.drop k = [] from List.drop_eq_nil_of_le hb]
      rfl
theorem slices_Compare_ok (a b : List Str) (ha : a.length ≤ 9223372036854775807) : slices_Compare_Sstring_string [vP a, vP b] [] = rI (cmpP a b) := by
  obtain ⟨r, h1, h2⟩ := slices_Compare.l2 a b ha 0 (by omega)
  rw [slices_Compare_Sstring_string.e]
  simp only [List.length_map]
  rw [show (0 : Int) = ((0 : Nat) : Int) from rfl, h1]
  exact h2 (by omega)
theorem cmpP_less : ∀ a b : List Str, decide (cmpP a b ≥ 0) = !lessP a b
  | [], [] => rfl
  | [], _ :: _ => rfl
  | _ :: _, [] => rfl
  | x :: a, y :: b => by
    unfold cmpP lessP
    by_cases h : x = y
    · subst h
      have : cmpS x x = 0 := by simp [cmpS, less_irr]
      simp only [this, bne_self_eq_false, cond_false, beq_self_eq_true, cond_true]
      exact cmpP_less a b
    · have h2 : (x == y) = false := by simpa using h
      unfold cmpS
      rw [h2]
      cases Op.bytesLess x y <;> simp
end Go.PVx
/- Trees that are ok. -/
namespace Go.PVx
open Go.PV Go.Proofs

theorem tree_at {ks : List Tree} {k : Nat} (h : k < ks.length) :
    (ks.map eT).getD k [] = [.v (.bool ks[k].dir), .v (.int .i64 ks[k].mode), .v (.string (mkS ks[k].data)), .s (eSs ks[k].names), .s (ks[k].kids.map eT)] := by
  rw [getD_map eT ks k h, eT_eq]
theorem oT_data {t : Tree} (h : oT t) : sS t.data := ((oT_eq t).1 h).1
theorem oT_names {t : Tree} (h : oT t) : oP t.names := ((oT_eq t).1 h).2.1
theorem oT_kids {t : Tree} (h : oT t) : sL oT t.kids := ((oT_eq t).1 h).2.2

/-- Names that are ok, ascending, behind one. -/
def namesB : Option Str → List Str → Bool
  | _, [] => true
  | p, x :: l => nameB x && (match p with | none => true | some y => Op.bytesLess y x) && namesB (some x) l
def prevOf (l : List Str) : Nat → Option Str
  | 0 => none
  | k + 1 => l[k]?
def plainB (t : Tree) : Bool := inB t.mode 0 7 && decide (t.names.length = t.kids.length) && (bif t.dir then namesB none t.names && decide (t.data = []) else decide (t.data.length ≤ 24) && decide (t.names.length = 0))
mutual
def partsB : Int → Tree → Bool
  | d, ⟨a, b, c, e, ks⟩ => plainB ⟨a, b, c, e, ks⟩ && decide (d ≤ 4) && partsBs (d + 1) ks
def partsBs : Int → List Tree → Bool
  | _, [] => true
  | d, t :: ts => partsB d t && partsBs d ts
end
theorem partsBs_all (d : Int) : ∀ l : List Tree, partsBs d l = l.all (partsB d)
  | [] => rfl
  | t :: ts => by rw [partsBs, partsBs_all d ts]; rfl
theorem partsB_eq (d : Int) (t : Tree) : partsB d t = (plainB t && decide (d ≤ 4) && t.kids.all (partsB (d + 1))) := by
  obtain ⟨a, b, c, e, ks⟩ := t
  rw [partsB, partsBs_all]
mutual
/-- How many parts are below. -/
def cnt : Tree → Nat
  | ⟨_, _, _, _, ks⟩ => cnts ks
def cnts : List Tree → Nat
  | [] => 0
  | t :: ts => 1 + cnt t + cnts ts
end
theorem cnts_wL : ∀ l : List Tree, cnts l = wL cnt l
  | [] => rfl
  | t :: ts => by rw [cnts, cnts_wL ts]; rfl
theorem cnt_eq (t : Tree) : cnt t = wL cnt t.kids := by
  obtain ⟨a, b, c, e, ks⟩ := t
  rw [cnt, cnts_wL]
theorem wL_le {α : Type} (v w : α → Nat) : ∀ l : List α, (∀ x ∈ l, v x ≤ w x) → wL v l ≤ wL w l
  | [], _ => Nat.le_refl _
  | x :: l, h => by
    have h1 := h x (by simp)
    have h2 := wL_le v w l fun y hy => h y (List.mem_cons_of_mem _ hy)
    simp only [wL]; omega
theorem cnt_le (t : Tree) : cnt t ≤ wT t := by
  induction t using Tree.ind with
  | h d m s ns ks ih =>
    rw [cnt_eq, wT_eq]
    have := wL_le cnt wT ks ih
    simp only at this ⊢
    omega
def treeB (t : Tree) : Bool := t.dir && partsB 0 t && decide (cnt t ≤ 30)

theorem empty_eq (s : Str) : s.isEmpty = decide (s = []) := by cases s <;> rfl
/-! ### the reference's -/
theorem prev_some {l : List Str} {k : Nat} (h : k < l.length) : prevOf l (k + 1) = some l[k] := by simp [prevOf, h]
/-- The sum of what is below each. -/
def sumC : List Tree → Int
  | [] => 0
  | t :: l => (cnt t : Int) + sumC l
theorem sumC_wL : ∀ l : List Tree, sumC l = (wL cnt l : Int) - l.length
  | [] => rfl
  | t :: l => by simp only [sumC, wL, List.length_cons, sumC_wL l]; omega
/-! ### the program's -/
end Go.PVx
/- Nodes that are ok by themselves. -/
namespace Go.PVx
open Go.PV Go.Proofs

theorem node_at {l : List NodeOf} {k : Nat} (h : k < l.length) : (l.map eN).getD k [] = [.v (.int .i64 l[k].id), .s (eSs l[k].path)] := by
  rw [getD_map eN l k h]; rfl
def oN (n : NodeOf) : Prop := oP n.path
/-- Nodes behind others: ids, paths, their order. -/
def nodesB (nx : Int) : List NodeOf → List NodeOf → Bool
  | _, [] => true
  | pre, x :: l => inB x.id 1 (IntKind.i64.wrap (nx - 1)) && (pathB 1 x.path && ((match pre.getLast? with | none => true | some y => lessP y.path x.path) && (pre.all (fun y => !(y.id == x.id)) && nodesB nx (pre ++ [x]) l)))
def okB (n : Nodes) : Bool := inB n.next 1 10000 && decide (n.list.length ≤ 30) && nodesB n.next [] n.list
theorem last_take {α : Type} {l : List α} {j : Nat} (h : j < l.length) : (l.take (j + 1)).getLast? = some l[j] := by
  rw [take_snoc l j h, List.getLast?_concat]

/-! ### the reference's -/
theorem sl33Ok.l10 (nx : Int) (l : List NodeOf) (hl : l.length ≤ 9223372036854775807) (k : Nat) (hk : k < l.length) (id : Int) (es : List (List D)) : ∀ j, j ≤ k →
    sl33Ok.L10 (k : Int) (j : Int) nx (l.map eN) id es = some (bif ((l.take k).drop j).all (fun y => !(y.id == id)) then sl33Ok.x10 (k : Int) nx (l.map eN) else sl33Ok.q10 false (k : Int) nx (l.map eN)) := by
  refine up k ?_ fun j hj ih => ?_
  · rw [sl33Ok.s10]; simp
  · have hj2 : j < l.length := by omega
    have hj3 : j < (l.take k).length := by simp; omega
    rw [sl33Ok.s10, drop_cons (l.take k) j hj3]
    simp only [Int.toNat_natCast, node_at hj2, wrap_nat j (by omega), ih, List.all_cons, List.getElem_take]
    cases he : (l[j].id == id) <;> simp [-List.getElem_cons_drop, hj, hj2, he]
theorem sl33Ok.l4 (nx : Int) (l : List NodeOf) (ho : sL oN l) : ∀ k, k ≤ l.length → sl33Ok.L4 (k : Int) nx (l.map eN) = some (bif nodesB nx (l.take k) (l.drop k) then sl33Ok.x4 else sl33Ok.q4 false) := by
  have hl := ho.1
  refine up l.length ?_ fun k hk ih => ?_
  · rw [sl33Ok.s4]; simp [nodesB]
  · rw [sl33Ok.s4, drop_cons l k hk]
    have h1 := sl1In_ok l[k].id 1 (IntKind.i64.wrap (nx - 1))
    have h2 := sl2PathOk_ok l[k].path (sL_at ho hk)
    have h10 : sl33Ok.L10 (k : Int) 0 nx (l.map eN) l[k].id (eSs l[k].path) = _ := sl33Ok.l10 nx l hl k hk l[k].id (eSs l[k].path) 0 (by omega)
    have hend : (sl33Ok.L10 (k : Int) 0 nx (l.map eN) l[k].id (eSs l[k].path)).bind sl33Ok.A10 =
        some (bif (l.take k).all (fun y => !(y.id == l[k].id)) && nodesB nx (l.take (k + 1)) (l.drop (k + 1)) then sl33Ok.x4 else sl33Ok.q4 false) := by
      rw [h10, Option.bind_some, List.drop_zero]
      cases (l.take k).all (fun y => !(y.id == l[k].id)) with
      | true => simp only [cond_true, Bool.true_and]; rw [sl33Ok.a10x10, wrap_nat k (by omega)]; exact ih
      | false => simp only [cond_false, Bool.false_and]; rw [sl33Ok.a10q10]
    simp only [Int.toNat_natCast, sl33Ok.p8, sl33Ok.p9, node_at hk, nodesB, ← take_snoc l k hk]
    cases hin : inB l[k].id 1 (IntKind.i64.wrap (nx - 1)) with
    | false => rw [hin] at h1; simp [-List.getElem_cons_drop, hk, h1]
    | true =>
      rw [hin] at h1
      cases hpb : pathB 1 l[k].path with
      | false => rw [hpb] at h2; simp [-List.getElem_cons_drop, hk, h1, h2]
      | true =>
        rw [hpb] at h2
        by_cases hk0 : k = 0
        · subst hk0
          simp [-List.getElem_cons_drop, hk, h1, h2] at hend ⊢
          exact hend
        · obtain ⟨j, hjk⟩ : ∃ j, k = j + 1 := ⟨k - 1, by omega⟩
          have hj : j < l.length := by omega
          have hw : IntKind.i64.wrap ((k : Int) - 1) = (j : Int) := by rw [wrap_pred k (by omega) (by omega), hjk]; rfl
          have hla : (l.take k).getLast? = some l[j] := by rw [hjk]; exact last_take hj
          have e1 : decide ((k : Int) > 0) = true := by simp; omega
          have h3 := sl11Less_ok l[j].path l[k].path (sL_at ho hj).1
          simp only [hw, Int.toNat_natCast, node_at hj, hla, e1]
          cases hb : lessP l[j].path l[k].path with
          | false => rw [hb] at h3; simp [-List.getElem_cons_drop, hk, hj, h1, h2, h3]
          | true =>
            rw [hb] at h3
            simp [-List.getElem_cons_drop, hk, hj, h1, h2, h3] at hend ⊢
            exact hend
theorem sl33Ok_ok (n : Nodes) (ho : sL oN n.list) : sl33Ok [vNs n] [] = rB (okB n) := by
  rw [sl33Ok.e, sl1In_ok]
  simp only [sl33Ok.p2, sl33Ok.p3]
  unfold okB
  cases h1 : inB n.next 1 10000 with
  | false => simp
  | true =>
    by_cases h2 : n.list.length ≤ 30
    · have h2' : ¬ ((n.list.length : Int) > 30) := by omega
      have hl : sl33Ok.L4 0 n.next (n.list.map eN) = _ := sl33Ok.l4 n.next n.list ho 0 (by omega)
      simp only [List.take_zero, List.drop_zero] at hl
      cases h3 : nodesB n.next [] n.list <;> rw [h3] at hl <;> simp [h2, h2', hl, sl33Ok.a4q4, sl33Ok.a4x4]
    · have h2' : ((n.list.length : Int) > 30) := by omega
      simp [h2, h2']

/-! ### the program's -/
theorem inodesWell.l7 (nx : Int) (l : List NodeOf) (hl : l.length ≤ 9223372036854775807) (k : Nat) (hk : k < l.length) (id : Int) (es : List (List D)) : ∀ j, j ≤ k →
    inodesWell.L7 (l.map eN) l.length (k : Int) ((l.take k).map eN) (k : Int) (j : Int) nx (l.map eN) id es =
      some (bif ((l.take k).drop j).all (fun y => !(y.id == id)) then inodesWell.x7 (l.map eN) l.length (k : Int) nx (l.map eN) else inodesWell.q7 false (l.map eN) l.length (k : Int) nx (l.map eN)) := by
  refine up k ?_ fun j hj ih => ?_
  · rw [inodesWell.s7]; simp
  · have hj2 : j < l.length := by omega
    have hj3 : j < (l.take k).length := by simp; omega
    rw [inodesWell.s7, drop_cons (l.take k) j hj3]
    simp only [Int.toNat_natCast, node_at hj3, wrap_nat j (by omega), ih, List.all_cons]
    have hm : j < min k l.length := by omega
    cases he : ((l.take k)[j].id == id) <;> simp only [List.getElem_take] at he <;> simp [-List.getElem_cons_drop, hj, hm, he]
theorem inodesWell.l2 (nx : Int) (l : List NodeOf) (ho : sL oN l) : ∀ k, k ≤ l.length → inodesWell.L2 (l.map eN) l.length (k : Int) nx (l.map eN) =
    some (bif nodesB nx (l.take k) (l.drop k) then inodesWell.x2 nx (l.map eN) else inodesWell.q2 false nx (l.map eN)) := by
  have hl := ho.1
  refine up l.length ?_ fun k hk ih => ?_
  · rw [inodesWell.s2]; simp [nodesB]
  · rw [inodesWell.s2, drop_cons l k hk]
    have h1 := iwithin_ok l[k].id 1 (IntKind.i64.wrap (nx - 1))
    have h2 := inamesOk_ok l[k].path (sL_at ho hk) 1
    have hlen : ((((l.take k).map eN).length : Nat) : Int) = (k : Int) := by simp; omega
    have htk : List.drop 0 (List.take k (l.map eN)) = (l.take k).map eN := by rw [List.drop_zero, List.map_take]
    have h7 : inodesWell.L7 (l.map eN) l.length (k : Int) ((l.take k).map eN) (k : Int) 0 nx (l.map eN) l[k].id (eSs l[k].path) = _ := inodesWell.l7 nx l hl k hk l[k].id (eSs l[k].path) 0 (by omega)
    have hend : (inodesWell.L7 (l.map eN) l.length (k : Int) ((l.take k).map eN) (k : Int) 0 nx (l.map eN) l[k].id (eSs l[k].path)).bind inodesWell.A7 =
        some (bif (l.take k).all (fun y => !(y.id == l[k].id)) && nodesB nx (l.take (k + 1)) (l.drop (k + 1)) then inodesWell.x2 nx (l.map eN) else inodesWell.q2 false nx (l.map eN)) := by
      rw [h7, Option.bind_some, List.drop_zero]
      cases (l.take k).all (fun y => !(y.id == l[k].id)) with
      | true => simp only [cond_true, Bool.true_and]; rw [inodesWell.a7x7, wrap_nat k (by omega)]; exact ih
      | false => simp only [cond_false, Bool.false_and]; rw [inodesWell.a7q7]
    simp only [Int.toNat_natCast, inodesWell.p5, inodesWell.p6, node_at hk, nodesB, ← take_snoc l k hk, htk, hlen]
    have hkl : (k : Int) ≤ (l.length : Int) := by omega
    cases hpb : pathB 1 l[k].path with
    | false => rw [hpb] at h2; simp [-List.getElem_cons_drop, hk, h2]
    | true =>
      rw [hpb] at h2
      by_cases hk0 : k = 0
      · subst hk0
        cases hin : inB l[0].id 1 (IntKind.i64.wrap (nx - 1)) with
        | false => rw [hin] at h1; simp [-List.getElem_cons_drop, hk, h1, h2]
        | true =>
          rw [hin] at h1
          simp [-List.getElem_cons_drop, hk, h1, h2] at hend ⊢
          exact hend
      · obtain ⟨j, hjk⟩ : ∃ j, k = j + 1 := ⟨k - 1, by omega⟩
        have hj : j < l.length := by omega
        have hw : IntKind.i64.wrap ((k : Int) - 1) = (j : Int) := by rw [wrap_pred k (by omega) (by omega), hjk]; rfl
        have hla : (l.take k).getLast? = some l[j] := by rw [hjk]; exact last_take hj
        have e1 : decide ((k : Int) > 0) = true := by simp; omega
        have h3 := slices_Compare_ok l[j].path l[k].path (sL_at ho hj).1
        have h4 := cmpP_less l[j].path l[k].path
        simp only [hw, Int.toNat_natCast, node_at hj, hla, e1]
        cases hb : lessP l[j].path l[k].path with
        | false =>
          rw [hb] at h4
          have h4 : 0 ≤ cmpP l[j].path l[k].path := by simpa using h4
          simp [-List.getElem_cons_drop, hk, hj, h2, h3, h4]
        | true =>
          rw [hb] at h4
          have h4 : ¬ 0 ≤ cmpP l[j].path l[k].path := by simpa using h4
          cases hin : inB l[k].id 1 (IntKind.i64.wrap (nx - 1)) with
          | false => rw [hin] at h1; simp [-List.getElem_cons_drop, hk, hj, h1, h2, h3, h4]
          | true =>
            rw [hin] at h1
            simp [-List.getElem_cons_drop, hk, hj, h1, h2, h3, h4, hkl] at hend ⊢
            exact hend
theorem inodesWell_ok (n : Nodes) (ho : sL oN n.list) : inodesWell [vNs n] [] = rB (okB n) := by
  have h1 := iwithin_ok n.next 1 10000
  have hl := inodesWell.l2 n.next n.list ho 0 (by omega)
  rw [List.take_zero, List.drop_zero, Int.natCast_zero] at hl
  rw [inodesWell.e, List.length_map, hl, Option.bind_some]
  unfold okB
  have h2 : decide ((n.list.length : Int) ≤ 30) = decide (n.list.length ≤ 30) := decide_eq_decide.2 (by omega)
  cases h3 : nodesB n.next [] n.list with
  | false => rw [cond_false, inodesWell.a2q2, Bool.and_false]
  | true =>
    rw [cond_true, inodesWell.a2x2, h1, Bool.and_true]
    cases h4 : inB n.next 1 10000 <;> simp [h2]
end Go.PVx
/- The paths of a tree. -/
namespace Go.PVx
open Go.PV Go.Proofs

theorem rowsLen_map {α : Type} (f : α → List D) (n : Nat) (h : ∀ x, (f x).length = n) (l : List α) : rowsLen n (l.map f) = true := by
  simp [rowsLen, h]
@[simp] theorem rowsLen_eS (l : List Str) : rowsLen 1 (eSs l) = true := rowsLen_map eS 1 (fun _ => rfl) l
@[simp] theorem rowsLen_ePa (l : List (List Str)) : rowsLen 1 (l.map ePa) = true := rowsLen_map ePa 1 (fun _ => rfl) l
@[simp] theorem rowsLen_eN (l : List NodeOf) : rowsLen 2 (l.map eN) = true := rowsLen_map eN 2 (fun _ => rfl) l
@[simp] theorem rowsCell_eS (b : Bool) (l : List Str) : rowsCell b (eSs l) = true := by simp [rowsCell, eS, cellD, isCell]
@[simp] theorem rowsCell_ePa (l : List (List Str)) : rowsCell true (l.map ePa) = true := by simp [rowsCell, ePa, cellD]
theorem snoc_eS (l : List Str) (s : Str) : eSs l ++ [[D.v (.string (mkS s))]] = eSs (l ++ [s]) := by simp [eS]
theorem snoc_ePa (l : List (List Str)) (p : List Str) : l.map ePa ++ [[D.s (eSs p)]] = (l ++ [p]).map ePa := by simp [ePa]
theorem path_at {l : List (List Str)} {k : Nat} (h : k < l.length) : (l.map ePa).getD k [] = [.s (eSs l[k])] := by
  rw [getD_map ePa l k h]; rfl

mutual
/-- The paths below a part at a path. -/
def pathsT (p : List Str) : Tree → List (List Str)
  | ⟨_, _, _, ns, ks⟩ => pathsZ p ns ks
def pathsZ (p : List Str) : List Str → List Tree → List (List Str)
  | n :: ns, k :: ks => (p ++ [n]) :: (pathsT (p ++ [n]) k ++ pathsZ p ns ks)
  | [], _ => []
  | _ :: _, [] => []
end
theorem pathsT_eq (p : List Str) (t : Tree) : pathsT p t = pathsZ p t.names t.kids := by
  obtain ⟨a, b, c, ns, ks⟩ := t
  rw [pathsT]
theorem partsB_names {d : Int} {t : Tree} (h : partsB d t = true) : t.names.length = t.kids.length := by
  rw [partsB_eq] at h
  simp only [plainB, Bool.and_eq_true, decide_eq_true_eq] at h
  exact h.1.1.1.2
theorem partsB_kid {d : Int} {t : Tree} (h : partsB d t = true) {k : Tree} (hk : k ∈ t.kids) : partsB (d + 1) k = true := by
  rw [partsB_eq] at h
  simp only [Bool.and_eq_true, List.all_eq_true] at h
  exact h.2 k hk
theorem pathsZ_drop (p : List Str) {ns : List Str} {ks : List Tree} {k : Nat} (h1 : k < ns.length) (h2 : k < ks.length) :
    pathsZ p (ns.drop k) (ks.drop k) = (p ++ [ns[k]]) :: (pathsT (p ++ [ns[k]]) ks[k] ++ pathsZ p (ns.drop (k + 1)) (ks.drop (k + 1))) := by
  rw [drop_cons ns k h1, drop_cons ks k h2, pathsZ]
theorem pathsZ_nil (p : List Str) (ns : List Str) (ks : List Tree) (h : ns.length ≤ 0) : pathsZ p ns ks = [] := by
  cases ns with
  | nil => rw [pathsZ]
  | cons => simp at h
theorem pathsT_len (t : Tree) : ∀ (p : List Str) (d : Int), partsB d t = true → (pathsT p t).length = cnt t := by
  induction t using Tree.ind with
  | h a b c ns ks ih =>
    intro p d hp
    have hn := partsB_names hp
    have hk := fun k (h : k ∈ ks) => partsB_kid hp (k := k) h
    simp only at hn
    rw [pathsT_eq, cnt_eq]
    simp only
    clear hp
    induction ks generalizing ns with
    | nil =>
      have : ns = [] := List.eq_nil_of_length_eq_zero hn
      subst this
      simp [pathsZ, wL]
    | cons k ks ihk =>
      cases ns with
      | nil => simp at hn
      | cons n ns =>
        rw [pathsZ, List.length_cons, List.length_append, ih k (by simp) _ (d + 1) (hk k (by simp)), ihk ns (fun k h => ih k (List.mem_cons_of_mem _ h)) (by simpa using hn) (fun k h => hk k (List.mem_cons_of_mem _ h)), wL]
        omega

/-! ### the reference's -/
/-! ### the program's -/
abbrev oB (l : List (List Str)) : PV.Obj := { kind := Kind.box, row := [D.s (l.map ePa)], fl := [Own.deep] }
theorem fitsCos_box (a b : List (List Str)) (n : Nat) : fitsCos [{ ob := oB a, src := Src.box n }] [oB b] = true := by simp
/-! ### nodes and a tree -/
def nodesOkB (n : Nodes) (t : Tree) : Bool := treeB t && okB n && decide (pathsT [] t = n.list.map NodeOf.path)
theorem treeB_parts {t : Tree} (h : treeB t = true) : partsB 0 t = true := by
  simp only [treeB, Bool.and_eq_true] at h; exact h.1.2
theorem pathsT_small (t : Tree) : ∀ (p : List Str) (d : Int), partsB d t = true → wT t ≤ 1048576 → p.length + wT t ≤ 2097152 → ∀ q ∈ pathsT p t, q.length ≤ 2097152 := by
  induction t using Tree.ind with
  | h a b c ns ks ih =>
    intro p d hp hw hpw q hq
    have hn := partsB_names hp
    have hk := fun k (h : k ∈ ks) => partsB_kid hp (k := k) h
    simp only at hn
    rw [pathsT_eq] at hq
    rw [wT_eq] at hw hpw
    simp only at hq hw hpw
    have key : ∀ k, k ≤ ns.length → q ∈ pathsZ p (ns.drop k) (ks.drop k) → q.length ≤ 2097152 := by
      refine up ns.length ?_ fun k hk1 ihk h => ?_
      · intro h; rw [pathsZ_nil p _ _ (by simp)] at h; simp at h
      · have hk2 : k < ks.length := by omega
        have hwk := wL_at wT hk2
        rw [pathsZ_drop p hk1 hk2] at h
        rcases List.mem_cons.1 h with rfl | h
        · simp only [List.length_append, List.length_cons, List.length_nil]; omega
        · rcases List.mem_append.1 h with h | h
          · exact ih ks[k] (List.getElem_mem hk2) _ (d + 1) (hk _ (List.getElem_mem hk2)) (by omega) (by simp only [List.length_append, List.length_cons, List.length_nil]; omega) q h
          · exact ihk h
    exact key 0 (by omega) (by simpa using hq)
end Go.PVx
/- What the laws do with their arguments: how large they are, copies, that they are the same: words for all types; lists of texts. -/
namespace Go.PVx
open Go.PV Go.Proofs

/-- What is left of a room. -/
def szR (w : Nat) (x : Int) : Int := bif decide ((w : Int) ≤ x) then x - w else -1
theorem szR_pos {w : Nat} {x : Int} (h : (w : Int) ≤ x) : szR w x = x - w := by simp [szR, h]
theorem szR_neg {w : Nat} {x : Int} (h : ¬ (w : Int) ≤ x) : szR w x = -1 := by simp [szR, h]
def sumW {α : Type} (w : α → Nat) : List α → Nat
  | [] => 0
  | x :: l => w x + sumW w l
theorem wL_sum {α : Type} (w : α → Nat) : ∀ l : List α, wL w l = l.length + sumW w l
  | [] => rfl
  | x :: l => by simp only [wL, sumW, List.length_cons, wL_sum w l]; omega
theorem szR_add {a b : Nat} {x : Int} (h : (a : Int) ≤ x) : szR (a + b) x = szR b (x - a) := by
  unfold szR
  by_cases h2 : (b : Int) ≤ x - a
  · have h3 : ((a + b : Nat) : Int) ≤ x := by omega
    simp only [h2, h3, decide_true, cond_true]; omega
  · have h3 : ¬ ((a + b : Nat) : Int) ≤ x := by omega
    simp only [h2, h3, decide_false, cond_false]
theorem szR_more {a b : Nat} {x : Int} (h : ¬ (a : Int) ≤ x) : szR (a + b) x = -1 := szR_neg (by omega)
theorem szR_ge {w : Nat} {x : Int} (h : 0 ≤ szR w x) : (w : Int) ≤ x := by
  by_cases h2 : (w : Int) ≤ x
  · exact h2
  · rw [szR_neg h2] at h; omega
theorem szR_le {w : Nat} {x : Int} (hx : 0 ≤ x) : szR w x ≤ x := by
  by_cases h2 : (w : Int) ≤ x
  · rw [szR_pos h2]; omega
  · rw [szR_neg h2]; omega

theorem str_at {l : List Str} {k : Nat} (h : k < l.length) : (eSs l).getD k [] = [.v (.string (mkS l[k]))] := by
  rw [getD_map eS l k h]; rfl
/-! ### copies -/
theorem weqStringS_refl (l : List Str) (hl : l.length ≤ 9223372036854775807) : weqStringS [vP l, vP l] [] = rB true := by
  have key : ∀ k, k ≤ l.length → weqStringS.L4 (eSs l) (eSs l) (k : Int) = some weqStringS.x4 := by
    refine up l.length ?_ fun k hk ih => ?_
    · rw [weqStringS.s4]; simp
    · rw [weqStringS.s4]
      simp only [Int.toNat_natCast, str_at hk, wrap_nat k (by omega), ih]
      simp [hk]
  have h0 : weqStringS.L4 (eSs l) (eSs l) 0 = _ := key 0 (by omega)
  rw [weqStringS.e, h0]
  simp [weqStringS.a4x4]
end Go.PVx
/- What the laws do with nodes and trees. (The lemmas on lists are printed by wip/pv/tool/genlaw.py.) -/
namespace Go.PVx
open Go.PV Go.Proofs
abbrev rNodeOf (a : NodeOf) : Option Res := some ⟨[.v (.int .i64 a.id), .o .deep (eSs a.path)], []⟩
abbrev rNodes (a : Nodes) : Option Res := some ⟨[.v (.int .i64 a.next), .o .deep (a.list.map eN)], []⟩
abbrev rTree (t : Tree) : Option Res := some ⟨[.v (.bool t.dir), .v (.int .i64 t.mode), .v (.string (mkS t.data)), .o .deep (eSs t.names), .o .deep (t.kids.map eT)], []⟩

/-! ### NodeOf: lists -/
theorem weqNodeOfS_of (l : List NodeOf) (hl : l.length ≤ 9223372036854775807) (hX : ∀ a ∈ l, weqNodeOf [vN a, vN a] [] = rB true) : weqNodeOfS [.one (.s (l.map eN)), .one (.s (l.map eN))] [] = rB true := by
  have key : ∀ k, k ≤ l.length → weqNodeOfS.L4 (l.map eN) (l.map eN) (k : Int) = some weqNodeOfS.x4 := by
    refine up l.length ?_ fun k hk ih => ?_
    · rw [weqNodeOfS.s4]; simp
    · rw [weqNodeOfS.s4]
      have h := hX l[k] (List.getElem_mem hk)
      simp only [Int.toNat_natCast, node_at hk, wrap_nat k (by omega), ih]
      simp [hk, h]
  have h0 : weqNodeOfS.L4 (l.map eN) (l.map eN) 0 = _ := key 0 (by omega)
  rw [weqNodeOfS.e, h0]
  simp [weqNodeOfS.a4x4]


/-! ### Tree: lists -/
/-! ### nodes -/
theorem wP_len (p : List Str) : p.length ≤ wP p := wL_len _ p
theorem weqNodeOf_refl (a : NodeOf) (hw : wN a ≤ 1048576) : weqNodeOf [vN a, vN a] [] = rB true := by
  have := wP_len a.path
  rw [weqNodeOf.e, weqStringS_refl a.path (by unfold wN at hw; omega)]
  simp
theorem weqNodes_refl (a : Nodes) (hw : wNs a ≤ 1048576) : weqNodes [vNs a, vNs a] [] = rB true := by
  unfold wNs at hw
  have := wL_len wN a.list
  rw [weqNodes.e, weqNodeOfS_of a.list (by omega) (fun n hn => weqNodeOf_refl n (by have := wL_mem wN a.list n hn; omega))]
  simp
/-! ### trees -/
end Go.PVx
/- Numbers and paths as texts; nodes as a text; the law FnExactNodesWrite on data. (Over the tables of the seat of doors: PvDTab, PvDRes.) -/
namespace Go.PVx
open Go.PV Go.Proofs

/-- A number's digits. -/
abbrev dec (n : Nat) : Str := Lib.decDigits n
theorem dec_len (n : Nat) (h : n ≤ 1000000) : (dec n).length ≤ 7 := by
  unfold dec
  rw [Lib.decDigits_length]
  by_cases h0 : n = 0
  · subst h0; rw [Lib.nDigits_small (by omega)]; omega
  · have : ∀ (k m : Nat), m < 10 ^ (k + 1) → Lib.nDigits m ≤ k + 1 := by
      intro k
      induction k with
      | zero => intro m hm; rw [Lib.nDigits_small (by simpa using hm)]; omega
      | succ k ih =>
        intro m hm
        by_cases h10 : m < 10
        · rw [Lib.nDigits_small h10]; omega
        · rw [Lib.nDigits_big h10]
          have := ih (m / 10) (by rw [Nat.pow_succ] at hm; omega)
          omega
    exact this 6 n (by omega)
theorem strOf_byte (d : Nat) (h : d < 10) : strOf [[D.v (Value.int IntKind.u8 (IntKind.u8.wrap (IntKind.i64.wrap (48 + (d : Int)))))]] = mkS [UInt8.ofNat (48 + d)] := by
  rw [wrap_in _ (by omega), IntKind.wrap_u8]
  have : (48 + (d : Int)) % 256 = ((48 + d : Nat) : Int) := by omega
  rw [this]
  rfl
theorem sl1Dec_ok : ∀ (n : Nat), n ≤ 1000000 → sl1Dec [vI n] [] = rS (dec n) := by
  intro n
  induction n using Nat.strongRecOn with
  | _ n ih =>
    intro h
    rw [sl1Dec.e]
    have h1 : decide ((n : Int) < -9223372036854775807) = false := decide_eq_false (by omega)
    have h2 : decide ((n : Int) < 0) = false := by simp
    rw [h1, h2]
    simp only [cond_false]
    unfold dec
    rw [Lib.decDigits]
    by_cases h10 : n < 10
    · have h3 : decide ((n : Int) < 10) = true := by simp; omega
      rw [h3, dif_pos h10, cond_true, strOf_byte n h10]
    · have h3 : decide ((n : Int) < 10) = false := by simp; omega
      have hq : (n : Int).tdiv 10 = ((n / 10 : Nat) : Int) := by rw [Int.tdiv_eq_ediv_of_nonneg (by omega)]; omega
      have hr : (n : Int).tmod 10 = ((n % 10 : Nat) : Int) := by rw [Int.tmod_eq_emod_of_nonneg (by omega)]; omega
      have hw : IntKind.i64.wrap ((n / 10 : Nat) : Int) = ((n / 10 : Nat) : Int) := wrap_in _ (by omega)
      have hi := ih (n / 10) (by omega) (by omega)
      have hl := dec_len (n / 10) (by omega)
      unfold dec at hi hl
      have e1 : (Lib.decDigits (n / 10)).length ≤ 70368744177663 := by omega
      rw [h3, dif_neg h10, cond_false, hq, hw, hi, hr, strOf_byte (n % 10) (by omega)]
      simp [e1]
theorem strconv_Itoa_ok (n : Nat) (h : n ≤ 1000000) : strconv_Itoa [vI n] [] = rS (dec n) := by
  rw [strconv_Itoa.ext]
  have h1 : decide (-9223372036854775808 ≤ (n : Int)) = true := decide_eq_true (by omega)
  have h2 : decide ((n : Int) ≤ 9223372036854775807) = true := decide_eq_true (by omega)
  simp only [extItoa, h1, h2, Bool.and_self, cond_true, Lib.itoa_nonneg]
  rfl

/-! ### paths -/
/-- A path's text. -/
def pt (p : List Str) : Str := if p = [] then [47] else Lib.joinTail [47] p
theorem joinTail_len (p : List Str) : (Lib.joinTail [47] p).length = wP p := by
  unfold wP
  induction p with
  | nil => rfl
  | cons x p ih =>
    have : Lib.joinTail [47] (x :: p) = [47] ++ x ++ Lib.joinTail [47] p := by simp [Lib.joinTail]
    rw [this]
    simp only [List.length_append, List.length_cons, List.length_nil, ih, wL]
theorem pt_len (p : List Str) : (pt p).length ≤ 1 + wP p := by
  unfold pt
  split
  · simp
  · rw [joinTail_len]; omega
theorem strRows_eSs : ∀ p : List Str, strRows (eSs p) = some (p.map mkS)
  | [] => rfl
  | x :: p => by
    have := strRows_eSs p
    simp only [List.map_cons, strRows, this]
    rfl
theorem strings_Join_ok (p : List Str) (hp : wP p ≤ 1048576) (h0 : p ≠ []) : strings_Join [vP p, vS [47]] [] = rS (Lib.join p [47]) := by
  rw [strings_Join.ext]
  have hm : (p.map mkS).map (fun x => x.data.toList) = p := by simp [List.map_map, Function.comp_def]
  have hlen : (Lib.join p [47]).length ≤ wP p := by
    cases p with
    | nil => exact absurd rfl h0
    | cons x r =>
      have hj := joinTail_len r
      rw [Lib.join_cons, List.length_append, hj]
      unfold wP
      simp only [wL]; omega
  have hpl := wP_len p
  have e1 : decide ((p.map mkS).length ≤ 140737488355328) = true := by simp; omega
  have e2 : decide ((Lib.join p [47]).length ≤ 140737488355328) = true := by simp; omega
  have hx : joinD (p.map mkS) (mkS [47]) = mkS (Lib.join p [47]) := by
    unfold joinD
    rw [hm]
    rfl
  show extJoin [.one (.s (eSs p)), .one (.v (.string (mkS [47])))] [] = _
  simp only [extJoin, strRows_eSs, e1, hm]
  have hs : (mkS [47]).data.toList = [47] := rfl
  rw [hs, e2]
  simp only [Bool.and_self, cond_true, hx]
theorem ipathText_ok (p : List Str) (hp : wP p ≤ 1048576) : ipathText [vP p] [] = rS (pt p) := by
  rw [ipathText.e]
  cases p with
  | nil => rfl
  | cons x r =>
    have h1 := strings_Join_ok (x :: r) hp (by simp)
    have h2 : (Lib.join (x :: r) [47]).length ≤ 1048576 := by
      have hj := joinTail_len r
      unfold wP at hp hj
      rw [Lib.join_cons, List.length_append, hj]
      simp only [wL] at hp; omega
    have e1 : decide (1 + (Lib.join (x :: r) [47]).length ≤ 70368744177664) = true := by simp; omega
    have h3 : ((((eSs (x :: r)).length : Nat) : Int) == 0) = false := by simp; omega
    have h4 : (ByteArray.mk #[47]) = mkS [47] := rfl
    rw [h3, cond_false, h4, h1]
    have h5 : pt (x :: r) = 47 :: Lib.join (x :: r) [47] := by
      unfold pt
      rw [if_neg (by simp), Lib.join_cons]
      simp [Lib.joinTail]
    rw [h5]
    simp [e1]
theorem sl3Name_ok (p : List Str) (hp : wP p ≤ 1048576) : sl3Name [vP p] [] = rS (pt p) := by
  have hpl := wP_len p
  have hlen := joinTail_len p
  have key : ∀ k, k ≤ p.length → sl3Name.L3 (eSs p) (mkS (Lib.joinTail [47] (p.take k))) (k : Int) = some (sl3Name.x3 (mkS (Lib.joinTail [47] p))) := by
    refine up p.length ?_ fun k hk ih => ?_
    · rw [sl3Name.s3]; simp
    · have hs : Lib.joinTail [47] (p.take (k + 1)) = Lib.joinTail [47] (p.take k) ++ [47] ++ p[k] := Lib.joinTail_take_succ [47] p k p[k] (by simp [hk])
      have hle := Lib.joinTail_take_le [47] p (k + 1)
      rw [hs] at hle
      simp only [List.length_append, List.length_cons, List.length_nil] at hle
      have e1 : decide ((Lib.joinTail [47] (p.take k)).length + 1 ≤ 70368744177664) = true := by simp; omega
      have e2 : decide ((Lib.joinTail [47] (p.take k)).length + 1 + p[k].length ≤ 70368744177664) = true := by simp; omega
      have h4 : (ByteArray.mk #[47]) = mkS [47] := rfl
      rw [hs] at ih
      rw [sl3Name.s3]
      simp only [Int.toNat_natCast, str_at hk, wrap_nat k (by omega), h4, mkS_append, size_mkS, List.getD_cons_zero, str_v, List.length_append, List.length_cons, List.length_nil, e1, e2, ih]
      simp [hk]
  have h0 := key 0 (by omega)
  rw [sl3Name.e]
  have h5 : (ByteArray.mk #[]) = mkS (Lib.joinTail [47] (p.take 0)) := rfl
  rw [h5]
  have h0 : sl3Name.L3 (eSs p) (mkS (Lib.joinTail [47] (p.take 0))) 0 = _ := h0
  rw [h0, Option.bind_some, sl3Name.a3x3, toList_mkS]
  cases p with
  | nil => rfl
  | cons x r =>
    have : Lib.joinTail [47] (x :: r) = 47 :: (x ++ Lib.joinTail [47] r) := by simp [Lib.joinTail]
    simp [pt, this]
end Go.PVx
/- Nodes as a text; the law FnExactNodesWrite on data. -/
namespace Go.PVx
open Go.PV Go.Proofs

def line (a : NodeOf) : Str := dec a.id.toNat ++ [32] ++ pt a.path ++ [10]
def head5 (n : Nodes) : Str := [110, 101, 120, 116, 32] ++ dec n.next.toNat ++ [10]
def linesTo (n : Nodes) (k : Nat) : Str := head5 n ++ ((n.list.take k).map line).flatten
/-- The text of nodes. -/
def nodesText (n : Nodes) : Str := bif okB n then head5 n ++ (n.list.map line).flatten else []
theorem linesTo_succ (n : Nodes) (k : Nat) (h : k < n.list.length) : linesTo n (k + 1) = linesTo n k ++ line n.list[k] := by
  unfold linesTo
  rw [take_snoc n.list k h]
  simp only [List.map_append, List.flatten_append, List.map_cons, List.map_nil, List.flatten_cons, List.flatten_nil, List.append_nil, List.append_assoc]
theorem linesTo_all (n : Nodes) : linesTo n n.list.length = head5 n ++ (n.list.map line).flatten := by simp [linesTo]
theorem inB_iff (a b c : Int) : inB a b c = true ↔ b ≤ a ∧ a ≤ c := by simp [inB]
theorem nodesB_ids (nx : Int) (h0 : 1 ≤ nx) (h1 : nx ≤ 10000) : ∀ (l pre : List NodeOf), nodesB nx pre l = true → ∀ a ∈ l, 1 ≤ a.id ∧ a.id ≤ 10000
  | [], _, _, a, ha => by simp at ha
  | x :: l, pre, h, a, ha => by
    simp only [nodesB, Bool.and_eq_true] at h
    obtain ⟨h2, _, _, _, h3⟩ := h
    rw [wrap_in _ (by omega), inB_iff] at h2
    rcases List.mem_cons.1 ha with rfl | ha
    · omega
    · exact nodesB_ids nx h0 h1 l _ h3 a ha
theorem okB_spec {n : Nodes} (h : okB n = true) : 1 ≤ n.next ∧ n.next ≤ 10000 ∧ n.list.length ≤ 30 ∧ ∀ a ∈ n.list, 1 ≤ a.id ∧ a.id ≤ 10000 := by
  unfold okB at h
  simp only [Bool.and_eq_true, decide_eq_true_eq, inB_iff] at h
  exact ⟨h.1.1.1, h.1.1.2, h.1.2, nodesB_ids _ h.1.1.1 h.1.1.2 _ _ h.2⟩
theorem wNs_mem {n : Nodes} (hw : wNs n ≤ 1048576) {a : NodeOf} (h : a ∈ n.list) : wP a.path ≤ 1048576 := by
  have := wL_mem wN n.list a h
  unfold wNs at hw
  unfold wN at this hw
  omega
theorem line_len {n : Nodes} (hw : wNs n ≤ 1048576) (hk : okB n = true) {a : NodeOf} (h : a ∈ n.list) : (line a).length ≤ 1048586 := by
  obtain ⟨_, _, _, h4⟩ := okB_spec hk
  have h5 := h4 a h
  have h1 := dec_len a.id.toNat (by omega)
  have h2 := pt_len a.path
  have h3 := wNs_mem hw h
  unfold line
  simp only [List.length_append, List.length_cons, List.length_nil]
  omega
theorem linesTo_len {n : Nodes} (hw : wNs n ≤ 1048576) (hk : okB n = true) : ∀ k, k ≤ n.list.length → (linesTo n k).length ≤ 13 + k * 1048586
  | 0, _ => by
    obtain ⟨h1, h2, _, _⟩ := okB_spec hk
    have := dec_len n.next.toNat (by omega)
    simp only [linesTo, head5, List.take_zero, List.map_nil, List.flatten_nil, List.append_nil, List.length_append, List.length_cons, List.length_nil]
    omega
  | k + 1, h => by
    have := linesTo_len hw hk k (by omega)
    have h2 := line_len hw hk (List.getElem_mem (show k < n.list.length by omega))
    rw [linesTo_succ n k (by omega), List.length_append, Nat.succ_mul]
    omega
theorem head_mk (n : Nodes) : (ByteArray.mk #[110, 101, 120, 116, 32]) ++ mkS (dec n.next.toNat) ++ (ByteArray.mk #[10]) = mkS (linesTo n 0) := by
  have h1 : (ByteArray.mk #[110, 101, 120, 116, 32]) = mkS [110, 101, 120, 116, 32] := rfl
  have h2 : (ByteArray.mk #[10]) = mkS [10] := rfl
  rw [h1, h2]
  simp [linesTo, head5]
theorem num_at {a : NodeOf} (h : 1 ≤ a.id) : (a.id : Int) = ((a.id.toNat : Nat) : Int) := by omega

theorem sNodesWrite_ok (n : Nodes) (ho : sL oN n.list) (hw : wNs n ≤ 1048576) : sNodesWrite [vNs n] [] = rS (nodesText n) := by
  rw [sNodesWrite.e, sl33Ok_ok n ho]
  unfold nodesText
  cases hk : okB n with
  | false => simp
  | true =>
    obtain ⟨h1, h2, h3, h4⟩ := okB_spec hk
    have hd := sl1Dec_ok n.next.toNat (by omega)
    have hdl := dec_len n.next.toNat (by omega)
    rw [show ((n.next.toNat : Nat) : Int) = n.next from by omega] at hd
    have key : ∀ k, k ≤ n.list.length → (sNodesWrite.L5 (mkS (linesTo n k)) (k : Int) n.next (n.list.map eN)).bind sNodesWrite.A5 = rS (linesTo n n.list.length) := by
      refine up n.list.length ?_ fun k hk1 ih => ?_
      · rw [sNodesWrite.s5]; simp [sNodesWrite.a5x5]
      · have hm := List.getElem_mem hk1
        have hid := h4 _ hm
        have hl := linesTo_len hw hk k (by omega)
        have hll := line_len hw hk hm
        have hD := sl1Dec_ok n.list[k].id.toNat (by omega)
        rw [← num_at hid.1] at hD
        have hN := sl3Name_ok n.list[k].path (wNs_mem hw hm)
        have hs : linesTo n (k + 1) = linesTo n k ++ dec n.list[k].id.toNat ++ [32] ++ pt n.list[k].path ++ [10] := by
          rw [linesTo_succ n k hk1]; simp [line]
        unfold line at hll
        simp only [List.length_append, List.length_cons, List.length_nil] at hll
        have e1 : decide ((linesTo n k).length + (dec n.list[k].id.toNat).length ≤ 70368744177664) = true := decide_eq_true (by omega)
        have e2 : decide ((linesTo n k).length + (dec n.list[k].id.toNat).length + 1 ≤ 70368744177664) = true := decide_eq_true (by omega)
        have e3 : decide ((linesTo n k).length + (dec n.list[k].id.toNat).length + 1 + (pt n.list[k].path).length ≤ 70368744177664) = true := decide_eq_true (by omega)
        have e4 : decide ((linesTo n k).length + (dec n.list[k].id.toNat).length + 1 + (pt n.list[k].path).length + 1 ≤ 70368744177664) = true := decide_eq_true (by omega)
        have b1 : (ByteArray.mk #[32]) = mkS [32] := rfl
        have b2 : (ByteArray.mk #[10]) = mkS [10] := rfl
        have hb1 : decide ((k : Int) < ((n.list.map eN).length : Int)) = true := by simp; omega
        have hb2 : decide (0 ≤ (k : Int)) = true := by simp
        rw [hs] at ih
        rw [← ih, sNodesWrite.s5]
        simp only [Int.toNat_natCast, node_at hk1, wrap_nat k (by omega), hb1, hb2, List.getD_cons_zero, List.getD_cons_succ, int_v, es_s, hD, hN, Option.bind_some, tstr_v, b1, b2, mkS_append, size_mkS, List.length_append, List.length_cons, List.length_nil, e1, e2, e3, e4]
        rfl
    have h0 : (sNodesWrite.L5 (mkS (linesTo n 0)) 0 n.next (n.list.map eN)).bind sNodesWrite.A5 = _ := key 0 (by omega)
    have e1 : decide (5 + (dec n.next.toNat).length ≤ 70368744177664) = true := decide_eq_true (by omega)
    have e2 : decide (((ByteArray.mk #[110, 101, 120, 116, 32]) ++ mkS (dec n.next.toNat)).size + 1 ≤ 70368744177664) = true := by
      have h1 : (ByteArray.mk #[110, 101, 120, 116, 32]) = mkS [110, 101, 120, 116, 32] := rfl
      rw [h1, mkS_append, size_mkS]
      exact decide_eq_true (by simp only [List.length_append, List.length_cons, List.length_nil]; omega)
    have hf : fitsCells [R1.str] [TC.v (Value.string (mkS (dec n.next.toNat)))] = true := rfl
    simp only [Option.bind_some, hd, List.getD_cons_zero, tbool_v, tstr_v, size_mkS, e1, e2, head_mk, h0, linesTo_all, Bool.not_true, cond_false, cond_true, hf, Bool.and_self]
    rfl
theorem iNodesWrite_ok (n : Nodes) (ho : sL oN n.list) (hw : wNs n ≤ 1048576) : iNodesWrite [vNs n] [] = rS (nodesText n) := by
  rw [iNodesWrite.e, inodesWell_ok n ho]
  unfold nodesText
  cases hk : okB n with
  | false => simp
  | true =>
    obtain ⟨h1, h2, h3, h4⟩ := okB_spec hk
    have hd := strconv_Itoa_ok n.next.toNat (by omega)
    have hdl := dec_len n.next.toNat (by omega)
    rw [show ((n.next.toNat : Nat) : Int) = n.next from by omega] at hd
    have key : ∀ k, k ≤ n.list.length → (iNodesWrite.L5 (mkS (linesTo n k)) (n.list.map eN) (n.list.length : Int) (k : Int)).bind iNodesWrite.A5 = rS (linesTo n n.list.length) := by
      refine up n.list.length ?_ fun k hk1 ih => ?_
      · rw [iNodesWrite.s5]; simp [iNodesWrite.a5x5]
      · have hm := List.getElem_mem hk1
        have hid := h4 _ hm
        have hl := linesTo_len hw hk k (by omega)
        have hll := line_len hw hk hm
        have hD := strconv_Itoa_ok n.list[k].id.toNat (by omega)
        rw [← num_at hid.1] at hD
        have hN := ipathText_ok n.list[k].path (wNs_mem hw hm)
        have hs : linesTo n (k + 1) = linesTo n k ++ (dec n.list[k].id.toNat ++ [32] ++ pt n.list[k].path ++ [10]) := by
          rw [linesTo_succ n k hk1]; simp [line]
        unfold line at hll
        simp only [List.length_append, List.length_cons, List.length_nil] at hll
        have e1 : decide ((dec n.list[k].id.toNat).length + 1 ≤ 70368744177664) = true := decide_eq_true (by omega)
        have e2 : decide ((dec n.list[k].id.toNat).length + 1 + (pt n.list[k].path).length ≤ 70368744177664) = true := decide_eq_true (by omega)
        have e3 : decide ((dec n.list[k].id.toNat).length + 1 + (pt n.list[k].path).length + 1 ≤ 70368744177664) = true := decide_eq_true (by omega)
        have e4 : decide ((linesTo n k).length + ((dec n.list[k].id.toNat).length + 1 + (pt n.list[k].path).length + 1) ≤ 70368744177664) = true := decide_eq_true (by omega)
        have b1 : (ByteArray.mk #[32]) = mkS [32] := rfl
        have b2 : (ByteArray.mk #[10]) = mkS [10] := rfl
        have hb0 : decide ((k : Int) < (n.list.length : Int)) = true := by simp; omega
        have hb1 : decide ((k : Int) < ((n.list.map eN).length : Int)) = true := by simp; omega
        have hb2 : decide (0 ≤ (k : Int)) = true := by simp
        rw [hs] at ih
        rw [← ih, iNodesWrite.s5]
        simp only [Int.toNat_natCast, node_at hk1, wrap_nat k (by omega), hb0, hb1, hb2, List.getD_cons_zero, List.getD_cons_succ, int_v, es_s, hD, hN, Option.bind_some, tstr_v, b1, b2, mkS_append, size_mkS, List.length_append, List.length_cons, List.length_nil, e1, e2, e3, e4]
        rfl
    have h0 : (iNodesWrite.L5 (mkS (linesTo n 0)) (n.list.map eN) (n.list.length : Int) 0).bind iNodesWrite.A5 = _ := key 0 (by omega)
    have e1 : decide (5 + (dec n.next.toNat).length ≤ 70368744177664) = true := decide_eq_true (by omega)
    have e2 : decide (((ByteArray.mk #[110, 101, 120, 116, 32]) ++ mkS (dec n.next.toNat)).size + 1 ≤ 70368744177664) = true := by
      have h1 : (ByteArray.mk #[110, 101, 120, 116, 32]) = mkS [110, 101, 120, 116, 32] := rfl
      rw [h1, mkS_append, size_mkS]
      exact decide_eq_true (by simp only [List.length_append, List.length_cons, List.length_nil]; omega)
    have hf : fitsCells [R1.str] [TC.v (Value.string (mkS (dec n.next.toNat)))] = true := rfl
    simp only [Option.bind_some, hd, List.getD_cons_zero, tbool_v, tstr_v, size_mkS, e1, e2, head_mk, List.length_map, h0, linesTo_all, Bool.not_true, cond_false, cond_true, hf, Bool.and_self]
    rfl
end Go.PVx
/- What the laws write into what they gave and got (mark), and whether it still stands there (held): texts, lists of texts. -/
namespace Go.PVx
open Go.PV Go.Proofs

/-- Marks stay below this. -/
abbrev Top : Int := 1000000000000

theorem bArr (b : ByteArray) : b = mkS b.data.toList := (mkS_of b).symm
theorem strOf_one (n : Int) : (strOf [[D.v (Value.int IntKind.u8 n)]]).size = 1 := rfl
theorem wmarkText.l4 : ∀ (n : Nat) (k : Int) (b : ByteArray), 0 ≤ k → k ≤ 1000000000000 → k < 10 ^ n → b.size + n ≤ 40 → ∃ b' : ByteArray, wmarkText.L4 k b = some (wmarkText.x4 b') ∧ b'.size ≤ 40
  | 0, k, b, h0, ht, h1, h3 => by
    have : k = 0 := by simp at h1; omega
    subst this
    refine ⟨b, ?_, by omega⟩
    rw [wmarkText.s4]
    simp
  | n + 1, k, b, h0, ht, h1, h3 => by
    rw [wmarkText.s4]
    by_cases hk : k > 0
    · have hd : k.tdiv 10 = k / 10 := Int.tdiv_eq_ediv_of_nonneg h0
      have hp : (10 : Int) ^ (n + 1) = 10 ^ n * 10 := Int.pow_succ _ _
      have hq : k / 10 < 10 ^ n := by omega
      have hw : IntKind.i64.wrap (k / 10) = k / 10 := wrap_in _ (by omega)
      have hsz : (strOf [[D.v (Value.int IntKind.u8 (IntKind.u8.wrap (IntKind.i64.wrap (48 + k.tmod 10))))]] ++ b).size = 1 + b.size := by
        rw [ByteArray.size_append, strOf_one]
      obtain ⟨b', h4, h5⟩ := wmarkText.l4 n (k / 10) (strOf [[D.v (Value.int IntKind.u8 (IntKind.u8.wrap (IntKind.i64.wrap (48 + k.tmod 10))))]] ++ b) (by omega) (by omega) hq (by rw [hsz]; omega)
      refine ⟨b', ?_, h5⟩
      rw [hd, hw, h4]
      have h6 : decide (1 + b.size ≤ 70368744177664) = true := by simp; omega
      rw [h6]
      simp [hk]
    · have : k = 0 := by omega
      subst this
      exact ⟨b, by simp, by omega⟩
theorem wmarkText_ex (k : Int) (h0 : 0 ≤ k) (h1 : k ≤ Top) : ∃ s : Str, wmarkText [vI k] [] = rS s := by
  rw [wmarkText.e]
  by_cases hk : k ≤ 0
  · exact ⟨[109, 48], by simp only [hk, decide_true, cond_true]; rfl⟩
  · have hT : Top = 1000000000000 := rfl
    obtain ⟨b', h4, h5⟩ := wmarkText.l4 20 k { data := #[] } (by omega) (by omega) (by omega) (by decide)
    refine ⟨(ByteArray.mk #[109] ++ b').data.toList, ?_⟩
    rw [h4]
    have h6 : decide (1 + b'.size ≤ 70368744177664) = true := by simp; omega
    simp only [hk, decide_false, cond_false, Option.bind_some, wmarkText.a4x4, h6, cond_true]
    rfl
/-- The text of a mark. -/
noncomputable def mt (k : Int) : Str := by
  classical
  exact if h : ∃ s : Str, wmarkText [vI k] [] = rS s then h.choose else []
theorem wmarkText_ok (k : Int) (h0 : 0 ≤ k) (h1 : k ≤ Top) : wmarkText [vI k] [] = rS (mt k) := by
  have h := wmarkText_ex k h0 h1
  unfold mt
  rw [dif_pos h]
  exact h.choose_spec

/-! ### lists of texts -/
noncomputable def mP (k : Int) : List Str → List Str
  | [] => []
  | _ :: l => mt k :: mP (k + 1) l
@[simp] theorem mP_len : ∀ (l : List Str) (k : Int), (mP k l).length = l.length
  | [], _ => rfl
  | _ :: l, k => by simp [mP, mP_len l]
theorem mP_at : ∀ (l : List Str) (k : Int) (i : Nat) (h : i < (mP k l).length), (mP k l)[i] = mt (k + i)
  | [], _, i, h => by simp [mP] at h
  | x :: l, k, 0, h => by simp [mP]
  | x :: l, k, i + 1, h => by
    simp only [mP, List.getElem_cons_succ]
    rw [mP_at l (k + 1) i (by simpa [mP] using h)]
    congr 1; push_cast; omega
abbrev gV (es : List (List D)) : PV.Obj := { kind := Kind.virt, row := [D.s es], fl := [Own.deep] }
/-- What a mark answers. -/
abbrev rM (k : Int) (es : List (List D)) : Option Res := some ⟨[.v (.int .i64 k)], [gV es]⟩
theorem wmarkStringS_ok (l : List Str) (k : Int) (h0 : 0 ≤ k) (h1 : k + l.length ≤ Top) :
    wmarkStringS [.one (.r 0 [] 0), vI k] [gV (eSs l)] = rM (k + l.length) (eSs (mP k l)) := by
  have hT : Top = 1000000000000 := rfl
  have key : ∀ j, j ≤ l.length → ∀ m : List Str, m.length = j → (wmarkStringS.L2 (k + j) (j : Int) (m.map eS ++ (l.drop j).map eS)).bind wmarkStringS.A2 = rM (k + l.length) (eSs (m ++ mP (k + j) (l.drop j))) := by
    refine up l.length ?_ fun j hj ih m hm => ?_
    · intro m hm
      rw [wmarkStringS.s2]
      simp [hm, wmarkStringS.a2x2, mP]
    · have hg := turn_get eS eS l m j hj hm
      have hl := turn_len eS eS l m j (by omega) hm
      have hs := turn_set eS eS l m j hj hm (mt (k + j))
      have ht := wmarkText_ok (k + j) (by omega) (by omega)
      have hw : IntKind.i64.wrap (k + j + 1) = k + j + 1 := wrap_in _ (by omega)
      have := ih (m ++ [mt (k + j)]) (by simp [hm])
      rw [wmarkStringS.s2]
      simp only [Int.toNat_natCast, hg, hl, hw, wrap_nat j (by omega)]
      have hs' : List.set (m.map eS ++ (l.drop j).map eS) j (D.v (Value.string (mkS (mt (k + j)))) :: List.drop 1 (eS l[j])) = _ := hs
      push_cast at this
      rw [show k + ((j : Int) + 1) = k + j + 1 from by omega] at this
      have hd : mP (k + j) (l.drop j) = mt (k + j) :: mP (k + j + 1) (l.drop (j + 1)) := by rw [drop_cons l j hj, mP]
      rw [hd]
      rw [show m ++ mt (k + j) :: mP (k + j + 1) (l.drop (j + 1)) = m ++ [mt (k + j)] ++ mP (k + j + 1) (l.drop (j + 1)) from by simp, ← this]
      have h2 : decide ((j : Int) < (l.length : Int)) = true := by simp; omega
      have h3 : decide ((0 : Int) ≤ (j : Int)) = true := by simp
      have h4 : (eS l[j]).length = 1 := rfl
      simp only [h2, h3, h4, ht, Option.bind_some]
      have h5 : (fitsCells [R1.str] [TC.v (Value.string (mkS (mt (k + j))))]) = true := rfl
      simp only [h5, Bool.and_true, decide_true, Bool.and_self, cond_true, Nat.le_refl, List.getD_cons_zero, tstr_v, hs']
      push_cast
      rfl
  rw [wmarkStringS.e]
  have := key 0 (by omega) [] rfl
  simpa using this
theorem wheldStringS_ok (l : List Str) (k : Int) (h0 : 0 ≤ k) (h1 : k + l.length ≤ Top) : wheldStringS [vP (mP k l), vI k] [] = rI (k + l.length) := by
  have hT : Top = 1000000000000 := rfl
  have hlen := mP_len l k
  have key : ∀ j, j ≤ l.length → (wheldStringS.L2 (eSs (mP k l)) (k + j) (j : Int)).bind wheldStringS.A2 = rI (k + l.length) := by
    refine up l.length ?_ fun j hj ih => ?_
    · rw [wheldStringS.s2]
      simp [wheldStringS.a2x2]
    · have hj' : j < (mP k l).length := by omega
      have ht := wmarkText_ok (k + j) (by omega) (by omega)
      have hw : IntKind.i64.wrap (k + j + 1) = k + j + 1 := wrap_in _ (by omega)
      push_cast at ih
      rw [show k + ((j : Int) + 1) = k + j + 1 from by omega] at ih
      rw [wheldStringS.s2]
      simp only [Int.toNat_natCast, str_at hj', mP_at l k j hj', wrap_nat j (by omega), hw, ht, Option.bind_some]
      rw [← ih]
      simp [hj]
  rw [wheldStringS.e]
  have := key 0 (by omega)
  simpa using this
end Go.PVx
/- mark and held: nodes. -/
namespace Go.PVx
open Go.PV Go.Proofs

/-- How many marks a list of nodes bears. -/
def cN (a : NodeOf) : Nat := 1 + a.path.length
noncomputable def mN (k : Int) (a : NodeOf) : NodeOf := ⟨k, mP (k + 1) a.path⟩
noncomputable def mNs (k : Int) : List NodeOf → List NodeOf
  | [] => []
  | a :: l => mN k a :: mNs (k + cN a) l
@[simp] theorem mNs_len : ∀ (l : List NodeOf) (k : Int), (mNs k l).length = l.length
  | [], _ => rfl
  | _ :: l, k => by simp [mNs, mNs_len l]
theorem sumW_snoc {α : Type} (w : α → Nat) (l : List α) (j : Nat) (h : j < l.length) : sumW w (l.take (j + 1)) = sumW w (l.take j) + w l[j] := by
  rw [take_snoc l j h]
  generalize l.take j = p
  induction p with
  | nil => simp [sumW]
  | cons x p ih => simp only [List.cons_append, sumW, ih]; omega
theorem sumW_le {α : Type} (w : α → Nat) (l : List α) (j : Nat) : sumW w (l.take j) ≤ sumW w l := by
  induction l generalizing j with
  | nil => simp
  | cons x l ih =>
    cases j with
    | zero => simp [sumW]
    | succ j => simp only [List.take_succ_cons, sumW]; have := ih j; omega
theorem mNs_at : ∀ (l : List NodeOf) (k : Int) (i : Nat) (h : i < (mNs k l).length) (h' : i < l.length), (mNs k l)[i] = mN (k + (sumW cN (l.take i) : Nat)) l[i]
  | [], _, i, h, _ => by simp [mNs] at h
  | x :: l, k, 0, h, _ => by simp [mNs, sumW]
  | x :: l, k, i + 1, h, h' => by
    simp only [mNs, List.getElem_cons_succ, List.take_succ_cons, sumW]
    rw [mNs_at l (k + cN x) i (by simpa [mNs] using h) (by simpa using h')]
    congr 1; push_cast; omega
theorem eN_len (a : NodeOf) : (eN a).length = 2 := rfl
theorem getD_set1 (l : List (List D)) (j : Nat) (x : List D) (h : j < l.length) : (l.set j x).getD j [] = x := by
  simp [List.getD_eq_getElem?_getD, h]
theorem wmarkNodeOfS_ok (l : List NodeOf) (k : Int) (h0 : 0 ≤ k) (h1 : k + (sumW cN l : Nat) ≤ Top) (hl0 : l.length ≤ 1048576) :
    wmarkNodeOfS [.one (.r 0 [] 0), vI k] [gV (l.map eN)] = rM (k + (sumW cN l : Nat)) ((mNs k l).map eN) := by
  have hT : Top = 1000000000000 := rfl
  have key : ∀ j, j ≤ l.length → ∀ m : List NodeOf, m.length = j → (wmarkNodeOfS.L2 (k + (sumW cN (l.take j) : Nat)) (j : Int) (m.map eN ++ (l.drop j).map eN)).bind wmarkNodeOfS.A2 =
      rM (k + (sumW cN l : Nat)) ((m ++ mNs (k + (sumW cN (l.take j) : Nat)) (l.drop j)).map eN) := by
    refine up l.length ?_ fun j hj ih m hm => ?_
    · intro m hm
      rw [wmarkNodeOfS.s2]
      simp [hm, wmarkNodeOfS.a2x2, mNs]
    · have hg := turn_get eN eN l m j hj hm
      have hl := turn_len eN eN l m j (by omega) hm
      have hle := sumW_le cN l (j + 1)
      rw [sumW_snoc cN l j hj] at hle
      have hcn : cN l[j] = 1 + l[j].path.length := rfl
      generalize hk' : k + ((sumW cN (l.take j) : Nat) : Int) = k' at *
      have hs := turn_set eN eN l m j hj hm (mN k' l[j])
      have hw : IntKind.i64.wrap (k' + 1) = k' + 1 := wrap_in _ (by omega)
      have ht := wmarkStringS_ok l[j].path (k' + 1) (by omega) (by omega)
      have := ih (m ++ [mN k' l[j]]) (by simp [hm])
      rw [sumW_snoc cN l j hj, show k + ((sumW cN (l.take j) + cN l[j] : Nat) : Int) = k' + 1 + (l[j].path.length : Int) from by push_cast; omega] at this
      have hd : mNs k' (l.drop j) = mN k' l[j] :: mNs (k' + 1 + (l[j].path.length : Int)) (l.drop (j + 1)) := by
        rw [drop_cons l j hj, mNs, hcn]; congr 2; push_cast; omega
      rw [hd, show m ++ mN k' l[j] :: mNs (k' + 1 + (l[j].path.length : Int)) (l.drop (j + 1)) = m ++ [mN k' l[j]] ++ mNs (k' + 1 + (l[j].path.length : Int)) (l.drop (j + 1)) from by simp, ← this]
      rw [wmarkNodeOfS.s2]
      have hlt : j < (m.map eN ++ (l.drop j).map eN).length := by omega
      have he : eN l[j] = [.v (.int .i64 l[j].id), .s (eSs l[j].path)] := rfl
      have hs' : List.set (m.map eN ++ (l.drop j).map eN) j [D.v (Value.int IntKind.i64 k'), D.s (eSs (mP (k' + 1) l[j].path))] = _ := hs
      rw [← hs']
      clear hs hs' this ih
      generalize m.map eN ++ (l.drop j).map eN = Y at *
      have hgs := fun x => getD_set1 Y j x hlt
      have h2 : decide ((j : Int) < (l.length : Int)) = true := by simp; omega
      have h3 : decide ((0 : Int) ≤ (j : Int)) = true := by simp
      simp only [Int.toNat_natCast, hg, hl, hw, wrap_nat j (by omega), he, h2, h3, List.length_set, List.drop_succ_cons, List.drop_zero, hgs, List.set_set, List.getD_cons_succ, List.getD_cons_zero, es_s, ht, Option.bind_some]
      simp
  rw [wmarkNodeOfS.e]
  have := key 0 (by omega) [] rfl
  simpa [sumW] using this
theorem wheldNodeOfS_ok (l : List NodeOf) (k : Int) (h0 : 0 ≤ k) (h1 : k + (sumW cN l : Nat) ≤ Top) (hl0 : l.length ≤ 1048576) : wheldNodeOfS [.one (.s ((mNs k l).map eN)), vI k] [] = rI (k + (sumW cN l : Nat)) := by
  have hT : Top = 1000000000000 := rfl
  have hlen := mNs_len l k
  have key : ∀ j, j ≤ l.length → (wheldNodeOfS.L2 ((mNs k l).map eN) (k + (sumW cN (l.take j) : Nat)) (j : Int)).bind wheldNodeOfS.A2 = rI (k + (sumW cN l : Nat)) := by
    refine up l.length ?_ fun j hj ih => ?_
    · rw [wheldNodeOfS.s2]
      simp [wheldNodeOfS.a2x2]
    · have hj' : j < (mNs k l).length := by omega
      have hle := sumW_le cN l (j + 1)
      rw [sumW_snoc cN l j hj] at hle ih
      have hcn : cN l[j] = 1 + l[j].path.length := rfl
      have hat := mNs_at l k j hj' hj
      generalize hk' : k + ((sumW cN (l.take j) : Nat) : Int) = k' at *
      have hw : IntKind.i64.wrap (k' + 1) = k' + 1 := wrap_in _ (by omega)
      have ht := wheldStringS_ok l[j].path (k' + 1) (by omega) (by omega)
      rw [show k + ((sumW cN (l.take j) + cN l[j] : Nat) : Int) = k' + 1 + (l[j].path.length : Int) from by push_cast; omega] at ih
      have hn : ¬ k' + 1 + (l[j].path.length : Int) < 0 := by omega
      have hg : ((mNs k l).map eN).getD j [] = [.v (.int .i64 k'), .s (eSs (mP (k' + 1) l[j].path))] := by rw [getD_map eN _ j hj', hat]; rfl
      rw [wheldNodeOfS.s2, ← ih]
      simp only [Int.toNat_natCast, hg, hw, wrap_nat j (by omega)]
      simp [ht, hj, hn]
  rw [wheldNodeOfS.e]
  have := key 0 (by omega)
  simpa [sumW] using this
noncomputable def mNo (k : Int) (n : Nodes) : Nodes := ⟨n.next, mNs k n.list⟩
theorem wmarkNodes_ok (n : Nodes) (k : Int) (h0 : 0 ≤ k) (h1 : k + (sumW cN n.list : Nat) ≤ Top) (hl0 : n.list.length ≤ 1048576) :
    wmarkNodes [.g [.v (.int .i64 n.next), .r 0 [] 0], vI k] [gV (n.list.map eN)] = rM (k + (sumW cN n.list : Nat)) ((mNs k n.list).map eN) := by
  rw [wmarkNodes.e, wmarkNodeOfS_ok n.list k h0 h1 hl0]
  simp
theorem wheldNodes_ok (n : Nodes) (k : Int) (h0 : 0 ≤ k) (h1 : k + (sumW cN n.list : Nat) ≤ Top) (hl0 : n.list.length ≤ 1048576) :
    wheldNodes [vNs (mNo k n), vI k] [] = rI (k + (sumW cN n.list : Nat)) := by
  have hn : ¬ k + (sumW cN n.list : Int) < 0 := by omega
  show wheldNodes [.g [.v (.int .i64 n.next), .s ((mNs k n.list).map eN)], vI k] [] = _
  rw [wheldNodes.e, wheldNodeOfS_ok n.list k h0 h1 hl0]
  simp [hn]
end Go.PVx
/- Texts that are cut at a byte. -/
namespace Go.PVx
open Go.PV Go.Proofs

/-- A text's pieces between the places of a byte. -/
def cutAt (b : UInt8) : Str → List Str
  | [] => [[]]
  | c :: s => if c = b then [] :: cutAt b s else ((c :: (cutAt b s).headD []) :: (cutAt b s).tail)
theorem cutAt_ne (b : UInt8) : ∀ s, cutAt b s ≠ []
  | [] => by simp [cutAt]
  | c :: s => by unfold cutAt; split <;> simp
theorem cutAt_cons (b : UInt8) (s : Str) : cutAt b s = (cutAt b s).headD [] :: (cutAt b s).tail := by
  cases h : cutAt b s with
  | nil => exact absurd h (cutAt_ne b s)
  | cons x l => rfl
theorem index_one_nil (b : UInt8) : Lib.index [] [b] = -1 := rfl
theorem index_one_eq (b : UInt8) (s : Str) : Lib.index (b :: s) [b] = 0 := by simp [Lib.index]
theorem index_one_ne (b c : UInt8) (s : Str) (h : c ≠ b) : Lib.index (c :: s) [b] = if Lib.index s [b] == -1 then -1 else Lib.index s [b] + 1 := by
  have : ([b] : List UInt8).isPrefixOf (c :: s) = false := by show ((b == c) && _) = false; rw [beq_eq_false_iff_ne.2 (Ne.symm h)]; rfl
  simp only [Lib.index, this]
  rfl
/-- strings.Split at one byte. -/
theorem splitK_one (b : UInt8) : ∀ (s : Str), Lib.splitK [b] 0 (Lib.count s [b]) s = cutAt b s
  | [] => by
    rw [Lib.count_miss (index_one_nil b)]
    rfl
  | c :: s => by
    have ih := splitK_one b s
    by_cases h : c = b
    · subst h
      rw [Lib.count_cons_eq, Nat.add_comm, Lib.splitK, index_one_eq]
      simp only [cutAt, if_true]
      rw [if_neg (by decide)]
      have : List.drop ((0 : Int).toNat + [c].length) (c :: s) = s := rfl
      rw [this, ih]
      rfl
    · rw [Lib.count_cons_ne c b s h]
      have hi := index_one_ne b c s h
      cases hc : Lib.count s [b] with
      | zero =>
        rw [hc] at ih
        have h1 : Lib.splitK [b] 0 0 s = [s] := rfl
        rw [h1] at ih
        rw [cutAt, if_neg h, ← ih]
        rfl
      | succ k =>
        rw [hc] at ih
        have hne : Lib.index s [b] ≠ -1 := fun h0 => by rw [Lib.count_miss h0] at hc; exact absurd hc (by simp)
        have hge := Lib.index_ge s [b]
        obtain ⟨i, hi0⟩ : ∃ i : Nat, Lib.index s [b] = i := ⟨(Lib.index s [b]).toNat, by omega⟩
        rw [hi0] at hi hne
        have hb : ((i : Int) == -1) = false := beq_eq_false_iff_ne.2 hne
        rw [hb] at hi
        rw [cutAt, if_neg h, ← ih, Lib.splitK, Lib.splitK, hi, hi0, hb]
        have hb2 : (((i : Int) + 1) == -1) = false := beq_eq_false_iff_ne.2 (by omega)
        simp only [Bool.false_eq_true, if_false, hb2]
        have e1 : ((i : Int) + 1).toNat = i + 1 := by omega
        simp only [e1, Int.toNat_natCast, List.headD_cons, List.tail_cons, List.length_cons, List.length_nil, Nat.add_zero, Nat.zero_add]
        rw [show i + 1 + 1 = (i + 1) + 1 from rfl, List.take_succ_cons, List.drop_succ_cons]
theorem splitB_one (b : UInt8) (s : Str) : Lib.splitB (mkS [b]) 0 (Lib.countB (mkS s) (mkS [b])) (mkS s) = (cutAt b s).map mkS := by
  have h1 := Lib.splitB_data (mkS [b]) 0 (Lib.countB (mkS s) (mkS [b])) (mkS s)
  have h2 : Lib.countB (mkS s) (mkS [b]) = Lib.count s [b] := rfl
  have h3 : (mkS s).data.toList = s := by simp
  have h4 : (mkS [b]).data.toList = [b] := rfl
  rw [h3, h4, h2, splitK_one] at h1
  rw [h2, ← h1, List.map_map]
  have : (mkS ∘ fun x : ByteArray => x.data.toList) = id := by funext x; exact mkS_of x
  rw [this, List.map_id]
theorem strings_Split_ok (s : Str) (b : UInt8) (hs : s.length ≤ 1048576) : strings_Split [vS s, vS [b]] [] = some ⟨[.o .deep (eSs (cutAt b s))], []⟩ := by
  rw [strings_Split.ext]
  have e1 : decide ((mkS s).size < 4294967281) = true := by simp; omega
  have e2 : decide (1 ≤ (mkS [b]).size) = true := rfl
  simp only [extSplit, e1, e2, Bool.and_self, cond_true, splitB_one]
  simp [eSs, eS, List.map_map, Function.comp_def]
theorem cutAt_len (b : UInt8) : ∀ s : Str, (cutAt b s).length ≤ s.length + 1
  | [] => by simp [cutAt]
  | c :: s => by
    have := cutAt_len b s
    unfold cutAt
    split
    · simp; omega
    · simp; omega
theorem cutAt_pos (b : UInt8) (s : Str) : 1 ≤ (cutAt b s).length := by
  rw [cutAt_cons]; simp
/-- The lines that end. -/
theorem ilinesOf_ok (s : Str) (hs : s.length ≤ 1048576) : ilinesOf [vS s] [] = some ⟨[.s (eSs (cutAt 10 s).dropLast)], []⟩ := by
  rw [ilinesOf.e]
  have h := strings_Split_ok s 10 hs
  have b1 : (ByteArray.mk #[10]) = mkS [10] := rfl
  have hl := cutAt_len 10 s
  have hp := cutAt_pos 10 s
  have hw : IntKind.i64.wrap (((cutAt 10 s).length : Int) - 1) = (((cutAt 10 s).length - 1 : Nat) : Int) := by rw [wrap_in _ (by omega)]; omega
  rw [b1, h]
  simp only [Option.bind_some, List.getD_cons_zero, TC.es, List.length_map, hw]
  have e2 : decide ((((cutAt 10 s).length - 1 : Nat) : Int) ≤ ((cutAt 10 s).length : Int)) = true := by simp
  have e3 : decide ((none : Option Int).getD 0 ≤ (((cutAt 10 s).length - 1 : Nat) : Int)) = true := by simp
  simp only [e2, e3, Bool.and_self, cond_true, Int.toNat_natCast]
  simp [fitsCells, List.dropLast_eq_take, eSs, List.map_take]
/-- The reference's. -/
def glue (p : Str) (l : List Str) : List Str := (p ++ l.headD []) :: l.tail
theorem sl1Cut_ok (s : Str) (b : UInt8) (hs : s.length ≤ 1048576) : sl1Cut [vS s, .one (.v (.int .u8 b.toNat))] [] = some ⟨[.o .deep (eSs (cutAt b s))], []⟩ := by
  have key : ∀ i, i ≤ s.length → ∀ (f : Nat) (acc : List Str), f ≤ i → acc.length ≤ f → (sl1Cut.L4 (mkS s) b.toNat (f : Int) (i : Int) (eSs acc)).bind sl1Cut.A4 = some ⟨[.o .deep (eSs (acc ++ glue ((s.take i).drop f) (cutAt b (s.drop i))))], []⟩ := by
    have rl : ∀ l : List Str, rowsLen 1 (eSs l) = true := fun l => by simp [rowsLen, eSs, eS]
    have sn : ∀ (l : List Str) (x : Str), eSs l ++ [[D.v (.string (mkS x))]] = eSs (l ++ [x]) := fun l x => by simp [eSs, eS]
    refine up s.length ?_ fun i hi ih => ?_
    · intro f acc hf ha
      rw [sl1Cut.s4]
      have e1 : decide (((f : Nat) : Int) ≤ (s.length : Int)) = true := by simp; omega
      have e2 : decide ((acc.length + 1) * 17 ≤ 70368744177664) = true := by simp; omega
      have e3 : (eSs acc).length = acc.length := by simp
      simp only [size_mkS, Int.lt_irrefl, decide_false, cond_false, Option.bind_some, sl1Cut.a4x4, e1, e2, e3, rl, Int.toNat_natCast, extract_mkS]
      simp [sn, glue, cutAt]
    · intro f acc hf ha
      have hb : (s.drop i) = s[i] :: s.drop (i + 1) := drop_cons s i hi
      have hw : IntKind.i64.wrap ((i : Int) + 1) = ((i + 1 : Nat) : Int) := wrap_nat i (by omega)
      have e1 : decide (((f : Nat) : Int) ≤ (i : Int)) = true := by simp; omega
      have e2 : decide ((acc.length + 1) * 17 ≤ 70368744177664) = true := by simp; omega
      have e3 : (eSs acc).length = acc.length := by simp
      have e4 : decide ((i : Int) < (s.length : Int)) = true := by simp; omega
      have e5 : decide ((i : Int) ≤ (s.length : Int)) = true := by simp; omega
      have e6 : decide ((0 : Int) ≤ (i : Int)) = true := by simp
      have e7 : decide ((0 : Int) ≤ (f : Int)) = true := by simp
      rw [sl1Cut.s4]
      simp only [size_mkS, e1, e2, e3, e4, e5, e6, e7, rl, Int.toNat_natCast, byteAt_lt s i hi, extract_mkS, hw, Bool.and_self, cond_true, sn]
      by_cases h : s[i] = b
      · have hbe : (((s[i].toNat : Nat) : Int) == ((b.toNat : Nat) : Int)) = true := by simp [h]
        rw [hbe, cond_true, ih (i + 1) _ (by omega) (by simp; omega)]
        have : cutAt b (s.drop i) = [] :: cutAt b (s.drop (i + 1)) := by rw [hb, cutAt, if_pos h]
        rw [this]
        have h0 : (s.take (i + 1)).drop (i + 1) = [] := by simp
        rw [h0]
        simp only [glue, List.headD_cons, List.tail_cons, List.append_nil, List.nil_append, List.append_assoc, List.cons_append]
        rw [← cutAt_cons]
      · have hbe : (((s[i].toNat : Nat) : Int) == ((b.toNat : Nat) : Int)) = false := by
          refine beq_eq_false_iff_ne.2 fun h1 => h (UInt8.toNat_inj.1 (by omega))
        rw [hbe, cond_false, ih f acc (by omega) ha]
        have : cutAt b (s.drop i) = (s[i] :: (cutAt b (s.drop (i + 1))).headD []) :: (cutAt b (s.drop (i + 1))).tail := by rw [hb, cutAt, if_neg h]
        rw [this]
        have h1 : (s.take (i + 1)).drop f = (s.take i).drop f ++ [s[i]] := by
          rw [take_snoc s i hi, List.drop_append_of_le_length (by simp; omega)]
        rw [h1]
        simp [glue]
  rw [sl1Cut.e]
  have := key 0 (by omega) 0 [] (by omega) (by simp)
  have h0 : (sl1Cut.L4 (mkS s) b.toNat 0 0 []).bind sl1Cut.A4 = _ := this
  rw [h0]
  simp only [glue, List.take_zero, List.drop_zero, List.drop_nil, List.nil_append]
  rw [← cutAt_cons]
end Go.PVx
/- The text of nodes, read again. -/
namespace Go.PVx
open Go.PV Go.Proofs

theorem cutAt_at (b : UInt8) (y : Str) : ∀ x : Str, b ∉ x → cutAt b (x ++ b :: y) = x :: cutAt b y
  | [], _ => by simp [cutAt]
  | c :: x, h => by
    have hc : c ≠ b := fun e => h (by simp [e])
    have ih := cutAt_at b y x (fun e => h (by simp [e]))
    rw [List.cons_append, cutAt, if_neg hc, ih]
    rfl
theorem cutAt_no (b : UInt8) : ∀ x : Str, b ∉ x → cutAt b x = [x]
  | [], _ => rfl
  | c :: x, h => by
    have hc : c ≠ b := fun e => h (by simp [e])
    have ih := cutAt_no b x (fun e => h (by simp [e]))
    rw [cutAt, if_neg hc, ih]
    rfl
theorem cutAt_list (b : UInt8) : ∀ l : List Str, (∀ x ∈ l, b ∉ x) → cutAt b (l.map fun x => x ++ [b]).flatten = l ++ [[]]
  | [], _ => rfl
  | x :: l, h => by
    have ih := cutAt_list b l fun y hy => h y (by simp [hy])
    rw [List.map_cons, List.flatten_cons, List.append_assoc, List.singleton_append, cutAt_at b _ x (h x (by simp)), ih]
    rfl
/-- A path's text at its slashes. -/
theorem cutAt_tail : ∀ p : List Str, p ≠ [] → (∀ x ∈ p, (47 : UInt8) ∉ x) → cutAt 47 (Lib.joinTail [47] p) = [] :: p
  | [], h, _ => absurd rfl h
  | [x], _, h => by
    have : Lib.joinTail [47] [x] = [] ++ 47 :: x := by simp [Lib.joinTail]
    rw [this, cutAt_at 47 x [] (by simp), cutAt_no 47 x (h x (by simp))]
  | x :: y :: p, _, h => by
    have ih := cutAt_tail (y :: p) (by simp) fun z hz => h z (by simp only [List.mem_cons] at hz ⊢; exact .inr hz)
    have e1 : Lib.joinTail [47] (x :: y :: p) = [] ++ 47 :: (x ++ Lib.joinTail [47] (y :: p)) := by simp [Lib.joinTail]
    have e2 : Lib.joinTail [47] (y :: p) = 47 :: (y ++ Lib.joinTail [47] p) := by simp [Lib.joinTail]
    have e3 : cutAt 47 (y ++ Lib.joinTail [47] p) = y :: p := by
      have := ih
      rw [e2] at this
      rw [cutAt, if_pos rfl] at this
      exact (List.cons.inj this).2
    rw [e1, cutAt_at 47 _ [] (by simp), e2, cutAt_at 47 _ x (h x (by simp)), e3]

/-! ### names, numbers -/
theorem okc_ne {b : UInt8} (h : okc b = true) : b ≠ 10 ∧ b ≠ 32 ∧ b ≠ 47 := by
  refine ⟨?_, ?_, ?_⟩ <;> (rintro rfl; simp [okc] at h)
theorem name_no {s : Str} (h : nameB s = true) : (10 : UInt8) ∉ s ∧ (32 : UInt8) ∉ s ∧ (47 : UInt8) ∉ s := by
  simp only [nameB, Bool.and_eq_true, List.all_eq_true] at h
  exact ⟨fun e => (okc_ne (h.1 _ e)).1 rfl, fun e => (okc_ne (h.1 _ e)).2.1 rfl, fun e => (okc_ne (h.1 _ e)).2.2 rfl⟩
theorem dec_digit (n : Nat) : ∀ c ∈ dec n, 48 ≤ c.toNat ∧ c.toNat ≤ 57 := by
  induction n using Nat.strongRecOn with
  | _ n ih =>
    intro c hc
    unfold dec at hc ih
    rw [Lib.decDigits] at hc
    split at hc
    · rename_i h
      simp only [List.mem_singleton] at hc
      subst hc
      rw [UInt8.toNat_ofNat']
      omega
    · rename_i h
      rcases List.mem_append.1 hc with h1 | h1
      · exact ih (n / 10) (by omega) c h1
      · simp only [List.mem_singleton] at h1
        subst h1
        rw [UInt8.toNat_ofNat']
        omega
theorem dec_no (n : Nat) : (10 : UInt8) ∉ dec n ∧ (32 : UInt8) ∉ dec n ∧ (47 : UInt8) ∉ dec n := by
  refine ⟨fun h => ?_, fun h => ?_, fun h => ?_⟩ <;> (have := dec_digit n _ h; simp at this)
theorem tail_no (b : UInt8) (hb : b ≠ 47) : ∀ p : List Str, (∀ x ∈ p, b ∉ x) → b ∉ Lib.joinTail [47] p
  | [], _ => by simp [Lib.joinTail]
  | x :: p, h => by
    have ih := tail_no b hb p fun y hy => h y (by simp [hy])
    have : Lib.joinTail [47] (x :: p) = 47 :: (x ++ Lib.joinTail [47] p) := by simp [Lib.joinTail]
    rw [this]
    simp only [List.mem_cons, List.mem_append, not_or]
    exact ⟨hb, h x (by simp), ih⟩

/-! ### the reference's reading of a number -/
def valS : Int → Str → Int
  | a, [] => a
  | a, c :: r => if (c.toNat : Int) < 48 ∨ (c.toNat : Int) > 57 then -1 else valS (a * 10 + ((c.toNat : Int) - 48)) r
def numS (s : Str) : Int := if inB s.length 1 5 = false ∨ (1 < s.length ∧ s.headD 0 = 48) then -1 else valS 0 s
theorem sl21In_ok (a b c : Int) : sl21In [vI a, vI b, vI c] [] = rB (inB a b c) := by
  rw [sl21In.e]
  unfold inB
  by_cases h1 : b ≤ a <;> by_cases h2 : a ≤ c <;> simp [h1, h2]
theorem sl22Num_ok (s : Str) (hs : s.length ≤ 1048576) : sl22Num [vS s] [] = rI (numS s) := by
  rw [sl22Num.e, size_mkS, sl21In_ok]
  unfold numS
  cases h5 : inB s.length 1 5 with
  | false => simp [sl22Num.p2]
  | true =>
    rw [inB_iff] at h5
    have key : ∀ k, k ≤ s.length → ∀ a : Int, 0 ≤ a → a < 10 ^ k → (sl22Num.L5 (mkS s) a (k : Int)).bind sl22Num.A5 = rI (valS a (s.drop k)) := by
      refine up s.length ?_ fun k hk ih => ?_
      · intro a _ _
        rw [sl22Num.s5]; simp [sl22Num.a5x5, valS]
      · intro a h0 h1
        have e4 : decide ((k : Int) < (s.length : Int)) = true := by simp; omega
        have e6 : decide ((0 : Int) ≤ (k : Int)) = true := by simp
        have hp : (10 : Int) ^ k ≤ 10 ^ 5 := by
          have : k ≤ 5 := by omega
          have := Nat.pow_le_pow_right (show 0 < 10 by omega) this
          exact_mod_cast this
        rw [sl22Num.s5, drop_cons s k hk, valS]
        have hc := s[k].toNat_lt
        simp only [size_mkS, e4, e6, Bool.and_self, cond_true, Int.toNat_natCast, byteAt_lt s k hk, sl22Num.p8, sl22Num.p9, wrap_nat k (by omega)]
        by_cases h2 : (s[k].toNat : Int) < 48
        · simp [h2, sl22Num.a5q5]
        · by_cases h3 : (s[k].toNat : Int) > 57
          · simp [h2, h3, sl22Num.a5q5]
          · have w1 : IntKind.u8.wrap ((s[k].toNat : Int) - 48) = (s[k].toNat : Int) - 48 := by rw [IntKind.wrap_u8]; omega
            have w2 : IntKind.i64.wrap (a * 10) = a * 10 := wrap_in _ (by omega)
            have w3 : IntKind.i64.wrap ((s[k].toNat : Int) - 48) = (s[k].toNat : Int) - 48 := wrap_in _ (by omega)
            have w4 : IntKind.i64.wrap (a * 10 + ((s[k].toNat : Int) - 48)) = a * 10 + ((s[k].toNat : Int) - 48) := wrap_in _ (by omega)
            have ih := ih (a * 10 + ((s[k].toNat : Int) - 48)) (by omega) (by rw [Int.pow_succ]; omega)
            rw [show ((k + 1 : Nat) : Int) = (k : Int) + 1 from by omega] at ih
            simp [h2, h3, w1, w2, w3, w4, ih]
    have k0 := key 0 (by omega) 0 (by omega) (by simp)
    have k0 : (sl22Num.L5 (mkS s) 0 0).bind sl22Num.A5 = rI (valS 0 s) := k0
    by_cases h1 : 1 < s.length
    · have hb : byteAt (mkS s) 0 = ((s.headD 0).toNat : Int) := by
        have := byteAt_lt s 0 (by omega)
        rw [this]
        cases s with
        | nil => simp at h1
        | cons c r => rfl
      have h1' : (1 : Int) < (s.length : Int) := by omega
      have h0 : (0 : Int) < (s.length : Int) := by omega
      by_cases h2 : s.headD 0 = 48
      · have h3 : (((s.headD 0).toNat : Int) == 48) = true := by rw [h2]; rfl
        rw [if_pos (.inr ⟨h1, h2⟩)]
        simp only [decide_eq_true (show (s.length : Int) > 1 from h1'), decide_eq_true h0, hb, h3, sl22Num.p2]
        simp
      · have h3 : (((s.headD 0).toNat : Int) == 48) = false := by
          refine beq_eq_false_iff_ne.2 fun h3 => h2 (UInt8.toNat_inj.1 ?_)
          have : (48 : UInt8).toNat = 48 := rfl
          omega
        rw [if_neg (by simp only [Bool.true_eq_false, false_or]; exact fun h => h2 h.2)]
        simp only [decide_eq_true (show (s.length : Int) > 1 from h1'), decide_eq_true h0, hb, h3, sl22Num.p2, sl22Num.p3]
        simp [k0]
    · have h1' : ¬ (s.length : Int) > 1 := by omega
      rw [if_neg (by simp only [Bool.true_eq_false, false_or]; exact fun h => h1 h.1)]
      simp only [decide_eq_false h1', sl22Num.p2, sl22Num.p3]
      simp [k0]
end Go.PVx
/- Numbers, written and read again. -/
namespace Go.PVx
open Go.PV Go.Proofs

def digN (a : Nat) (l : Str) : Nat := l.foldl (fun a c => a * 10 + (c.toNat - 48)) a
theorem dec_small {n : Nat} (h : n < 10) : dec n = [UInt8.ofNat (48 + n)] := by
  unfold dec; rw [Lib.decDigits, dif_pos h]
theorem dec_big {n : Nat} (h : ¬ n < 10) : dec n = dec (n / 10) ++ [UInt8.ofNat (48 + n % 10)] := by
  show Lib.decDigits n = Lib.decDigits (n / 10) ++ _
  rw [Lib.decDigits, dif_neg h]
theorem digN_dec (n : Nat) : digN 0 (dec n) = n := by
  induction n using Nat.strongRecOn with
  | _ n ih =>
    by_cases h : n < 10
    · rw [dec_small h]
      simp only [digN, List.foldl_cons, List.foldl_nil, UInt8.toNat_ofNat']
      omega
    · have := ih (n / 10) (by omega)
      rw [dec_big h]
      unfold digN at this ⊢
      rw [List.foldl_append, this]
      simp only [List.foldl_cons, List.foldl_nil, UInt8.toNat_ofNat']
      omega
theorem valS_dig : ∀ (l : Str) (a : Nat), (∀ c ∈ l, 48 ≤ c.toNat ∧ c.toNat ≤ 57) → valS (a : Int) l = (digN a l : Nat)
  | [], a, _ => rfl
  | c :: l, a, h => by
    have hc := h c (by simp)
    have ih := valS_dig l (a * 10 + (c.toNat - 48)) fun d hd => h d (by simp [hd])
    rw [valS, if_neg (by omega)]
    have e : (a : Int) * 10 + ((c.toNat : Int) - 48) = ((a * 10 + (c.toNat - 48) : Nat) : Int) := by omega
    rw [e, ih]
    rfl
theorem dec_len5 (n : Nat) (h : n ≤ 99999) : 1 ≤ (dec n).length ∧ (dec n).length ≤ 5 := by
  have key : ∀ (k m : Nat), m < 10 ^ (k + 1) → 1 ≤ (dec m).length ∧ (dec m).length ≤ k + 1 := by
    intro k
    induction k with
    | zero => intro m hm; rw [dec_small (by simpa using hm)]; simp
    | succ k ih =>
      intro m hm
      by_cases h10 : m < 10
      · rw [dec_small h10]; simp
      · have := ih (m / 10) (by rw [Nat.pow_succ] at hm; omega)
        rw [dec_big h10]
        simp only [List.length_append, List.length_cons, List.length_nil]
        omega
  exact key 4 n (by omega)
theorem dec_head (n : Nat) (h : 1 ≤ n) : (dec n).headD 0 ≠ 48 := by
  induction n using Nat.strongRecOn with
  | _ n ih =>
    by_cases h10 : n < 10
    · rw [dec_small h10]
      intro e
      have e := congrArg UInt8.toNat e
      simp only [List.headD_cons, UInt8.toNat_ofNat'] at e
      have : (48 : UInt8).toNat = 48 := rfl
      omega
    · have h1 := ih (n / 10) (by omega) (by omega)
      rw [dec_big h10]
      cases hd : dec (n / 10) with
      | nil =>
        rw [hd] at h1
        have : 1 ≤ (dec (n / 10)).length := by
          unfold dec
          rw [Lib.decDigits]
          split <;> simp
        rw [hd] at this
        simp at this
      | cons c r => rw [hd] at h1; exact h1
theorem numS_dec (n : Nat) (h : 1 ≤ n) (h2 : n ≤ 10000) : numS (dec n) = n := by
  have hl := dec_len5 n (by omega)
  unfold numS
  rw [if_neg, ← Int.natCast_zero, valS_dig (dec n) 0 (dec_digit n), digN_dec]
  simp only [not_or, not_and]
  refine ⟨?_, fun _ => dec_head n h⟩
  have : inB ((dec n).length : Int) 1 5 = true := by rw [inB_iff]; omega
  simp [this]
theorem parse_dig : ∀ (l : Str) (a : Nat), (∀ c ∈ l, 48 ≤ c.toNat ∧ c.toNat ≤ 57) → (a + 1) * 10 ^ l.length ≤ 10 ^ 18 → Lib.parseUint10 a l = .ok (digN a l) ∧ digN a l < 10 ^ 18
  | [], a, _, h => ⟨rfl, by simp only [digN, List.foldl_nil, List.length_nil, Nat.pow_zero, Nat.mul_one] at h ⊢; omega⟩
  | c :: l, a, hd, h => by
    have hc := hd c (by simp)
    have h10 : 1 ≤ 10 ^ l.length := Nat.pow_pos (by omega)
    rw [List.length_cons, Nat.pow_succ] at h
    have h3 : (a * 10 + (c.toNat - 48) + 1) * 10 ^ l.length ≤ 10 ^ 18 := by
      refine Nat.le_trans (Nat.mul_le_mul_right _ (show a * 10 + (c.toNat - 48) + 1 ≤ (a + 1) * 10 by omega)) ?_
      rw [Nat.mul_assoc, Nat.mul_comm 10]; exact h
    have h4 : a * 10 + (c.toNat - 48) + 1 ≤ 10 ^ 18 := by
      refine Nat.le_trans ?_ h3
      exact Nat.le_mul_of_pos_right _ h10
    obtain ⟨h5, h6⟩ := parse_dig l (a * 10 + (c.toNat - 48)) (fun d hd' => hd d (by simp [hd'])) h3
    have e : digN a (c :: l) = digN (a * 10 + (c.toNat - 48)) l := rfl
    rw [e, Lib.parseUint10, if_pos hc, if_neg (by omega), if_neg (by omega)]
    exact ⟨h5, h6⟩
theorem atoiN_dec (n : Nat) (h : n ≤ 99999) : atoiN (dec n) = n := by
  have hl := dec_len5 n h
  have hd := dec_digit n
  obtain ⟨h1, h2⟩ := parse_dig (dec n) 0 hd (by
    refine Nat.le_trans (Nat.mul_le_mul_left _ (Nat.pow_le_pow_right (by omega) (show (dec n).length ≤ 18 by omega))) ?_
    omega)
  rw [digN_dec] at h1
  cases hx : dec n with
  | nil => rw [hx] at hl; simp at hl
  | cons c r =>
    have hc := hd c (by rw [hx]; simp)
    have h3 : Lib.atoiAll (c :: r) = .ok (n : Int) := by
      rw [hx] at h1
      rw [Lib.atoiAll_plain c r (by omega) (by omega)]
      have hm : Lib.parseMag (c :: r) = .ok n := by
        unfold Lib.parseMag
        rw [if_neg (by simp)]
        exact h1
      rw [hm]
      simp only [Lib.signless]
      rw [if_neg (by omega)]
    unfold atoiN
    rw [h3]
end Go.PVx
/- Both readings of nodes; they agree. -/
namespace Go.PVx
open Go.PV Go.Proofs

def cutSp (s : Str) : Str × Str := ((Lib.cut s [32]).1, (Lib.cut s [32]).2.1)
theorem index_at (b : UInt8) (y : Str) : ∀ x : Str, b ∉ x → Lib.index (x ++ b :: y) [b] = x.length
  | [], _ => index_one_eq b y
  | c :: x, h => by
    have hc : c ≠ b := fun e => h (by simp [e])
    have ih := index_at b y x (fun e => h (by simp [e]))
    rw [List.cons_append, index_one_ne b c _ hc, ih]
    have : ((x.length : Int) == -1) = false := beq_eq_false_iff_ne.2 (by omega)
    rw [this]
    simp
theorem cutSp_at (x y : Str) (h : (32 : UInt8) ∉ x) : cutSp (x ++ 32 :: y) = (x, y) := by
  unfold cutSp Lib.cut
  rw [index_at 32 y x h, if_pos (by omega)]
  simp
def pathI (s : Str) : List Str := if Lib.trimPrefix s [47] = [] then [] else cutAt 47 (Lib.trimPrefix s [47])
theorem pathI_pt (p : List Str) (h0 : p ≠ []) (hn : ∀ x ∈ p, nameB x = true) : pathI (pt p) = p := by
  have h1 := cutAt_tail p h0 fun x hx => (name_no (hn x hx)).2.2
  have h2 : pt p = Lib.joinTail [47] p := by unfold pt; rw [if_neg h0]
  obtain ⟨t, ht⟩ : ∃ t, Lib.joinTail [47] p = 47 :: t := by
    cases p with
    | nil => exact absurd rfl h0
    | cons x r => exact ⟨x ++ Lib.joinTail [47] r, by simp [Lib.joinTail]⟩
  rw [ht, cutAt, if_pos rfl] at h1
  have h1 := (List.cons.inj h1).2
  have h3 : Lib.trimPrefix (pt p) [47] = t := by
    rw [h2, ht]
    simp [Lib.trimPrefix, Lib.hasPrefix]
  unfold pathI
  rw [h3, if_neg, h1]
  intro e
  rw [e] at h1
  have h4 : p = [[]] := h1.symm
  have := hn [] (by rw [h4]; simp)
  simp [nameB, inB] at this

def parseI : List Str → Nodes
  | [] => ⟨0, []⟩
  | l :: ls => ⟨atoiN (cutSp l).2, ls.map fun l => ⟨atoiN (cutSp l).1, pathI (cutSp l).2⟩⟩
def parseS : Nat → Int → List NodeOf → List Str → Option Nodes
  | _, nx, acc, [] => some ⟨nx, acc⟩
  | i, nx, acc, l :: ls =>
    if (cutAt 32 l).length ≠ 2 ∨ 30 < i then none
    else if i = 0 then parseS (i + 1) (numS ((cutAt 32 l).getD 1 [])) acc ls
    else parseS (i + 1) nx (acc ++ [⟨numS ((cutAt 32 l).getD 0 []), (cutAt 47 ((cutAt 32 l).getD 1 [])).drop 1⟩]) ls
def linesT (s : Str) : List Str := (cutAt 10 s).dropLast
def RI (s : Str) : Option Nodes := if s ≠ [] ∧ nodesText (parseI (linesT s)) = s then some (parseI (linesT s)) else none
def RS (s : Str) : Option Nodes := match parseS 0 0 [] (linesT s) with
  | some n => if okB n = true ∧ nodesText n = s then some n else none
  | none => none

theorem nodesB_paths (nx : Int) : ∀ (l pre : List NodeOf), nodesB nx pre l = true → ∀ a ∈ l, pathB 1 a.path = true
  | [], _, _, a, ha => by simp at ha
  | x :: l, pre, h, a, ha => by
    simp only [nodesB, Bool.and_eq_true] at h
    obtain ⟨_, h2, _, _, h3⟩ := h
    rcases List.mem_cons.1 ha with rfl | ha
    · exact h2
    · exact nodesB_paths nx l _ h3 a ha
theorem pathB_spec {p : List Str} (h : pathB 1 p = true) : p ≠ [] ∧ ∀ x ∈ p, nameB x = true := by
  simp only [pathB, Bool.and_eq_true, List.all_eq_true, inB_iff] at h
  exact ⟨fun e => by rw [e] at h; simp at h, h.1⟩
def lnb (a : NodeOf) : Str := dec a.id.toNat ++ 32 :: pt a.path
def hdb (n : Nodes) : Str := [110, 101, 120, 116] ++ 32 :: dec n.next.toNat
theorem nodesText_lines (n : Nodes) (h : okB n = true) : nodesText n = ((hdb n :: n.list.map lnb).map fun x => x ++ [10]).flatten := by
  unfold nodesText
  rw [h, cond_true]
  simp only [List.map_cons, List.flatten_cons, List.map_map]
  have e1 : hdb n ++ [10] = head5 n := by simp [head5, hdb]
  have e2 : n.list.map line = n.list.map ((fun x => x ++ [10]) ∘ lnb) := List.map_congr_left fun a _ => by simp [line, lnb]
  rw [e1, e2]
theorem ok_all {n : Nodes} (h : okB n = true) : ∀ a ∈ n.list, (1 ≤ a.id ∧ a.id ≤ 10000) ∧ a.path ≠ [] ∧ ∀ x ∈ a.path, nameB x = true := fun a ha => by
  obtain ⟨_, _, _, h4⟩ := okB_spec h
  refine ⟨h4 a ha, pathB_spec ?_⟩
  unfold okB at h
  simp only [Bool.and_eq_true] at h
  exact nodesB_paths _ _ _ h.2 a ha
theorem pt_no (b : UInt8) (hb : b ≠ 47) {p : List Str} (h0 : p ≠ []) (h : ∀ x ∈ p, b ∉ x) : b ∉ pt p := by
  unfold pt
  rw [if_neg h0]
  exact tail_no b hb p h
theorem lines_text (n : Nodes) (h : okB n = true) : linesT (nodesText n) = hdb n :: n.list.map lnb := by
  have ha := ok_all h
  unfold linesT
  rw [nodesText_lines n h, cutAt_list 10, List.dropLast_concat]
  intro x hx
  rcases List.mem_cons.1 hx with rfl | hx
  · simp only [hdb, List.mem_append, List.mem_cons, List.not_mem_nil, or_false, not_or]
    exact ⟨⟨by decide, by decide, by decide, by decide⟩, by decide, (dec_no _).1⟩
  · obtain ⟨a, h1, rfl⟩ := List.mem_map.1 hx
    obtain ⟨_, h2, h3⟩ := ha a h1
    simp only [lnb, List.mem_append, List.mem_cons, not_or]
    exact ⟨(dec_no _).1, by decide, pt_no 10 (by decide) h2 fun y hy => (name_no (h3 y hy)).1⟩
theorem parseI_text (n : Nodes) (h : okB n = true) : parseI (linesT (nodesText n)) = n := by
  obtain ⟨h1, h2, h3, h4⟩ := okB_spec h
  have ha := ok_all h
  rw [lines_text n h]
  have e1 : cutSp (hdb n) = ([110, 101, 120, 116], dec n.next.toNat) := cutSp_at _ _ (by decide)
  have e2 : (n.list.map lnb).map (fun l => (⟨atoiN (cutSp l).1, pathI (cutSp l).2⟩ : NodeOf)) = n.list := by
    rw [List.map_map]
    refine (List.map_congr_left (g := id) fun a hx => ?_).trans (List.map_id _)
    obtain ⟨h5, h6, h7⟩ := ha a hx
    have e3 : cutSp (lnb a) = (dec a.id.toNat, pt a.path) := cutSp_at _ _ (dec_no _).2.1
    have e4 : ((a.id.toNat : Nat) : Int) = a.id := by omega
    simp only [Function.comp_def, e3, atoiN_dec a.id.toNat (by omega), pathI_pt a.path h6 h7, e4, id]
  have e4 : ((n.next.toNat : Nat) : Int) = n.next := by omega
  simp only [parseI, e1, e2, atoiN_dec n.next.toNat (by omega), e4]
theorem parseS_list (nx : Int) : ∀ (l acc : List NodeOf) (i : Nat), 1 ≤ i → i + l.length ≤ 31 → (∀ a ∈ l, (1 ≤ a.id ∧ a.id ≤ 10000) ∧ a.path ≠ [] ∧ ∀ x ∈ a.path, nameB x = true) → parseS i nx acc (l.map lnb) = some ⟨nx, acc ++ l⟩
  | [], acc, i, _, _, _ => by simp [parseS]
  | a :: l, acc, i, h1, h2, h => by
    obtain ⟨h5, h6, h7⟩ := h a (by simp)
    have ih := parseS_list nx l (acc ++ [a]) (i + 1) (by omega) (by simp at h2; omega) fun x hx => h x (by simp [hx])
    have e3 : cutAt 32 (lnb a) = [dec a.id.toNat, pt a.path] := by
      unfold lnb
      rw [cutAt_at 32 _ _ (dec_no _).2.1, cutAt_no 32 _ (pt_no 32 (by decide) h6 fun y hy => (name_no (h7 y hy)).2.1)]
    have e4 : ((a.id.toNat : Nat) : Int) = a.id := by omega
    have e5 : (cutAt 47 (pt a.path)).drop 1 = a.path := by
      have : pt a.path = Lib.joinTail [47] a.path := by unfold pt; rw [if_neg h6]
      rw [this, cutAt_tail a.path h6 fun x hx => (name_no (h7 x hx)).2.2]
      rfl
    rw [List.map_cons, parseS, e3]
    rw [if_neg (by simp at h2 ⊢; omega), if_neg (by omega)]
    simp only [List.getD_cons_zero, List.getD_cons_succ, e5, numS_dec a.id.toNat (by omega) (by omega), e4]
    have : (⟨a.id, a.path⟩ : NodeOf) = a := rfl
    rw [this, ih]
    simp
theorem parseS_text (n : Nodes) (h : okB n = true) : parseS 0 0 [] (linesT (nodesText n)) = some n := by
  obtain ⟨h1, h2, h3, h4⟩ := okB_spec h
  rw [lines_text n h, parseS]
  have e3 : cutAt 32 (hdb n) = [[110, 101, 120, 116], dec n.next.toNat] := by
    unfold hdb
    rw [cutAt_at 32 _ _ (by decide), cutAt_no 32 _ (dec_no _).2.1]
  have e4 : ((n.next.toNat : Nat) : Int) = n.next := by omega
  rw [e3, if_neg (by simp), if_pos rfl]
  simp only [List.getD_cons_zero, List.getD_cons_succ, numS_dec n.next.toNat (by omega) (by omega), e4]
  rw [parseS_list n.next n.list [] 1 (by omega) (by omega) (ok_all h)]
  rfl
theorem text_ok {n : Nodes} {s : Str} (h : nodesText n = s) (hs : s ≠ []) : okB n = true := by
  unfold nodesText at h
  cases hk : okB n with
  | true => rfl
  | false => rw [hk, cond_false] at h; exact absurd h.symm hs
theorem text_ne {n : Nodes} (h : okB n = true) : nodesText n ≠ [] := by
  rw [nodesText_lines n h]
  simp [hdb]
/-- Both read the same. -/
theorem RI_RS (s : Str) : RI s = RS s := by
  unfold RI
  split
  · rename_i h
    have hk := text_ok h.2 h.1
    have h2 := parseS_text _ hk
    rw [h.2] at h2
    unfold RS
    rw [h2]
    simp only [hk, h.2, and_self, if_true]
  · rename_i h
    unfold RS
    split
    · rename_i n hn
      split
      · rename_i h2
        have h3 := parseI_text n h2.1
        rw [h2.2] at h3
        refine absurd ⟨?_, by rw [h3]; exact h2.2⟩ h
        rw [← h2.2]
        exact text_ne h2.1
      · rfl
    · rfl
end Go.PVx
/- The program's reading of nodes. -/
namespace Go.PVx
open Go.PV Go.Proofs

/-! ### sizes -/
theorem wL_cut (b : UInt8) : ∀ s : Str, wL List.length (cutAt b s) = s.length + 1
  | [] => rfl
  | c :: s => by
    have ih := wL_cut b s
    unfold cutAt
    split
    · simp only [wL, ih, List.length_nil, List.length_cons]; omega
    · rw [cutAt_cons b s] at ih
      simp only [wL, List.length_cons] at ih ⊢
      omega
theorem wL_dropLast {α : Type} (w : α → Nat) : ∀ l : List α, wL w l.dropLast ≤ wL w l - 1
  | [] => by simp [wL]
  | [x] => by simp [wL]
  | x :: y :: l => by
    have ih := wL_dropLast w (y :: l)
    simp only [List.dropLast_cons_cons, wL] at ih ⊢
    omega
theorem wL_lines (s : Str) : wL List.length (linesT s) ≤ s.length := by
  have h1 := wL_cut 10 s
  have h2 := wL_dropLast List.length (cutAt 10 s)
  unfold linesT
  omega
theorem oP_of {p : List Str} (h : wP p ≤ 1048576) : oP p := by
  unfold wP at h
  refine ⟨?_, fun x hx => ?_⟩
  · have := wL_len List.length p; omega
  · have := wL_mem List.length p x hx
    unfold sS
    omega
theorem oN_of {n : Nodes} (h : wNs n ≤ 1048576) : sL oN n.list := by
  unfold wNs at h
  refine ⟨?_, fun x hx => ?_⟩
  · have := wL_len wN n.list; omega
  · have := wL_mem wN n.list x hx
    unfold wN at this h
    exact oP_of (by omega)
def nodeI (l : Str) : NodeOf := ⟨atoiN (cutSp l).1, pathI (cutSp l).2⟩
theorem cutSp_len (l : Str) : (cutSp l).1.length ≤ l.length ∧ ((cutSp l).2 = [] ∨ (cutSp l).2.length + 1 ≤ l.length) := by
  unfold cutSp Lib.cut
  split
  · rename_i h
    have := Lib.index_room l [32] h
    simp only [List.length_take, List.length_drop, List.length_cons, List.length_nil] at this ⊢
    omega
  · exact ⟨Nat.le_refl _, .inl rfl⟩
theorem trim_len (s p : Str) : (Lib.trimPrefix s p).length ≤ s.length := by
  unfold Lib.trimPrefix
  split
  · simp
  · exact Nat.le_refl _
theorem nodeI_w (l : Str) : wN (nodeI l) ≤ l.length := by
  have h1 := trim_len (cutSp l).2 [47]
  unfold wN nodeI pathI wP
  rcases (cutSp_len l).2 with h | h
  · rw [h]
    have : Lib.trimPrefix [] [47] = [] := rfl
    rw [this, if_pos rfl]
    simp [wL]
  · simp only
    split
    · simp [wL]
    · rw [wL_cut]; omega
theorem wL_map_le {α β : Type} (w : β → Nat) (v : α → Nat) (f : α → β) (h : ∀ a, w (f a) ≤ v a) : ∀ l : List α, wL w (l.map f) ≤ wL v l
  | [] => by simp [wL]
  | x :: l => by
    have := wL_map_le w v f h l
    have := h x
    simp only [List.map_cons, wL]
    omega
theorem parseI_w (s : Str) : wNs (parseI (linesT s)) ≤ s.length := by
  have h := wL_lines s
  unfold wNs
  cases hl : linesT s with
  | nil => simp [parseI, wL]
  | cons x ls =>
    rw [hl] at h
    have h2 := wL_map_le wN List.length nodeI nodeI_w ls
    simp only [wL] at h
    show wL wN (ls.map nodeI) ≤ _
    omega

/-! ### the library's -/
theorem strings_Cut_ok (l : Str) (hl : l.length ≤ 1048576) : strings_Cut [vS l, vS [32]] [] = some ⟨[.v (.string (mkS (cutSp l).1)), .v (.string (mkS (cutSp l).2)), .v (.bool (Lib.cut l [32]).2.2)], []⟩ := by
  rw [strings_Cut.ext]
  have e1 : decide ((mkS l).size < 4294967281) = true := by simp; omega
  have h3 : (mkS l).data.toList = l := by simp
  have h4 : (mkS [32]).data.toList = [32] := rfl
  simp only [extCut, e1, cond_true, h3, h4]
  rfl
theorem inumRead_ok (l : Str) (hl : l.length ≤ 1048576) : inumRead [vS l] [] = rI (atoiN l) := by
  have h : strconv_Atoi [vS l] [] = some ⟨[.v (.int .i64 (atoiN l)), .d], []⟩ := by
    rw [strconv_Atoi.ext]
    have e1 : decide ((mkS l).size ≤ 281474976710656) = true := by simp; omega
    have h3 : (mkS l).data.toList = l := by simp
    simp only [extAtoi, e1, cond_true, h3]
  rw [inumRead.e, h]
  rfl
theorem ipathRead_ok (l : Str) (hl : l.length ≤ 1048576) : ipathRead [vS l] [] = some ⟨[.o .deep (eSs (pathI l))], []⟩ := by
  have h : strings_TrimPrefix [vS l, vS [47]] [] = rS (Lib.trimPrefix l [47]) := by
    rw [strings_TrimPrefix.ext]
    have h3 : (mkS l).data.toList = l := by simp
    have h4 : (mkS [47]).data.toList = [47] := rfl
    simp only [extTrimPrefix, h3, h4]
    rfl
  have b1 : (ByteArray.mk #[47]) = mkS [47] := rfl
  have ht := trim_len l [47]
  have hS := strings_Split_ok (Lib.trimPrefix l [47]) 47 (by omega)
  rw [ipathRead.e, b1, h]
  unfold pathI
  by_cases h0 : Lib.trimPrefix l [47] = []
  · simp [h0]
  · have hi : (Lib.trimPrefix l [47]).isEmpty = false := by cases h : Lib.trimPrefix l [47] with
      | nil => exact absurd h h0
      | cons x r => rfl
    simp [h0, hS, hi, fitsCells, TC.es]

/-! ### the loop -/
def finI (s : Str) (n : Nodes) : Option Res := if s ≠ [] ∧ nodesText n = s then some ⟨[.v (.int .i64 n.next), .o .deep (n.list.map eN), .v (.bool true)], []⟩ else some ⟨[.v (.int .i64 0), .o .deep [], .v (.bool false)], []⟩
theorem finI_ok (s : Str) (n : Nodes) (hw : wNs n ≤ 1048576) : iNodesRead.A3 (iNodesRead.x3 (mkS s) 0 [] n.next (n.list.map eN)) = finI s n := by
  rw [iNodesRead.a3x3, iNodesWrite_ok n (oN_of hw) hw]
  unfold finI
  by_cases h0 : s = []
  · simp [h0, iNodesRead.p11]
  · by_cases h1 : nodesText n = s
    · have hb : (s == []) = false := beq_eq_false_iff_ne.2 h0
      simp [h0, h1, hb, iNodesRead.p11]
    · have hb : (s == []) = false := beq_eq_false_iff_ne.2 h0
      have hc : (nodesText n == s) = false := beq_eq_false_iff_ne.2 h1
      simp [h0, h1, hb, hc, iNodesRead.p11]
theorem rl2 (l : List NodeOf) : rowsLen 2 (l.map eN) = true := by simp [rowsLen, eN]
theorem iNodesRead_loop (s : Str) (ls : List Str) (hls : wL List.length ls ≤ 1048576) (nx : Int) : ∀ k, k ≤ ls.length → 1 ≤ k → ∀ acc : List NodeOf, acc.length ≤ k →
    (iNodesRead.L3 (mkS s) (eSs ls) ls.length (k : Int) 0 [] nx (acc.map eN)).bind iNodesRead.A3 = iNodesRead.A3 (iNodesRead.x3 (mkS s) 0 [] nx ((acc ++ (ls.drop k).map nodeI).map eN)) := by
  have hll := wL_len List.length ls
  refine up ls.length ?_ fun k hk ih => ?_
  · intro _ acc _
    rw [iNodesRead.s3]; simp
  · intro h1 acc ha
    have hm := wL_mem List.length ls _ (List.getElem_mem hk)
    have hc := strings_Cut_ok ls[k] (by omega)
    have hcl := cutSp_len ls[k]
    have hn := inumRead_ok (cutSp ls[k]).1 (by omega)
    have hp := ipathRead_ok (cutSp ls[k]).2 (by rcases hcl.2 with h | h; rw [h]; simp; omega)
    have b1 : (ByteArray.mk #[32]) = mkS [32] := rfl
    have e0 : decide ((k : Int) < (ls.length : Int)) = true := by simp; omega
    have e1 : decide (0 ≤ (k : Int)) = true := by simp
    have e2 : ((k : Int) == 0) = false := beq_eq_false_iff_ne.2 (by omega)
    have e3 : decide (((acc.map eN).length + 1) * 33 ≤ 70368744177664) = true := by simp; omega
    have ih := ih (by omega) (acc ++ [nodeI ls[k]]) (by simp; omega)
    rw [iNodesRead.s3]
    have e4 : acc.map eN ++ [[D.v (.int .i64 (atoiN (cutSp ls[k]).1)), D.s (eSs (pathI (cutSp ls[k]).2))]] = (acc ++ [nodeI ls[k]]).map eN := by simp [nodeI, eN]
    simp only [Int.toNat_natCast, str_at hk, wrap_nat k (by omega), List.length_map, e0, e1, Bool.and_self, cond_true, List.getD_cons_zero, List.getD_cons_succ, str_v, b1, hc, Option.bind_some, e2, cond_false, tstr_v, hn, hp]
    simp only [List.length_map] at e3
    simp only [rl2, e3, Bool.and_self, cond_true, tint_v, TC.es, e4]
    have f1 : fitsCells [R1.str, R1.str, R1.bool] [TC.v (.string (mkS (cutSp ls[k]).1)), TC.v (.string (mkS (cutSp ls[k]).2)), TC.v (.bool (Lib.cut ls[k] [32]).2.2)] = true := rfl
    have f2 : ∀ z, fitsCells [R1.int .i64] [TC.v (.int .i64 z)] = true := fun _ => rfl
    have f3 : ∀ z, fitsCells [R1.own .deep] [TC.o .deep z] = true := fun _ => rfl
    have f4 : decide (([D.v (Value.string (mkS ls[k]))] : List D).length = 1) = true := rfl
    have f5 : fitsRow [CK.str] [D.v (Value.string (mkS ls[k]))] 0 = true := rfl
    have f6 : decide (1 ≤ ([D.v (Value.string (mkS ls[k]))] : List D).length) = true := rfl
    simp only [f1, f2, f3, f4, f5, f6, Bool.and_self, cond_true]
    rw [ih, drop_cons ls k hk, List.map_cons, List.append_assoc, List.singleton_append]
theorem iNodesRead_ok (s : Str) (hs : s.length ≤ 1048576) : iNodesRead [vS s] [] = finI s (parseI (linesT s)) := by
  have hw := wL_lines s
  have hpw := parseI_w s
  have hll := wL_len List.length (linesT s)
  rw [iNodesRead.e, ilinesOf_ok s hs]
  have h0 : (iNodesRead.L3 (mkS s) (eSs (linesT s)) ((linesT s).length : Nat) 0 0 [] 0 []).bind iNodesRead.A3 = finI s (parseI (linesT s)) := by
    rw [← finI_ok s _ (by omega)]
    cases hl : linesT s with
    | nil => rw [iNodesRead.s3]; simp [parseI]
    | cons l ls =>
      rw [hl] at hw hll
      have hm := wL_mem List.length (l :: ls) l (by simp)
      have hc := strings_Cut_ok l (by omega)
      have hcl := cutSp_len l
      have hn := inumRead_ok (cutSp l).2 (by rcases hcl.2 with h | h; rw [h]; simp; omega)
      have b1 : (ByteArray.mk #[32]) = mkS [32] := rfl
      have lp := iNodesRead_loop s (l :: ls) (by omega) (atoiN (cutSp l).2) 1 (by simp) (by omega) [] (by simp)
      rw [iNodesRead.s3]
      have e0 : decide ((0 : Int) < ((l :: ls).length : Int)) = true := by simp
      have hw1 : IntKind.i64.wrap ((0 : Int) + 1) = ((1 : Nat) : Int) := rfl
      have f1 : fitsCells [R1.str, R1.str, R1.bool] [TC.v (.string (mkS (cutSp l).1)), TC.v (.string (mkS (cutSp l).2)), TC.v (.bool (Lib.cut l [32]).2.2)] = true := rfl
      have f2 : ∀ z, fitsCells [R1.int .i64] [TC.v (.int .i64 z)] = true := fun _ => rfl
      have g0 : (eSs (l :: ls)).getD (0 : Int).toNat [] = [D.v (.string (mkS l))] := rfl
      have f5 : fitsRow [CK.str] [D.v (Value.string (mkS l))] 0 = true := rfl
      have e9 : ((0 : Int) == 0) = true := rfl
      have e8 : (eSs (l :: ls)).length = (l :: ls).length := by simp
      simp only [e0, e8, g0, f5, b1, List.getD_cons_zero, List.getD_cons_succ, str_v, hc, Option.bind_some, f1, f2, e9, tstr_v, hn, tint_v, hw1, cond_true, Bool.and_self]
      exact lp
  simp only [Option.bind_some, List.getD_cons_zero, TC.es, List.length_map]
  exact h0
end Go.PVx
/- The reference's reading of nodes. -/
namespace Go.PVx
open Go.PV Go.Proofs

theorem sl33Copy_ok (n : Nodes) (hw : wNs n ≤ 1048576) : sl33Copy [vNs n] [] = some ⟨[.v (.int .i64 n.next), .o .deep (n.list.map eN)], []⟩ := by
  have hll := wL_len wN n.list
  unfold wNs at hw
  have key : ∀ k, k ≤ n.list.length → (sl33Copy.L3 (k : Int) n.next (n.list.map eN) 0 [] n.next ((n.list.take k).map eN)).bind sl33Copy.A3 = some ⟨[.v (.int .i64 n.next), .o .deep (n.list.map eN)], []⟩ := by
    refine up n.list.length ?_ fun k hk ih => ?_
    · rw [sl33Copy.s3]; simp [sl33Copy.a3x3]
    · have hm := wL_mem wN n.list _ (List.getElem_mem hk)
      have hp : n.list[k].path.length ≤ wN n.list[k] := wP_len _
      have e0 : decide ((k : Int) < ((n.list.map eN).length : Int)) = true := by simp; omega
      have e1 : decide (0 ≤ (k : Int)) = true := by simp
      have e2 : decide ((0 + (eSs n.list[k].path).length) * 17 ≤ 70368744177664) = true := by simp; omega
      have e3 : decide ((((n.list.take k).map eN).length + 1) * 33 ≤ 70368744177664) = true := by simp; omega
      have e4 : ∀ a : NodeOf, decide ((eN a).length = 2) = true := fun _ => rfl
      have f1 : ∀ a : NodeOf, fitsRow [CK.int .i64] [D.v (.int .i64 a.id), D.s (eSs a.path)] 0 = true := fun _ => rfl
      have f2 : ∀ a : NodeOf, fitsRow [CK.sl] [D.v (.int .i64 a.id), D.s (eSs a.path)] 1 = true := fun _ => rfl
      have f3 : ∀ a : NodeOf, decide (([D.v (.int .i64 a.id), D.s (eSs a.path)] : List D).length = 2) = true := fun _ => rfl
      have f4 : ∀ a : NodeOf, decide (1 ≤ ([D.v (.int .i64 a.id), D.s (eSs a.path)] : List D).length) = true := fun _ => rfl
      have f5 : ∀ a : NodeOf, decide (2 ≤ ([D.v (.int .i64 a.id), D.s (eSs a.path)] : List D).length) = true := fun _ => rfl
      have rc : ∀ l : List Str, rowsCell false (eSs l) = true := fun l => by simp [rowsCell, eS, cellD, isCell]
      have e5 : (n.list.take k).map eN ++ [[D.v (.int .i64 n.list[k].id), D.s (eSs n.list[k].path)]] = (n.list.take (k + 1)).map eN := by
        rw [take_snoc n.list k hk, List.map_append]; rfl
      rw [sl33Copy.s3]
      simp only [Int.toNat_natCast, node_at hk, wrap_nat k (by omega), e0, e1, e2, f1, f2, f3, f4, f5, rc, rowsLen_eS, rowsLen_eN, e3, Bool.and_self, cond_true, List.getD_cons_zero, List.getD_cons_succ, int_v, es_s, e5]
      exact ih
  rw [sl33Copy.e]
  exact key 0 (by omega)

/-! ### sizes -/
theorem cut2_w {l x y : Str} (h : cutAt 32 l = [x, y]) : x.length + y.length + 1 = l.length := by
  have := wL_cut 32 l
  rw [h] at this
  simp only [wL] at this
  omega
def nodeS (l : Str) : NodeOf := ⟨numS ((cutAt 32 l).getD 0 []), (cutAt 47 ((cutAt 32 l).getD 1 [])).drop 1⟩
theorem wL_drop1 {α : Type} (w : α → Nat) (l : List α) : wL w (l.drop 1) ≤ wL w l := by
  cases l with
  | nil => simp
  | cons x l => simp [wL]
theorem nodeS_w {l : Str} (h : (cutAt 32 l).length = 2) : wN (nodeS l) ≤ l.length := by
  obtain ⟨x, y, hxy⟩ : ∃ x y, cutAt 32 l = [x, y] := by
    match hc : cutAt 32 l, h with
    | [x, y], _ => exact ⟨x, y, rfl⟩
  have h1 := cut2_w hxy
  have h2 := wL_drop1 List.length (cutAt 47 y)
  have h3 := wL_cut 47 y
  unfold wN nodeS wP
  simp only [hxy, List.getD_cons_zero, List.getD_cons_succ]
  omega

/-! ### the loop -/
def finS (s : Str) : Option Nodes → Option Res
  | some n => if okB n = true ∧ nodesText n = s then some ⟨[.v (.int .i64 n.next), .o .deep (n.list.map eN), .v (.bool true)], []⟩ else some ⟨[.v (.int .i64 0), .o .deep [], .v (.bool false)], []⟩
  | none => some ⟨[.v (.int .i64 0), .o .deep [], .v (.bool false)], []⟩
theorem finS_a (s : Str) (n : Nodes) (hw : wNs n ≤ 1048576) : sNodesRead.A4 (sNodesRead.x4 (mkS s) 0 [] n.next (n.list.map eN)) = finS s (some n) := by
  rw [sNodesRead.a4x4, sl33Ok_ok n (oN_of hw), sNodesWrite_ok n (oN_of hw) hw]
  unfold finS
  cases h0 : okB n with
  | false => simp [h0, sNodesRead.p14]
  | true =>
    by_cases h1 : nodesText n = s
    · simp [h0, h1, sNodesRead.p14, sNodesRead.p15, sl33Copy_ok n hw]
    · have hc : (nodesText n == s) = false := beq_eq_false_iff_ne.2 h1
      simp [h0, h1, hc, sNodesRead.p14]
theorem finS_b (s : Str) (n : Nodes) (hw : wNs n ≤ 1048576) : sNodesRead.A4 (sNodesRead.x4b (mkS s) 0 [] n.next (n.list.map eN)) = finS s (some n) := by
  rw [sNodesRead.a4x4b, sl33Ok_ok n (oN_of hw), sNodesWrite_ok n (oN_of hw) hw]
  unfold finS
  cases h0 : okB n with
  | false => simp [h0, sNodesRead.p14b]
  | true =>
    by_cases h1 : nodesText n = s
    · simp [h0, h1, sNodesRead.p14b, sNodesRead.p15b, sl33Copy_ok n hw]
    · have hc : (nodesText n == s) = false := beq_eq_false_iff_ne.2 h1
      simp [h0, h1, hc, sNodesRead.p14b]
theorem nthC {s : Str} {i : Nat} (h : i < (linesT s).length) : (eSs (cutAt 10 s)).getD i [] = [D.v (.string (mkS (linesT s)[i]))] := by
  have hl : (linesT s).length = (cutAt 10 s).length - 1 := by simp [linesT]
  have h2 : i < (cutAt 10 s).length := by omega
  rw [getD_map eS (cutAt 10 s) i h2]
  have : (linesT s)[i] = (cutAt 10 s)[i] := by simp [linesT]
  rw [this]
  rfl
theorem lenC (s : Str) : (cutAt 10 s).length = (linesT s).length + 1 := by
  have := cutAt_pos 10 s
  simp [linesT]
  omega
theorem cut32 (l : Str) (h : l.length ≤ 1048576) : sl1Cut [vS l, .one (.v (.int .u8 32))] [] = some ⟨[.o .deep (eSs (cutAt 32 l))], []⟩ := sl1Cut_ok l 32 h
theorem cut47 (l : Str) (h : l.length ≤ 1048576) : sl1Cut [vS l, .one (.v (.int .u8 47))] [] = some ⟨[.o .deep (eSs (cutAt 47 l))], []⟩ := sl1Cut_ok l 47 h
theorem sNodesRead_loop (s : Str) (nx : Int) (hs : s.length ≤ 1048576) : ∀ k, k ≤ (linesT s).length → 1 ≤ k → ∀ acc : List NodeOf, acc.length ≤ k → wL wN acc + wL List.length ((linesT s).drop k) ≤ 1048576 →
    (sNodesRead.L4b (mkS s) (k : Int) 0 [] (eSs (cutAt 10 s)) nx (acc.map eN)).bind sNodesRead.A4 = finS s (parseS k nx acc ((linesT s).drop k)) := by
  have hls := wL_lines s
  have hll := wL_len List.length (linesT s)
  have hlc := lenC s
  refine up (linesT s).length ?_ fun k hk ih => ?_
  · intro _ acc _ hw
    have e0 : decide (IntKind.i64.wrap (((linesT s).length : Int) + 1) < ((eSs (cutAt 10 s)).length : Int)) = false := by
      rw [wrap_nat _ (by omega)]
      exact decide_eq_false (by simp only [List.length_map, hlc]; omega)
    rw [sNodesRead.s4b, e0, cond_false, Option.bind_some, List.drop_length, parseS]
    rw [List.drop_length] at hw
    exact finS_b s ⟨nx, acc⟩ (by unfold wNs; simp only [wL] at hw; omega)
  · intro h1 acc ha hw
    have hm := wL_mem List.length (linesT s) _ (List.getElem_mem hk)
    have hd := drop_cons (linesT s) k hk
    rw [hd] at hw ⊢
    simp only [wL] at hw
    have e0 : decide (IntKind.i64.wrap ((k : Int) + 1) < ((cutAt 10 s).length : Int)) = true := by
      rw [wrap_nat _ (by omega)]
      exact decide_eq_true (by omega)
    have e1 : decide ((k : Int) < ((cutAt 10 s).length : Int)) = true := decide_eq_true (by omega)
    have e2 : decide (0 ≤ (k : Int)) = true := by simp
    have f4 : ∀ l : Str, decide (([D.v (Value.string (mkS l))] : List D).length = 1) = true := fun _ => rfl
    have f5 : ∀ l : Str, fitsRow [CK.str] [D.v (Value.string (mkS l))] 0 = true := fun _ => rfl
    have f6 : ∀ l : Str, decide (1 ≤ ([D.v (Value.string (mkS l))] : List D).length) = true := fun _ => rfl
    have f3 : ∀ z, fitsCells [R1.own .deep] [TC.o .deep z] = true := fun _ => rfl
    have f2 : ∀ z, fitsCells [R1.int .i64] [TC.v (.int .i64 z)] = true := fun _ => rfl
    have hc := cut32 (linesT s)[k] (by omega)
    rw [sNodesRead.s4b]
    simp only [e0, e1, e2, Int.toNat_natCast, nthC hk, List.length_map, f4, f5, f6, f3, Bool.and_self, cond_true, List.getD_cons_zero, str_v, hc, Option.bind_some, tes_o, List.length_map]
    rw [parseS]
    by_cases h2 : (cutAt 32 (linesT s)[k]).length = 2
    · have b1 : ((((cutAt 32 (linesT s)[k]).length : Nat) : Int) != 2) = false := by rw [h2]; rfl
      rw [b1, cond_false]
      by_cases h3 : 30 < k
      · rw [if_pos (.inr h3), decide_eq_true (show (k : Int) > 30 by omega), sNodesRead.p8b, cond_true, Option.bind_some, sNodesRead.a4q4b]
        rfl
      · rw [if_neg (by omega), if_neg (by omega), decide_eq_false (show ¬ (k : Int) > 30 by omega), sNodesRead.p8b, cond_false, sNodesRead.p9b]
        obtain ⟨x, y, hxy⟩ : ∃ x y, cutAt 32 (linesT s)[k] = [x, y] := by
          match hc : cutAt 32 (linesT s)[k], h2 with
          | [x, y], _ => exact ⟨x, y, rfl⟩
        have hxl := cut2_w hxy
        have hnw := nodeS_w h2
        have c4 := cut47 y (by omega)
        have n1 := sl22Num_ok x (by omega)
        have e3 : ((k : Int) == 0) = false := beq_eq_false_iff_ne.2 (by omega)
        have g1 : (eSs [x, y]).getD 1 [] = [D.v (.string (mkS y))] := rfl
        have g0 : (eSs [x, y]).getD 0 [] = [D.v (.string (mkS x))] := rfl
        have g2 : decide ((1 : Int) < ((eSs [x, y]).length : Int)) = true := rfl
        have g3 : decide ((0 : Int) < ((eSs [x, y]).length : Int)) = true := rfl
        have c1 := cutAt_pos 47 y
        have g4 : decide ((some (1 : Int)).getD 0 ≤ ((eSs (cutAt 47 y)).length : Int)) = true := decide_eq_true (by simp only [Option.getD_some, List.length_map]; omega)
        have g5 : decide (((eSs (cutAt 47 y)).length : Int) ≤ ((eSs (cutAt 47 y)).length : Int)) = true := by simp
        have g6 : decide (((eSs (cutAt 47 y)).getD 0 []).length = 1) = true := by rw [cutAt_cons]; rfl
        have g7 : decide (((acc.map eN).length + 1) * 33 ≤ 70368744177664) = true := decide_eq_true (by simp only [List.length_map]; omega)
        have g8 : List.drop 1 (List.take (((eSs (cutAt 47 y)).length : Int)).toNat (eSs (cutAt 47 y))) = eSs ((cutAt 47 y).drop 1) := by
          rw [Int.toNat_natCast, List.take_length]; simp
        have hx : nodeS (linesT s)[k] = ⟨numS x, (cutAt 47 y).drop 1⟩ := by unfold nodeS; rw [hxy]; rfl
        have g9 : acc.map eN ++ [[D.v (.int .i64 (numS x)), D.s (eSs ((cutAt 47 y).drop 1))]] = (acc ++ [nodeS (linesT s)[k]]).map eN := by rw [List.map_append, hx]; rfl
        have ih := ih (by omega) (acc ++ [nodeS (linesT s)[k]]) (by simp; omega) (by rw [wL_append]; simp only [wL]; omega)
        rw [hxy]
        simp only [e3, cond_false, g1, g0, g2, g3, f4, f5, f6, f3, f2, Bool.and_self, cond_true, List.getD_cons_zero, str_v, c4, n1, Option.bind_some, tes_o, tint_v, g4, g5, g6, Bool.false_or, rl2, g7, g8, g9, wrap_nat k (by omega)]
        rw [ih, hx]
        rfl
    · have b1 : ((((cutAt 32 (linesT s)[k]).length : Nat) : Int) != 2) = true := by simp only [bne_iff_ne, ne_eq]; omega
      rw [if_pos (.inl h2), b1, cond_true, sNodesRead.p8b, cond_true, Option.bind_some, sNodesRead.a4q4b]
      rfl
theorem sNodesRead_one (s : Str) (nx : Int) (hs : s.length ≤ 1048576) : ∀ k, k ≤ (linesT s).length → 1 ≤ k → ∀ acc : List NodeOf, acc.length ≤ k → wL wN acc + wL List.length ((linesT s).drop k) ≤ 1048576 →
    (sNodesRead.L4 (mkS s) (k : Int) 0 [] (eSs (cutAt 10 s)) nx (acc.map eN)).bind sNodesRead.A4 = finS s (parseS k nx acc ((linesT s).drop k)) := by
  have hls := wL_lines s
  have hll := wL_len List.length (linesT s)
  have hlc := lenC s
  intro k hkl
  rcases Nat.eq_or_lt_of_le hkl with hke | hk
  · subst hke
    intro _ acc _ hw
    have e0 : decide (IntKind.i64.wrap (((linesT s).length : Int) + 1) < ((eSs (cutAt 10 s)).length : Int)) = false := by
      rw [wrap_nat _ (by omega)]
      exact decide_eq_false (by simp only [List.length_map, hlc]; omega)
    rw [sNodesRead.s4, e0, cond_false, Option.bind_some, List.drop_length, parseS]
    rw [List.drop_length] at hw
    exact finS_a s ⟨nx, acc⟩ (by unfold wNs; simp only [wL] at hw; omega)
  · have ih := sNodesRead_loop s nx hs (k + 1) hk
    intro h1 acc ha hw
    have hm := wL_mem List.length (linesT s) _ (List.getElem_mem hk)
    have hd := drop_cons (linesT s) k hk
    rw [hd] at hw ⊢
    simp only [wL] at hw
    have e0 : decide (IntKind.i64.wrap ((k : Int) + 1) < ((cutAt 10 s).length : Int)) = true := by
      rw [wrap_nat _ (by omega)]
      exact decide_eq_true (by omega)
    have e1 : decide ((k : Int) < ((cutAt 10 s).length : Int)) = true := decide_eq_true (by omega)
    have e2 : decide (0 ≤ (k : Int)) = true := by simp
    have f4 : ∀ l : Str, decide (([D.v (Value.string (mkS l))] : List D).length = 1) = true := fun _ => rfl
    have f5 : ∀ l : Str, fitsRow [CK.str] [D.v (Value.string (mkS l))] 0 = true := fun _ => rfl
    have f6 : ∀ l : Str, decide (1 ≤ ([D.v (Value.string (mkS l))] : List D).length) = true := fun _ => rfl
    have f3 : ∀ z, fitsCells [R1.own .deep] [TC.o .deep z] = true := fun _ => rfl
    have f2 : ∀ z, fitsCells [R1.int .i64] [TC.v (.int .i64 z)] = true := fun _ => rfl
    have hc := cut32 (linesT s)[k] (by omega)
    rw [sNodesRead.s4]
    simp only [e0, e1, e2, Int.toNat_natCast, nthC hk, List.length_map, f4, f5, f6, f3, Bool.and_self, cond_true, List.getD_cons_zero, str_v, hc, Option.bind_some, tes_o, List.length_map]
    rw [parseS]
    by_cases h2 : (cutAt 32 (linesT s)[k]).length = 2
    · have b1 : ((((cutAt 32 (linesT s)[k]).length : Nat) : Int) != 2) = false := by rw [h2]; rfl
      rw [b1, cond_false]
      by_cases h3 : 30 < k
      · rw [if_pos (.inr h3), decide_eq_true (show (k : Int) > 30 by omega), sNodesRead.p8, cond_true, Option.bind_some, sNodesRead.a4q4]
        rfl
      · rw [if_neg (by omega), if_neg (by omega), decide_eq_false (show ¬ (k : Int) > 30 by omega), sNodesRead.p8, cond_false, sNodesRead.p9]
        obtain ⟨x, y, hxy⟩ : ∃ x y, cutAt 32 (linesT s)[k] = [x, y] := by
          match hc : cutAt 32 (linesT s)[k], h2 with
          | [x, y], _ => exact ⟨x, y, rfl⟩
        have hxl := cut2_w hxy
        have hnw := nodeS_w h2
        have c4 := cut47 y (by omega)
        have n1 := sl22Num_ok x (by omega)
        have e3 : ((k : Int) == 0) = false := beq_eq_false_iff_ne.2 (by omega)
        have g1 : (eSs [x, y]).getD 1 [] = [D.v (.string (mkS y))] := rfl
        have g0 : (eSs [x, y]).getD 0 [] = [D.v (.string (mkS x))] := rfl
        have g2 : decide ((1 : Int) < ((eSs [x, y]).length : Int)) = true := rfl
        have g3 : decide ((0 : Int) < ((eSs [x, y]).length : Int)) = true := rfl
        have c1 := cutAt_pos 47 y
        have g4 : decide ((some (1 : Int)).getD 0 ≤ ((eSs (cutAt 47 y)).length : Int)) = true := decide_eq_true (by simp only [Option.getD_some, List.length_map]; omega)
        have g5 : decide (((eSs (cutAt 47 y)).length : Int) ≤ ((eSs (cutAt 47 y)).length : Int)) = true := by simp
        have g6 : decide (((eSs (cutAt 47 y)).getD 0 []).length = 1) = true := by rw [cutAt_cons]; rfl
        have g7 : decide (((acc.map eN).length + 1) * 33 ≤ 70368744177664) = true := decide_eq_true (by simp only [List.length_map]; omega)
        have g8 : List.drop 1 (List.take (((eSs (cutAt 47 y)).length : Int)).toNat (eSs (cutAt 47 y))) = eSs ((cutAt 47 y).drop 1) := by
          rw [Int.toNat_natCast, List.take_length]; simp
        have hx : nodeS (linesT s)[k] = ⟨numS x, (cutAt 47 y).drop 1⟩ := by unfold nodeS; rw [hxy]; rfl
        have g9 : acc.map eN ++ [[D.v (.int .i64 (numS x)), D.s (eSs ((cutAt 47 y).drop 1))]] = (acc ++ [nodeS (linesT s)[k]]).map eN := by rw [List.map_append, hx]; rfl
        have ih := ih (by omega) (acc ++ [nodeS (linesT s)[k]]) (by simp; omega) (by rw [wL_append]; simp only [wL]; omega)
        rw [hxy]
        simp only [e3, cond_false, g1, g0, g2, g3, f4, f5, f6, f3, f2, Bool.and_self, cond_true, List.getD_cons_zero, str_v, c4, n1, Option.bind_some, tes_o, tint_v, g4, g5, g6, Bool.false_or, rl2, g7, g8, g9, wrap_nat k (by omega)]
        rw [ih, hx]
        rfl
    · have b1 : ((((cutAt 32 (linesT s)[k]).length : Nat) : Int) != 2) = true := by simp only [bne_iff_ne, ne_eq]; omega
      rw [if_pos (.inl h2), b1, cond_true, sNodesRead.p8, cond_true, Option.bind_some, sNodesRead.a4q4]
      rfl
theorem sNodesRead_ok (s : Str) (hs : s.length ≤ 1048576) : sNodesRead [vS s] [] = finS s (parseS 0 0 [] (linesT s)) := by
  have hls := wL_lines s
  have hll := wL_len List.length (linesT s)
  have hlc := lenC s
  have hc10 : sl1Cut [vS s, .one (.v (.int .u8 10))] [] = some ⟨[.o .deep (eSs (cutAt 10 s))], []⟩ := sl1Cut_ok s 10 hs
  have f3 : ∀ z, fitsCells [R1.own .deep] [TC.o .deep z] = true := fun _ => rfl
  rw [sNodesRead.e, hc10]
  simp only [Option.bind_some, f3, Bool.and_self, cond_true, List.getD_cons_zero, tes_o]
  rw [sNodesRead.s4]
  have hw1 : IntKind.i64.wrap ((0 : Int) + 1) = ((1 : Nat) : Int) := rfl
  cases hl : linesT s with
  | nil =>
    have e0 : decide (((1 : Nat) : Int) < ((eSs (cutAt 10 s)).length : Int)) = false := decide_eq_false (by rw [hl] at hlc; simp only [List.length_map, hlc, List.length_nil]; omega)
    rw [hw1, e0, cond_false, Option.bind_some, parseS]
    exact finS_a s ⟨0, []⟩ (by simp [wNs, wL])
  | cons l ls =>
    have hk : 0 < (linesT s).length := by rw [hl]; simp
    have hm := wL_mem List.length (linesT s) _ (List.getElem_mem hk)
    have e0 : decide (((1 : Nat) : Int) < ((cutAt 10 s).length : Int)) = true := decide_eq_true (by omega)
    have e1 : decide ((0 : Int) < ((cutAt 10 s).length : Int)) = true := decide_eq_true (by omega)
    have hn := nthC hk
    have hl0 : (linesT s)[0] = l := by simp [hl]
    rw [hl0] at hn hm
    have hn : (eSs (cutAt 10 s)).getD (0 : Int).toNat [] = _ := hn
    have f4 : ∀ l : Str, decide (([D.v (Value.string (mkS l))] : List D).length = 1) = true := fun _ => rfl
    have f5 : ∀ l : Str, fitsRow [CK.str] [D.v (Value.string (mkS l))] 0 = true := fun _ => rfl
    have f6 : ∀ l : Str, decide (1 ≤ ([D.v (Value.string (mkS l))] : List D).length) = true := fun _ => rfl
    have f2 : ∀ z, fitsCells [R1.int .i64] [TC.v (.int .i64 z)] = true := fun _ => rfl
    have hc := cut32 l (by omega)
    have z0 : decide ((0 : Int) ≤ 0) = true := rfl
    have z1 : decide ((0 : Int) > 30) = false := rfl
    have z2 : ((0 : Int) == 0) = true := rfl
    simp only [hw1, e0, e1, z0, hn, f4, f5, f6, f3, Bool.and_self, cond_true, List.getD_cons_zero, str_v, hc, Option.bind_some, tes_o, List.length_map, z1]
    rw [parseS]
    by_cases h2 : (cutAt 32 l).length = 2
    · have b1 : ((((cutAt 32 l).length : Nat) : Int) != 2) = false := by rw [h2]; rfl
      obtain ⟨x, y, hxy⟩ : ∃ x y, cutAt 32 l = [x, y] := by
        match hc : cutAt 32 l, h2 with
        | [x, y], _ => exact ⟨x, y, rfl⟩
      have hxl := cut2_w hxy
      have n1 := sl22Num_ok y (by omega)
      have g1 : (eSs [x, y]).getD 1 [] = [D.v (.string (mkS y))] := rfl
      have g2 : decide ((1 : Int) < ((eSs [x, y]).length : Int)) = true := rfl
      rw [b1, cond_false, if_neg (by omega), if_pos rfl, sNodesRead.p8, cond_false, sNodesRead.p9, hxy]
      simp only [z2, cond_true, g1, g2, f4, f5, f6, f2, Bool.and_self, List.getD_cons_zero, str_v, n1, Option.bind_some, tint_v, hw1]
      have h9 := sNodesRead_one s (numS y) hs 1 (by omega) (by omega) [] (by simp) (by have := wL_drop1 List.length (linesT s); simp only [wL]; omega)
      rw [hl] at h9
      exact h9
    · have b1 : ((((cutAt 32 l).length : Nat) : Int) != 2) = true := by simp only [bne_iff_ne, ne_eq]; omega
      rw [if_pos (.inl h2), b1, cond_true, sNodesRead.p8, cond_true, Option.bind_some, sNodesRead.a4q4]
      rfl
end Go.PVx
/- The law FnExactNodesRead on data. -/
namespace Go.PVx
open Go.PV Go.Proofs

def outR (r : Option Nodes) : Option Res := some ⟨[.v (.int .i64 (r.getD ⟨0, []⟩).next), .o .deep ((r.getD ⟨0, []⟩).list.map eN), .v (.bool r.isSome)], []⟩
theorem finI_out (s : Str) : finI s (parseI (linesT s)) = outR (RI s) := by
  unfold finI RI
  split <;> rfl
theorem finS_out (s : Str) : finS s (parseS 0 0 [] (linesT s)) = outR (RS s) := by
  unfold finS RS
  cases parseS 0 0 [] (linesT s) with
  | none => rfl
  | some n =>
    simp only
    split <;> rfl
theorem RI_w (s : Str) (hs : s.length ≤ 1048576) : wNs ((RI s).getD ⟨0, []⟩) ≤ 1048576 := by
  have := parseI_w s
  unfold RI
  split
  · simp only [Option.getD_some]; omega
  · simp [wNs, wL]
theorem sumW_cN (l : List NodeOf) : sumW cN l ≤ wL wN l := by
  induction l with
  | nil => simp [sumW]
  | cons x l ih =>
    have : x.path.length ≤ wN x := wP_len _
    simp only [sumW, wL, cN]; omega
theorem wFnExactNodesRead_ok (s : Str) : wFnExactNodesRead [vS s] [] = rB true := by
  rw [wFnExactNodesRead.e]
  by_cases hs : s.length ≤ 1048576
  · have hT : Top = 1000000000000 := rfl
    have e0 : decide (((mkS s).size : Int) > 1048576) = false := decide_eq_false (by rw [size_mkS]; omega)
    have h1 := sNodesRead_ok s hs
    have h2 := iNodesRead_ok s hs
    rw [finS_out, ← RI_RS] at h1
    rw [finI_out] at h2
    have hw := RI_w s hs
    generalize RI s = r at *
    have h5 := weqNodes_refl (r.getD ⟨0, []⟩) hw
    have hsum := sumW_cN (r.getD ⟨0, []⟩).list
    have hll := wL_len wN (r.getD ⟨0, []⟩).list
    have hw' : wL wN (r.getD ⟨0, []⟩).list ≤ 1048576 := hw
    have h8 := wmarkNodes_ok (r.getD ⟨0, []⟩) 1 (by omega) (by omega) (by omega)
    have h9 := wheldNodes_ok (r.getD ⟨0, []⟩) 1 (by omega) (by omega) (by omega)
    have h9' : wheldNodes [AV.g [A1.v (Value.int IntKind.i64 (r.getD ⟨0, []⟩).next), A1.s ((mNs 1 (r.getD ⟨0, []⟩).list).map eN)], vI 1] [] = _ := h9
    unfold outR at h1 h2
    generalize r.isSome = b at *
    generalize r.getD ⟨0, []⟩ = n at *
    have hk2 : ¬ (1 : Int) + ((sumW cN n.list : Nat) : Int) < 0 := by omega
    rw [e0]
    simp [h1, h2, h5, wFnExactNodesRead.p6, wFnExactNodesRead.p7, h8, h9', hk2, wFnExactNodesRead.p16, wFnExactNodesRead.p17, wFnExactNodesRead.p18]
  · have e0 : decide (((mkS s).size : Int) > 1048576) = true := decide_eq_true (by rw [size_mkS]; omega)
    rw [e0]
    rfl
end Go.PVx
