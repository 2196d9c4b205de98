/- A part of the proof: PvU1, PvU2, PvU3, PvU4, PvL0, PvL1, PvM1, PvM2, PvM3, PvU6, PvU7. -/
import Derived.Test.YtjhnnagcebcedaaRes
import Derived.Test.YtjhnnagcebcedaaTy
set_option linter.unusedSimpArgs false
set_option linter.unusedVariables false
/- Names, paths, their order. -/
namespace Go.PVx
open Go.PV Go.Proofs

def inB (a b c : Int) : Bool := decide (b ≤ a) && decide (a ≤ c)
theorem sl1In_ok (a b c : Int) : sl1In [vI a, vI b, vI c] [] = rB (inB a b c) := by
  rw [sl1In.e]; unfold inB; by_cases h : b ≤ a <;> simp [h]
theorem iwithin_ok (a b c : Int) : iwithin [vI a, vI b, vI c] [] = rB (inB a b c) := by
  rw [iwithin.e]; unfold inB; by_cases h : b ≤ a <;> simp [h]
theorem imodeOk_ok (a : Int) : imodeOk [vI a] [] = rB (inB a 0 7) := by
  rw [imodeOk.e, iwithin_ok]; simp

/-! ### names -/
def okc (b : UInt8) : Bool := (decide (97 ≤ (b.toNat : Int)) && decide ((b.toNat : Int) ≤ 122)) || (decide (48 ≤ (b.toNat : Int)) && decide ((b.toNat : Int) ≤ 57))
def nameB (s : Str) : Bool := s.all okc && inB s.length 1 5
theorem sl1NameOk.l2 (s : Str) (hs : sS s) : ∀ k, k ≤ s.length → sl1NameOk.L2 (mkS s) (k : Int) = some (bif (s.drop k).all okc then sl1NameOk.x2 (mkS s) else sl1NameOk.q2 (mkS s) false) := by
  unfold sS at hs
  refine up s.length ?_ fun k hk ih => ?_
  · rw [sl1NameOk.s2]; simp
  · rw [sl1NameOk.s2, drop_cons s k hk, List.all_cons]
    simp only [Int.toNat_natCast, byteAt_lt s k hk, wrap_nat k (by omega), ih, okc]
    by_cases h1 : 97 ≤ (s[k].toNat : Int) <;> by_cases h2 : (s[k].toNat : Int) ≤ 122 <;> by_cases h3 : 48 ≤ (s[k].toNat : Int) <;> by_cases h4 : (s[k].toNat : Int) ≤ 57 <;> simp [h1, h2, h3, h4, hk]
theorem sl1NameOk_ok (s : Str) (hs : sS s) : sl1NameOk [vS s] [] = rB (nameB s) := by
  have h := sl1NameOk.l2 s hs 0 (by omega)
  rw [sl1NameOk.e, show (0 : Int) = ((0 : Nat) : Int) from rfl, h]
  unfold nameB
  cases h : s.all okc <;> simp [h, sl1NameOk.a2q2, sl1NameOk.a2x2, sl1In_ok]
theorem inameOk.l2 (s : Str) (hs : sS s) : ∀ k, k ≤ s.length → inameOk.L2 (mkS s) s.length (k : Int) = some (bif (s.drop k).all okc then inameOk.x2 (mkS s) else inameOk.q2 (mkS s) false) := by
  unfold sS at hs
  refine up s.length ?_ fun k hk ih => ?_
  · rw [inameOk.s2]; simp
  · rw [inameOk.s2, drop_cons s k hk, List.all_cons]
    simp only [Int.toNat_natCast, byteAt_lt s k hk, wrap_nat k (by omega), ih, okc]
    have e1 : decide ((s[k].toNat : Int) < 97) = !decide (97 ≤ (s[k].toNat : Int)) := by by_cases h : 97 ≤ (s[k].toNat : Int) <;> simp [h] <;> omega
    have e2 : decide ((s[k].toNat : Int) > 122) = !decide ((s[k].toNat : Int) ≤ 122) := by by_cases h : (s[k].toNat : Int) ≤ 122 <;> simp [h] <;> omega
    have e3 : decide ((s[k].toNat : Int) < 48) = !decide (48 ≤ (s[k].toNat : Int)) := by by_cases h : 48 ≤ (s[k].toNat : Int) <;> simp [h] <;> omega
    have e4 : decide ((s[k].toNat : Int) > 57) = !decide ((s[k].toNat : Int) ≤ 57) := by by_cases h : (s[k].toNat : Int) ≤ 57 <;> simp [h] <;> omega
    simp only [e1, e2, e3, e4]
    cases decide (97 ≤ (s[k].toNat : Int)) <;> cases decide ((s[k].toNat : Int) ≤ 122) <;> cases decide (48 ≤ (s[k].toNat : Int)) <;> cases decide ((s[k].toNat : Int) ≤ 57) <;> simp [hk]
theorem inameOk_ok (s : Str) (hs : sS s) : inameOk [vS s] [] = rB (nameB s) := by
  have h := inameOk.l2 s hs 0 (by omega)
  rw [inameOk.e, size_mkS, show (0 : Int) = ((0 : Nat) : Int) from rfl, h]
  unfold nameB
  cases h : s.all okc <;> simp [h, inameOk.a2q2, inameOk.a2x2, iwithin_ok]

/-! ### paths -/
def pathB (least : Int) (p : List Str) : Bool := p.all nameB && inB p.length least 4
theorem sl2PathOk.l2 (p : List Str) (hp : oP p) : ∀ k, k ≤ p.length → sl2PathOk.L2 (eSs p) (k : Int) = some (bif (p.drop k).all nameB then sl2PathOk.x2 (eSs p) else sl2PathOk.q2 (eSs p) false) := by
  have hl := hp.1
  refine up p.length ?_ fun k hk ih => ?_
  · rw [sl2PathOk.s2]; simp
  · rw [sl2PathOk.s2, drop_cons p k hk, List.all_cons]
    simp only [Int.toNat_natCast, getD_map eS p k hk, wrap_nat k (by omega), ih]
    have h := sl1NameOk_ok p[k] (sL_at hp hk)
    cases hn : nameB p[k] <;> rw [hn] at h <;> simp [hk, eS, h]
theorem sl2PathOk_ok (p : List Str) (hp : oP p) : sl2PathOk [vP p] [] = rB (pathB 1 p) := by
  have h := sl2PathOk.l2 p hp 0 (by omega)
  rw [sl2PathOk.e, show (0 : Int) = ((0 : Nat) : Int) from rfl, h]
  unfold pathB
  cases h : p.all nameB <;> simp [h, sl2PathOk.a2q2, sl2PathOk.a2x2, sl1In_ok]
theorem inamesOk.l2 (p : List Str) (hp : oP p) (least : Int) : ∀ k, k ≤ p.length → inamesOk.L2 (eSs p) least (eSs p) p.length (k : Int) =
    some (bif (p.drop k).all nameB then inamesOk.x2 (eSs p) least else inamesOk.q2 (eSs p) least false) := by
  have hl := hp.1
  refine up p.length ?_ fun k hk ih => ?_
  · rw [inamesOk.s2]; simp
  · rw [inamesOk.s2, drop_cons p k hk, List.all_cons]
    simp only [Int.toNat_natCast, getD_map eS p k hk, wrap_nat k (by omega), ih]
    have h := inameOk_ok p[k] (sL_at hp hk)
    cases hn : nameB p[k] <;> rw [hn] at h <;> simp [hk, eS, h]
theorem inamesOk_ok (p : List Str) (hp : oP p) (least : Int) : inamesOk [vP p, vI least] [] = rB (pathB least p) := by
  have h := inamesOk.l2 p hp least 0 (by omega)
  rw [inamesOk.e]
  simp only [List.length_map]
  rw [show (0 : Int) = ((0 : Nat) : Int) from rfl, h]
  unfold pathB
  cases h : p.all nameB <;> simp [h, inamesOk.a2q2, inamesOk.a2x2, iwithin_ok]

/-! ### the same path -/
theorem sl2Within.l4 (a b : List Str) (ha : a.length ≤ 9223372036854775807) (hab : b.length ≤ a.length) : ∀ k, k ≤ b.length → sl2Within.L4 (eSs a) (eSs b) (k : Int) =
    some (bif decide (b.drop k = (a.take b.length).drop k) then sl2Within.x4 else sl2Within.q4 false) := by
  refine up b.length ?_ fun k hk ih => ?_
  · rw [sl2Within.s4]; simp [hab]
  · rw [sl2Within.s4]
    have hk2 : k < a.length := by omega
    have hk3 : k < (a.take b.length).length := by simp; omega
    rw [drop_cons b k hk, drop_cons _ k hk3]
    simp only [Int.toNat_natCast, getD_map eS a k hk2, getD_map eS b k hk, wrap_nat k (by omega), ih, List.getElem_take]
    by_cases he : a[k] = b[k]
    · simp [-List.getElem_cons_drop, hk, hk2, eS, he]
    · simp [-List.getElem_cons_drop, hk, hk2, eS, beq_eq_false_iff_ne.2 he, show ¬ b[k] = a[k] from fun h => he h.symm]
def isPre (b a : List Str) : Bool := b.isPrefixOf a
theorem isPre_take (a b : List Str) (h : b.length ≤ a.length) : decide (b = a.take b.length) = isPre b a := by
  unfold isPre
  rw [Bool.eq_iff_iff, decide_eq_true_iff, List.isPrefixOf_iff_prefix, List.prefix_iff_eq_take]
theorem sl2Within_ok (a b : List Str) (ha : a.length ≤ 9223372036854775807) : sl2Within [vP a, vP b] [] = rB (isPre b a) := by
  rw [sl2Within.e]
  by_cases h : a.length < b.length
  · have h2 : isPre b a = false := by
      unfold isPre
      rw [Bool.eq_false_iff, ne_eq, List.isPrefixOf_iff_prefix]
      intro hp; have := hp.length_le; omega
    simp [h, h2]
  · have hl := sl2Within.l4 a b ha (by omega) 0 (by omega)
    simp only [List.drop_zero] at hl
    rw [isPre_take a b (by omega)] at hl
    simp only [List.length_map]
    rw [show (0 : Int) = ((0 : Nat) : Int) from rfl, hl]
    cases hp : isPre b a <;> simp [h, sl2Within.a4q4, sl2Within.a4x4]
theorem isPre_len (a b : List Str) (h : a.length = b.length) : isPre b a = decide (a = b) := by
  rw [← isPre_take a b (by omega), Bool.eq_iff_iff, decide_eq_true_iff, decide_eq_true_iff, ← h, List.take_length]
  exact ⟨Eq.symm, Eq.symm⟩
theorem sl11Same_ok (a b : List Str) (ha : a.length ≤ 9223372036854775807) : sl11Same [vP a, vP b] [] = rB (decide (a = b)) := by
  rw [sl11Same.e]
  by_cases h : a.length = b.length
  · simp [h, sl2Within_ok a b ha, isPre_len a b h]
  · have : a ≠ b := fun he => h (by rw [he])
    have h' : ((a.length : Int) == (b.length : Int)) = false := by rw [beq_eq_false_iff_ne]; omega
    simp [h', this, bne]
theorem slices_Equal_Sstring_string.l4 (a b : List Str) (ha : a.length ≤ 9223372036854775807) (hab : a.length = b.length) : ∀ k, k ≤ a.length → slices_Equal_Sstring_string.L4 (eSs a) (eSs b) a.length (k : Int) =
    some (bif decide (a.drop k = b.drop k) then slices_Equal_Sstring_string.x4 else slices_Equal_Sstring_string.q4 false) := by
  refine up a.length ?_ fun k hk ih => ?_
  · rw [slices_Equal_Sstring_string.s4]; simp [hab]
  · rw [slices_Equal_Sstring_string.s4]
    have hk2 : k < b.length := by omega
    rw [drop_cons b k hk2, drop_cons a k hk]
    simp only [Int.toNat_natCast, getD_map eS b k hk2, getD_map eS a k hk, wrap_nat k (by omega), ih]
    by_cases he : a[k] = b[k]
    · simp [-List.getElem_cons_drop, hk, hk2, eS, he]
    · simp [-List.getElem_cons_drop, hk, hk2, eS, beq_eq_false_iff_ne.2 he, he]
theorem slices_Equal_ok (a b : List Str) (ha : a.length ≤ 9223372036854775807) : slices_Equal_Sstring_string [vP a, vP b] [] = rB (decide (a = b)) := by
  rw [slices_Equal_Sstring_string.e]
  by_cases h : a.length = b.length
  · have hl := slices_Equal_Sstring_string.l4 a b ha h 0 (by omega)
    simp only [List.drop_zero] at hl
    simp only [List.length_map]
    rw [show (0 : Int) = ((0 : Nat) : Int) from rfl, hl]
    by_cases hp : a = b <;> simp [h, hp, slices_Equal_Sstring_string.a4q4, slices_Equal_Sstring_string.a4x4]
  · have : a ≠ b := fun he => h (by rw [he])
    have h' : ((a.length : Int) == (b.length : Int)) = false := by rw [beq_eq_false_iff_ne]; omega
    simp [h', this, bne]

/-! ### the order of paths -/
def lessP : List Str → List Str → Bool
  | _, [] => false
  | [], _ :: _ => true
  | x :: a, y :: b => bif x == y then lessP a b else Op.bytesLess x y
theorem sl11Less.l2 (a b : List Str) (ha : a.length ≤ 9223372036854775807) : ∀ k, k ≤ min a.length b.length → ∃ r, sl11Less.L2 (eSs a) (eSs b) (k : Int) = some r ∧ sl11Less.A2 r = rB (lessP (a.drop k) (b.drop k)) := by
  refine up (min a.length b.length) ?_ fun k hk ih => ?_
  · refine ⟨sl11Less.x2 (eSs a) (eSs b), ?_, ?_⟩
    · rw [sl11Less.s2]
      rcases Nat.lt_or_ge a.length b.length with h | h
      · simp [show min a.length b.length = a.length from by omega]
      · rcases Nat.lt_or_ge b.length a.length with h2 | h2
        · simp [show min a.length b.length = b.length from by omega, h2]
        · simp [show min a.length b.length = b.length from by omega, show a.length = b.length from by omega]
    · rw [sl11Less.a2x2]
      rcases Nat.lt_or_ge a.length b.length with h | h
      · rw [show min a.length b.length = a.length from by omega, List.drop_length, drop_cons b _ h]
        simp [lessP, h]
      · rw [show min a.length b.length = b.length from by omega, List.drop_length]
        have : ¬ a.length < b.length := by omega
        simp [lessP, this]
  · obtain ⟨r, h1, h2⟩ := ih
    have hk1 : k < a.length := by omega
    have hk2 : k < b.length := by omega
    rw [sl11Less.s2, drop_cons a k hk1, drop_cons b k hk2]
    simp only [Int.toNat_natCast, getD_map eS a k hk1, getD_map eS b k hk2, wrap_nat k (by omega), h1, lessP]
    by_cases he : a[k] = b[k]
    · refine ⟨r, by simp [hk1, hk2, eS, he], by rw [h2]; simp [he]⟩
    · refine ⟨sl11Less.q2 (eSs a) (eSs b) (Op.bytesLess a[k] b[k]), by simp [hk1, hk2, eS, beq_eq_false_iff_ne.2 he], by rw [sl11Less.a2q2]; simp [beq_eq_false_iff_ne.2 he]⟩
theorem sl11Less_ok (a b : List Str) (ha : a.length ≤ 9223372036854775807) : sl11Less [vP a, vP b] [] = rB (lessP a b) := by
  obtain ⟨r, h1, h2⟩ := sl11Less.l2 a b ha 0 (by omega)
  rw [sl11Less.e, show (0 : Int) = ((0 : Nat) : Int) from rfl, h1]
  exact h2

theorem cmp_isNaN_ok (a : Str) : cmp_isNaN_string [vS a] [] = rB false := by
  rw [cmp_isNaN_string.e]; simp
def cmpS (a b : Str) : Int := bif Op.bytesLess a b then -1 else bif a == b then 0 else 1
theorem cmp_Compare_ok (a b : Str) : cmp_Compare_string [vS a, vS b] [] = rI (cmpS a b) := by
  rw [cmp_Compare_string.e, cmp_isNaN_ok, cmp_isNaN_ok]
  unfold cmpS
  cases h1 : Op.bytesLess a b <;> cases h2 : (a == b) <;> simp [h1, h2]
theorem less_irr : ∀ a : Str, Op.bytesLess a a = false := by
  intro a
  induction a with
  | nil => rfl
  | cons x a ih => simp [Op.bytesLess, ih]
/-- What slices.Compare answers. -/
def cmpP : List Str → List Str → Int
  | [], [] => 0
  | [], _ :: _ => -1
  | _ :: _, [] => 1
  | x :: a, y :: b => bif cmpS x y != 0 then cmpS x y else cmpP a b
theorem slices_Compare.l2 (a b : List Str) (ha : a.length ≤ 9223372036854775807) : ∀ k, k ≤ a.length → ∃ r, slices_Compare_Sstring_string.L2 (eSs a) (eSs b) (eSs a) a.length (k : Int) = some r ∧
    (k ≤ b.length → slices_Compare_Sstring_string.A2 r = rI (cmpP (a.drop k) (b.drop k))) := by
  refine up a.length ?_ fun k hk ih => ?_
  · refine ⟨slices_Compare_Sstring_string.x2 (eSs a) (eSs b), by rw [slices_Compare_Sstring_string.s2]; simp, fun hb => ?_⟩
    rw [slices_Compare_Sstring_string.a2x2, List.drop_length]
    rcases Nat.lt_or_ge a.length b.length with h | h
    · rw [drop_cons b _ h]; simp [h, cmpP]
    · rw [List.drop_eq_nil_of_le (by omega)]
      have : ¬ a.length < b.length := by omega
      simp [this, cmpP]
  · obtain ⟨r, h1, h2⟩ := ih
    rw [slices_Compare_Sstring_string.s2, drop_cons a k hk]
    simp only [Int.toNat_natCast, getD_map eS a k hk, wrap_nat k (by omega), h1]
    rcases Nat.lt_or_ge k b.length with hb | hb
    · rw [drop_cons b k hb]
      have hc := cmp_Compare_ok a[k] b[k]
      have hb' : ¬ b.length ≤ k := by omega
      simp only [getD_map eS b k hb, cmpP]
      by_cases he : cmpS a[k] b[k] = 0
      · exact ⟨r, by simp [hk, hb, hb', eS, hc, he], fun _ => by rw [h2 (by omega)]; simp [he]⟩
      · exact ⟨slices_Compare_Sstring_string.q2 (eSs a) (eSs b) (cmpS a[k] b[k]), by simp [hk, hb, hb', eS, hc, bne, beq_eq_false_iff_ne.2 he], fun _ => by rw [slices_Compare_Sstring_string.a2q2]; simp [bne, beq_eq_false_iff_ne.2 he]⟩
    · refine ⟨slices_Compare_Sstring_string.q2 (eSs a) (eSs b) 1, by simp [hk, hb, eS], fun hb' => ?_⟩
      rw [slices_Compare_Sstring_string.a2q2, show b.drop k = [] from List.drop_eq_nil_of_le hb]
      rfl
theorem slices_Compare_ok (a b : List Str) (ha : a.length ≤ 9223372036854775807) : slices_Compare_Sstring_string [vP a, vP b] [] = rI (cmpP a b) := by
  obtain ⟨r, h1, h2⟩ := slices_Compare.l2 a b ha 0 (by omega)
  rw [slices_Compare_Sstring_string.e]
  simp only [List.length_map]
  rw [show (0 : Int) = ((0 : Nat) : Int) from rfl, h1]
  exact h2 (by omega)
theorem cmpP_less : ∀ a b : List Str, decide (cmpP a b ≥ 0) = !lessP a b
  | [], [] => rfl
  | [], _ :: _ => rfl
  | _ :: _, [] => rfl
  | x :: a, y :: b => by
    unfold cmpP lessP
    by_cases h : x = y
    · subst h
      have : cmpS x x = 0 := by simp [cmpS, less_irr]
      simp only [this, bne_self_eq_false, cond_false, beq_self_eq_true, cond_true]
      exact cmpP_less a b
    · have h2 : (x == y) = false := by simpa using h
      unfold cmpS
      rw [h2]
      cases Op.bytesLess x y <;> simp
end Go.PVx
/- Trees that are ok. -/
namespace Go.PVx
open Go.PV Go.Proofs

theorem tree_at {ks : List Tree} {k : Nat} (h : k < ks.length) :
    (ks.map eT).getD k [] = [.v (.bool ks[k].dir), .v (.int .i64 ks[k].mode), .v (.string (mkS ks[k].data)), .s (eSs ks[k].names), .s (ks[k].kids.map eT)] := by
  rw [getD_map eT ks k h, eT_eq]
theorem oT_data {t : Tree} (h : oT t) : sS t.data := ((oT_eq t).1 h).1
theorem oT_names {t : Tree} (h : oT t) : oP t.names := ((oT_eq t).1 h).2.1
theorem oT_kids {t : Tree} (h : oT t) : sL oT t.kids := ((oT_eq t).1 h).2.2

/-- Names that are ok, ascending, behind one. -/
def namesB : Option Str → List Str → Bool
  | _, [] => true
  | p, x :: l => nameB x && (match p with | none => true | some y => Op.bytesLess y x) && namesB (some x) l
def prevOf (l : List Str) : Nat → Option Str
  | 0 => none
  | k + 1 => l[k]?
def plainB (t : Tree) : Bool := inB t.mode 0 7 && decide (t.names.length = t.kids.length) && (bif t.dir then namesB none t.names && decide (t.data = []) else decide (t.data.length ≤ 24) && decide (t.names.length = 0))
mutual
def partsB : Int → Tree → Bool
  | d, ⟨a, b, c, e, ks⟩ => plainB ⟨a, b, c, e, ks⟩ && decide (d ≤ 4) && partsBs (d + 1) ks
def partsBs : Int → List Tree → Bool
  | _, [] => true
  | d, t :: ts => partsB d t && partsBs d ts
end
theorem partsBs_all (d : Int) : ∀ l : List Tree, partsBs d l = l.all (partsB d)
  | [] => rfl
  | t :: ts => by rw [partsBs, partsBs_all d ts]; rfl
theorem partsB_eq (d : Int) (t : Tree) : partsB d t = (plainB t && decide (d ≤ 4) && t.kids.all (partsB (d + 1))) := by
  obtain ⟨a, b, c, e, ks⟩ := t
  rw [partsB, partsBs_all]
mutual
/-- How many parts are below. -/
def cnt : Tree → Nat
  | ⟨_, _, _, _, ks⟩ => cnts ks
def cnts : List Tree → Nat
  | [] => 0
  | t :: ts => 1 + cnt t + cnts ts
end
theorem cnts_wL : ∀ l : List Tree, cnts l = wL cnt l
  | [] => rfl
  | t :: ts => by rw [cnts, cnts_wL ts]; rfl
theorem cnt_eq (t : Tree) : cnt t = wL cnt t.kids := by
  obtain ⟨a, b, c, e, ks⟩ := t
  rw [cnt, cnts_wL]
theorem wL_le {α : Type} (v w : α → Nat) : ∀ l : List α, (∀ x ∈ l, v x ≤ w x) → wL v l ≤ wL w l
  | [], _ => Nat.le_refl _
  | x :: l, h => by
    have h1 := h x (by simp)
    have h2 := wL_le v w l fun y hy => h y (List.mem_cons_of_mem _ hy)
    simp only [wL]; omega
theorem cnt_le (t : Tree) : cnt t ≤ wT t := by
  induction t using Tree.ind with
  | h d m s ns ks ih =>
    rw [cnt_eq, wT_eq]
    have := wL_le cnt wT ks ih
    simp only at this ⊢
    omega
def treeB (t : Tree) : Bool := t.dir && partsB 0 t && decide (cnt t ≤ 30)

theorem empty_eq (s : Str) : s.isEmpty = decide (s = []) := by cases s <;> rfl
/-! ### the reference's -/
theorem prev_some {l : List Str} {k : Nat} (h : k < l.length) : prevOf l (k + 1) = some l[k] := by simp [prevOf, h]
theorem sl1Plain.l6 (t : Tree) (hn : oP t.names) : ∀ k, k ≤ t.names.length → sl1Plain.L6 (k : Int) t.dir t.mode (mkS t.data) (eSs t.names) (t.kids.map eT) =
    some (bif namesB (prevOf t.names k) (t.names.drop k) then sl1Plain.x6 t.dir t.mode (mkS t.data) (eSs t.names) (t.kids.map eT) else sl1Plain.q6 false t.dir t.mode (mkS t.data) (eSs t.names) (t.kids.map eT)) := by
  have hl := hn.1
  refine up t.names.length ?_ fun k hk ih => ?_
  · rw [sl1Plain.s6]; simp [namesB]
  · rw [sl1Plain.s6, drop_cons t.names k hk]
    have h := sl1NameOk_ok t.names[k] (sL_at hn hk)
    simp only [Int.toNat_natCast, getD_map eS t.names k hk, wrap_nat k (by omega), ih, namesB, prev_some hk]
    cases hnb : nameB t.names[k] with
    | false => rw [hnb] at h; simp [hk, eS, h]
    | true =>
      rw [hnb] at h
      by_cases hk0 : k = 0
      · subst hk0; simp [-List.getElem_cons_drop, hk, eS, h, prevOf]
      · obtain ⟨j, hjk⟩ : ∃ j, k = j + 1 := ⟨k - 1, by omega⟩
        have hj : j < t.names.length := by omega
        have hw : IntKind.i64.wrap ((k : Int) - 1) = (j : Int) := by rw [wrap_pred k (by omega) (by omega), hjk]; rfl
        have hpv : prevOf t.names k = some t.names[j] := by rw [hjk]; exact prev_some hj
        have e1 : decide ((k : Int) > 0) = true := by simp; omega
        simp only [hw, Int.toNat_natCast, getD_map eS t.names j hj, hpv, e1]
        cases hb : Op.bytesLess t.names[j] t.names[k] <;> simp [-List.getElem_cons_drop, hk, hj, eS, h, hb]
theorem sl1Plain_ok (t : Tree) (ho : oT t) : sl1Plain [vT t] [] = rB (plainB t) := by
  rw [sl1Plain.e, sl1In_ok]
  unfold plainB
  cases h1 : inB t.mode 0 7 with
  | false => simp
  | true =>
    by_cases h2 : t.names.length = t.kids.length
    · have h2' : ((t.names.length : Int) != (t.kids.length : Int)) = false := by rw [h2]; simp
      cases h3 : t.dir with
      | false =>
        simp only [Option.bind_some, List.length_map, h2', sl1Plain.p2, size_mkS]
        by_cases h4 : t.data.length ≤ 24
        · have h4' : ((t.data.length : Int) ≤ 24) := by omega
          by_cases h5 : t.names.length = 0
          · simp [h4, h4', h5, ← h2]
          · have h5' : ((t.names.length : Int) == 0) = false := by rw [beq_eq_false_iff_ne]; omega
            simp [h4, h4', h5, h5', ← h2]
        · have h4' : ¬ ((t.data.length : Int) ≤ 24) := by omega
          simp [h4, h4', ← h2]
      | true =>
        have hl := sl1Plain.l6 t (oT_names ho) 0 (by omega)
        simp only [List.drop_zero, prevOf, h3] at hl
        have hl : sl1Plain.L6 0 true t.mode (mkS t.data) (eSs t.names) (t.kids.map eT) = _ := hl
        simp only [List.length_map, h2', Option.bind_some, fitsCells, List.getD_cons_zero, tbool_v]
        cases h6 : namesB none t.names <;> rw [h6] at hl <;> simp [sl1Plain.p2, sl1Plain.p3, hl, sl1Plain.a6q6, sl1Plain.a6x6, sl1Plain.p4, h2, empty_eq]
    · have h2' : ((t.names.length : Int) != (t.kids.length : Int)) = true := by simp [bne]; omega
      simp [h2, h2']
theorem sl1Parts_ok (t : Tree) : oT t → ∀ d : Int, 0 ≤ d → d ≤ 5 → sl1Parts [vT t, vI d] [] = rB (partsB d t) := by
  induction t using Tree.ind with
  | h a b c ns ks ih =>
    intro ho d h0 h5
    rw [sl1Parts.e, sl1Plain_ok _ ho, partsB_eq]
    cases h1 : plainB ⟨a, b, c, ns, ks⟩ with
    | false => simp
    | true =>
      by_cases h2 : d ≤ 4
      · have hk := oT_kids ho
        have hkl := hk.1
        have hl : ∀ k, k ≤ ks.length → sl1Parts.L4 d (k : Int) a b (mkS c) (eSs ns) (ks.map eT) = some (bif (ks.drop k).all (partsB (d + 1)) then sl1Parts.x4 else sl1Parts.q4 false) := by
          refine up ks.length ?_ fun k hk2 ihk => ?_
          · rw [sl1Parts.s4]; simp
          · rw [sl1Parts.s4, drop_cons ks k hk2, List.all_cons]
            have hr := ih ks[k] (List.getElem_mem hk2) (sL_at hk hk2) (d + 1) (by omega) (by omega)
            simp only [Int.toNat_natCast, tree_at hk2, wrap_nat k (by simp only at hkl; omega), ihk, wrap_in (d + 1) (by omega)]
            cases hp : partsB (d + 1) ks[k] <;> rw [hp] at hr <;> simp [-List.getElem_cons_drop, hk2, hr]
        have h2' : ¬ d > 4 := by omega
        have hl0 : sl1Parts.L4 d 0 a b (mkS c) (eSs ns) (ks.map eT) = _ := hl 0 (by omega)
        simp only [List.drop_zero] at hl0
        cases hp : ks.all (partsB (d + 1)) <;> rw [hp] at hl0 <;> simp [hl0, sl1Parts.a4q4, sl1Parts.a4x4, h2, h2', hp]
      · have h2' : d > 4 := by omega
        simp [h2, h2']
/-- The sum of what is below each. -/
def sumC : List Tree → Int
  | [] => 0
  | t :: l => (cnt t : Int) + sumC l
theorem sumC_wL : ∀ l : List Tree, sumC l = (wL cnt l : Int) - l.length
  | [] => rfl
  | t :: l => by simp only [sumC, wL, List.length_cons, sumC_wL l]; omega
theorem sl1Count_ok (t : Tree) : wT t ≤ 1048576 → sl1Count [vT t] [] = rI (cnt t) := by
  induction t using Tree.ind with
  | h a b c ns ks ih =>
    intro hw
    rw [sl1Count.e, cnt_eq]
    rw [wT_eq] at hw
    simp only at hw ⊢
    have hlen := wL_len wT ks
    have hl : ∀ k, k ≤ ks.length → ∀ x : Int, 0 ≤ x → x + wL wT (ks.drop k) ≤ 4194304 → sl1Count.L3 x (k : Int) a b (mkS c) (eSs ns) (ks.map eT) = some (sl1Count.x3 (x + sumC (ks.drop k))) := by
      refine up ks.length ?_ fun k hk ihk x hn1 hn2 => ?_
      · intro x _ _; rw [sl1Count.s3]; simp [sumC]
      · rw [sl1Count.s3]
        have h1 := wL_drop wT hk
        have h3 := wL_at wT hk
        have h4 := cnt_le ks[k]
        have hr := ih ks[k] (List.getElem_mem hk) (by omega)
        have e1 : IntKind.i64.wrap (x + (cnt ks[k] : Int)) = x + (cnt ks[k] : Int) := wrap_in _ (by omega)
        have := ihk (x + (cnt ks[k] : Int)) (by omega) (by omega)
        have e2 : x + (cnt ks[k] : Int) + sumC (ks.drop (k + 1)) = x + sumC (ks.drop k) := by rw [drop_cons ks k hk]; simp only [sumC]; omega
        rw [e2] at this
        push_cast at this
        simp only [Int.toNat_natCast, tree_at hk, wrap_nat k (by omega)]
        simp [hk, hr, e1, this]
    have h0 : sl1Count.L3 (ks.length : Int) 0 a b (mkS c) (eSs ns) (ks.map eT) = _ := hl 0 (by omega) ks.length (by omega) (by rw [List.drop_zero]; omega)
    simp only [List.length_map]
    rw [h0, List.drop_zero, sumC_wL]
    simp only [Option.bind_some, sl1Count.a3x3]
    rw [show ((ks.length : Int) + ((wL cnt ks : Int) - ks.length)) = wL cnt ks from by omega]
theorem sTreeOk_ok (t : Tree) (ho : oT t) (hw : wT t ≤ 1048576) : sTreeOk [vT t] [] = rB (treeB t) := by
  rw [sTreeOk.e, sl1Parts_ok t ho 0 (by omega) (by omega), sl1Count_ok t hw]
  unfold treeB
  have h3 : decide ((cnt t : Int) ≤ 30) = decide (cnt t ≤ 30) := decide_eq_decide.2 (by omega)
  cases h1 : t.dir <;> cases h2 : partsB 0 t <;> simp [h3]

/-! ### the program's -/
theorem iTree_sound_ok (t : Tree) : oT t → ∀ d : Int, 0 ≤ d → d ≤ 5 → iTree_sound [vT t, vI d] [] = rB (partsB d t) := by
  induction t using Tree.ind with
  | h a b c ns ks ih =>
    intro ho d h0 h5
    rw [iTree_sound.e, imodeOk_ok, partsB_eq]
    unfold plainB
    simp only
    cases h1 : inB b 0 7 with
    | false => simp
    | true =>
      by_cases hd : d ≤ 4
      · have hd' : ¬ d > 4 := by omega
        by_cases h2 : ns.length = ks.length
        · have h2' : ((ns.length : Int) != (ks.length : Int)) = false := by rw [h2]; simp
          cases a with
          | false =>
            simp only [Option.bind_some, List.length_map, h2', iTree_sound.p2, size_mkS]
            by_cases h4 : c.length ≤ 24
            · have h4' : ((c.length : Int) ≤ 24) := by omega
              by_cases h5 : ns.length = 0
              · have : ks = [] := List.eq_nil_of_length_eq_zero (by omega)
                simp [h4, h4', h5, hd, hd', this]
              · have h5' : ((ns.length : Int) == 0) = false := by rw [beq_eq_false_iff_ne]; omega
                simp [h4, h4', h5', h5, hd, hd', ← h2]
            · have h4' : ¬ ((c.length : Int) ≤ 24) := by omega
              simp [h4, h4', hd, hd', ← h2]
          | true =>
            have hk := oT_kids ho
            have hn := oT_names ho
            have hkl := hk.1
            simp only at hkl hn
            have hl : ∀ k, k ≤ ns.length → iTree_sound.L8 d (eSs ns) ns.length (k : Int) true b (mkS c) (eSs ns) (ks.map eT) =
                some (bif namesB (prevOf ns k) (ns.drop k) && (ks.drop k).all (partsB (d + 1)) then iTree_sound.x8 else iTree_sound.q8 false) := by
              refine up ns.length ?_ fun k hk1 ihk => ?_
              · rw [iTree_sound.s8, show ks.drop ns.length = [] from List.drop_eq_nil_of_le (by omega)]; simp [namesB]
              · have hk2 : k < ks.length := by omega
                rw [iTree_sound.s8, drop_cons ns k hk1, drop_cons ks k hk2, List.all_cons]
                have h := inameOk_ok ns[k] (sL_at hn hk1)
                have hr := ih ks[k] (List.getElem_mem hk2) (sL_at hk hk2) (d + 1) (by omega) (by omega)
                simp only [Int.toNat_natCast, getD_map eS ns k hk1, tree_at hk2, wrap_nat k (by omega), ihk, namesB, prev_some hk1, wrap_in (d + 1) (by omega)]
                cases hnb : nameB ns[k] with
                | false => rw [hnb] at h; simp [hk1, eS, h]
                | true =>
                  rw [hnb] at h
                  by_cases hk0 : k = 0
                  · subst hk0; cases hp : partsB (d + 1) ks[0] <;> rw [hp] at hr <;> simp [-List.getElem_cons_drop, hk1, hk2, eS, h, prevOf, hr]
                  · obtain ⟨j, hjk⟩ : ∃ j, k = j + 1 := ⟨k - 1, by omega⟩
                    have hj : j < ns.length := by omega
                    have hw : IntKind.i64.wrap ((k : Int) - 1) = (j : Int) := by rw [wrap_pred k (by omega) (by omega), hjk]; rfl
                    have hpv : prevOf ns k = some ns[j] := by rw [hjk]; exact prev_some hj
                    have e1 : decide ((k : Int) > 0) = true := by simp; omega
                    simp only [hw, Int.toNat_natCast, getD_map eS ns j hj, hpv, e1]
                    cases hb : Op.bytesLess ns[j] ns[k] with
                    | false => simp [-List.getElem_cons_drop, hk1, hj, eS, h, hb]
                    | true => cases hp : partsB (d + 1) ks[k] <;> rw [hp] at hr <;> simp [-List.getElem_cons_drop, hk1, hk2, hj, eS, h, hb, hr]
            have hl0 : iTree_sound.L8 d (eSs ns) ns.length 0 true b (mkS c) (eSs ns) (ks.map eT) = _ := hl 0 (by omega)
            simp only [List.drop_zero, prevOf] at hl0
            have h2d : decide (ns.length = ks.length) = true := by simp [h2]
            by_cases h7 : c = []
            · subst h7
              cases h6 : namesB none ns <;> cases h8 : ks.all (partsB (d + 1)) <;> rw [h6, h8] at hl0 <;>
                simp [iTree_sound.p2, iTree_sound.p3, iTree_sound.p4, hl0, iTree_sound.a8q8, iTree_sound.a8x8, iTree_sound.p5, h2d, h2', hd, hd', h6, h8]
            · have h7' : (c == []) = false := by simpa using h7
              simp [iTree_sound.p2, iTree_sound.p3, h2, h2', hd, hd', h7, h7']
        · have h2' : ((ns.length : Int) != (ks.length : Int)) = true := by simp [bne]; omega
          simp [h2, h2', hd, hd']
      · have hd' : d > 4 := by omega
        simp [hd, hd']
theorem iTree_paths_ok (t : Tree) : wT t ≤ 1048576 → iTree_paths [vT t] [] = rI ((cnt t : Int) + 1) := by
  induction t using Tree.ind with
  | h a b c ns ks ih =>
    intro hw
    rw [iTree_paths.e, cnt_eq]
    rw [wT_eq] at hw
    simp only at hw ⊢
    have hlen := wL_len wT ks
    have hl : ∀ k, k ≤ ks.length → ∀ x : Int, 0 ≤ x → x + wL wT (ks.drop k) ≤ 4194304 → iTree_paths.L3 x (ks.map eT) ks.length (k : Int) = some (iTree_paths.x3 (x + wL cnt (ks.drop k))) := by
      refine up ks.length ?_ fun k hk ihk x hn1 hn2 => ?_
      · intro x _ _; rw [iTree_paths.s3]; simp [wL]
      · rw [iTree_paths.s3]
        have h1 := wL_drop wT hk
        have h2 := wL_drop cnt hk
        have h3 := wL_at wT hk
        have h4 := cnt_le ks[k]
        have hr := ih ks[k] (List.getElem_mem hk) (by omega)
        have e1 : IntKind.i64.wrap (x + ((cnt ks[k] : Int) + 1)) = x + ((cnt ks[k] : Int) + 1) := wrap_in _ (by omega)
        have := ihk (x + ((cnt ks[k] : Int) + 1)) (by omega) (by omega)
        have e2 : x + ((cnt ks[k] : Int) + 1) + (wL cnt (ks.drop (k + 1)) : Int) = x + wL cnt (ks.drop k) := by omega
        rw [e2] at this
        push_cast at this
        simp only [Int.toNat_natCast, tree_at hk, wrap_nat k (by omega)]
        simp [hk, hr, e1, this]
    have h0 : iTree_paths.L3 1 (ks.map eT) ks.length 0 = _ := hl 0 (by omega) 1 (by omega) (by rw [List.drop_zero]; omega)
    simp only [List.length_map]
    rw [h0, List.drop_zero]
    simp only [Option.bind_some, iTree_paths.a3x3]
    rw [Int.add_comm]
theorem iTreeOk_ok (t : Tree) (ho : oT t) (hw : wT t ≤ 1048576) : iTreeOk [vT t] [] = rB (treeB t) := by
  rw [iTreeOk.e, iTree_sound_ok t ho 0 (by omega) (by omega), iTree_paths_ok t hw]
  unfold treeB
  have h3 : decide ((cnt t : Int) + 1 ≤ 31) = decide (cnt t ≤ 30) := decide_eq_decide.2 (by omega)
  cases h1 : t.dir <;> cases h2 : partsB 0 t <;> simp [h3]
end Go.PVx
/- Nodes that are ok by themselves. -/
namespace Go.PVx
open Go.PV Go.Proofs

theorem node_at {l : List NodeOf} {k : Nat} (h : k < l.length) : (l.map eN).getD k [] = [.v (.int .i64 l[k].id), .s (eSs l[k].path)] := by
  rw [getD_map eN l k h]; rfl
def oN (n : NodeOf) : Prop := oP n.path
/-- Nodes behind others: ids, paths, their order. -/
def nodesB (nx : Int) : List NodeOf → List NodeOf → Bool
  | _, [] => true
  | pre, x :: l => inB x.id 1 (IntKind.i64.wrap (nx - 1)) && (pathB 1 x.path && ((match pre.getLast? with | none => true | some y => lessP y.path x.path) && (pre.all (fun y => !(y.id == x.id)) && nodesB nx (pre ++ [x]) l)))
def okB (n : Nodes) : Bool := inB n.next 1 10000 && decide (n.list.length ≤ 30) && nodesB n.next [] n.list
theorem last_take {α : Type} {l : List α} {j : Nat} (h : j < l.length) : (l.take (j + 1)).getLast? = some l[j] := by
  rw [take_snoc l j h, List.getLast?_concat]

/-! ### the reference's -/
theorem sl33Ok.l10 (nx : Int) (l : List NodeOf) (hl : l.length ≤ 9223372036854775807) (k : Nat) (hk : k < l.length) (id : Int) (es : List (List D)) : ∀ j, j ≤ k →
    sl33Ok.L10 (k : Int) (j : Int) nx (l.map eN) id es = some (bif ((l.take k).drop j).all (fun y => !(y.id == id)) then sl33Ok.x10 (k : Int) nx (l.map eN) else sl33Ok.q10 false (k : Int) nx (l.map eN)) := by
  refine up k ?_ fun j hj ih => ?_
  · rw [sl33Ok.s10]; simp
  · have hj2 : j < l.length := by omega
    have hj3 : j < (l.take k).length := by simp; omega
    rw [sl33Ok.s10, drop_cons (l.take k) j hj3]
    simp only [Int.toNat_natCast, node_at hj2, wrap_nat j (by omega), ih, List.all_cons, List.getElem_take]
    cases he : (l[j].id == id) <;> simp [-List.getElem_cons_drop, hj, hj2, he]
theorem sl33Ok.l4 (nx : Int) (l : List NodeOf) (ho : sL oN l) : ∀ k, k ≤ l.length → sl33Ok.L4 (k : Int) nx (l.map eN) = some (bif nodesB nx (l.take k) (l.drop k) then sl33Ok.x4 else sl33Ok.q4 false) := by
  have hl := ho.1
  refine up l.length ?_ fun k hk ih => ?_
  · rw [sl33Ok.s4]; simp [nodesB]
  · rw [sl33Ok.s4, drop_cons l k hk]
    have h1 := sl1In_ok l[k].id 1 (IntKind.i64.wrap (nx - 1))
    have h2 := sl2PathOk_ok l[k].path (sL_at ho hk)
    have h10 : sl33Ok.L10 (k : Int) 0 nx (l.map eN) l[k].id (eSs l[k].path) = _ := sl33Ok.l10 nx l hl k hk l[k].id (eSs l[k].path) 0 (by omega)
    have hend : (sl33Ok.L10 (k : Int) 0 nx (l.map eN) l[k].id (eSs l[k].path)).bind sl33Ok.A10 =
        some (bif (l.take k).all (fun y => !(y.id == l[k].id)) && nodesB nx (l.take (k + 1)) (l.drop (k + 1)) then sl33Ok.x4 else sl33Ok.q4 false) := by
      rw [h10, Option.bind_some, List.drop_zero]
      cases (l.take k).all (fun y => !(y.id == l[k].id)) with
      | true => simp only [cond_true, Bool.true_and]; rw [sl33Ok.a10x10, wrap_nat k (by omega)]; exact ih
      | false => simp only [cond_false, Bool.false_and]; rw [sl33Ok.a10q10]
    simp only [Int.toNat_natCast, node_at hk, nodesB, ← take_snoc l k hk]
    cases hin : inB l[k].id 1 (IntKind.i64.wrap (nx - 1)) with
    | false => rw [hin] at h1; simp [-List.getElem_cons_drop, hk, h1]
    | true =>
      rw [hin] at h1
      cases hpb : pathB 1 l[k].path with
      | false => rw [hpb] at h2; simp [-List.getElem_cons_drop, hk, h1, h2]
      | true =>
        rw [hpb] at h2
        by_cases hk0 : k = 0
        · subst hk0
          simp [-List.getElem_cons_drop, hk, h1, h2] at hend ⊢
          exact hend
        · obtain ⟨j, hjk⟩ : ∃ j, k = j + 1 := ⟨k - 1, by omega⟩
          have hj : j < l.length := by omega
          have hw : IntKind.i64.wrap ((k : Int) - 1) = (j : Int) := by rw [wrap_pred k (by omega) (by omega), hjk]; rfl
          have hla : (l.take k).getLast? = some l[j] := by rw [hjk]; exact last_take hj
          have e1 : decide ((k : Int) > 0) = true := by simp; omega
          have h3 := sl11Less_ok l[j].path l[k].path (sL_at ho hj).1
          simp only [hw, Int.toNat_natCast, node_at hj, hla, e1]
          cases hb : lessP l[j].path l[k].path with
          | false => rw [hb] at h3; simp [-List.getElem_cons_drop, hk, hj, h1, h2, h3]
          | true =>
            rw [hb] at h3
            simp [-List.getElem_cons_drop, hk, hj, h1, h2, h3] at hend ⊢
            exact hend
theorem sl33Ok_ok (n : Nodes) (ho : sL oN n.list) : sl33Ok [vNs n] [] = rB (okB n) := by
  rw [sl33Ok.e, sl1In_ok]
  unfold okB
  cases h1 : inB n.next 1 10000 with
  | false => simp
  | true =>
    by_cases h2 : n.list.length ≤ 30
    · have h2' : ¬ ((n.list.length : Int) > 30) := by omega
      have hl : sl33Ok.L4 0 n.next (n.list.map eN) = _ := sl33Ok.l4 n.next n.list ho 0 (by omega)
      simp only [List.take_zero, List.drop_zero] at hl
      cases h3 : nodesB n.next [] n.list <;> rw [h3] at hl <;> simp [h2, h2', hl, sl33Ok.a4q4, sl33Ok.a4x4]
    · have h2' : ((n.list.length : Int) > 30) := by omega
      simp [h2, h2']

/-! ### the program's -/
theorem inodesWell.l7 (nx : Int) (l : List NodeOf) (hl : l.length ≤ 9223372036854775807) (k : Nat) (hk : k < l.length) (id : Int) (es : List (List D)) : ∀ j, j ≤ k →
    inodesWell.L7 (l.map eN) l.length (k : Int) ((l.take k).map eN) (k : Int) (j : Int) nx (l.map eN) id es =
      some (bif ((l.take k).drop j).all (fun y => !(y.id == id)) then inodesWell.x7 (l.map eN) l.length (k : Int) nx (l.map eN) else inodesWell.q7 false (l.map eN) l.length (k : Int) nx (l.map eN)) := by
  refine up k ?_ fun j hj ih => ?_
  · rw [inodesWell.s7]; simp
  · have hj2 : j < l.length := by omega
    have hj3 : j < (l.take k).length := by simp; omega
    rw [inodesWell.s7, drop_cons (l.take k) j hj3]
    simp only [Int.toNat_natCast, node_at hj3, wrap_nat j (by omega), ih, List.all_cons]
    have hm : j < min k l.length := by omega
    cases he : ((l.take k)[j].id == id) <;> simp only [List.getElem_take] at he <;> simp [-List.getElem_cons_drop, hj, hm, he]
theorem inodesWell.l2 (nx : Int) (l : List NodeOf) (ho : sL oN l) : ∀ k, k ≤ l.length → inodesWell.L2 (l.map eN) l.length (k : Int) nx (l.map eN) =
    some (bif nodesB nx (l.take k) (l.drop k) then inodesWell.x2 nx (l.map eN) else inodesWell.q2 false nx (l.map eN)) := by
  have hl := ho.1
  refine up l.length ?_ fun k hk ih => ?_
  · rw [inodesWell.s2]; simp [nodesB]
  · rw [inodesWell.s2, drop_cons l k hk]
    have h1 := iwithin_ok l[k].id 1 (IntKind.i64.wrap (nx - 1))
    have h2 := inamesOk_ok l[k].path (sL_at ho hk) 1
    have hlen : ((((l.take k).map eN).length : Nat) : Int) = (k : Int) := by simp; omega
    have htk : List.drop 0 (List.take k (l.map eN)) = (l.take k).map eN := by rw [List.drop_zero, List.map_take]
    have h7 : inodesWell.L7 (l.map eN) l.length (k : Int) ((l.take k).map eN) (k : Int) 0 nx (l.map eN) l[k].id (eSs l[k].path) = _ := inodesWell.l7 nx l hl k hk l[k].id (eSs l[k].path) 0 (by omega)
    have hend : (inodesWell.L7 (l.map eN) l.length (k : Int) ((l.take k).map eN) (k : Int) 0 nx (l.map eN) l[k].id (eSs l[k].path)).bind inodesWell.A7 =
        some (bif (l.take k).all (fun y => !(y.id == l[k].id)) && nodesB nx (l.take (k + 1)) (l.drop (k + 1)) then inodesWell.x2 nx (l.map eN) else inodesWell.q2 false nx (l.map eN)) := by
      rw [h7, Option.bind_some, List.drop_zero]
      cases (l.take k).all (fun y => !(y.id == l[k].id)) with
      | true => simp only [cond_true, Bool.true_and]; rw [inodesWell.a7x7, wrap_nat k (by omega)]; exact ih
      | false => simp only [cond_false, Bool.false_and]; rw [inodesWell.a7q7]
    simp only [Int.toNat_natCast, node_at hk, nodesB, ← take_snoc l k hk, htk, hlen]
    have hkl : (k : Int) ≤ (l.length : Int) := by omega
    cases hpb : pathB 1 l[k].path with
    | false => rw [hpb] at h2; simp [-List.getElem_cons_drop, hk, h2]
    | true =>
      rw [hpb] at h2
      by_cases hk0 : k = 0
      · subst hk0
        cases hin : inB l[0].id 1 (IntKind.i64.wrap (nx - 1)) with
        | false => rw [hin] at h1; simp [-List.getElem_cons_drop, hk, h1, h2]
        | true =>
          rw [hin] at h1
          simp [-List.getElem_cons_drop, hk, h1, h2] at hend ⊢
          exact hend
      · obtain ⟨j, hjk⟩ : ∃ j, k = j + 1 := ⟨k - 1, by omega⟩
        have hj : j < l.length := by omega
        have hw : IntKind.i64.wrap ((k : Int) - 1) = (j : Int) := by rw [wrap_pred k (by omega) (by omega), hjk]; rfl
        have hla : (l.take k).getLast? = some l[j] := by rw [hjk]; exact last_take hj
        have e1 : decide ((k : Int) > 0) = true := by simp; omega
        have h3 := slices_Compare_ok l[j].path l[k].path (sL_at ho hj).1
        have h4 := cmpP_less l[j].path l[k].path
        simp only [hw, Int.toNat_natCast, node_at hj, hla, e1]
        cases hb : lessP l[j].path l[k].path with
        | false =>
          rw [hb] at h4
          have h4 : 0 ≤ cmpP l[j].path l[k].path := by simpa using h4
          simp [-List.getElem_cons_drop, hk, hj, h2, h3, h4]
        | true =>
          rw [hb] at h4
          have h4 : ¬ 0 ≤ cmpP l[j].path l[k].path := by simpa using h4
          cases hin : inB l[k].id 1 (IntKind.i64.wrap (nx - 1)) with
          | false => rw [hin] at h1; simp [-List.getElem_cons_drop, hk, hj, h1, h2, h3, h4]
          | true =>
            rw [hin] at h1
            simp [-List.getElem_cons_drop, hk, hj, h1, h2, h3, h4, hkl] at hend ⊢
            exact hend
theorem inodesWell_ok (n : Nodes) (ho : sL oN n.list) : inodesWell [vNs n] [] = rB (okB n) := by
  have h1 := iwithin_ok n.next 1 10000
  have hl := inodesWell.l2 n.next n.list ho 0 (by omega)
  rw [List.take_zero, List.drop_zero, Int.natCast_zero] at hl
  rw [inodesWell.e, List.length_map, hl, Option.bind_some]
  unfold okB
  have h2 : decide ((n.list.length : Int) ≤ 30) = decide (n.list.length ≤ 30) := decide_eq_decide.2 (by omega)
  cases h3 : nodesB n.next [] n.list with
  | false => rw [cond_false, inodesWell.a2q2, Bool.and_false]
  | true =>
    rw [cond_true, inodesWell.a2x2, h1, Bool.and_true]
    cases h4 : inB n.next 1 10000 <;> simp [h2]
end Go.PVx
/- The paths of a tree. -/
namespace Go.PVx
open Go.PV Go.Proofs

theorem rowsLen_map {α : Type} (f : α → List D) (n : Nat) (h : ∀ x, (f x).length = n) (l : List α) : rowsLen n (l.map f) = true := by
  simp [rowsLen, h]
@[simp] theorem rowsLen_eS (l : List Str) : rowsLen 1 (eSs l) = true := rowsLen_map eS 1 (fun _ => rfl) l
@[simp] theorem rowsLen_ePa (l : List (List Str)) : rowsLen 1 (l.map ePa) = true := rowsLen_map ePa 1 (fun _ => rfl) l
@[simp] theorem rowsLen_eN (l : List NodeOf) : rowsLen 2 (l.map eN) = true := rowsLen_map eN 2 (fun _ => rfl) l
@[simp] theorem rowsCell_eS (b : Bool) (l : List Str) : rowsCell b (eSs l) = true := by simp [rowsCell, eS, cellD, isCell]
@[simp] theorem rowsCell_ePa (l : List (List Str)) : rowsCell true (l.map ePa) = true := by simp [rowsCell, ePa, cellD]
theorem snoc_eS (l : List Str) (s : Str) : eSs l ++ [[D.v (.string (mkS s))]] = eSs (l ++ [s]) := by simp [eS]
theorem snoc_ePa (l : List (List Str)) (p : List Str) : l.map ePa ++ [[D.s (eSs p)]] = (l ++ [p]).map ePa := by simp [ePa]
theorem path_at {l : List (List Str)} {k : Nat} (h : k < l.length) : (l.map ePa).getD k [] = [.s (eSs l[k])] := by
  rw [getD_map ePa l k h]; rfl

theorem sl3Path_ok (p : List Str) (n : Str) (hp : p.length ≤ 4194304) : sl3Path [vP p, vS n] [] = rSh (eSs (p ++ [n])) := by
  rw [sl3Path.e]
  have e1 : decide ((0 + p.length) * 17 ≤ 70368744177664) = true := by simp; omega
  have e2 : decide ((p.length + 1) * 17 ≤ 70368744177664) = true := by simp; omega
  simp only [rowsLen_eS, rowsCell_eS, List.length_map, e1, e2, Bool.and_self, cond_true, snoc_eS]
theorem ibelow_ok (p : List Str) (n : Str) (hp : p.length ≤ 4194304) : ibelow [vP p, vS n] [] = rO (eSs (p ++ [n])) := by
  rw [ibelow.e]
  have e1 : decide ((0 + p.length) * 17 ≤ 70368744177664) = true := by simp; omega
  have e2 : decide ((p.length + 1) * 17 ≤ 70368744177664) = true := by simp; omega
  simp only [rowsLen_eS, rowsCell_eS, List.length_map, e1, e2, Bool.and_self, cond_true, snoc_eS]
theorem ibelow_nil (n : Str) : ibelow [.one (.v (.slice none 0 0)), vS n] [] = rO (eSs [n]) := by
  rw [ibelown.e]; rfl

mutual
/-- The paths below a part at a path. -/
def pathsT (p : List Str) : Tree → List (List Str)
  | ⟨_, _, _, ns, ks⟩ => pathsZ p ns ks
def pathsZ (p : List Str) : List Str → List Tree → List (List Str)
  | n :: ns, k :: ks => (p ++ [n]) :: (pathsT (p ++ [n]) k ++ pathsZ p ns ks)
  | [], _ => []
  | _ :: _, [] => []
end
theorem pathsT_eq (p : List Str) (t : Tree) : pathsT p t = pathsZ p t.names t.kids := by
  obtain ⟨a, b, c, ns, ks⟩ := t
  rw [pathsT]
theorem partsB_names {d : Int} {t : Tree} (h : partsB d t = true) : t.names.length = t.kids.length := by
  rw [partsB_eq] at h
  simp only [plainB, Bool.and_eq_true, decide_eq_true_eq] at h
  exact h.1.1.1.2
theorem partsB_kid {d : Int} {t : Tree} (h : partsB d t = true) {k : Tree} (hk : k ∈ t.kids) : partsB (d + 1) k = true := by
  rw [partsB_eq] at h
  simp only [Bool.and_eq_true, List.all_eq_true] at h
  exact h.2 k hk
theorem pathsZ_drop (p : List Str) {ns : List Str} {ks : List Tree} {k : Nat} (h1 : k < ns.length) (h2 : k < ks.length) :
    pathsZ p (ns.drop k) (ks.drop k) = (p ++ [ns[k]]) :: (pathsT (p ++ [ns[k]]) ks[k] ++ pathsZ p (ns.drop (k + 1)) (ks.drop (k + 1))) := by
  rw [drop_cons ns k h1, drop_cons ks k h2, pathsZ]
theorem pathsZ_nil (p : List Str) (ns : List Str) (ks : List Tree) (h : ns.length ≤ 0) : pathsZ p ns ks = [] := by
  cases ns with
  | nil => rw [pathsZ]
  | cons => simp at h
theorem pathsT_len (t : Tree) : ∀ (p : List Str) (d : Int), partsB d t = true → (pathsT p t).length = cnt t := by
  induction t using Tree.ind with
  | h a b c ns ks ih =>
    intro p d hp
    have hn := partsB_names hp
    have hk := fun k (h : k ∈ ks) => partsB_kid hp (k := k) h
    simp only at hn
    rw [pathsT_eq, cnt_eq]
    simp only
    clear hp
    induction ks generalizing ns with
    | nil =>
      have : ns = [] := List.eq_nil_of_length_eq_zero hn
      subst this
      simp [pathsZ, wL]
    | cons k ks ihk =>
      cases ns with
      | nil => simp at hn
      | cons n ns =>
        rw [pathsZ, List.length_cons, List.length_append, ih k (by simp) _ (d + 1) (hk k (by simp)), ihk ns (fun k h => ih k (List.mem_cons_of_mem _ h)) (by simpa using hn) (fun k h => hk k (List.mem_cons_of_mem _ h)), wL]
        omega

/-! ### the reference's -/
theorem sl33Paths.l3_b (p : List (List D)) (k : Int) (a : Bool) (b : Int) (c : ByteArray) (ns ks acc : List (List D)) :
    (sl33Paths.L3 p k a b c ns ks acc).bind sl33Paths.A3 = (sl33Paths.L3b p k a b c ns ks acc).bind sl33Paths.A3 := by
  rw [sl33Paths.s3, sl33Paths.s3b]
  cases decide (k < (ns.length : Int)) <;> simp only [cond_true, cond_false, Option.bind_some, sl33Paths.a3x3, sl33Paths.a3x3b]
theorem sl33Paths_ok (t : Tree) : ∀ (p : List Str) (d : Int), partsB d t = true → oT t → wT t ≤ 1048576 → p.length + wT t ≤ 2097152 → sl33Paths [vP p, vT t] [] = rSh ((pathsT p t).map ePa) := by
  induction t using Tree.ind with
  | h a b c ns ks ih =>
    intro p d hp ho hw hpw
    have hn := partsB_names hp
    have hk := fun k (h : k ∈ ks) => partsB_kid hp (k := k) h
    have hok := oT_kids ho
    have hlen := (pathsT_len _ p d hp)
    have hcnt := cnt_le ⟨a, b, c, ns, ks⟩
    simp only at hn hok
    have hkl := hok.1
    rw [pathsT_eq] at hlen
    rw [sl33Paths.e, pathsT_eq]
    simp only at hlen ⊢
    have hw2 := hw
    rw [wT_eq] at hw2 hpw
    simp only at hw2 hpw
    have hl : ∀ k, k ≤ ns.length → ∀ acc : List (List Str), acc.length + (pathsZ p (ns.drop k) (ks.drop k)).length ≤ 4194304 →
        (sl33Paths.L3b (eSs p) (k : Int) a b (mkS c) (eSs ns) (ks.map eT) (acc.map ePa)).bind sl33Paths.A3 = rSh ((acc ++ pathsZ p (ns.drop k) (ks.drop k)).map ePa) := by
      refine up ns.length ?_ fun k hk1 ihk acc hacc => ?_
      · intro acc _
        rw [sl33Paths.s3b, pathsZ_nil p _ _ (by simp)]
        simp [sl33Paths.a3x3b]
      · have hk2 : k < ks.length := by omega
        have hz := pathsZ_drop p hk1 hk2
        rw [hz] at hacc ⊢
        simp only [List.length_cons, List.length_append] at hacc
        have hwk := wL_at wT hk2
        have h1 := sl3Path_ok p ns[k] (by omega)
        have h2 := ih ks[k] (List.getElem_mem hk2) (p ++ [ns[k]]) (d + 1) (hk _ (List.getElem_mem hk2)) (sL_at hok hk2) (by omega) (by simp only [List.length_append, List.length_cons, List.length_nil]; omega)
        have h3 := ihk (acc ++ [p ++ [ns[k]]] ++ pathsT (p ++ [ns[k]]) ks[k]) (by simp only [List.length_append, List.length_cons, List.length_nil]; omega)
        have e1 : decide ((acc.length + 1) * 25 ≤ 70368744177664) = true := by simp; omega
        have e2 : decide ((acc.length + 1 + (pathsT (p ++ [ns[k]]) ks[k]).length) * 25 ≤ 70368744177664) = true := by simp; omega
        have hlist : acc ++ (p ++ [ns[k]]) :: (pathsT (p ++ [ns[k]]) ks[k] ++ pathsZ p (ns.drop (k + 1)) (ks.drop (k + 1))) =
            acc ++ [p ++ [ns[k]]] ++ pathsT (p ++ [ns[k]]) ks[k] ++ pathsZ p (ns.drop (k + 1)) (ks.drop (k + 1)) := by simp
        rw [hlist, ← h3, sl33Paths.s3b]
        have hb1 : decide ((k : Int) < ((eSs ns).length : Int)) = true := by simp; omega
        have hb2 : decide (0 ≤ (k : Int)) = true := by simp
        have hb3 : decide ((k : Int) < ((ks.map eT).length : Int)) = true := by simp; omega
        simp only [hb1, hb2, hb3, Int.toNat_natCast, getD_map eS ns k hk1, tree_at hk2, wrap_nat k (by omega), eS]
        simp only [fitsRow, CK.fits, List.zipIdx, List.all_cons, List.all_nil, List.getD_cons_zero, List.getD_cons_succ, List.length_cons, List.length_nil, str_v, bool_v, int_v, es_s]
        simp only [h1, h2, Option.bind_some, fitsCells, List.zipIdx, List.length_cons, List.length_nil, R1.fits, List.all_cons, List.all_nil, List.getD_cons_zero, tes_s, snoc_ePa, rowsLen_ePa, rowsCell_ePa, List.length_map, List.length_append, e1, e2, ← List.map_append]
        rfl
    have h0 : (sl33Paths.L3b (eSs p) 0 a b (mkS c) (eSs ns) (ks.map eT) []).bind sl33Paths.A3 = _ := hl 0 (by omega) [] (by simp only [List.drop_zero, List.length_nil]; omega)
    rw [sl33Paths.l3_b, h0]
    simp

/-! ### the program's -/
abbrev oB (l : List (List Str)) : PV.Obj := { kind := Kind.box, row := [D.s (l.map ePa)], fl := [Own.deep] }
theorem ipathsOf_1_ok (p : List Str) (t : Tree) (acc : List (List Str)) (hp : p.length ≤ 4194304) (ha : acc.length ≤ 4194304) :
    ipathsOf_1 [vP p, vT t, .one (.p true 0 [] 0)] [oB acc] = some ⟨[], [oB (bif p.isEmpty then acc else acc ++ [p])]⟩ := by
  rw [ipathsOf_1.e]
  have e1 : decide ((0 + p.length) * 17 ≤ 70368744177664) = true := by simp; omega
  have e2 : decide ((acc.length + 1) * 25 ≤ 70368744177664) = true := by simp; omega
  cases p with
  | nil => simp
  | cons x p =>
    have e3 : decide ((((x :: p).length : Nat) : Int) > 0) = true := by rw [decide_eq_true_iff]; simp only [List.length_cons]; omega
    simp only [rowsLen_eS, rowsCell_eS, List.length_map, e1, e2, e3, Bool.and_self, cond_true, snoc_ePa, rowsLen_ePa, List.isEmpty_cons, cond_false]
theorem fitsCos_box (a b : List (List Str)) (n : Nat) : fitsCos [{ ob := oB a, src := Src.box n }] [oB b] = true := by simp
theorem iTree_each_paths_ok (t : Tree) : ∀ (p : List Str) (d : Int) (acc : List (List Str)), partsB d t = true → oT t → wT t ≤ 1048576 → p.length + wT t ≤ 2097152 → p ≠ [] → acc.length + 1 + cnt t ≤ 2097152 →
    iTree_each [vT t, vP p, .f ipathsOf_1.id [.p true 0 [] 0]] [oB acc] = some ⟨[], [oB (acc ++ [p] ++ pathsT p t)]⟩ := by
  induction t using Tree.ind with
  | h a b c ns ks ih =>
    intro p d acc hp ho hw hpw hp0 hacc0
    have hn := partsB_names hp
    have hk := fun k (h : k ∈ ks) => partsB_kid hp (k := k) h
    have hok := oT_kids ho
    have hlen := (pathsT_len _ p d hp)
    simp only at hn hok
    have hkl := hok.1
    rw [pathsT_eq] at hlen
    have h1 := ipathsOf_1_ok p ⟨a, b, c, ns, ks⟩ acc (by omega) (by omega)
    have hpe : p.isEmpty = false := by cases p with | nil => exact absurd rfl hp0 | cons => rfl
    rw [hpe] at h1
    rw [iTree_each_paths.e, pathsT_eq]
    simp only at hlen h1 ⊢
    have hw2 := hw
    rw [wT_eq] at hw2 hpw
    simp only at hw2 hpw
    have hl : ∀ k, k ≤ ns.length → ∀ acc : List (List Str), acc.length + (pathsZ p (ns.drop k) (ks.drop k)).length ≤ 2097152 →
        (iTree_each_paths.L3 (eSs p) (eSs ns) ns.length (k : Int) (acc.map ePa) a b (mkS c) (eSs ns) (ks.map eT)).bind iTree_each_paths.A3 = some ⟨[], [oB (acc ++ pathsZ p (ns.drop k) (ks.drop k))]⟩ := by
      refine up ns.length ?_ fun k hk1 ihk acc hacc => ?_
      · intro acc _
        rw [iTree_each_paths.s3, pathsZ_nil p _ _ (by simp)]
        simp [iTree_each_paths.a3x3]
      · have hk2 : k < ks.length := by omega
        have hz := pathsZ_drop p hk1 hk2
        rw [hz] at hacc ⊢
        simp only [List.length_cons, List.length_append] at hacc
        have hwk := wL_at wT hk2
        have hpl := pathsT_len ks[k] (p ++ [ns[k]]) (d + 1) (hk _ (List.getElem_mem hk2))
        have h1 := ibelow_ok p ns[k] (by omega)
        have h2 := ih ks[k] (List.getElem_mem hk2) (p ++ [ns[k]]) (d + 1) acc (hk _ (List.getElem_mem hk2)) (sL_at hok hk2) (by omega) (by simp only [List.length_append, List.length_cons, List.length_nil]; omega) (by simp) (by omega)
        have h3 := ihk (acc ++ [p ++ [ns[k]]] ++ pathsT (p ++ [ns[k]]) ks[k]) (by simp only [List.length_append, List.length_cons, List.length_nil]; omega)
        have hlist : acc ++ (p ++ [ns[k]]) :: (pathsT (p ++ [ns[k]]) ks[k] ++ pathsZ p (ns.drop (k + 1)) (ks.drop (k + 1))) =
            acc ++ [p ++ [ns[k]]] ++ pathsT (p ++ [ns[k]]) ks[k] ++ pathsZ p (ns.drop (k + 1)) (ks.drop (k + 1)) := by simp
        rw [hlist, ← h3, iTree_each_paths.s3]
        have hb1 : decide ((k : Int) < ((eSs ns).length : Int)) = true := by simp; omega
        have hb0 : decide ((k : Int) < (ns.length : Int)) = true := by simp; omega
        have hb2 : decide (0 ≤ (k : Int)) = true := by simp
        have hb3 : decide ((k : Int) < ((ks.map eT).length : Int)) = true := by simp; omega
        simp only [hb0, hb1, hb2, hb3, Int.toNat_natCast, getD_map eS ns k hk1, tree_at hk2, wrap_nat k (by omega), eS]
        simp only [fitsRow, CK.fits, List.zipIdx, List.all_cons, List.all_nil, List.getD_cons_zero, List.getD_cons_succ, List.length_cons, List.length_nil, str_v, bool_v, int_v, es_s]
        simp only [h1, Option.bind_some, fitsCells, List.zipIdx, List.length_cons, List.length_nil, R1.fits, List.all_cons, List.all_nil, List.getD_cons_zero, tes_o, h2]
        rw [fitsCos_box]
        rfl
    have h0 : (iTree_each_paths.L3 (eSs p) (eSs ns) ns.length 0 ((acc ++ [p]).map ePa) a b (mkS c) (eSs ns) (ks.map eT)).bind iTree_each_paths.A3 = _ :=
      hl 0 (by omega) (acc ++ [p]) (by simp only [List.drop_zero, List.length_append, List.length_cons, List.length_nil]; omega)
    rw [h1, Option.bind_some, fitsCos_box]
    simp only [cond_false, List.length_map, List.drop_zero] at h0 ⊢
    exact h0
theorem ipathsOf_ok (t : Tree) (d : Int) (hp : partsB d t = true) (ho : oT t) (hw : wT t ≤ 1048576) : ipathsOf [vT t] [] = rO ((pathsT [] t).map ePa) := by
  obtain ⟨a, b, c, ns, ks⟩ := t
  have hn := partsB_names hp
  have hk := fun k (h : k ∈ ks) => partsB_kid hp (k := k) h
  have hok := oT_kids ho
  have hlen := (pathsT_len _ [] d hp)
  have hcnt := cnt_le ⟨a, b, c, ns, ks⟩
  simp only at hn hok
  have hkl := hok.1
  rw [pathsT_eq] at hlen
  rw [ipathsOf.e, pathsT_eq]
  have hw2 := hw
  rw [wT_eq] at hw2
  simp only at hlen hw2 ⊢
  have hl : ∀ k, k ≤ ns.length → ∀ acc : List (List Str), acc.length + (pathsZ [] (ns.drop k) (ks.drop k)).length ≤ 2097152 →
      (iTree_each_pathsn.L3 (eSs ns) ns.length (k : Int) (acc.map ePa) a b (mkS c) (eSs ns) (ks.map eT)).bind iTree_each_pathsn.A3 = some ⟨[], [oB (acc ++ pathsZ [] (ns.drop k) (ks.drop k))]⟩ := by
    refine up ns.length ?_ fun k hk1 ihk acc hacc => ?_
    · intro acc _
      rw [iTree_each_pathsn.s3, pathsZ_nil [] _ _ (by simp)]
      simp [iTree_each_pathsn.a3x3]
    · have hk2 : k < ks.length := by omega
      have hz := pathsZ_drop [] hk1 hk2
      rw [hz] at hacc ⊢
      simp only [List.length_cons, List.length_append, List.nil_append] at hacc ⊢
      have hwk := wL_at wT hk2
      have hpl := pathsT_len ks[k] [ns[k]] (d + 1) (hk _ (List.getElem_mem hk2))
      have h1 := ibelow_nil ns[k]
      have h2 := iTree_each_paths_ok ks[k] [ns[k]] (d + 1) acc (hk _ (List.getElem_mem hk2)) (sL_at hok hk2) (by omega) (by simp only [List.length_cons, List.length_nil]; omega) (by simp) (by omega)
      have h3 := ihk (acc ++ [[ns[k]]] ++ pathsT [ns[k]] ks[k]) (by simp only [List.length_append, List.length_cons, List.length_nil]; omega)
      have hlist : acc ++ [ns[k]] :: (pathsT [ns[k]] ks[k] ++ pathsZ [] (ns.drop (k + 1)) (ks.drop (k + 1))) =
          acc ++ [[ns[k]]] ++ pathsT [ns[k]] ks[k] ++ pathsZ [] (ns.drop (k + 1)) (ks.drop (k + 1)) := by simp
      rw [hlist, ← h3, iTree_each_pathsn.s3]
      have hb1 : decide ((k : Int) < ((eSs ns).length : Int)) = true := by simp; omega
      have hb0 : decide ((k : Int) < (ns.length : Int)) = true := by simp; omega
      have hb2 : decide (0 ≤ (k : Int)) = true := by simp
      have hb3 : decide ((k : Int) < ((ks.map eT).length : Int)) = true := by simp; omega
      simp only [hb0, hb1, hb2, hb3, Int.toNat_natCast, getD_map eS ns k hk1, tree_at hk2, wrap_nat k (by omega), eS]
      simp only [fitsRow, CK.fits, List.zipIdx, List.all_cons, List.all_nil, List.getD_cons_zero, List.getD_cons_succ, List.length_cons, List.length_nil, str_v, bool_v, int_v, es_s]
      simp only [h1, Option.bind_some, fitsCells, List.zipIdx, List.length_cons, List.length_nil, R1.fits, List.all_cons, List.all_nil, List.getD_cons_zero, tes_o, h2]
      rw [fitsCos_box]
      rfl
  have h0 : (iTree_each_pathsn.L3 (eSs ns) ns.length 0 [] a b (mkS c) (eSs ns) (ks.map eT)).bind iTree_each_pathsn.A3 = _ := hl 0 (by omega) [] (by simp only [List.drop_zero, List.length_nil]; omega)
  simp only [List.drop_zero, List.nil_append] at h0
  rw [iTree_each_pathsn.e, ipathsOf_1n.e]
  have hf : ∀ n, fitsCos [{ ob := { kind := Kind.box, row := [D.s []], fl := [Own.deep] }, src := Src.box n }] [oB (pathsZ [] ns ks)] = true := fun n => by simp
  have hf2 : ∀ n, fitsCos [{ ob := { kind := Kind.box, row := [D.s []], fl := [Own.deep] }, src := Src.box n }] [({ kind := Kind.box, row := [D.s []], fl := [Own.deep] } : PV.Obj)] = true := fun n => by simp
  simp only [Option.bind_some, List.length_map]
  rw [hf2]
  show ((iTree_each_pathsn.L3 (eSs ns) ns.length 0 [] a b (mkS c) (eSs ns) (ks.map eT)).bind iTree_each_pathsn.A3).bind _ = _
  rw [h0, Option.bind_some, hf]
  rfl

/-! ### nodes and a tree -/
def nodesOkB (n : Nodes) (t : Tree) : Bool := treeB t && okB n && decide (pathsT [] t = n.list.map NodeOf.path)
theorem treeB_parts {t : Tree} (h : treeB t = true) : partsB 0 t = true := by
  simp only [treeB, Bool.and_eq_true] at h; exact h.1.2
theorem sNodesOk.l5 (ps : List (List Str)) (nx : Int) (l : List NodeOf) (hl : l.length ≤ 9223372036854775807) (hp : ∀ p ∈ ps, p.length ≤ 9223372036854775807) : ∀ k, k ≤ min ps.length l.length →
    (sNodesOk.L5 (ps.map ePa) (k : Int) nx (l.map eN)).bind sNodesOk.A5 = rB (decide (ps.drop k = (l.drop k).map NodeOf.path)) := by
  refine up (min ps.length l.length) ?_ fun k hk ih => ?_
  · rw [sNodesOk.s5]
    rcases Nat.lt_trichotomy ps.length l.length with h | h | h
    · have hne : (decide ((([] : List (List Str)) = (l.drop ps.length).map NodeOf.path))) = false := by
        rw [drop_cons l _ h]; rfl
      have hlen : (((ps.length : Nat) : Int) == ((l.length : Nat) : Int)) = false := by rw [beq_eq_false_iff_ne]; omega
      rw [show min ps.length l.length = ps.length from by omega, List.drop_length, hne]
      simp [sNodesOk.a5x5, hlen]
    · rw [show min ps.length l.length = ps.length from by omega, List.drop_length, h, List.drop_length]
      simp [sNodesOk.a5x5, h]
    · have hne : (decide (ps.drop l.length = (([] : List NodeOf)).map NodeOf.path)) = false := by
        rw [drop_cons ps _ h]; rfl
      have hlen : (((ps.length : Nat) : Int) == ((l.length : Nat) : Int)) = false := by rw [beq_eq_false_iff_ne]; omega
      rw [show min ps.length l.length = l.length from by omega, List.drop_length, hne]
      simp [sNodesOk.a5x5, hlen, h]
  · have hk1 : k < ps.length := by omega
    have hk2 : k < l.length := by omega
    rw [sNodesOk.s5, drop_cons ps k hk1, drop_cons l k hk2]
    have h1 := sl11Same_ok ps[k] l[k].path (hp _ (List.getElem_mem hk1))
    simp only [Int.toNat_natCast, path_at hk1, node_at hk2, wrap_nat k (by omega), List.map_cons, List.cons.injEq]
    by_cases he : ps[k] = l[k].path
    · simp only [he, decide_true] at h1
      push_cast at ih
      simp only [List.map_drop] at ih
      simp [-List.getElem_cons_drop, hk1, hk2, he, h1, ih]
    · simp only [he, decide_false] at h1
      simp [-List.getElem_cons_drop, hk1, hk2, he, h1, sNodesOk.a5q5]
theorem pathsT_small (t : Tree) : ∀ (p : List Str) (d : Int), partsB d t = true → wT t ≤ 1048576 → p.length + wT t ≤ 2097152 → ∀ q ∈ pathsT p t, q.length ≤ 2097152 := by
  induction t using Tree.ind with
  | h a b c ns ks ih =>
    intro p d hp hw hpw q hq
    have hn := partsB_names hp
    have hk := fun k (h : k ∈ ks) => partsB_kid hp (k := k) h
    simp only at hn
    rw [pathsT_eq] at hq
    rw [wT_eq] at hw hpw
    simp only at hq hw hpw
    have key : ∀ k, k ≤ ns.length → q ∈ pathsZ p (ns.drop k) (ks.drop k) → q.length ≤ 2097152 := by
      refine up ns.length ?_ fun k hk1 ihk h => ?_
      · intro h; rw [pathsZ_nil p _ _ (by simp)] at h; simp at h
      · have hk2 : k < ks.length := by omega
        have hwk := wL_at wT hk2
        rw [pathsZ_drop p hk1 hk2] at h
        rcases List.mem_cons.1 h with rfl | h
        · simp only [List.length_append, List.length_cons, List.length_nil]; omega
        · rcases List.mem_append.1 h with h | h
          · exact ih ks[k] (List.getElem_mem hk2) _ (d + 1) (hk _ (List.getElem_mem hk2)) (by omega) (by simp only [List.length_append, List.length_cons, List.length_nil]; omega) q h
          · exact ihk h
    exact key 0 (by omega) (by simpa using hq)
theorem sNodesOk_ok (n : Nodes) (t : Tree) (hn : sL oN n.list) (ho : oT t) (hw : wT t ≤ 1048576) : sNodesOk [vNs n, vT t] [] = rB (nodesOkB n t) := by
  have h1 := sTreeOk_ok t ho hw
  have h2 := sl33Ok_ok n hn
  rw [sNodesOk.e, h1]
  unfold nodesOkB
  cases h3 : treeB t with
  | false => simp
  | true =>
    simp only [Option.bind_some]
    rw [h2]
    cases h4 : okB n with
    | false => simp
    | true =>
      have hp := treeB_parts h3
      have h5 : sl33Paths [.one (.s []), vT t] [] = _ := sl33Paths_ok t [] 0 hp ho hw (by simp only [List.length_nil]; omega)
      have h6 : (sNodesOk.L5 ((pathsT [] t).map ePa) 0 n.next (n.list.map eN)).bind sNodesOk.A5 = _ := sNodesOk.l5 (pathsT [] t) n.next n.list hn.1 (fun p hq => by have := pathsT_small t [] 0 hp hw (by simp only [List.length_nil]; omega) p hq; omega) 0 (by omega)
      simp only [Option.bind_some]
      rw [h5]
      simp only [Option.bind_some, fitsCells, List.zipIdx, List.length_cons, List.length_nil, R1.fits, List.all_cons, List.all_nil, List.getD_cons_zero, tes_s, tbool_v, Bool.not_true, cond_false, Bool.and_true, beq_self_eq_true, cond_true]
      rw [h6]
      simp
theorem slices_EqualFunc_nodes.l4 (ps : List (List Str)) (l : List NodeOf) (ho : sL oN l) (hlen : l.length = ps.length) : ∀ k, k ≤ l.length →
    (slices_EqualFunc_nodes.L4 (ps.map ePa) (l.map eN) l.length (k : Int)) = some (bif decide (ps.drop k = (l.drop k).map NodeOf.path) then slices_EqualFunc_nodes.x4 else slices_EqualFunc_nodes.q4 false) := by
  have hl := ho.1
  refine up l.length ?_ fun k hk ih => ?_
  · rw [slices_EqualFunc_nodes.s4, show ps.drop l.length = [] from List.drop_eq_nil_of_le (by omega)]; simp
  · have hk1 : k < ps.length := by omega
    rw [slices_EqualFunc_nodes.s4, drop_cons ps k hk1, drop_cons l k hk]
    have h1 := slices_Equal_ok l[k].path ps[k] (sL_at ho hk).1
    have h2 := iNodesOk_1.e l[k].id (eSs l[k].path) (eSs ps[k])
    rw [h1] at h2
    simp only [Int.toNat_natCast, path_at hk1, node_at hk, wrap_nat k (by omega), ih, List.map_cons, List.cons.injEq]
    by_cases he : ps[k] = l[k].path
    · simp only [he, decide_true] at h2 ⊢
      simp [-List.getElem_cons_drop, hk1, hk, he, h2]
    · have he' : ¬ l[k].path = ps[k] := fun h => he h.symm
      simp only [he', decide_false] at h2
      simp [-List.getElem_cons_drop, hk1, hk, he, h2]
theorem iNodesOk_ok (n : Nodes) (t : Tree) (hn : sL oN n.list) (ho : oT t) (hw : wT t ≤ 1048576) : iNodesOk [vNs n, vT t] [] = rB (nodesOkB n t) := by
  have h1 := iTreeOk_ok t ho hw
  have h2 := inodesWell_ok n hn
  rw [iNodesOk.e, h2]
  unfold nodesOkB
  cases h4 : okB n with
  | false => simp
  | true =>
    simp only [Option.bind_some]
    rw [h1]
    cases h3 : treeB t with
    | false => simp
    | true =>
      have hp := treeB_parts h3
      have h5 := ipathsOf_ok t 0 hp ho hw
      simp only [Option.bind_some]
      rw [h5]
      simp only [Option.bind_some, fitsCells, List.zipIdx, List.length_cons, List.length_nil, R1.fits, List.all_cons, List.all_nil, List.getD_cons_zero, tes_o, tbool_v, Bool.not_true, cond_false, Bool.and_true, beq_self_eq_true, cond_true, decide_true]
      rw [slices_EqualFunc_nodes.e]
      simp only [List.length_map]
      by_cases hlen : n.list.length = (pathsT [] t).length
      · have h6 : slices_EqualFunc_nodes.L4 ((pathsT [] t).map ePa) (n.list.map eN) n.list.length 0 = _ := slices_EqualFunc_nodes.l4 (pathsT [] t) n.list hn hlen 0 (by omega)
        have hb : (((n.list.length : Nat) : Int) != (((pathsT [] t).length : Nat) : Int)) = false := by rw [hlen]; simp
        rw [hb, cond_false, h6, List.drop_zero, List.drop_zero, Option.bind_some]
        cases decide (pathsT [] t = n.list.map NodeOf.path) <;> simp [slices_EqualFunc_nodes.a4q4, slices_EqualFunc_nodes.a4x4]
      · have hb : (((n.list.length : Nat) : Int) != (((pathsT [] t).length : Nat) : Int)) = true := by simp [bne]; omega
        have hne : decide (pathsT [] t = n.list.map NodeOf.path) = false := by
          rw [decide_eq_false_iff_not]; intro h; exact hlen (by rw [h, List.length_map])
        rw [hb, hne]
        simp
end Go.PVx
/- What the laws do with their arguments: how large they are, copies, that they are the same: words for all types; lists of texts. -/
namespace Go.PVx
open Go.PV Go.Proofs

/-- What is left of a room. -/
def szR (w : Nat) (x : Int) : Int := bif decide ((w : Int) ≤ x) then x - w else -1
theorem szR_pos {w : Nat} {x : Int} (h : (w : Int) ≤ x) : szR w x = x - w := by simp [szR, h]
theorem szR_neg {w : Nat} {x : Int} (h : ¬ (w : Int) ≤ x) : szR w x = -1 := by simp [szR, h]
def sumW {α : Type} (w : α → Nat) : List α → Nat
  | [] => 0
  | x :: l => w x + sumW w l
theorem wL_sum {α : Type} (w : α → Nat) : ∀ l : List α, wL w l = l.length + sumW w l
  | [] => rfl
  | x :: l => by simp only [wL, sumW, List.length_cons, wL_sum w l]; omega
theorem szR_add {a b : Nat} {x : Int} (h : (a : Int) ≤ x) : szR (a + b) x = szR b (x - a) := by
  unfold szR
  by_cases h2 : (b : Int) ≤ x - a
  · have h3 : ((a + b : Nat) : Int) ≤ x := by omega
    simp only [h2, h3, decide_true, cond_true]; omega
  · have h3 : ¬ ((a + b : Nat) : Int) ≤ x := by omega
    simp only [h2, h3, decide_false, cond_false]
theorem szR_more {a b : Nat} {x : Int} (h : ¬ (a : Int) ≤ x) : szR (a + b) x = -1 := szR_neg (by omega)
theorem szR_ge {w : Nat} {x : Int} (h : 0 ≤ szR w x) : (w : Int) ≤ x := by
  by_cases h2 : (w : Int) ≤ x
  · exact h2
  · rw [szR_neg h2] at h; omega
theorem szR_le {w : Nat} {x : Int} (hx : 0 ≤ x) : szR w x ≤ x := by
  by_cases h2 : (w : Int) ≤ x
  · rw [szR_pos h2]; omega
  · rw [szR_neg h2]; omega

theorem str_at {l : List Str} {k : Nat} (h : k < l.length) : (eSs l).getD k [] = [.v (.string (mkS l[k]))] := by
  rw [getD_map eS l k h]; rfl
theorem wszStringS.l5 (l : List Str) (ho : oP l) : ∀ k, k ≤ l.length → ∀ x : Int, 0 ≤ x → x ≤ Lim → (wszStringS.L5 (eSs l) x (k : Int)).bind wszStringS.A5 = rI (szR (sumW List.length (l.drop k)) x) := by
  have hl := ho.1
  have hL : (Lim : Int) = 1048576 := rfl
  refine up l.length ?_ fun k hk ih x h0 h1 => ?_
  · intro x h0 h1; rw [wszStringS.s5]; simp [sumW, szR, wszStringS.a5x5, h0]
  · rw [wszStringS.s5, drop_cons l k hk]
    have hsz := sL_at ho hk
    unfold sS at hsz
    have hw : IntKind.i64.wrap (x - (l[k].length : Int)) = x - (l[k].length : Int) := wrap_in _ (by omega)
    simp only [Int.toNat_natCast, str_at hk, wrap_nat k (by omega), sumW, List.getD_cons_zero, str_v, size_mkS, hw]
    by_cases hx : (l[k].length : Int) ≤ x
    · have hn : ¬ x - (l[k].length : Int) < 0 := by omega
      have := ih (x - (l[k].length : Int)) (by omega) (by omega)
      push_cast at this
      rw [szR_add hx, ← this]
      simp [-List.getElem_cons_drop, hk, hn]
    · have hn : x - (l[k].length : Int) < 0 := by omega
      rw [szR_more hx]
      simp [-List.getElem_cons_drop, hk, hn, wszStringS.a5q5]
theorem wszStringS_ok (l : List Str) (ho : oP l) (x : Int) (h0 : 0 ≤ x) (h1 : x ≤ Lim) : wszStringS [vP l, vI x] [] = rI (szR (wP l) x) := by
  have hl := ho.1
  have hL : (Lim : Int) = 1048576 := rfl
  have hw : IntKind.i64.wrap (x - (l.length : Int)) = x - (l.length : Int) := wrap_in _ (by omega)
  rw [wszStringS.e]
  unfold wP
  simp only [List.length_map, hw, wL_sum]
  by_cases hx : (l.length : Int) ≤ x
  · have hn : ¬ x - (l.length : Int) < 0 := by omega
    have := wszStringS.l5 l ho 0 (by omega) (x - (l.length : Int)) (by omega) (by omega)
    rw [List.drop_zero] at this
    rw [szR_add hx, ← this]
    simp [hn]
  · have hn : x - (l.length : Int) < 0 := by omega
    rw [szR_more hx]
    simp [hn]

/-! ### copies -/
theorem wtoStringS_ok (l : List Str) (hl : l.length ≤ 1048576) : wtoStringS [vP l] [] = rO (eSs l) := by
  have key : ∀ k, k ≤ l.length → (wtoStringS.L3 (eSs l) (k : Int) ((l.take k).map eS ++ List.replicate (l.length - k) [D.v (Value.string (mkS []))])).bind wtoStringS.A3 = rO (eSs l) := by
    refine up l.length ?_ fun k hk ih => ?_
    · rw [wtoStringS.s3, fill_all]; simp [wtoStringS.a3x3]
    · rw [wtoStringS.s3]
      have h1 := fill_get eS l [D.v (Value.string (mkS []))] k hk
      have h2 := fill_len eS l [D.v (Value.string (mkS []))] k (by omega)
      have h3 := fill_set eS l [D.v (Value.string (mkS []))] k hk
      rw [← ih]
      simp only [Int.toNat_natCast, str_at hk, wrap_nat k (by omega), h1, h2, List.getD_cons_zero, str_v]
      have h3' : List.set ((l.take k).map eS ++ List.replicate (l.length - k) [D.v (Value.string (mkS []))]) k (D.v (Value.string (mkS l[k])) :: List.drop 1 [D.v (Value.string (mkS []))]) = _ := h3
      rw [h3']
      have hb1 : decide ((k : Int) < ((eSs l).length : Int)) = true := by simp; omega
      have hb2 : decide (0 ≤ (k : Int)) = true := by simp
      have hb3 : decide ((k : Int) < (l.length : Int)) = true := by simp; omega
      simp only [hb1, hb2, hb3]
      rfl
  rw [wtoStringS.e]
  have hc : (decide (((eSs l).length : Int) * ((↑16 : Int) + 1) ≤ 2 ^ 46) && true && true) = true := by simp; omega
  rw [hc, cond_true]
  have h0 := key 0 (by omega)
  rw [fill_zero] at h0
  simp only [List.length_map, Int.toNat_natCast]
  exact h0
theorem weqStringS_refl (l : List Str) (hl : l.length ≤ 9223372036854775807) : weqStringS [vP l, vP l] [] = rB true := by
  have key : ∀ k, k ≤ l.length → weqStringS.L4 (eSs l) (eSs l) (k : Int) = some weqStringS.x4 := by
    refine up l.length ?_ fun k hk ih => ?_
    · rw [weqStringS.s4]; simp
    · rw [weqStringS.s4]
      simp only [Int.toNat_natCast, str_at hk, wrap_nat k (by omega), ih]
      simp [hk]
  have h0 : weqStringS.L4 (eSs l) (eSs l) 0 = _ := key 0 (by omega)
  rw [weqStringS.e, h0]
  simp [weqStringS.a4x4]
end Go.PVx
/- What the laws do with nodes and trees. (The lemmas on lists are printed by wip/pv/tool/genlaw.py.) -/
namespace Go.PVx
open Go.PV Go.Proofs
abbrev rNodeOf (a : NodeOf) : Option Res := some ⟨[.v (.int .i64 a.id), .o .deep (eSs a.path)], []⟩
abbrev rNodes (a : Nodes) : Option Res := some ⟨[.v (.int .i64 a.next), .o .deep (a.list.map eN)], []⟩
abbrev rTree (t : Tree) : Option Res := some ⟨[.v (.bool t.dir), .v (.int .i64 t.mode), .v (.string (mkS t.data)), .o .deep (eSs t.names), .o .deep (t.kids.map eT)], []⟩

/-! ### NodeOf: lists -/
theorem wszNodeOfS.l5 (l : List NodeOf) (hl : l.length ≤ 9223372036854775807) (hX : ∀ a ∈ l, ∀ x : Int, 0 ≤ x → x ≤ Lim → wszNodeOf [vN a, vI x] [] = rI (szR (wN a) x)) : ∀ k, k ≤ l.length → ∀ x : Int, 0 ≤ x → x ≤ Lim →
    (wszNodeOfS.L5 (l.map eN) x (k : Int)).bind wszNodeOfS.A5 = rI (szR (sumW wN (l.drop k)) x) := by
  have hL : (Lim : Int) = 1048576 := rfl
  refine up l.length ?_ fun k hk ih x h0 h1 => ?_
  · intro x h0 h1; rw [wszNodeOfS.s5]; simp [sumW, szR, wszNodeOfS.a5x5, h0]
  · rw [wszNodeOfS.s5, drop_cons l k hk]
    have h := hX l[k] (List.getElem_mem hk) x h0 h1
    simp only [Int.toNat_natCast, node_at hk, wrap_nat k (by omega), sumW]
    by_cases hx : (wN l[k] : Int) ≤ x
    · have hn : ¬ x - (wN l[k] : Int) < 0 := by omega
      have := ih (x - (wN l[k] : Int)) (by omega) (by omega)
      push_cast at this
      rw [szR_pos hx] at h
      rw [szR_add hx, ← this]
      simp [-List.getElem_cons_drop, hk, hn, h]
    · rw [szR_neg hx] at h
      rw [szR_more hx]
      simp [-List.getElem_cons_drop, hk, h, wszNodeOfS.a5q5]
theorem wszNodeOfS_of (l : List NodeOf) (hl : l.length ≤ 9223372036854775807) (hX : ∀ a ∈ l, ∀ x : Int, 0 ≤ x → x ≤ Lim → wszNodeOf [vN a, vI x] [] = rI (szR (wN a) x)) (x : Int) (h0 : 0 ≤ x) (h1 : x ≤ Lim) :
    wszNodeOfS [.one (.s (l.map eN)), vI x] [] = rI (szR (wL wN l) x) := by
  have hL : (Lim : Int) = 1048576 := rfl
  have hw : IntKind.i64.wrap (x - (l.length : Int)) = x - (l.length : Int) := wrap_in _ (by omega)
  rw [wszNodeOfS.e]
  simp only [List.length_map, hw, wL_sum]
  by_cases hx : (l.length : Int) ≤ x
  · have hn : ¬ x - (l.length : Int) < 0 := by omega
    have := wszNodeOfS.l5 l hl hX 0 (by omega) (x - (l.length : Int)) (by omega) (by omega)
    rw [List.drop_zero] at this
    rw [szR_add hx, ← this]
    simp [hn]
  · have hn : x - (l.length : Int) < 0 := by omega
    rw [szR_more hx]
    simp [hn]
theorem wtoNodeOfS_of (l : List NodeOf) (hl : l.length ≤ 1048576) (hX : ∀ a ∈ l, wtoNodeOf [vN a] [] = rNodeOf a) : wtoNodeOfS [.one (.s (l.map eN))] [] = rO (l.map eN) := by
  have key : ∀ k, k ≤ l.length → (wtoNodeOfS.L3 (l.map eN) (k : Int) ((l.take k).map eN ++ List.replicate (l.length - k) [D.v (Value.int IntKind.i64 0), D.s []])).bind wtoNodeOfS.A3 = rO (l.map eN) := by
    refine up l.length ?_ fun k hk ih => ?_
    · rw [wtoNodeOfS.s3, fill_all]; simp [wtoNodeOfS.a3x3]
    · rw [wtoNodeOfS.s3]
      have h := hX l[k] (List.getElem_mem hk)
      have h1 := fill_get eN l [D.v (Value.int IntKind.i64 0), D.s []] k hk
      have h2 := fill_len eN l [D.v (Value.int IntKind.i64 0), D.s []] k (by omega)
      have h3 := fill_set eN l [D.v (Value.int IntKind.i64 0), D.s []] k hk
      have h4 : eN l[k] = _ := (getD_map eN l k hk).symm.trans (node_at hk)
      rw [h4] at h3
      rw [← ih]
      simp only [Int.toNat_natCast, node_at hk, wrap_nat k (by omega), h1, h2]
      have hb1 : decide ((k : Int) < ((l.map eN).length : Int)) = true := by simp; omega
      have hb2 : decide (0 ≤ (k : Int)) = true := by simp
      have hb3 : decide ((k : Int) < (l.length : Int)) = true := by simp; omega
      simp only [hb1, hb2, hb3]
      simp only [fitsRow, CK.fits, List.zipIdx, List.all_cons, List.all_nil, List.getD_cons_zero, List.getD_cons_succ, List.length_cons, List.length_nil, str_v, bool_v, int_v, es_s, h, Option.bind_some, fitsCells, R1.fits, tes_o, tint_v, tbool_v, tstr_v]
      simp only [List.drop_succ_cons, List.drop_zero, List.drop_nil]
      rw [h3]
      rfl
  rw [wtoNodeOfS.e]
  have hc : (decide (((l.map eN).length : Int) * ((↑32 : Int) + 1) ≤ 2 ^ 46) && true && true) = true := by simp; omega
  rw [hc, cond_true]
  have h0 := key 0 (by omega)
  rw [fill_zero] at h0
  simp only [List.length_map, Int.toNat_natCast]
  exact h0
theorem weqNodeOfS_of (l : List NodeOf) (hl : l.length ≤ 9223372036854775807) (hX : ∀ a ∈ l, weqNodeOf [vN a, vN a] [] = rB true) : weqNodeOfS [.one (.s (l.map eN)), .one (.s (l.map eN))] [] = rB true := by
  have key : ∀ k, k ≤ l.length → weqNodeOfS.L4 (l.map eN) (l.map eN) (k : Int) = some weqNodeOfS.x4 := by
    refine up l.length ?_ fun k hk ih => ?_
    · rw [weqNodeOfS.s4]; simp
    · rw [weqNodeOfS.s4]
      have h := hX l[k] (List.getElem_mem hk)
      simp only [Int.toNat_natCast, node_at hk, wrap_nat k (by omega), ih]
      simp [hk, h]
  have h0 : weqNodeOfS.L4 (l.map eN) (l.map eN) 0 = _ := key 0 (by omega)
  rw [weqNodeOfS.e, h0]
  simp [weqNodeOfS.a4x4]


/-! ### Tree: lists -/
theorem wszTreeS.l5 (l : List Tree) (hl : l.length ≤ 9223372036854775807) (hX : ∀ a ∈ l, ∀ x : Int, 0 ≤ x → x ≤ Lim → wszTree [vT a, vI x] [] = rI (szR (wT a) x)) : ∀ k, k ≤ l.length → ∀ x : Int, 0 ≤ x → x ≤ Lim →
    (wszTreeS.L5 (l.map eT) x (k : Int)).bind wszTreeS.A5 = rI (szR (sumW wT (l.drop k)) x) := by
  have hL : (Lim : Int) = 1048576 := rfl
  refine up l.length ?_ fun k hk ih x h0 h1 => ?_
  · intro x h0 h1; rw [wszTreeS.s5]; simp [sumW, szR, wszTreeS.a5x5, h0]
  · rw [wszTreeS.s5, drop_cons l k hk]
    have h := hX l[k] (List.getElem_mem hk) x h0 h1
    simp only [Int.toNat_natCast, tree_at hk, wrap_nat k (by omega), sumW]
    by_cases hx : (wT l[k] : Int) ≤ x
    · have hn : ¬ x - (wT l[k] : Int) < 0 := by omega
      have := ih (x - (wT l[k] : Int)) (by omega) (by omega)
      push_cast at this
      rw [szR_pos hx] at h
      rw [szR_add hx, ← this]
      simp [-List.getElem_cons_drop, hk, hn, h]
    · rw [szR_neg hx] at h
      rw [szR_more hx]
      simp [-List.getElem_cons_drop, hk, h, wszTreeS.a5q5]
theorem wszTreeS_of (l : List Tree) (hl : l.length ≤ 9223372036854775807) (hX : ∀ a ∈ l, ∀ x : Int, 0 ≤ x → x ≤ Lim → wszTree [vT a, vI x] [] = rI (szR (wT a) x)) (x : Int) (h0 : 0 ≤ x) (h1 : x ≤ Lim) :
    wszTreeS [.one (.s (l.map eT)), vI x] [] = rI (szR (wL wT l) x) := by
  have hL : (Lim : Int) = 1048576 := rfl
  have hw : IntKind.i64.wrap (x - (l.length : Int)) = x - (l.length : Int) := wrap_in _ (by omega)
  rw [wszTreeS.e]
  simp only [List.length_map, hw, wL_sum]
  by_cases hx : (l.length : Int) ≤ x
  · have hn : ¬ x - (l.length : Int) < 0 := by omega
    have := wszTreeS.l5 l hl hX 0 (by omega) (x - (l.length : Int)) (by omega) (by omega)
    rw [List.drop_zero] at this
    rw [szR_add hx, ← this]
    simp [hn]
  · have hn : x - (l.length : Int) < 0 := by omega
    rw [szR_more hx]
    simp [hn]
theorem wtoTreeS_of (l : List Tree) (hl : l.length ≤ 1048576) (hX : ∀ a ∈ l, wtoTree [vT a] [] = rTree a) : wtoTreeS [.one (.s (l.map eT))] [] = rO (l.map eT) := by
  have key : ∀ k, k ≤ l.length → (wtoTreeS.L3 (l.map eT) (k : Int) ((l.take k).map eT ++ List.replicate (l.length - k) [D.v (Value.bool false), D.v (Value.int IntKind.i64 0), D.v (Value.string (mkS [])), D.s [], D.s []])).bind wtoTreeS.A3 = rO (l.map eT) := by
    refine up l.length ?_ fun k hk ih => ?_
    · rw [wtoTreeS.s3, fill_all]; simp [wtoTreeS.a3x3]
    · rw [wtoTreeS.s3]
      have h := hX l[k] (List.getElem_mem hk)
      have h1 := fill_get eT l [D.v (Value.bool false), D.v (Value.int IntKind.i64 0), D.v (Value.string (mkS [])), D.s [], D.s []] k hk
      have h2 := fill_len eT l [D.v (Value.bool false), D.v (Value.int IntKind.i64 0), D.v (Value.string (mkS [])), D.s [], D.s []] k (by omega)
      have h3 := fill_set eT l [D.v (Value.bool false), D.v (Value.int IntKind.i64 0), D.v (Value.string (mkS [])), D.s [], D.s []] k hk
      have h4 : eT l[k] = _ := (getD_map eT l k hk).symm.trans (tree_at hk)
      rw [h4] at h3
      rw [← ih]
      simp only [Int.toNat_natCast, tree_at hk, wrap_nat k (by omega), h1, h2]
      have hb1 : decide ((k : Int) < ((l.map eT).length : Int)) = true := by simp; omega
      have hb2 : decide (0 ≤ (k : Int)) = true := by simp
      have hb3 : decide ((k : Int) < (l.length : Int)) = true := by simp; omega
      simp only [hb1, hb2, hb3]
      simp only [fitsRow, CK.fits, List.zipIdx, List.all_cons, List.all_nil, List.getD_cons_zero, List.getD_cons_succ, List.length_cons, List.length_nil, str_v, bool_v, int_v, es_s, h, Option.bind_some, fitsCells, R1.fits, tes_o, tint_v, tbool_v, tstr_v]
      simp only [List.drop_succ_cons, List.drop_zero, List.drop_nil]
      rw [h3]
      rfl
  rw [wtoTreeS.e]
  have hc : (decide (((l.map eT).length : Int) * ((↑80 : Int) + 1) ≤ 2 ^ 46) && true && true) = true := by simp; omega
  rw [hc, cond_true]
  have h0 := key 0 (by omega)
  rw [fill_zero] at h0
  simp only [List.length_map, Int.toNat_natCast]
  exact h0
theorem weqTreeS_of (l : List Tree) (hl : l.length ≤ 9223372036854775807) (hX : ∀ a ∈ l, weqTree [vT a, vT a] [] = rB true) : weqTreeS [.one (.s (l.map eT)), .one (.s (l.map eT))] [] = rB true := by
  have key : ∀ k, k ≤ l.length → weqTreeS.L4 (l.map eT) (l.map eT) (k : Int) = some weqTreeS.x4 := by
    refine up l.length ?_ fun k hk ih => ?_
    · rw [weqTreeS.s4]; simp
    · rw [weqTreeS.s4]
      have h := hX l[k] (List.getElem_mem hk)
      simp only [Int.toNat_natCast, tree_at hk, wrap_nat k (by omega), ih]
      simp [hk, h]
  have h0 : weqTreeS.L4 (l.map eT) (l.map eT) 0 = _ := key 0 (by omega)
  rw [weqTreeS.e, h0]
  simp [weqTreeS.a4x4]

/-! ### nodes -/
theorem wszNodeOf_ok (a : NodeOf) (ho : oN a) (x : Int) (h0 : 0 ≤ x) (h1 : x ≤ Lim) : wszNodeOf [vN a, vI x] [] = rI (szR (wN a) x) := by
  have h := wszStringS_ok a.path ho x h0 h1
  rw [wszNodeOf.e, h]
  unfold wN
  by_cases hx : (wP a.path : Int) ≤ x
  · rw [szR_pos hx]
    have : ¬ x - (wP a.path : Int) < 0 := by omega
    simp [this]
  · rw [szR_neg hx]; simp
theorem wszNodes_ok (a : Nodes) (ho : sL oN a.list) (x : Int) (h0 : 0 ≤ x) (h1 : x ≤ Lim) : wszNodes [vNs a, vI x] [] = rI (szR (wNs a) x) := by
  have h := wszNodeOfS_of a.list ho.1 (fun n hn x h0 h1 => wszNodeOf_ok n (ho.2 n hn) x h0 h1) x h0 h1
  rw [wszNodes.e, h]
  unfold wNs
  by_cases hx : (wL wN a.list : Int) ≤ x
  · rw [szR_pos hx]
    have : ¬ x - (wL wN a.list : Int) < 0 := by omega
    simp [this]
  · rw [szR_neg hx]; simp
theorem wP_len (p : List Str) : p.length ≤ wP p := wL_len _ p
theorem wtoNodeOf_ok (a : NodeOf) (hw : wN a ≤ 1048576) : wtoNodeOf [vN a] [] = rNodeOf a := by
  have := wP_len a.path
  rw [wtoNodeOf.e, wtoStringS_ok a.path (by unfold wN at hw; omega)]
  simp
theorem wtoNodes_ok (a : Nodes) (hw : wNs a ≤ 1048576) : wtoNodes [vNs a] [] = rNodes a := by
  unfold wNs at hw
  have := wL_len wN a.list
  rw [wtoNodes.e, wtoNodeOfS_of a.list (by omega) (fun n hn => wtoNodeOf_ok n (by have := wL_mem wN a.list n hn; omega))]
  simp
theorem weqNodeOf_refl (a : NodeOf) (hw : wN a ≤ 1048576) : weqNodeOf [vN a, vN a] [] = rB true := by
  have := wP_len a.path
  rw [weqNodeOf.e, weqStringS_refl a.path (by unfold wN at hw; omega)]
  simp
theorem weqNodes_refl (a : Nodes) (hw : wNs a ≤ 1048576) : weqNodes [vNs a, vNs a] [] = rB true := by
  unfold wNs at hw
  have := wL_len wN a.list
  rw [weqNodes.e, weqNodeOfS_of a.list (by omega) (fun n hn => weqNodeOf_refl n (by have := wL_mem wN a.list n hn; omega))]
  simp
/-! ### trees -/
theorem wszTree_ok (t : Tree) : oT t → ∀ x : Int, 0 ≤ x → x ≤ Lim → wszTree [vT t, vI x] [] = rI (szR (wT t) x) := by
  induction t using Tree.ind with
  | h a b c ns ks ih =>
    intro ho x h0 h1
    have hL : (Lim : Int) = 1048576 := rfl
    have hd := oT_data ho
    have hn := oT_names ho
    have hk := oT_kids ho
    unfold sS at hd
    simp only at hd hn hk
    rw [wszTree.e, wT_eq]
    have hw : IntKind.i64.wrap (x - (c.length : Int)) = x - (c.length : Int) := wrap_in _ (by omega)
    simp only [size_mkS, hw]
    by_cases hx : (c.length : Int) ≤ x
    · have h1' : ¬ x - (c.length : Int) < 0 := by omega
      have h2 := wszStringS_ok ns hn (x - c.length) (by omega) (by omega)
      rw [Nat.add_assoc, szR_add hx, wszTree.p3, h2]
      by_cases hx2 : (wP ns : Int) ≤ x - c.length
      · have h2' : ¬ x - (c.length : Int) - (wP ns : Int) < 0 := by omega
        have h3 := wszTreeS_of ks hk.1 (fun t ht x h0 h1 => ih t ht (hk.2 t ht) x h0 h1) (x - c.length - wP ns) (by omega) (by omega)
        rw [szR_add hx2, szR_pos hx2]
        by_cases hx3 : (wL wT ks : Int) ≤ x - c.length - wP ns
        · rw [szR_pos hx3] at h3 ⊢
          have h3' : ¬ x - (c.length : Int) - (wP ns : Int) - (wL wT ks : Int) < 0 := by omega
          simp [h1', h2', h3, wszTree.p6, h3']
        · rw [szR_neg hx3] at h3 ⊢
          simp [h1', h2', h3, wszTree.p6]
      · rw [szR_more hx2, szR_neg hx2]
        simp [h1']
    · have h1' : x - (c.length : Int) < 0 := by omega
      rw [Nat.add_assoc, szR_more hx]
      simp [h1']
theorem wtoTree_ok (t : Tree) : wT t ≤ 1048576 → wtoTree [vT t] [] = rTree t := by
  induction t using Tree.ind with
  | h a b c ns ks ih =>
    intro hw
    rw [wT_eq] at hw
    simp only at hw
    have h1 := wP_len ns
    have h2 := wL_len wT ks
    rw [wtoTree.e, wtoStringS_ok ns (by omega), wtoTreeS_of ks (by omega) (fun t ht => ih t ht (by have := wL_mem wT ks t ht; omega))]
    simp
theorem weqTree_refl (t : Tree) : wT t ≤ 1048576 → weqTree [vT t, vT t] [] = rB true := by
  induction t using Tree.ind with
  | h a b c ns ks ih =>
    intro hw
    rw [wT_eq] at hw
    simp only at hw
    have h1 := wP_len ns
    have h2 := wL_len wT ks
    have h3 := weqStringS_refl ns (by omega)
    have h4 := weqTreeS_of ks (by omega) (fun t ht => ih t ht (by have := wL_mem wT ks t ht; omega))
    rw [weqTree.e]
    simp [weqTree.p3, weqTree.p5, h3, h4]
end Go.PVx
/- What the laws write into what they gave and got (mark), and whether it still stands there (held): texts, lists of texts. -/
namespace Go.PVx
open Go.PV Go.Proofs

/-- Marks stay below this. -/
abbrev Top : Int := 1000000000000

theorem bArr (b : ByteArray) : b = mkS b.data.toList := (mkS_of b).symm
theorem strOf_one (n : Int) : (strOf [[D.v (Value.int IntKind.u8 n)]]).size = 1 := rfl
theorem wmarkText.l4 : ∀ (n : Nat) (k : Int) (b : ByteArray), 0 ≤ k → k ≤ 1000000000000 → k < 10 ^ n → b.size + n ≤ 40 → ∃ b' : ByteArray, wmarkText.L4 k b = some (wmarkText.x4 b') ∧ b'.size ≤ 40
  | 0, k, b, h0, ht, h1, h3 => by
    have : k = 0 := by simp at h1; omega
    subst this
    refine ⟨b, ?_, by omega⟩
    rw [wmarkText.s4]
    simp
  | n + 1, k, b, h0, ht, h1, h3 => by
    rw [wmarkText.s4]
    by_cases hk : k > 0
    · have hd : k.tdiv 10 = k / 10 := Int.tdiv_eq_ediv_of_nonneg h0
      have hp : (10 : Int) ^ (n + 1) = 10 ^ n * 10 := Int.pow_succ _ _
      have hq : k / 10 < 10 ^ n := by omega
      have hw : IntKind.i64.wrap (k / 10) = k / 10 := wrap_in _ (by omega)
      have hsz : (strOf [[D.v (Value.int IntKind.u8 (IntKind.u8.wrap (IntKind.i64.wrap (48 + k.tmod 10))))]] ++ b).size = 1 + b.size := by
        rw [ByteArray.size_append, strOf_one]
      obtain ⟨b', h4, h5⟩ := wmarkText.l4 n (k / 10) (strOf [[D.v (Value.int IntKind.u8 (IntKind.u8.wrap (IntKind.i64.wrap (48 + k.tmod 10))))]] ++ b) (by omega) (by omega) hq (by rw [hsz]; omega)
      refine ⟨b', ?_, h5⟩
      rw [hd, hw, h4]
      have h6 : decide (1 + b.size ≤ 70368744177664) = true := by simp; omega
      rw [h6]
      simp [hk]
    · have : k = 0 := by omega
      subst this
      exact ⟨b, by simp, by omega⟩
theorem wmarkText_ex (k : Int) (h0 : 0 ≤ k) (h1 : k ≤ Top) : ∃ s : Str, wmarkText [vI k] [] = rS s := by
  rw [wmarkText.e]
  by_cases hk : k ≤ 0
  · exact ⟨[109, 48], by simp only [hk, decide_true, cond_true]; rfl⟩
  · have hT : Top = 1000000000000 := rfl
    obtain ⟨b', h4, h5⟩ := wmarkText.l4 20 k { data := #[] } (by omega) (by omega) (by omega) (by decide)
    refine ⟨(ByteArray.mk #[109] ++ b').data.toList, ?_⟩
    rw [h4]
    have h6 : decide (1 + b'.size ≤ 70368744177664) = true := by simp; omega
    simp only [hk, decide_false, cond_false, Option.bind_some, wmarkText.a4x4, h6, cond_true]
    rfl
/-- The text of a mark. -/
noncomputable def mt (k : Int) : Str := by
  classical
  exact if h : ∃ s : Str, wmarkText [vI k] [] = rS s then h.choose else []
theorem wmarkText_ok (k : Int) (h0 : 0 ≤ k) (h1 : k ≤ Top) : wmarkText [vI k] [] = rS (mt k) := by
  have h := wmarkText_ex k h0 h1
  unfold mt
  rw [dif_pos h]
  exact h.choose_spec

/-! ### lists of texts -/
noncomputable def mP (k : Int) : List Str → List Str
  | [] => []
  | _ :: l => mt k :: mP (k + 1) l
@[simp] theorem mP_len : ∀ (l : List Str) (k : Int), (mP k l).length = l.length
  | [], _ => rfl
  | _ :: l, k => by simp [mP, mP_len l]
theorem mP_at : ∀ (l : List Str) (k : Int) (i : Nat) (h : i < (mP k l).length), (mP k l)[i] = mt (k + i)
  | [], _, i, h => by simp [mP] at h
  | x :: l, k, 0, h => by simp [mP]
  | x :: l, k, i + 1, h => by
    simp only [mP, List.getElem_cons_succ]
    rw [mP_at l (k + 1) i (by simpa [mP] using h)]
    congr 1; push_cast; omega
abbrev gV (es : List (List D)) : PV.Obj := { kind := Kind.virt, row := [D.s es], fl := [Own.deep] }
/-- What a mark answers. -/
abbrev rM (k : Int) (es : List (List D)) : Option Res := some ⟨[.v (.int .i64 k)], [gV es]⟩
theorem wmarkStringS_ok (l : List Str) (k : Int) (h0 : 0 ≤ k) (h1 : k + l.length ≤ Top) :
    wmarkStringS [.one (.r 0 [] 0), vI k] [gV (eSs l)] = rM (k + l.length) (eSs (mP k l)) := by
  have hT : Top = 1000000000000 := rfl
  have key : ∀ j, j ≤ l.length → ∀ m : List Str, m.length = j → (wmarkStringS.L2 (k + j) (j : Int) (m.map eS ++ (l.drop j).map eS)).bind wmarkStringS.A2 = rM (k + l.length) (eSs (m ++ mP (k + j) (l.drop j))) := by
    refine up l.length ?_ fun j hj ih m hm => ?_
    · intro m hm
      rw [wmarkStringS.s2]
      simp [hm, wmarkStringS.a2x2, mP]
    · have hg := turn_get eS eS l m j hj hm
      have hl := turn_len eS eS l m j (by omega) hm
      have hs := turn_set eS eS l m j hj hm (mt (k + j))
      have ht := wmarkText_ok (k + j) (by omega) (by omega)
      have hw : IntKind.i64.wrap (k + j + 1) = k + j + 1 := wrap_in _ (by omega)
      have := ih (m ++ [mt (k + j)]) (by simp [hm])
      rw [wmarkStringS.s2]
      simp only [Int.toNat_natCast, hg, hl, hw, wrap_nat j (by omega)]
      have hs' : List.set (m.map eS ++ (l.drop j).map eS) j (D.v (Value.string (mkS (mt (k + j)))) :: List.drop 1 (eS l[j])) = _ := hs
      push_cast at this
      rw [show k + ((j : Int) + 1) = k + j + 1 from by omega] at this
      have hd : mP (k + j) (l.drop j) = mt (k + j) :: mP (k + j + 1) (l.drop (j + 1)) := by rw [drop_cons l j hj, mP]
      rw [hd]
      rw [show m ++ mt (k + j) :: mP (k + j + 1) (l.drop (j + 1)) = m ++ [mt (k + j)] ++ mP (k + j + 1) (l.drop (j + 1)) from by simp, ← this]
      have h2 : decide ((j : Int) < (l.length : Int)) = true := by simp; omega
      have h3 : decide ((0 : Int) ≤ (j : Int)) = true := by simp
      have h4 : (eS l[j]).length = 1 := rfl
      simp only [h2, h3, h4, ht, Option.bind_some]
      have h5 : (fitsCells [R1.str] [TC.v (Value.string (mkS (mt (k + j))))]) = true := rfl
      simp only [h5, Bool.and_true, decide_true, Bool.and_self, cond_true, Nat.le_refl, List.getD_cons_zero, tstr_v, hs']
      push_cast
      rfl
  rw [wmarkStringS.e]
  have := key 0 (by omega) [] rfl
  simpa using this
theorem wheldStringS_ok (l : List Str) (k : Int) (h0 : 0 ≤ k) (h1 : k + l.length ≤ Top) : wheldStringS [vP (mP k l), vI k] [] = rI (k + l.length) := by
  have hT : Top = 1000000000000 := rfl
  have hlen := mP_len l k
  have key : ∀ j, j ≤ l.length → (wheldStringS.L2 (eSs (mP k l)) (k + j) (j : Int)).bind wheldStringS.A2 = rI (k + l.length) := by
    refine up l.length ?_ fun j hj ih => ?_
    · rw [wheldStringS.s2]
      simp [wheldStringS.a2x2]
    · have hj' : j < (mP k l).length := by omega
      have ht := wmarkText_ok (k + j) (by omega) (by omega)
      have hw : IntKind.i64.wrap (k + j + 1) = k + j + 1 := wrap_in _ (by omega)
      push_cast at ih
      rw [show k + ((j : Int) + 1) = k + j + 1 from by omega] at ih
      rw [wheldStringS.s2]
      simp only [Int.toNat_natCast, str_at hj', mP_at l k j hj', wrap_nat j (by omega), hw, ht, Option.bind_some]
      rw [← ih]
      simp [hj]
  rw [wheldStringS.e]
  have := key 0 (by omega)
  simpa using this
end Go.PVx
/- mark and held: nodes. -/
namespace Go.PVx
open Go.PV Go.Proofs

/-- How many marks a list of nodes bears. -/
def cN (a : NodeOf) : Nat := 1 + a.path.length
noncomputable def mN (k : Int) (a : NodeOf) : NodeOf := ⟨k, mP (k + 1) a.path⟩
noncomputable def mNs (k : Int) : List NodeOf → List NodeOf
  | [] => []
  | a :: l => mN k a :: mNs (k + cN a) l
@[simp] theorem mNs_len : ∀ (l : List NodeOf) (k : Int), (mNs k l).length = l.length
  | [], _ => rfl
  | _ :: l, k => by simp [mNs, mNs_len l]
theorem sumW_snoc {α : Type} (w : α → Nat) (l : List α) (j : Nat) (h : j < l.length) : sumW w (l.take (j + 1)) = sumW w (l.take j) + w l[j] := by
  rw [take_snoc l j h]
  generalize l.take j = p
  induction p with
  | nil => simp [sumW]
  | cons x p ih => simp only [List.cons_append, sumW, ih]; omega
theorem sumW_le {α : Type} (w : α → Nat) (l : List α) (j : Nat) : sumW w (l.take j) ≤ sumW w l := by
  induction l generalizing j with
  | nil => simp
  | cons x l ih =>
    cases j with
    | zero => simp [sumW]
    | succ j => simp only [List.take_succ_cons, sumW]; have := ih j; omega
theorem mNs_at : ∀ (l : List NodeOf) (k : Int) (i : Nat) (h : i < (mNs k l).length) (h' : i < l.length), (mNs k l)[i] = mN (k + (sumW cN (l.take i) : Nat)) l[i]
  | [], _, i, h, _ => by simp [mNs] at h
  | x :: l, k, 0, h, _ => by simp [mNs, sumW]
  | x :: l, k, i + 1, h, h' => by
    simp only [mNs, List.getElem_cons_succ, List.take_succ_cons, sumW]
    rw [mNs_at l (k + cN x) i (by simpa [mNs] using h) (by simpa using h')]
    congr 1; push_cast; omega
theorem eN_len (a : NodeOf) : (eN a).length = 2 := rfl
theorem getD_set1 (l : List (List D)) (j : Nat) (x : List D) (h : j < l.length) : (l.set j x).getD j [] = x := by
  simp [List.getD_eq_getElem?_getD, h]
theorem wmarkNodeOfS_ok (l : List NodeOf) (k : Int) (h0 : 0 ≤ k) (h1 : k + (sumW cN l : Nat) ≤ Top) (hl0 : l.length ≤ 1048576) :
    wmarkNodeOfS [.one (.r 0 [] 0), vI k] [gV (l.map eN)] = rM (k + (sumW cN l : Nat)) ((mNs k l).map eN) := by
  have hT : Top = 1000000000000 := rfl
  have key : ∀ j, j ≤ l.length → ∀ m : List NodeOf, m.length = j → (wmarkNodeOfS.L2 (k + (sumW cN (l.take j) : Nat)) (j : Int) (m.map eN ++ (l.drop j).map eN)).bind wmarkNodeOfS.A2 =
      rM (k + (sumW cN l : Nat)) ((m ++ mNs (k + (sumW cN (l.take j) : Nat)) (l.drop j)).map eN) := by
    refine up l.length ?_ fun j hj ih m hm => ?_
    · intro m hm
      rw [wmarkNodeOfS.s2]
      simp [hm, wmarkNodeOfS.a2x2, mNs]
    · have hg := turn_get eN eN l m j hj hm
      have hl := turn_len eN eN l m j (by omega) hm
      have hle := sumW_le cN l (j + 1)
      rw [sumW_snoc cN l j hj] at hle
      have hcn : cN l[j] = 1 + l[j].path.length := rfl
      generalize hk' : k + ((sumW cN (l.take j) : Nat) : Int) = k' at *
      have hs := turn_set eN eN l m j hj hm (mN k' l[j])
      have hw : IntKind.i64.wrap (k' + 1) = k' + 1 := wrap_in _ (by omega)
      have ht := wmarkStringS_ok l[j].path (k' + 1) (by omega) (by omega)
      have := ih (m ++ [mN k' l[j]]) (by simp [hm])
      rw [sumW_snoc cN l j hj, show k + ((sumW cN (l.take j) + cN l[j] : Nat) : Int) = k' + 1 + (l[j].path.length : Int) from by push_cast; omega] at this
      have hd : mNs k' (l.drop j) = mN k' l[j] :: mNs (k' + 1 + (l[j].path.length : Int)) (l.drop (j + 1)) := by
        rw [drop_cons l j hj, mNs, hcn]; congr 2; push_cast; omega
      rw [hd, show m ++ mN k' l[j] :: mNs (k' + 1 + (l[j].path.length : Int)) (l.drop (j + 1)) = m ++ [mN k' l[j]] ++ mNs (k' + 1 + (l[j].path.length : Int)) (l.drop (j + 1)) from by simp, ← this]
      rw [wmarkNodeOfS.s2]
      have hlt : j < (m.map eN ++ (l.drop j).map eN).length := by omega
      have he : eN l[j] = [.v (.int .i64 l[j].id), .s (eSs l[j].path)] := rfl
      have hs' : List.set (m.map eN ++ (l.drop j).map eN) j [D.v (Value.int IntKind.i64 k'), D.s (eSs (mP (k' + 1) l[j].path))] = _ := hs
      rw [← hs']
      clear hs hs' this ih
      generalize m.map eN ++ (l.drop j).map eN = Y at *
      have hgs := fun x => getD_set1 Y j x hlt
      have h2 : decide ((j : Int) < (l.length : Int)) = true := by simp; omega
      have h3 : decide ((0 : Int) ≤ (j : Int)) = true := by simp
      simp only [Int.toNat_natCast, hg, hl, hw, wrap_nat j (by omega), he, h2, h3, List.length_set, List.drop_succ_cons, List.drop_zero, hgs, List.set_set, List.getD_cons_succ, List.getD_cons_zero, es_s, ht, Option.bind_some]
      simp
  rw [wmarkNodeOfS.e]
  have := key 0 (by omega) [] rfl
  simpa [sumW] using this
theorem wheldNodeOfS_ok (l : List NodeOf) (k : Int) (h0 : 0 ≤ k) (h1 : k + (sumW cN l : Nat) ≤ Top) (hl0 : l.length ≤ 1048576) : wheldNodeOfS [.one (.s ((mNs k l).map eN)), vI k] [] = rI (k + (sumW cN l : Nat)) := by
  have hT : Top = 1000000000000 := rfl
  have hlen := mNs_len l k
  have key : ∀ j, j ≤ l.length → (wheldNodeOfS.L2 ((mNs k l).map eN) (k + (sumW cN (l.take j) : Nat)) (j : Int)).bind wheldNodeOfS.A2 = rI (k + (sumW cN l : Nat)) := by
    refine up l.length ?_ fun j hj ih => ?_
    · rw [wheldNodeOfS.s2]
      simp [wheldNodeOfS.a2x2]
    · have hj' : j < (mNs k l).length := by omega
      have hle := sumW_le cN l (j + 1)
      rw [sumW_snoc cN l j hj] at hle ih
      have hcn : cN l[j] = 1 + l[j].path.length := rfl
      have hat := mNs_at l k j hj' hj
      generalize hk' : k + ((sumW cN (l.take j) : Nat) : Int) = k' at *
      have hw : IntKind.i64.wrap (k' + 1) = k' + 1 := wrap_in _ (by omega)
      have ht := wheldStringS_ok l[j].path (k' + 1) (by omega) (by omega)
      rw [show k + ((sumW cN (l.take j) + cN l[j] : Nat) : Int) = k' + 1 + (l[j].path.length : Int) from by push_cast; omega] at ih
      have hn : ¬ k' + 1 + (l[j].path.length : Int) < 0 := by omega
      have hg : ((mNs k l).map eN).getD j [] = [.v (.int .i64 k'), .s (eSs (mP (k' + 1) l[j].path))] := by rw [getD_map eN _ j hj', hat]; rfl
      rw [wheldNodeOfS.s2, ← ih]
      simp only [Int.toNat_natCast, hg, hw, wrap_nat j (by omega)]
      simp [ht, hj, hn]
  rw [wheldNodeOfS.e]
  have := key 0 (by omega)
  simpa [sumW] using this
noncomputable def mNo (k : Int) (n : Nodes) : Nodes := ⟨n.next, mNs k n.list⟩
theorem wmarkNodes_ok (n : Nodes) (k : Int) (h0 : 0 ≤ k) (h1 : k + (sumW cN n.list : Nat) ≤ Top) (hl0 : n.list.length ≤ 1048576) :
    wmarkNodes [.g [.v (.int .i64 n.next), .r 0 [] 0], vI k] [gV (n.list.map eN)] = rM (k + (sumW cN n.list : Nat)) ((mNs k n.list).map eN) := by
  rw [wmarkNodes.e, wmarkNodeOfS_ok n.list k h0 h1 hl0]
  simp
theorem wheldNodes_ok (n : Nodes) (k : Int) (h0 : 0 ≤ k) (h1 : k + (sumW cN n.list : Nat) ≤ Top) (hl0 : n.list.length ≤ 1048576) :
    wheldNodes [vNs (mNo k n), vI k] [] = rI (k + (sumW cN n.list : Nat)) := by
  have hn : ¬ k + (sumW cN n.list : Int) < 0 := by omega
  show wheldNodes [.g [.v (.int .i64 n.next), .s ((mNs k n.list).map eN)], vI k] [] = _
  rw [wheldNodes.e, wheldNodeOfS_ok n.list k h0 h1 hl0]
  simp [hn]
end Go.PVx
/- mark: trees. -/
namespace Go.PVx
open Go.PV Go.Proofs

mutual
def cT : Tree → Nat
  | ⟨_, _, _, ns, ks⟩ => 3 + ns.length + cTs ks
def cTs : List Tree → Nat
  | [] => 0
  | t :: ts => cT t + cTs ts
end
theorem cTs_sum : ∀ l : List Tree, cTs l = sumW cT l
  | [] => rfl
  | t :: ts => by rw [cTs, cTs_sum ts, sumW]
theorem cT_eq (t : Tree) : cT t = 3 + t.names.length + sumW cT t.kids := by
  obtain ⟨d, m, s, ns, ks⟩ := t
  rw [cT, cTs_sum]
theorem cT_le (t : Tree) : cT t ≤ 3 * (1 + wT t) := by
  induction t using Tree.ind with
  | h d m s ns ks ih =>
    rw [cT_eq, wT_eq]
    have h1 : ns.length ≤ wP ns := wL_len _ _
    have h2 : ∀ l : List Tree, (∀ x ∈ l, cT x ≤ 3 * (1 + wT x)) → sumW cT l ≤ 3 * wL wT l := by
      intro l hl
      induction l with
      | nil => simp [sumW]
      | cons x l ihl =>
        have := hl x (by simp)
        have := ihl (fun y hy => hl y (by simp [hy]))
        simp only [sumW, wL]; omega
    have := h2 ks ih
    simp only
    omega
mutual
noncomputable def mT : Tree → Int → Tree
  | ⟨_, _, _, ns, ks⟩, k => ⟨k.tmod 3 == 0, k + 1, mt (k + 2), mP (k + 3) ns, mTs ks (k + 3 + ns.length)⟩
noncomputable def mTs : List Tree → Int → List Tree
  | [], _ => []
  | t :: ts, k => mT t k :: mTs ts (k + cT t)
end
theorem mT_eq (t : Tree) (k : Int) : mT t k = ⟨k.tmod 3 == 0, k + 1, mt (k + 2), mP (k + 3) t.names, mTs t.kids (k + 3 + t.names.length)⟩ := by
  obtain ⟨d, m, s, ns, ks⟩ := t
  rw [mT]
theorem wmarkTreeS_of (l : List Tree) (hl0 : l.length ≤ 1048576)
    (hX : ∀ a ∈ l, ∀ k : Int, 0 ≤ k → k + (sumW cT a.kids : Nat) ≤ Top → wmarkTreeS [.one (.r 0 [] 0), vI k] [gV (a.kids.map eT)] = rM (k + (sumW cT a.kids : Nat)) ((mTs a.kids k).map eT))
    (k : Int) (h0 : 0 ≤ k) (h1 : k + (sumW cT l : Nat) ≤ Top) :
    wmarkTreeS [.one (.r 0 [] 0), vI k] [gV (l.map eT)] = rM (k + (sumW cT l : Nat)) ((mTs l k).map eT) := by
  have hT : Top = 1000000000000 := rfl
  have key : ∀ j, j ≤ l.length → ∀ m : List Tree, m.length = j → (wmarkTreeS.L2 (k + (sumW cT (l.take j) : Nat)) (j : Int) (m.map eT ++ (l.drop j).map eT)).bind wmarkTreeS.A2 =
      rM (k + (sumW cT l : Nat)) ((m ++ mTs (l.drop j) (k + (sumW cT (l.take j) : Nat))).map eT) := by
    refine up l.length ?_ fun j hj ih m hm => ?_
    · intro m hm
      rw [wmarkTreeS.s2]
      simp [hm, wmarkTreeS.a2x2, mTs]
    · have hg := turn_get eT eT l m j hj hm
      have hl := turn_len eT eT l m j (by omega) hm
      have hle := sumW_le cT l (j + 1)
      rw [sumW_snoc cT l j hj] at hle
      have hcn := cT_eq l[j]
      generalize hk' : k + ((sumW cT (l.take j) : Nat) : Int) = k' at *
      have hs := turn_set eT eT l m j hj hm (mT l[j] k')
      have hw1 : IntKind.i64.wrap (k' + 1) = k' + 1 := wrap_in _ (by omega)
      have hw2 : IntKind.i64.wrap (k' + 1 + 1) = k' + 2 := (wrap_in _ (by omega)).trans (by omega)
      have hw3 : IntKind.i64.wrap (k' + 2 + 1) = k' + 3 := (wrap_in _ (by omega)).trans (by omega)
      have ht := wmarkText_ok (k' + 2) (by omega) (by omega)
      have hS := wmarkStringS_ok l[j].names (k' + 3) (by omega) (by omega)
      have hR := hX l[j] (List.getElem_mem hj) (k' + 3 + l[j].names.length) (by omega) (by omega)
      have hk2 : k' + 3 + (l[j].names.length : Int) + ((sumW cT l[j].kids : Nat) : Int) = k' + cT l[j] := by rw [hcn]; push_cast; omega
      rw [hk2] at hR
      have := ih (m ++ [mT l[j] k']) (by simp [hm])
      rw [sumW_snoc cT l j hj, show k + ((sumW cT (l.take j) + cT l[j] : Nat) : Int) = k' + cT l[j] from by push_cast; omega] at this
      have hd : mTs (l.drop j) k' = mT l[j] k' :: mTs (l.drop (j + 1)) (k' + cT l[j]) := by
        rw [drop_cons l j hj, mTs]
      rw [hd, show m ++ mT l[j] k' :: mTs (l.drop (j + 1)) (k' + cT l[j]) = m ++ [mT l[j] k'] ++ mTs (l.drop (j + 1)) (k' + cT l[j]) from by simp, ← this]
      rw [wmarkTreeS.s2]
      have hlt : j < (m.map eT ++ (l.drop j).map eT).length := by omega
      have h2 : decide ((j : Int) < (l.length : Int)) = true := by simp; omega
      have h3 : decide ((0 : Int) ≤ (j : Int)) = true := by simp
      rw [← hs, eT_eq (mT l[j] k'), mT_eq]
      clear hs this ih
      rw [eT_eq] at hg
      generalize m.map eT ++ (l.drop j).map eT = Y at *
      have hgs := fun x => getD_set1 Y j x hlt
      simp only [Int.toNat_natCast, hg, hl, hw1, hw2, hw3, wrap_nat j (by omega), h2, h3, List.length_set, List.drop_succ_cons, List.drop_zero, List.take_succ_cons, List.take_zero, List.cons_append, List.nil_append, hgs, List.set_set, List.getD_cons_succ, List.getD_cons_zero, es_s, ht, hS, hR, Option.bind_some,
        List.length_cons, List.length_nil, tint_v, tstr_v, List.set_cons_succ, List.set_cons_zero]
      simp
  rw [wmarkTreeS.e]
  have := key 0 (by omega) [] rfl
  simpa [sumW] using this
theorem wmarkKids_ok (t : Tree) : wT t ≤ 1048576 → ∀ k : Int, 0 ≤ k → k + (sumW cT t.kids : Nat) ≤ Top →
    wmarkTreeS [.one (.r 0 [] 0), vI k] [gV (t.kids.map eT)] = rM (k + (sumW cT t.kids : Nat)) ((mTs t.kids k).map eT) := by
  induction t using Tree.ind with
  | h d m s ns ks ih =>
    intro hw k h0 h1
    rw [wT_eq] at hw
    have h2 : ks.length ≤ wL wT ks := wL_len _ _
    simp only at hw h1 ⊢
    refine wmarkTreeS_of ks (by omega) (fun a ha k h0 h1 => ih a ha ?_ k h0 h1) k h0 h1
    have := wL_mem wT ks a ha
    omega
theorem wmarkTree_ok (t : Tree) (hw : wT t ≤ 1048576) (k : Int) (h0 : 0 ≤ k) (h1 : k ≤ 1048576) :
    wmarkTree [.g [.v (.bool t.dir), .v (.int .i64 t.mode), .v (.string (mkS t.data)), .r 0 [] 0, .r 0 [] 1], vI k] [⟨.virt, [.s (eSs t.names), .s (t.kids.map eT)], [.deep, .deep]⟩] =
      some ⟨[.v (.int .i64 (k + t.names.length + (sumW cT t.kids : Nat)))], [⟨.virt, [.s (eSs (mP k t.names)), .s ((mTs t.kids (k + t.names.length)).map eT)], [.deep, .deep]⟩]⟩ := by
  have hT : Top = 1000000000000 := rfl
  have hc := cT_le t
  rw [cT_eq] at hc
  have hS := wmarkStringS_ok t.names k (by omega) (by omega)
  have hR := wmarkKids_ok t hw (k + t.names.length) (by omega) (by omega)
  rw [wmarkTree.e, hS]
  simp [hR]
end Go.PVx
/- NodesStart; the law FnExactNodesStart on data. -/
namespace Go.PVx
open Go.PV Go.Proofs

def numN (i : Int) : List (List Str) → List NodeOf
  | [] => []
  | p :: l => ⟨i, p⟩ :: numN (i + 1) l
@[simp] theorem numN_len : ∀ (l : List (List Str)) (i : Int), (numN i l).length = l.length
  | [], _ => rfl
  | _ :: l, i => by simp [numN, numN_len l]
theorem numN_append : ∀ (a b : List (List Str)) (i : Int), numN i (a ++ b) = numN i a ++ numN (i + a.length) b
  | [], b, i => by simp [numN]
  | x :: a, b, i => by
    simp only [List.cons_append, numN, numN_append a b, List.length_cons]
    congr 3; push_cast; omega
theorem numN_snoc (l : List (List Str)) (i : Int) (j : Nat) (h : j < l.length) : numN i (l.take (j + 1)) = numN i (l.take j) ++ [⟨i + j, l[j]⟩] := by
  rw [take_snoc l j h, numN_append]
  simp [numN]
  omega
theorem numN_mem : ∀ (l : List (List Str)) (i : Int) (a : NodeOf), a ∈ numN i l → a.path ∈ l
  | [], i, a, h => by simp [numN] at h
  | p :: l, i, a, h => by
    simp only [numN, List.mem_cons] at h
    rcases h with rfl | h
    · simp
    · exact List.mem_cons_of_mem _ (numN_mem l (i + 1) a h)
/-- The nodes at a start. -/
def startN (t : Tree) : Nodes := bif treeB t then ⟨1 + (pathsT [] t).length, numN 1 (pathsT [] t)⟩ else ⟨0, []⟩
theorem startN_ok {t : Tree} (h : treeB t = true) : startN t = ⟨1 + (pathsT [] t).length, numN 1 (pathsT [] t)⟩ := by simp [startN, h]
theorem startN_not {t : Tree} (h : treeB t = false) : startN t = ⟨0, []⟩ := by simp [startN, h]
theorem snoc_eN (l : List NodeOf) (i : Int) (p : List Str) : l.map eN ++ [[.v (.int .i64 i), .s (eSs p)]] = (l ++ [NodeOf.mk i p]).map eN := by simp [eN]

theorem sNodesStart.l6_b (y0 : List (List D)) (y1 y2 : Int) (y3 : List (List D)) (y4 : Int) (y5 : List (List D)) :
    (sNodesStart.L6 y0 y1 y2 y3 y4 y5).bind sNodesStart.A6 = (sNodesStart.L6b y0 y1 y2 y3 y4 y5).bind sNodesStart.A6 := by
  rw [sNodesStart.s6, sNodesStart.s6b y0 y1 y2 y3 y4 y5]
  cases decide (y1 < (y0.length : Int)) <;> simp only [cond_true, cond_false, Option.bind_some, sNodesStart.a6x6, sNodesStart.a6x6b]
theorem treeB_both {t : Tree} (h : treeB t = true) : partsB 0 t = true ∧ cnt t ≤ 30 := by
  unfold treeB at h
  simp only [Bool.and_eq_true, decide_eq_true_eq] at h
  exact ⟨h.1.2, h.2⟩
theorem sNodesStart_ok (t : Tree) (ho : oT t) (hw : wT t ≤ 1048576) : sNodesStart [vT t] [] = some ⟨[.v (.int .i64 (startN t).next), .s ((startN t).list.map eN)], []⟩ := by
  rw [sNodesStart.e, sTreeOk_ok t ho hw]
  cases hb : treeB t with
  | false => simp [startN_not hb]
  | true =>
    obtain ⟨hp, hc⟩ := treeB_both hb
    have hlen := pathsT_len t [] 0 hp
    have h1 := sl33Paths_ok t [] 0 hp ho hw (by simp; omega)
    have h1' : sl33Paths [AV.one (A1.s []), vT t] [] = rSh ((pathsT [] t).map ePa) := h1
    rw [startN_ok hb]
    generalize pathsT [] t = l at *
    have key : ∀ j, j ≤ l.length → (sNodesStart.L6b (l.map ePa) (j : Int) 0 [] (1 + j) ((numN 1 (l.take j)).map eN)).bind sNodesStart.A6 = some ⟨[.v (.int .i64 (1 + l.length)), .s ((numN 1 l).map eN)], []⟩ := by
      refine up l.length ?_ fun j hj ih => ?_
      · rw [sNodesStart.s6b]
        simp [sNodesStart.a6x6b]
      · have hw1 : IntKind.i64.wrap (1 + (j : Int) + 1) = 1 + (j : Int) + 1 := wrap_in _ (by omega)
        have e1 : decide ((((numN 1 (l.take j)).map eN).length + 1) * 33 ≤ 70368744177664) = true := by simp; omega
        have hb1 : decide ((j : Int) < ((l.map ePa).length : Int)) = true := by simp; omega
        have hb2 : decide (0 ≤ (j : Int)) = true := by simp
        rw [numN_snoc l 1 j hj] at ih
        push_cast at ih
        rw [show (1 : Int) + ((j : Int) + 1) = 1 + (j : Int) + 1 from by omega] at ih
        rw [← ih, sNodesStart.s6b]
        simp only [hb1, hb2, e1, hw1, Int.toNat_natCast, path_at hj, wrap_nat j (by omega), rowsLen_eN, List.getD_cons_zero, es_s, snoc_eN]
        push_cast
        rfl
    have h0 : (sNodesStart.L6b (l.map ePa) 0 0 [] 1 []).bind sNodesStart.A6 = _ := key 0 (by omega)
    simp only [h1', Option.bind_some, fitsCells, R1.fits, List.zipIdx, List.all_cons, List.all_nil, List.length_cons, List.length_nil, List.getD_cons_zero, tbool_v, tes_s]
    rw [sNodesStart.l6_b, h0]
    rfl
theorem iNodesStart_ok (t : Tree) (ho : oT t) (hw : wT t ≤ 1048576) : iNodesStart [vT t] [] = rNodes (startN t) := by
  rw [iNodesStart.e, iTreeOk_ok t ho hw]
  cases hb : treeB t with
  | false => simp [startN_not hb]
  | true =>
    obtain ⟨hp, hc⟩ := treeB_both hb
    have hlen := pathsT_len t [] 0 hp
    have h1 := ipathsOf_ok t 0 hp ho hw
    rw [startN_ok hb]
    generalize pathsT [] t = l at *
    have key : ∀ j, j ≤ l.length → ∀ Q : List (List D), Q.length = l.length → (∀ i (h : i < l.length), j ≤ i → Q.getD i [] = [.s (eSs l[i])]) →
        (iNodesStart.L5 (l.length : Int) (j : Int) 0 [] (1 + j) ((numN 1 (l.take j)).map eN) Q).bind iNodesStart.A5 = some ⟨[.v (.int .i64 (1 + l.length)), .o .deep ((numN 1 l).map eN)], []⟩ := by
      refine up l.length ?_ fun j hj ih Q hQ hQi => ?_
      · intro Q hQ hQi
        rw [iNodesStart.s5]
        simp [iNodesStart.a5x5]
      · have hw1 : IntKind.i64.wrap (1 + (j : Int) + 1) = 1 + (j : Int) + 1 := wrap_in _ (by omega)
        have e1 : decide ((((numN 1 (l.take j)).map eN).length + 1) * 33 ≤ 70368744177664) = true := by simp; omega
        have hb1 : decide ((j : Int) < (l.length : Int)) = true := by simp; omega
        have hb2 : decide (0 ≤ (j : Int)) = true := by simp
        have hat := hQi j hj (Nat.le_refl _)
        have ih := ih (Q.set j ([D.s (eSs l[j])].set 0 D.h)) (by simp [hQ]) (fun i h hji => by
          rw [← hQi i h (by omega)]
          have : j ≠ i := by omega
          simp [List.getD_eq_getElem?_getD, this])
        rw [numN_snoc l 1 j hj] at ih
        push_cast at ih
        rw [show (1 : Int) + ((j : Int) + 1) = 1 + (j : Int) + 1 from by omega] at ih
        rw [← ih, iNodesStart.s5]
        simp only [hb1, hb2, e1, hw1, hQ, Int.toNat_natCast, hat, wrap_nat j (by omega), rowsLen_eN, List.getD_cons_zero, es_s, snoc_eN]
        push_cast
        rfl
    have h0 : (iNodesStart.L5 (l.length : Int) 0 0 [] 1 [] (l.map ePa)).bind iNodesStart.A5 = _ := key 0 (by omega) (l.map ePa) (by simp) (fun i h _ => path_at h)
    simp only [h1, Option.bind_some, fitsCells, R1.fits, List.zipIdx, List.all_cons, List.all_nil, List.length_cons, List.length_nil, List.getD_cons_zero, tbool_v, tes_o, List.length_map]
    rw [h0]
    rfl
end Go.PVx
/- The law FnExactNodesStart on data. -/
namespace Go.PVx
open Go.PV Go.Proofs

theorem pathsZ_mem_le : ∀ (ns : List Str) (ks : List Tree) (p : List Str), (∀ k ∈ ks, ∀ (p : List Str) (q : List Str), q ∈ pathsT p k → q.length ≤ p.length + wT k) →
    ∀ q ∈ pathsZ p ns ks, q.length ≤ p.length + wL wT ks
  | [], ks, p, _, q, h => by simp [pathsZ] at h
  | n :: ns, [], p, _, q, h => by simp [pathsZ] at h
  | n :: ns, k :: ks, p, hk, q, h => by
    simp only [pathsZ, List.mem_cons, List.mem_append] at h
    simp only [wL]
    rcases h with rfl | h | h
    · simp only [List.length_append, List.length_cons, List.length_nil]; omega
    · have := hk k (by simp) (p ++ [n]) q h
      simp only [List.length_append, List.length_cons, List.length_nil] at this; omega
    · have := pathsZ_mem_le ns ks p (fun k h => hk k (List.mem_cons_of_mem _ h)) q h
      omega
theorem pathsT_mem_le (t : Tree) : ∀ (p q : List Str), q ∈ pathsT p t → q.length ≤ p.length + wT t := by
  induction t using Tree.ind with
  | h d m s ns ks ih =>
    intro p q hq
    rw [pathsT] at hq
    have := pathsZ_mem_le ns ks p ih q hq
    rw [wT_eq]
    simp only
    omega
theorem sumW_bound {α : Type} (w : α → Nat) (b : Nat) : ∀ l : List α, (∀ x ∈ l, w x ≤ b) → sumW w l ≤ l.length * b
  | [], _ => by simp [sumW]
  | x :: l, h => by
    have h1 := h x (by simp)
    have h2 := sumW_bound w b l (fun y hy => h y (by simp [hy]))
    simp only [sumW, List.length_cons, Nat.succ_mul]; omega
/-- Nodes of few paths that are not long. -/
structure FewN (n : Nodes) : Prop where
  len : n.list.length ≤ 30
  path : ∀ a ∈ n.list, a.path.length ≤ 1048576
theorem FewN.sum {n : Nodes} (h : FewN n) : sumW cN n.list ≤ 31457310 := by
  have := sumW_bound cN 1048577 n.list (fun a ha => by have := h.path a ha; unfold cN; omega)
  have := h.len
  have : n.list.length * 1048577 ≤ 30 * 1048577 := Nat.mul_le_mul_right _ h.len
  omega
theorem FewN.refl {n : Nodes} (h : FewN n) : weqNodes [vNs n, vNs n] [] = rB true := by
  have := h.len
  rw [weqNodes.e, weqNodeOfS_of n.list (by omega) (fun a ha => by
    have := h.path a ha
    rw [weqNodeOf.e, weqStringS_refl a.path (by omega)]
    simp)]
  simp
theorem startN_few (t : Tree) (hw : wT t ≤ 1048576) : FewN (startN t) := by
  cases hb : treeB t with
  | false => rw [startN_not hb]; exact ⟨by simp, by simp⟩
  | true =>
    obtain ⟨hp, hc⟩ := treeB_both hb
    have hlen := pathsT_len t [] 0 hp
    rw [startN_ok hb]
    refine ⟨by simp; omega, fun a ha => ?_⟩
    have := pathsT_mem_le t [] a.path (numN_mem _ _ a ha)
    simp only [List.length_nil] at this
    omega

theorem wFnExactNodesStart_ok (t : Tree) (ho : oT t) : wFnExactNodesStart [vT t] [] = rB true := by
  have hL : (Lim : Int) = 1048576 := rfl
  have hT : Top = 1000000000000 := rfl
  have h1 := wszTree_ok t ho 1048576 (by omega) (by omega)
  rw [wFnExactNodesStart.e, h1]
  by_cases hx : (wT t : Int) ≤ 1048576
  · rw [szR_pos hx]
    have h1' : ¬ (1048576 : Int) - (wT t : Int) < 0 := by omega
    have hwt : wT t ≤ 1048576 := by omega
    have h2 := wtoTree_ok t hwt
    have h3 := sNodesStart_ok t ho hwt
    have h4 := iNodesStart_ok t ho hwt
    have hf := startN_few t hwt
    have h5 := hf.refl
    have hs := hf.sum
    have hl := hf.len
    have h6 := weqTree_refl t hwt
    have h7 := wmarkTree_ok t hwt 1 (by omega) (by omega)
    have h8 := wmarkNodes_ok (startN t) 1 (by omega) (by omega) (by omega)
    have h9 := wheldNodes_ok (startN t) 1 (by omega) (by omega) (by omega)
    have h9' : wheldNodes [AV.g [A1.v (Value.int IntKind.i64 (startN t).next), A1.s ((mNs 1 (startN t).list).map eN)], vI 1] [] = _ := h9
    generalize startN t = n at *
    have hk1 : ¬ (1 : Int) + (t.names.length : Int) + ((sumW cT t.kids : Nat) : Int) < 0 := by omega
    have hk2 : ¬ (1 : Int) + ((sumW cN n.list : Nat) : Int) < 0 := by omega
    simp [h1', wFnExactNodesStart.p4, h2, h3, wFnExactNodesStart.p6, h4, h5, wFnExactNodesStart.p8, h6, wFnExactNodesStart.p10, h7, hk1, wFnExactNodesStart.p12, h8, h9', hk2, wFnExactNodesStart.p16, wFnExactNodesStart.p19, wFnExactNodesStart.p22]
  · rw [szR_neg hx]; simp
end Go.PVx
