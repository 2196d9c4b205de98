/- A part of the proof: PvU1, PvU2, PvU3, PvU4, PvL0, PvL1, PvV1, PvV2. -/
import Derived.Test.YtjhnnagcebcedaaDoorRes
import Derived.Test.YtjhnnagcebcedaaDoorTy
import Derived.Test.YtjhnnagcebcedaaDoorExt
set_option linter.unusedSimpArgs false
set_option linter.unusedVariables false
/- Names, paths, their order. -/
namespace Go.PVx
open Go.PV Go.Proofs

def inB (a b c : Int) : Bool := decide (b ≤ a) && decide (a ≤ c)
theorem sl1In_ok (a b c : Int) : sl1In [vI a, vI b, vI c] [] = rB (inB a b c) := by
  rw [sl1In.e]; unfold inB; by_cases h : b ≤ a <;> simp [h]
theorem iwithin_ok (a b c : Int) : iwithin [vI a, vI b, vI c] [] = rB (inB a b c) := by
  rw [iwithin.e]; unfold inB; by_cases h : b ≤ a <;> simp [h]
/-! ### names -/
def okc (b : UInt8) : Bool := (decide (97 ≤ (b.toNat : Int)) && decide ((b.toNat : Int) ≤ 122)) || (decide (48 ≤ (b.toNat : Int)) && decide ((b.toNat : Int) ≤ 57))
def nameB (s : Str) : Bool := s.all okc && inB s.length 1 5
theorem sl1NameOk.l2 (s : Str) (hs : sS s) : ∀ k, k ≤ s.length → sl1NameOk.L2 (mkS s) (k : Int) = some (bif (s.drop k).all okc then sl1NameOk.x2 (mkS s) else sl1NameOk.q2 (mkS s) false) := by
  unfold sS at hs
  refine up s.length ?_ fun k hk ih => ?_
  · rw [sl1NameOk.s2]; simp
  · rw [sl1NameOk.s2, drop_cons s k hk, List.all_cons]
    simp only [Int.toNat_natCast, byteAt_lt s k hk, wrap_nat k (by omega), ih, okc]
    by_cases h1 : 97 ≤ (s[k].toNat : Int) <;> by_cases h2 : (s[k].toNat : Int) ≤ 122 <;> by_cases h3 : 48 ≤ (s[k].toNat : Int) <;> by_cases h4 : (s[k].toNat : Int) ≤ 57 <;> simp [h1, h2, h3, h4, hk]
theorem sl1NameOk_ok (s : Str) (hs : sS s) : sl1NameOk [vS s] [] = rB (nameB s) := by
  have h := sl1NameOk.l2 s hs 0 (by omega)
  rw [sl1NameOk.e, show (0 : Int) = ((0 : Nat) : Int) from rfl, h]
  unfold nameB
  cases h : s.all okc <;> simp [h, sl1NameOk.a2q2, sl1NameOk.a2x2, sl1In_ok]
theorem inameOk.l2 (s : Str) (hs : sS s) : ∀ k, k ≤ s.length → inameOk.L2 (mkS s) s.length (k : Int) = some (bif (s.drop k).all okc then inameOk.x2 (mkS s) else inameOk.q2 (mkS s) false) := by
  unfold sS at hs
  refine up s.length ?_ fun k hk ih => ?_
  · rw [inameOk.s2]; simp
  · rw [inameOk.s2, drop_cons s k hk, List.all_cons]
    simp only [Int.toNat_natCast, byteAt_lt s k hk, wrap_nat k (by omega), ih, okc]
    have e1 : decide ((s[k].toNat : Int) < 97) = !decide (97 ≤ (s[k].toNat : Int)) := by by_cases h : 97 ≤ (s[k].toNat : Int) <;> simp [h] <;> omega
    have e2 : decide ((s[k].toNat : Int) > 122) = !decide ((s[k].toNat : Int) ≤ 122) := by by_cases h : (s[k].toNat : Int) ≤ 122 <;> simp [h] <;> omega
    have e3 : decide ((s[k].toNat : Int) < 48) = !decide (48 ≤ (s[k].toNat : Int)) := by by_cases h : 48 ≤ (s[k].toNat : Int) <;> simp [h] <;> omega
    have e4 : decide ((s[k].toNat : Int) > 57) = !decide ((s[k].toNat : Int) ≤ 57) := by by_cases h : (s[k].toNat : Int) ≤ 57 <;> simp [h] <;> omega
    simp only [e1, e2, e3, e4]
    cases decide (97 ≤ (s[k].toNat : Int)) <;> cases decide ((s[k].toNat : Int) ≤ 122) <;> cases decide (48 ≤ (s[k].toNat : Int)) <;> cases decide ((s[k].toNat : Int) ≤ 57) <;> simp [hk]
theorem inameOk_ok (s : Str) (hs : sS s) : inameOk [vS s] [] = rB (nameB s) := by
  have h := inameOk.l2 s hs 0 (by omega)
  rw [inameOk.e, size_mkS, show (0 : Int) = ((0 : Nat) : Int) from rfl, h]
  unfold nameB
  cases h : s.all okc <;> simp [h, inameOk.a2q2, inameOk.a2x2, iwithin_ok]

/-! ### paths -/
def pathB (least : Int) (p : List Str) : Bool := p.all nameB && inB p.length least 4
theorem sl2PathOk.l2 (p : List Str) (hp : oP p) : ∀ k, k ≤ p.length → sl2PathOk.L2 (eSs p) (k : Int) = some (bif (p.drop k).all nameB then sl2PathOk.x2 (eSs p) else sl2PathOk.q2 (eSs p) false) := by
  have hl := hp.1
  refine up p.length ?_ fun k hk ih => ?_
  · rw [sl2PathOk.s2]; simp
  · rw [sl2PathOk.s2, drop_cons p k hk, List.all_cons]
    simp only [Int.toNat_natCast, getD_map eS p k hk, wrap_nat k (by omega), ih]
    have h := sl1NameOk_ok p[k] (sL_at hp hk)
    cases hn : nameB p[k] <;> rw [hn] at h <;> simp [hk, eS, h]
theorem sl2PathOk_ok (p : List Str) (hp : oP p) : sl2PathOk [vP p] [] = rB (pathB 1 p) := by
  have h := sl2PathOk.l2 p hp 0 (by omega)
  rw [sl2PathOk.e, show (0 : Int) = ((0 : Nat) : Int) from rfl, h]
  unfold pathB
  cases h : p.all nameB <;> simp [h, sl2PathOk.a2q2, sl2PathOk.a2x2, sl1In_ok]
theorem inamesOk.l2 (p : List Str) (hp : oP p) (least : Int) : ∀ k, k ≤ p.length → inamesOk.L2 (eSs p) least (eSs p) p.length (k : Int) =
    some (bif (p.drop k).all nameB then inamesOk.x2 (eSs p) least else inamesOk.q2 (eSs p) least false) := by
  have hl := hp.1
  refine up p.length ?_ fun k hk ih => ?_
  · rw [inamesOk.s2]; simp
  · rw [inamesOk.s2, drop_cons p k hk, List.all_cons]
    simp only [Int.toNat_natCast, getD_map eS p k hk, wrap_nat k (by omega), ih]
    have h := inameOk_ok p[k] (sL_at hp hk)
    cases hn : nameB p[k] <;> rw [hn] at h <;> simp [hk, eS, h]
theorem inamesOk_ok (p : List Str) (hp : oP p) (least : Int) : inamesOk [vP p, vI least] [] = rB (pathB least p) := by
  have h := inamesOk.l2 p hp least 0 (by omega)
  rw [inamesOk.e]
  simp only [List.length_map]
  rw [show (0 : Int) = ((0 : Nat) : Int) from rfl, h]
  unfold pathB
  cases h : p.all nameB <;> simp [h, inamesOk.a2q2, inamesOk.a2x2, iwithin_ok]

/-! ### the same path -/
def isPre (b a : List Str) : Bool := b.isPrefixOf a
theorem isPre_take (a b : List Str) (h : b.length ≤ a.length) : decide (b = a.take b.length) = isPre b a := by
  unfold isPre
  rw [Bool.eq_iff_iff, decide_eq_true_iff, List.isPrefixOf_iff_prefix, List.prefix_iff_eq_take]
theorem isPre_len (a b : List Str) (h : a.length = b.length) : isPre b a = decide (a = b) := by
  rw [← isPre_take a b (by omega), Bool.eq_iff_iff, decide_eq_true_iff, decide_eq_true_iff, ← h, List.take_length]
  exact ⟨Eq.symm, Eq.symm⟩
/-! ### the order of paths -/
def lessP : List Str → List Str → Bool
  | _, [] => false
  | [], _ :: _ => true
  | x :: a, y :: b => bif x == y then lessP a b else Op.bytesLess x y
theorem sl11Less.l2 (a b : List Str) (ha : a.length ≤ 9223372036854775807) : ∀ k, k ≤ min a.length b.length → ∃ r, sl11Less.L2 (eSs a) (eSs b) (k : Int) = some r ∧ sl11Less.A2 r = rB (lessP (a.drop k) (b.drop k)) := by
  refine up (min a.length b.length) ?_ fun k hk ih => ?_
  · refine ⟨sl11Less.x2 (eSs a) (eSs b), ?_, ?_⟩
    · rw [sl11Less.s2]
      rcases Nat.lt_or_ge a.length b.length with h | h
      · simp [show min a.length b.length = a.length from by omega]
      · rcases Nat.lt_or_ge b.length a.length with h2 | h2
        · simp [show min a.length b.length = b.length from by omega, h2]
        · simp [show min a.length b.length = b.length from by omega, show a.length = b.length from by omega]
    · rw [sl11Less.a2x2]
      rcases Nat.lt_or_ge a.length b.length with h | h
      · rw [show min a.length b.length = a.length from by omega, List.drop_length, drop_cons b _ h]
        simp [lessP, h]
      · rw [show min a.length b.length = b.length from by omega, List.drop_length]
        have : ¬ a.length < b.length := by omega
        simp [lessP, this]
  · obtain ⟨r, h1, h2⟩ := ih
    have hk1 : k < a.length := by omega
    have hk2 : k < b.length := by omega
    rw [sl11Less.s2, drop_cons a k hk1, drop_cons b k hk2]
    simp only [Int.toNat_natCast, getD_map eS a k hk1, getD_map eS b k hk2, wrap_nat k (by omega), h1, lessP]
    by_cases he : a[k] = b[k]
    · refine ⟨r, by simp [hk1, hk2, eS, he], by rw [h2]; simp [he]⟩
    · refine ⟨sl11Less.q2 (eSs a) (eSs b) (Op.bytesLess a[k] b[k]), by simp [hk1, hk2, eS, beq_eq_false_iff_ne.2 he], by rw [sl11Less.a2q2]; simp [beq_eq_false_iff_ne.2 he]⟩
theorem sl11Less_ok (a b : List Str) (ha : a.length ≤ 9223372036854775807) : sl11Less [vP a, vP b] [] = rB (lessP a b) := by
  obtain ⟨r, h1, h2⟩ := sl11Less.l2 a b ha 0 (by omega)
  rw [sl11Less.e, show (0 : Int) = ((0 : Nat) : Int) from rfl, h1]
  exact h2

theorem cmp_isNaN_ok (a : Str) : cmp_isNaN_string [vS a] [] = rB false := by
  rw [cmp_isNaN_string.e]; simp
def cmpS (a b : Str) : Int := bif Op.bytesLess a b then -1 else bif a == b then 0 else 1
theorem cmp_Compare_ok (a b : Str) : cmp_Compare_string [vS a, vS b] [] = rI (cmpS a b) := by
  rw [cmp_Compare_string.e, cmp_isNaN_ok, cmp_isNaN_ok]
  unfold cmpS
  cases h1 : Op.bytesLess a b <;> cases h2 : (a == b) <;> simp [h1, h2]
theorem less_irr : ∀ a : Str, Op.bytesLess a a = false := by
  intro a
  induction a with
  | nil => rfl
  | cons x a ih => simp [Op.bytesLess, ih]
/-- What slices.Compare answers. -/
def cmpP : List Str → List Str → Int
  | [], [] => 0
  | [], _ :: _ => -1
  | _ :: _, [] => 1
  | x :: a, y :: b => bif cmpS x y != 0 then cmpS x y else cmpP a b
theorem slices_Compare.l2 (a b : List Str) (ha : a.length ≤ 9223372036854775807) : ∀ k, k ≤ a.length → ∃ r, slices_Compare_Sstring_string.L2 (eSs a) (eSs b) (eSs a) a.length (k : Int) = some r ∧
    (k ≤ b.length → slices_Compare_Sstring_string.A2 r = rI (cmpP (a.drop k) (b.drop k))) := by
  refine up a.length ?_ fun k hk ih => ?_
  · refine ⟨slices_Compare_Sstring_string.x2 (eSs a) (eSs b), by rw [slices_Compare_Sstring_string.s2]; simp, fun hb => ?_⟩
    rw [slices_Compare_Sstring_string.a2x2, List.drop_length]
    rcases Nat.lt_or_ge a.length b.length with h | h
    · rw [drop_cons b _ h]; simp [h, cmpP]
    · rw [List.drop_eq_nil_of_le (by omega)]
      have : ¬ a.length < b.length := by omega
      simp [this, cmpP]
  · obtain ⟨r, h1, h2⟩ := ih
    rw [slices_Compare_Sstring_string.s2, drop_cons a k hk]
    simp only [Int.toNat_natCast, getD_map eS a k hk, wrap_nat k (by omega), h1]
    rcases Nat.lt_or_ge k b.length with hb | hb
    · rw [drop_cons b k hb]
      have hc := cmp_Compare_ok a[k] b[k]
      have hb' : ¬ b.length ≤ k := by omega
      simp only [getD_map eS b k hb, cmpP]
      by_cases he : cmpS a[k] b[k] = 0
      · exact ⟨r, by simp [hk, hb, hb', eS, hc, he], fun _ => by rw [h2 (by omega)]; simp [he]⟩
      · exact ⟨slices_Compare_Sstring_string.q2 (eSs a) (eSs b) (cmpS a[k] b[k]), by simp [hk, hb, hb', eS, hc, bne, beq_eq_false_iff_ne.2 he], fun _ => by rw [slices_Compare_Sstring_string.a2q2]; simp [bne, beq_eq_false_iff_ne.2 he]⟩
    · refine ⟨slices_Compare_Sstring_string.q2 (eSs a) (eSs b) 1, by simp [hk, hb, eS], fun hb' => ?_⟩
      rw [slices_Compare_Sstring_string.a2q2, show b.drop k = [] from List.drop_eq_nil_of_le hb]
      rfl
theorem slices_Compare_ok (a b : List Str) (ha : a.length ≤ 9223372036854775807) : slices_Compare_Sstring_string [vP a, vP b] [] = rI (cmpP a b) := by
  obtain ⟨r, h1, h2⟩ := slices_Compare.l2 a b ha 0 (by omega)
  rw [slices_Compare_Sstring_string.e]
  simp only [List.length_map]
  rw [show (0 : Int) = ((0 : Nat) : Int) from rfl, h1]
  exact h2 (by omega)
theorem cmpP_less : ∀ a b : List Str, decide (cmpP a b ≥ 0) = !lessP a b
  | [], [] => rfl
  | [], _ :: _ => rfl
  | _ :: _, [] => rfl
  | x :: a, y :: b => by
    unfold cmpP lessP
    by_cases h : x = y
    · subst h
      have : cmpS x x = 0 := by simp [cmpS, less_irr]
      simp only [this, bne_self_eq_false, cond_false, beq_self_eq_true, cond_true]
      exact cmpP_less a b
    · have h2 : (x == y) = false := by simpa using h
      unfold cmpS
      rw [h2]
      cases Op.bytesLess x y <;> simp
end Go.PVx
/- Trees that are ok. -/
namespace Go.PVx
open Go.PV Go.Proofs

theorem tree_at {ks : List Tree} {k : Nat} (h : k < ks.length) :
    (ks.map eT).getD k [] = [.v (.bool ks[k].dir), .v (.int .i64 ks[k].mode), .v (.string (mkS ks[k].data)), .s (eSs ks[k].names), .s (ks[k].kids.map eT)] := by
  rw [getD_map eT ks k h, eT_eq]
theorem oT_data {t : Tree} (h : oT t) : sS t.data := ((oT_eq t).1 h).1
theorem oT_names {t : Tree} (h : oT t) : oP t.names := ((oT_eq t).1 h).2.1
theorem oT_kids {t : Tree} (h : oT t) : sL oT t.kids := ((oT_eq t).1 h).2.2

/-- Names that are ok, ascending, behind one. -/
def namesB : Option Str → List Str → Bool
  | _, [] => true
  | p, x :: l => nameB x && (match p with | none => true | some y => Op.bytesLess y x) && namesB (some x) l
def prevOf (l : List Str) : Nat → Option Str
  | 0 => none
  | k + 1 => l[k]?
def plainB (t : Tree) : Bool := inB t.mode 0 7 && decide (t.names.length = t.kids.length) && (bif t.dir then namesB none t.names && decide (t.data = []) else decide (t.data.length ≤ 24) && decide (t.names.length = 0))
mutual
def partsB : Int → Tree → Bool
  | d, ⟨a, b, c, e, ks⟩ => plainB ⟨a, b, c, e, ks⟩ && decide (d ≤ 4) && partsBs (d + 1) ks
def partsBs : Int → List Tree → Bool
  | _, [] => true
  | d, t :: ts => partsB d t && partsBs d ts
end
theorem partsBs_all (d : Int) : ∀ l : List Tree, partsBs d l = l.all (partsB d)
  | [] => rfl
  | t :: ts => by rw [partsBs, partsBs_all d ts]; rfl
theorem partsB_eq (d : Int) (t : Tree) : partsB d t = (plainB t && decide (d ≤ 4) && t.kids.all (partsB (d + 1))) := by
  obtain ⟨a, b, c, e, ks⟩ := t
  rw [partsB, partsBs_all]
mutual
/-- How many parts are below. -/
def cnt : Tree → Nat
  | ⟨_, _, _, _, ks⟩ => cnts ks
def cnts : List Tree → Nat
  | [] => 0
  | t :: ts => 1 + cnt t + cnts ts
end
theorem cnts_wL : ∀ l : List Tree, cnts l = wL cnt l
  | [] => rfl
  | t :: ts => by rw [cnts, cnts_wL ts]; rfl
theorem cnt_eq (t : Tree) : cnt t = wL cnt t.kids := by
  obtain ⟨a, b, c, e, ks⟩ := t
  rw [cnt, cnts_wL]
theorem wL_le {α : Type} (v w : α → Nat) : ∀ l : List α, (∀ x ∈ l, v x ≤ w x) → wL v l ≤ wL w l
  | [], _ => Nat.le_refl _
  | x :: l, h => by
    have h1 := h x (by simp)
    have h2 := wL_le v w l fun y hy => h y (List.mem_cons_of_mem _ hy)
    simp only [wL]; omega
theorem cnt_le (t : Tree) : cnt t ≤ wT t := by
  induction t using Tree.ind with
  | h d m s ns ks ih =>
    rw [cnt_eq, wT_eq]
    have := wL_le cnt wT ks ih
    simp only at this ⊢
    omega
def treeB (t : Tree) : Bool := t.dir && partsB 0 t && decide (cnt t ≤ 30)

theorem empty_eq (s : Str) : s.isEmpty = decide (s = []) := by cases s <;> rfl
/-! ### the reference's -/
theorem prev_some {l : List Str} {k : Nat} (h : k < l.length) : prevOf l (k + 1) = some l[k] := by simp [prevOf, h]
/-- The sum of what is below each. -/
def sumC : List Tree → Int
  | [] => 0
  | t :: l => (cnt t : Int) + sumC l
theorem sumC_wL : ∀ l : List Tree, sumC l = (wL cnt l : Int) - l.length
  | [] => rfl
  | t :: l => by simp only [sumC, wL, List.length_cons, sumC_wL l]; omega
/-! ### the program's -/
end Go.PVx
/- Nodes that are ok by themselves. -/
namespace Go.PVx
open Go.PV Go.Proofs

theorem node_at {l : List NodeOf} {k : Nat} (h : k < l.length) : (l.map eN).getD k [] = [.v (.int .i64 l[k].id), .s (eSs l[k].path)] := by
  rw [getD_map eN l k h]; rfl
def oN (n : NodeOf) : Prop := oP n.path
/-- Nodes behind others: ids, paths, their order. -/
def nodesB (nx : Int) : List NodeOf → List NodeOf → Bool
  | _, [] => true
  | pre, x :: l => inB x.id 1 (IntKind.i64.wrap (nx - 1)) && (pathB 1 x.path && ((match pre.getLast? with | none => true | some y => lessP y.path x.path) && (pre.all (fun y => !(y.id == x.id)) && nodesB nx (pre ++ [x]) l)))
def okB (n : Nodes) : Bool := inB n.next 1 10000 && decide (n.list.length ≤ 30) && nodesB n.next [] n.list
theorem last_take {α : Type} {l : List α} {j : Nat} (h : j < l.length) : (l.take (j + 1)).getLast? = some l[j] := by
  rw [take_snoc l j h, List.getLast?_concat]

/-! ### the reference's -/
theorem sl33Ok.l10 (nx : Int) (l : List NodeOf) (hl : l.length ≤ 9223372036854775807) (k : Nat) (hk : k < l.length) (id : Int) (es : List (List D)) : ∀ j, j ≤ k →
    sl33Ok.L10 (k : Int) (j : Int) nx (l.map eN) id es = some (bif ((l.take k).drop j).all (fun y => !(y.id == id)) then sl33Ok.x10 (k : Int) nx (l.map eN) else sl33Ok.q10 false (k : Int) nx (l.map eN)) := by
  refine up k ?_ fun j hj ih => ?_
  · rw [sl33Ok.s10]; simp
  · have hj2 : j < l.length := by omega
    have hj3 : j < (l.take k).length := by simp; omega
    rw [sl33Ok.s10, drop_cons (l.take k) j hj3]
    simp only [Int.toNat_natCast, node_at hj2, wrap_nat j (by omega), ih, List.all_cons, List.getElem_take]
    cases he : (l[j].id == id) <;> simp [-List.getElem_cons_drop, hj, hj2, he]
theorem sl33Ok.l4 (nx : Int) (l : List NodeOf) (ho : sL oN l) : ∀ k, k ≤ l.length → sl33Ok.L4 (k : Int) nx (l.map eN) = some (bif nodesB nx (l.take k) (l.drop k) then sl33Ok.x4 else sl33Ok.q4 false) := by
  have hl := ho.1
  refine up l.length ?_ fun k hk ih => ?_
  · rw [sl33Ok.s4]; simp [nodesB]
  · rw [sl33Ok.s4, drop_cons l k hk]
    have h1 := sl1In_ok l[k].id 1 (IntKind.i64.wrap (nx - 1))
    have h2 := sl2PathOk_ok l[k].path (sL_at ho hk)
    have h10 : sl33Ok.L10 (k : Int) 0 nx (l.map eN) l[k].id (eSs l[k].path) = _ := sl33Ok.l10 nx l hl k hk l[k].id (eSs l[k].path) 0 (by omega)
    have hend : (sl33Ok.L10 (k : Int) 0 nx (l.map eN) l[k].id (eSs l[k].path)).bind sl33Ok.A10 =
        some (bif (l.take k).all (fun y => !(y.id == l[k].id)) && nodesB nx (l.take (k + 1)) (l.drop (k + 1)) then sl33Ok.x4 else sl33Ok.q4 false) := by
      rw [h10, Option.bind_some, List.drop_zero]
      cases (l.take k).all (fun y => !(y.id == l[k].id)) with
      | true => simp only [cond_true, Bool.true_and]; rw [sl33Ok.a10x10, wrap_nat k (by omega)]; exact ih
      | false => simp only [cond_false, Bool.false_and]; rw [sl33Ok.a10q10]
    simp only [Int.toNat_natCast, node_at hk, nodesB, ← take_snoc l k hk]
    cases hin : inB l[k].id 1 (IntKind.i64.wrap (nx - 1)) with
    | false => rw [hin] at h1; simp [-List.getElem_cons_drop, hk, h1]
    | true =>
      rw [hin] at h1
      cases hpb : pathB 1 l[k].path with
      | false => rw [hpb] at h2; simp [-List.getElem_cons_drop, hk, h1, h2]
      | true =>
        rw [hpb] at h2
        by_cases hk0 : k = 0
        · subst hk0
          simp [-List.getElem_cons_drop, hk, h1, h2] at hend ⊢
          exact hend
        · obtain ⟨j, hjk⟩ : ∃ j, k = j + 1 := ⟨k - 1, by omega⟩
          have hj : j < l.length := by omega
          have hw : IntKind.i64.wrap ((k : Int) - 1) = (j : Int) := by rw [wrap_pred k (by omega) (by omega), hjk]; rfl
          have hla : (l.take k).getLast? = some l[j] := by rw [hjk]; exact last_take hj
          have e1 : decide ((k : Int) > 0) = true := by simp; omega
          have h3 := sl11Less_ok l[j].path l[k].path (sL_at ho hj).1
          simp only [hw, Int.toNat_natCast, node_at hj, hla, e1]
          cases hb : lessP l[j].path l[k].path with
          | false => rw [hb] at h3; simp [-List.getElem_cons_drop, hk, hj, h1, h2, h3]
          | true =>
            rw [hb] at h3
            simp [-List.getElem_cons_drop, hk, hj, h1, h2, h3] at hend ⊢
            exact hend
theorem sl33Ok_ok (n : Nodes) (ho : sL oN n.list) : sl33Ok [vNs n] [] = rB (okB n) := by
  rw [sl33Ok.e, sl1In_ok]
  unfold okB
  cases h1 : inB n.next 1 10000 with
  | false => simp
  | true =>
    by_cases h2 : n.list.length ≤ 30
    · have h2' : ¬ ((n.list.length : Int) > 30) := by omega
      have hl : sl33Ok.L4 0 n.next (n.list.map eN) = _ := sl33Ok.l4 n.next n.list ho 0 (by omega)
      simp only [List.take_zero, List.drop_zero] at hl
      cases h3 : nodesB n.next [] n.list <;> rw [h3] at hl <;> simp [h2, h2', hl, sl33Ok.a4q4, sl33Ok.a4x4]
    · have h2' : ((n.list.length : Int) > 30) := by omega
      simp [h2, h2']

/-! ### the program's -/
theorem inodesWell.l7 (nx : Int) (l : List NodeOf) (hl : l.length ≤ 9223372036854775807) (k : Nat) (hk : k < l.length) (id : Int) (es : List (List D)) : ∀ j, j ≤ k →
    inodesWell.L7 (l.map eN) l.length (k : Int) ((l.take k).map eN) (k : Int) (j : Int) nx (l.map eN) id es =
      some (bif ((l.take k).drop j).all (fun y => !(y.id == id)) then inodesWell.x7 (l.map eN) l.length (k : Int) nx (l.map eN) else inodesWell.q7 false (l.map eN) l.length (k : Int) nx (l.map eN)) := by
  refine up k ?_ fun j hj ih => ?_
  · rw [inodesWell.s7]; simp
  · have hj2 : j < l.length := by omega
    have hj3 : j < (l.take k).length := by simp; omega
    rw [inodesWell.s7, drop_cons (l.take k) j hj3]
    simp only [Int.toNat_natCast, node_at hj3, wrap_nat j (by omega), ih, List.all_cons]
    have hm : j < min k l.length := by omega
    cases he : ((l.take k)[j].id == id) <;> simp only [List.getElem_take] at he <;> simp [-List.getElem_cons_drop, hj, hm, he]
theorem inodesWell.l2 (nx : Int) (l : List NodeOf) (ho : sL oN l) : ∀ k, k ≤ l.length → inodesWell.L2 (l.map eN) l.length (k : Int) nx (l.map eN) =
    some (bif nodesB nx (l.take k) (l.drop k) then inodesWell.x2 nx (l.map eN) else inodesWell.q2 false nx (l.map eN)) := by
  have hl := ho.1
  refine up l.length ?_ fun k hk ih => ?_
  · rw [inodesWell.s2]; simp [nodesB]
  · rw [inodesWell.s2, drop_cons l k hk]
    have h1 := iwithin_ok l[k].id 1 (IntKind.i64.wrap (nx - 1))
    have h2 := inamesOk_ok l[k].path (sL_at ho hk) 1
    have hlen : ((((l.take k).map eN).length : Nat) : Int) = (k : Int) := by simp; omega
    have htk : List.drop 0 (List.take k (l.map eN)) = (l.take k).map eN := by rw [List.drop_zero, List.map_take]
    have h7 : inodesWell.L7 (l.map eN) l.length (k : Int) ((l.take k).map eN) (k : Int) 0 nx (l.map eN) l[k].id (eSs l[k].path) = _ := inodesWell.l7 nx l hl k hk l[k].id (eSs l[k].path) 0 (by omega)
    have hend : (inodesWell.L7 (l.map eN) l.length (k : Int) ((l.take k).map eN) (k : Int) 0 nx (l.map eN) l[k].id (eSs l[k].path)).bind inodesWell.A7 =
        some (bif (l.take k).all (fun y => !(y.id == l[k].id)) && nodesB nx (l.take (k + 1)) (l.drop (k + 1)) then inodesWell.x2 nx (l.map eN) else inodesWell.q2 false nx (l.map eN)) := by
      rw [h7, Option.bind_some, List.drop_zero]
      cases (l.take k).all (fun y => !(y.id == l[k].id)) with
      | true => simp only [cond_true, Bool.true_and]; rw [inodesWell.a7x7, wrap_nat k (by omega)]; exact ih
      | false => simp only [cond_false, Bool.false_and]; rw [inodesWell.a7q7]
    simp only [Int.toNat_natCast, node_at hk, nodesB, ← take_snoc l k hk, htk, hlen]
    have hkl : (k : Int) ≤ (l.length : Int) := by omega
    cases hpb : pathB 1 l[k].path with
    | false => rw [hpb] at h2; simp [-List.getElem_cons_drop, hk, h2]
    | true =>
      rw [hpb] at h2
      by_cases hk0 : k = 0
      · subst hk0
        cases hin : inB l[0].id 1 (IntKind.i64.wrap (nx - 1)) with
        | false => rw [hin] at h1; simp [-List.getElem_cons_drop, hk, h1, h2]
        | true =>
          rw [hin] at h1
          simp [-List.getElem_cons_drop, hk, h1, h2] at hend ⊢
          exact hend
      · obtain ⟨j, hjk⟩ : ∃ j, k = j + 1 := ⟨k - 1, by omega⟩
        have hj : j < l.length := by omega
        have hw : IntKind.i64.wrap ((k : Int) - 1) = (j : Int) := by rw [wrap_pred k (by omega) (by omega), hjk]; rfl
        have hla : (l.take k).getLast? = some l[j] := by rw [hjk]; exact last_take hj
        have e1 : decide ((k : Int) > 0) = true := by simp; omega
        have h3 := slices_Compare_ok l[j].path l[k].path (sL_at ho hj).1
        have h4 := cmpP_less l[j].path l[k].path
        simp only [hw, Int.toNat_natCast, node_at hj, hla, e1]
        cases hb : lessP l[j].path l[k].path with
        | false =>
          rw [hb] at h4
          have h4 : 0 ≤ cmpP l[j].path l[k].path := by simpa using h4
          simp [-List.getElem_cons_drop, hk, hj, h2, h3, h4]
        | true =>
          rw [hb] at h4
          have h4 : ¬ 0 ≤ cmpP l[j].path l[k].path := by simpa using h4
          cases hin : inB l[k].id 1 (IntKind.i64.wrap (nx - 1)) with
          | false => rw [hin] at h1; simp [-List.getElem_cons_drop, hk, hj, h1, h2, h3, h4]
          | true =>
            rw [hin] at h1
            simp [-List.getElem_cons_drop, hk, hj, h1, h2, h3, h4, hkl] at hend ⊢
            exact hend
theorem inodesWell_ok (n : Nodes) (ho : sL oN n.list) : inodesWell [vNs n] [] = rB (okB n) := by
  have h1 := iwithin_ok n.next 1 10000
  have hl := inodesWell.l2 n.next n.list ho 0 (by omega)
  rw [List.take_zero, List.drop_zero, Int.natCast_zero] at hl
  rw [inodesWell.e, List.length_map, hl, Option.bind_some]
  unfold okB
  have h2 : decide ((n.list.length : Int) ≤ 30) = decide (n.list.length ≤ 30) := decide_eq_decide.2 (by omega)
  cases h3 : nodesB n.next [] n.list with
  | false => rw [cond_false, inodesWell.a2q2, Bool.and_false]
  | true =>
    rw [cond_true, inodesWell.a2x2, h1, Bool.and_true]
    cases h4 : inB n.next 1 10000 <;> simp [h2]
end Go.PVx
/- The paths of a tree. -/
namespace Go.PVx
open Go.PV Go.Proofs

theorem rowsLen_map {α : Type} (f : α → List D) (n : Nat) (h : ∀ x, (f x).length = n) (l : List α) : rowsLen n (l.map f) = true := by
  simp [rowsLen, h]
@[simp] theorem rowsLen_eS (l : List Str) : rowsLen 1 (eSs l) = true := rowsLen_map eS 1 (fun _ => rfl) l
@[simp] theorem rowsLen_ePa (l : List (List Str)) : rowsLen 1 (l.map ePa) = true := rowsLen_map ePa 1 (fun _ => rfl) l
@[simp] theorem rowsLen_eN (l : List NodeOf) : rowsLen 2 (l.map eN) = true := rowsLen_map eN 2 (fun _ => rfl) l
@[simp] theorem rowsCell_eS (b : Bool) (l : List Str) : rowsCell b (eSs l) = true := by simp [rowsCell, eS, cellD, isCell]
@[simp] theorem rowsCell_ePa (l : List (List Str)) : rowsCell true (l.map ePa) = true := by simp [rowsCell, ePa, cellD]
theorem snoc_eS (l : List Str) (s : Str) : eSs l ++ [[D.v (.string (mkS s))]] = eSs (l ++ [s]) := by simp [eS]
theorem snoc_ePa (l : List (List Str)) (p : List Str) : l.map ePa ++ [[D.s (eSs p)]] = (l ++ [p]).map ePa := by simp [ePa]
theorem path_at {l : List (List Str)} {k : Nat} (h : k < l.length) : (l.map ePa).getD k [] = [.s (eSs l[k])] := by
  rw [getD_map ePa l k h]; rfl

mutual
/-- The paths below a part at a path. -/
def pathsT (p : List Str) : Tree → List (List Str)
  | ⟨_, _, _, ns, ks⟩ => pathsZ p ns ks
def pathsZ (p : List Str) : List Str → List Tree → List (List Str)
  | n :: ns, k :: ks => (p ++ [n]) :: (pathsT (p ++ [n]) k ++ pathsZ p ns ks)
  | [], _ => []
  | _ :: _, [] => []
end
theorem pathsT_eq (p : List Str) (t : Tree) : pathsT p t = pathsZ p t.names t.kids := by
  obtain ⟨a, b, c, ns, ks⟩ := t
  rw [pathsT]
theorem partsB_names {d : Int} {t : Tree} (h : partsB d t = true) : t.names.length = t.kids.length := by
  rw [partsB_eq] at h
  simp only [plainB, Bool.and_eq_true, decide_eq_true_eq] at h
  exact h.1.1.1.2
theorem partsB_kid {d : Int} {t : Tree} (h : partsB d t = true) {k : Tree} (hk : k ∈ t.kids) : partsB (d + 1) k = true := by
  rw [partsB_eq] at h
  simp only [Bool.and_eq_true, List.all_eq_true] at h
  exact h.2 k hk
theorem pathsZ_drop (p : List Str) {ns : List Str} {ks : List Tree} {k : Nat} (h1 : k < ns.length) (h2 : k < ks.length) :
    pathsZ p (ns.drop k) (ks.drop k) = (p ++ [ns[k]]) :: (pathsT (p ++ [ns[k]]) ks[k] ++ pathsZ p (ns.drop (k + 1)) (ks.drop (k + 1))) := by
  rw [drop_cons ns k h1, drop_cons ks k h2, pathsZ]
theorem pathsZ_nil (p : List Str) (ns : List Str) (ks : List Tree) (h : ns.length ≤ 0) : pathsZ p ns ks = [] := by
  cases ns with
  | nil => rw [pathsZ]
  | cons => simp at h
theorem pathsT_len (t : Tree) : ∀ (p : List Str) (d : Int), partsB d t = true → (pathsT p t).length = cnt t := by
  induction t using Tree.ind with
  | h a b c ns ks ih =>
    intro p d hp
    have hn := partsB_names hp
    have hk := fun k (h : k ∈ ks) => partsB_kid hp (k := k) h
    simp only at hn
    rw [pathsT_eq, cnt_eq]
    simp only
    clear hp
    induction ks generalizing ns with
    | nil =>
      have : ns = [] := List.eq_nil_of_length_eq_zero hn
      subst this
      simp [pathsZ, wL]
    | cons k ks ihk =>
      cases ns with
      | nil => simp at hn
      | cons n ns =>
        rw [pathsZ, List.length_cons, List.length_append, ih k (by simp) _ (d + 1) (hk k (by simp)), ihk ns (fun k h => ih k (List.mem_cons_of_mem _ h)) (by simpa using hn) (fun k h => hk k (List.mem_cons_of_mem _ h)), wL]
        omega

/-! ### the reference's -/
/-! ### the program's -/
abbrev oB (l : List (List Str)) : PV.Obj := { kind := Kind.box, row := [D.s (l.map ePa)], fl := [Own.deep] }
theorem fitsCos_box (a b : List (List Str)) (n : Nat) : fitsCos [{ ob := oB a, src := Src.box n }] [oB b] = true := by simp
/-! ### nodes and a tree -/
def nodesOkB (n : Nodes) (t : Tree) : Bool := treeB t && okB n && decide (pathsT [] t = n.list.map NodeOf.path)
theorem treeB_parts {t : Tree} (h : treeB t = true) : partsB 0 t = true := by
  simp only [treeB, Bool.and_eq_true] at h; exact h.1.2
theorem pathsT_small (t : Tree) : ∀ (p : List Str) (d : Int), partsB d t = true → wT t ≤ 1048576 → p.length + wT t ≤ 2097152 → ∀ q ∈ pathsT p t, q.length ≤ 2097152 := by
  induction t using Tree.ind with
  | h a b c ns ks ih =>
    intro p d hp hw hpw q hq
    have hn := partsB_names hp
    have hk := fun k (h : k ∈ ks) => partsB_kid hp (k := k) h
    simp only at hn
    rw [pathsT_eq] at hq
    rw [wT_eq] at hw hpw
    simp only at hq hw hpw
    have key : ∀ k, k ≤ ns.length → q ∈ pathsZ p (ns.drop k) (ks.drop k) → q.length ≤ 2097152 := by
      refine up ns.length ?_ fun k hk1 ihk h => ?_
      · intro h; rw [pathsZ_nil p _ _ (by simp)] at h; simp at h
      · have hk2 : k < ks.length := by omega
        have hwk := wL_at wT hk2
        rw [pathsZ_drop p hk1 hk2] at h
        rcases List.mem_cons.1 h with rfl | h
        · simp only [List.length_append, List.length_cons, List.length_nil]; omega
        · rcases List.mem_append.1 h with h | h
          · exact ih ks[k] (List.getElem_mem hk2) _ (d + 1) (hk _ (List.getElem_mem hk2)) (by omega) (by simp only [List.length_append, List.length_cons, List.length_nil]; omega) q h
          · exact ihk h
    exact key 0 (by omega) (by simpa using hq)
end Go.PVx
/- What the laws do with their arguments: how large they are, copies, that they are the same: words for all types; lists of texts. -/
namespace Go.PVx
open Go.PV Go.Proofs

/-- What is left of a room. -/
def szR (w : Nat) (x : Int) : Int := bif decide ((w : Int) ≤ x) then x - w else -1
theorem szR_pos {w : Nat} {x : Int} (h : (w : Int) ≤ x) : szR w x = x - w := by simp [szR, h]
theorem szR_neg {w : Nat} {x : Int} (h : ¬ (w : Int) ≤ x) : szR w x = -1 := by simp [szR, h]
def sumW {α : Type} (w : α → Nat) : List α → Nat
  | [] => 0
  | x :: l => w x + sumW w l
theorem wL_sum {α : Type} (w : α → Nat) : ∀ l : List α, wL w l = l.length + sumW w l
  | [] => rfl
  | x :: l => by simp only [wL, sumW, List.length_cons, wL_sum w l]; omega
theorem szR_add {a b : Nat} {x : Int} (h : (a : Int) ≤ x) : szR (a + b) x = szR b (x - a) := by
  unfold szR
  by_cases h2 : (b : Int) ≤ x - a
  · have h3 : ((a + b : Nat) : Int) ≤ x := by omega
    simp only [h2, h3, decide_true, cond_true]; omega
  · have h3 : ¬ ((a + b : Nat) : Int) ≤ x := by omega
    simp only [h2, h3, decide_false, cond_false]
theorem szR_more {a b : Nat} {x : Int} (h : ¬ (a : Int) ≤ x) : szR (a + b) x = -1 := szR_neg (by omega)
theorem szR_ge {w : Nat} {x : Int} (h : 0 ≤ szR w x) : (w : Int) ≤ x := by
  by_cases h2 : (w : Int) ≤ x
  · exact h2
  · rw [szR_neg h2] at h; omega
theorem szR_le {w : Nat} {x : Int} (hx : 0 ≤ x) : szR w x ≤ x := by
  by_cases h2 : (w : Int) ≤ x
  · rw [szR_pos h2]; omega
  · rw [szR_neg h2]; omega

theorem str_at {l : List Str} {k : Nat} (h : k < l.length) : (eSs l).getD k [] = [.v (.string (mkS l[k]))] := by
  rw [getD_map eS l k h]; rfl
theorem wszStringS.l5 (l : List Str) (ho : oP l) : ∀ k, k ≤ l.length → ∀ x : Int, 0 ≤ x → x ≤ Lim → (wszStringS.L5 (eSs l) x (k : Int)).bind wszStringS.A5 = rI (szR (sumW List.length (l.drop k)) x) := by
  have hl := ho.1
  have hL : (Lim : Int) = 1048576 := rfl
  refine up l.length ?_ fun k hk ih x h0 h1 => ?_
  · intro x h0 h1; rw [wszStringS.s5]; simp [sumW, szR, wszStringS.a5x5, h0]
  · rw [wszStringS.s5, drop_cons l k hk]
    have hsz := sL_at ho hk
    unfold sS at hsz
    have hw : IntKind.i64.wrap (x - (l[k].length : Int)) = x - (l[k].length : Int) := wrap_in _ (by omega)
    simp only [Int.toNat_natCast, str_at hk, wrap_nat k (by omega), sumW, List.getD_cons_zero, str_v, size_mkS, hw]
    by_cases hx : (l[k].length : Int) ≤ x
    · have hn : ¬ x - (l[k].length : Int) < 0 := by omega
      have := ih (x - (l[k].length : Int)) (by omega) (by omega)
      push_cast at this
      rw [szR_add hx, ← this]
      simp [-List.getElem_cons_drop, hk, hn]
    · have hn : x - (l[k].length : Int) < 0 := by omega
      rw [szR_more hx]
      simp [-List.getElem_cons_drop, hk, hn, wszStringS.a5q5]
theorem wszStringS_ok (l : List Str) (ho : oP l) (x : Int) (h0 : 0 ≤ x) (h1 : x ≤ Lim) : wszStringS [vP l, vI x] [] = rI (szR (wP l) x) := by
  have hl := ho.1
  have hL : (Lim : Int) = 1048576 := rfl
  have hw : IntKind.i64.wrap (x - (l.length : Int)) = x - (l.length : Int) := wrap_in _ (by omega)
  rw [wszStringS.e]
  unfold wP
  simp only [List.length_map, hw, wL_sum]
  by_cases hx : (l.length : Int) ≤ x
  · have hn : ¬ x - (l.length : Int) < 0 := by omega
    have := wszStringS.l5 l ho 0 (by omega) (x - (l.length : Int)) (by omega) (by omega)
    rw [List.drop_zero] at this
    rw [szR_add hx, ← this]
    simp [hn]
  · have hn : x - (l.length : Int) < 0 := by omega
    rw [szR_more hx]
    simp [hn]

/-! ### copies -/
theorem wtoStringS_ok (l : List Str) (hl : l.length ≤ 1048576) : wtoStringS [vP l] [] = rO (eSs l) := by
  have key : ∀ k, k ≤ l.length → (wtoStringS.L3 (eSs l) (k : Int) ((l.take k).map eS ++ List.replicate (l.length - k) [D.v (Value.string (mkS []))])).bind wtoStringS.A3 = rO (eSs l) := by
    refine up l.length ?_ fun k hk ih => ?_
    · rw [wtoStringS.s3, fill_all]; simp [wtoStringS.a3x3]
    · rw [wtoStringS.s3]
      have h1 := fill_get eS l [D.v (Value.string (mkS []))] k hk
      have h2 := fill_len eS l [D.v (Value.string (mkS []))] k (by omega)
      have h3 := fill_set eS l [D.v (Value.string (mkS []))] k hk
      rw [← ih]
      simp only [Int.toNat_natCast, str_at hk, wrap_nat k (by omega), h1, h2, List.getD_cons_zero, str_v]
      have h3' : List.set ((l.take k).map eS ++ List.replicate (l.length - k) [D.v (Value.string (mkS []))]) k (D.v (Value.string (mkS l[k])) :: List.drop 1 [D.v (Value.string (mkS []))]) = _ := h3
      rw [h3']
      have hb1 : decide ((k : Int) < ((eSs l).length : Int)) = true := by simp; omega
      have hb2 : decide (0 ≤ (k : Int)) = true := by simp
      have hb3 : decide ((k : Int) < (l.length : Int)) = true := by simp; omega
      simp only [hb1, hb2, hb3]
      rfl
  rw [wtoStringS.e]
  have hc : (decide (((eSs l).length : Int) * ((↑16 : Int) + 1) ≤ 2 ^ 46) && true && true) = true := by simp; omega
  rw [hc, cond_true]
  have h0 := key 0 (by omega)
  rw [fill_zero] at h0
  simp only [List.length_map, Int.toNat_natCast]
  exact h0
theorem weqStringS_refl (l : List Str) (hl : l.length ≤ 9223372036854775807) : weqStringS [vP l, vP l] [] = rB true := by
  have key : ∀ k, k ≤ l.length → weqStringS.L4 (eSs l) (eSs l) (k : Int) = some weqStringS.x4 := by
    refine up l.length ?_ fun k hk ih => ?_
    · rw [weqStringS.s4]; simp
    · rw [weqStringS.s4]
      simp only [Int.toNat_natCast, str_at hk, wrap_nat k (by omega), ih]
      simp [hk]
  have h0 : weqStringS.L4 (eSs l) (eSs l) 0 = _ := key 0 (by omega)
  rw [weqStringS.e, h0]
  simp [weqStringS.a4x4]
end Go.PVx
/- What the laws do with nodes and trees. (The lemmas on lists are printed by wip/pv/tool/genlaw.py.) -/
namespace Go.PVx
open Go.PV Go.Proofs
abbrev rNodeOf (a : NodeOf) : Option Res := some ⟨[.v (.int .i64 a.id), .o .deep (eSs a.path)], []⟩
abbrev rNodes (a : Nodes) : Option Res := some ⟨[.v (.int .i64 a.next), .o .deep (a.list.map eN)], []⟩
abbrev rTree (t : Tree) : Option Res := some ⟨[.v (.bool t.dir), .v (.int .i64 t.mode), .v (.string (mkS t.data)), .o .deep (eSs t.names), .o .deep (t.kids.map eT)], []⟩

/-! ### NodeOf: lists -/
theorem wszNodeOfS.l5 (l : List NodeOf) (hl : l.length ≤ 9223372036854775807) (hX : ∀ a ∈ l, ∀ x : Int, 0 ≤ x → x ≤ Lim → wszNodeOf [vN a, vI x] [] = rI (szR (wN a) x)) : ∀ k, k ≤ l.length → ∀ x : Int, 0 ≤ x → x ≤ Lim →
    (wszNodeOfS.L5 (l.map eN) x (k : Int)).bind wszNodeOfS.A5 = rI (szR (sumW wN (l.drop k)) x) := by
  have hL : (Lim : Int) = 1048576 := rfl
  refine up l.length ?_ fun k hk ih x h0 h1 => ?_
  · intro x h0 h1; rw [wszNodeOfS.s5]; simp [sumW, szR, wszNodeOfS.a5x5, h0]
  · rw [wszNodeOfS.s5, drop_cons l k hk]
    have h := hX l[k] (List.getElem_mem hk) x h0 h1
    simp only [Int.toNat_natCast, node_at hk, wrap_nat k (by omega), sumW]
    by_cases hx : (wN l[k] : Int) ≤ x
    · have hn : ¬ x - (wN l[k] : Int) < 0 := by omega
      have := ih (x - (wN l[k] : Int)) (by omega) (by omega)
      push_cast at this
      rw [szR_pos hx] at h
      rw [szR_add hx, ← this]
      simp [-List.getElem_cons_drop, hk, hn, h]
    · rw [szR_neg hx] at h
      rw [szR_more hx]
      simp [-List.getElem_cons_drop, hk, h, wszNodeOfS.a5q5]
theorem wszNodeOfS_of (l : List NodeOf) (hl : l.length ≤ 9223372036854775807) (hX : ∀ a ∈ l, ∀ x : Int, 0 ≤ x → x ≤ Lim → wszNodeOf [vN a, vI x] [] = rI (szR (wN a) x)) (x : Int) (h0 : 0 ≤ x) (h1 : x ≤ Lim) :
    wszNodeOfS [.one (.s (l.map eN)), vI x] [] = rI (szR (wL wN l) x) := by
  have hL : (Lim : Int) = 1048576 := rfl
  have hw : IntKind.i64.wrap (x - (l.length : Int)) = x - (l.length : Int) := wrap_in _ (by omega)
  rw [wszNodeOfS.e]
  simp only [List.length_map, hw, wL_sum]
  by_cases hx : (l.length : Int) ≤ x
  · have hn : ¬ x - (l.length : Int) < 0 := by omega
    have := wszNodeOfS.l5 l hl hX 0 (by omega) (x - (l.length : Int)) (by omega) (by omega)
    rw [List.drop_zero] at this
    rw [szR_add hx, ← this]
    simp [hn]
  · have hn : x - (l.length : Int) < 0 := by omega
    rw [szR_more hx]
    simp [hn]
theorem wtoNodeOfS_of (l : List NodeOf) (hl : l.length ≤ 1048576) (hX : ∀ a ∈ l, wtoNodeOf [vN a] [] = rNodeOf a) : wtoNodeOfS [.one (.s (l.map eN))] [] = rO (l.map eN) := by
  have key : ∀ k, k ≤ l.length → (wtoNodeOfS.L3 (l.map eN) (k : Int) ((l.take k).map eN ++ List.replicate (l.length - k) [D.v (Value.int IntKind.i64 0), D.s []])).bind wtoNodeOfS.A3 = rO (l.map eN) := by
    refine up l.length ?_ fun k hk ih => ?_
    · rw [wtoNodeOfS.s3, fill_all]; simp [wtoNodeOfS.a3x3]
    · rw [wtoNodeOfS.s3]
      have h := hX l[k] (List.getElem_mem hk)
      have h1 := fill_get eN l [D.v (Value.int IntKind.i64 0), D.s []] k hk
      have h2 := fill_len eN l [D.v (Value.int IntKind.i64 0), D.s []] k (by omega)
      have h3 := fill_set eN l [D.v (Value.int IntKind.i64 0), D.s []] k hk
      have h4 : eN l[k] = _ := (getD_map eN l k hk).symm.trans (node_at hk)
      rw [h4] at h3
      rw [← ih]
      simp only [Int.toNat_natCast, node_at hk, wrap_nat k (by omega), h1, h2]
      have hb1 : decide ((k : Int) < ((l.map eN).length : Int)) = true := by simp; omega
      have hb2 : decide (0 ≤ (k : Int)) = true := by simp
      have hb3 : decide ((k : Int) < (l.length : Int)) = true := by simp; omega
      simp only [hb1, hb2, hb3]
      simp only [fitsRow, CK.fits, List.zipIdx, List.all_cons, List.all_nil, List.getD_cons_zero, List.getD_cons_succ, List.length_cons, List.length_nil, str_v, bool_v, int_v, es_s, h, Option.bind_some, fitsCells, R1.fits, tes_o, tint_v, tbool_v, tstr_v]
      simp only [List.drop_succ_cons, List.drop_zero, List.drop_nil]
      rw [h3]
      rfl
  rw [wtoNodeOfS.e]
  have hc : (decide (((l.map eN).length : Int) * ((↑32 : Int) + 1) ≤ 2 ^ 46) && true && true) = true := by simp; omega
  rw [hc, cond_true]
  have h0 := key 0 (by omega)
  rw [fill_zero] at h0
  simp only [List.length_map, Int.toNat_natCast]
  exact h0
theorem weqNodeOfS_of (l : List NodeOf) (hl : l.length ≤ 9223372036854775807) (hX : ∀ a ∈ l, weqNodeOf [vN a, vN a] [] = rB true) : weqNodeOfS [.one (.s (l.map eN)), .one (.s (l.map eN))] [] = rB true := by
  have key : ∀ k, k ≤ l.length → weqNodeOfS.L4 (l.map eN) (l.map eN) (k : Int) = some weqNodeOfS.x4 := by
    refine up l.length ?_ fun k hk ih => ?_
    · rw [weqNodeOfS.s4]; simp
    · rw [weqNodeOfS.s4]
      have h := hX l[k] (List.getElem_mem hk)
      simp only [Int.toNat_natCast, node_at hk, wrap_nat k (by omega), ih]
      simp [hk, h]
  have h0 : weqNodeOfS.L4 (l.map eN) (l.map eN) 0 = _ := key 0 (by omega)
  rw [weqNodeOfS.e, h0]
  simp [weqNodeOfS.a4x4]


/-! ### Tree: lists -/
/-! ### nodes -/
theorem wszNodeOf_ok (a : NodeOf) (ho : oN a) (x : Int) (h0 : 0 ≤ x) (h1 : x ≤ Lim) : wszNodeOf [vN a, vI x] [] = rI (szR (wN a) x) := by
  have h := wszStringS_ok a.path ho x h0 h1
  rw [wszNodeOf.e, h]
  unfold wN
  by_cases hx : (wP a.path : Int) ≤ x
  · rw [szR_pos hx]
    have : ¬ x - (wP a.path : Int) < 0 := by omega
    simp [this]
  · rw [szR_neg hx]; simp
theorem wszNodes_ok (a : Nodes) (ho : sL oN a.list) (x : Int) (h0 : 0 ≤ x) (h1 : x ≤ Lim) : wszNodes [vNs a, vI x] [] = rI (szR (wNs a) x) := by
  have h := wszNodeOfS_of a.list ho.1 (fun n hn x h0 h1 => wszNodeOf_ok n (ho.2 n hn) x h0 h1) x h0 h1
  rw [wszNodes.e, h]
  unfold wNs
  by_cases hx : (wL wN a.list : Int) ≤ x
  · rw [szR_pos hx]
    have : ¬ x - (wL wN a.list : Int) < 0 := by omega
    simp [this]
  · rw [szR_neg hx]; simp
theorem wP_len (p : List Str) : p.length ≤ wP p := wL_len _ p
theorem wtoNodeOf_ok (a : NodeOf) (hw : wN a ≤ 1048576) : wtoNodeOf [vN a] [] = rNodeOf a := by
  have := wP_len a.path
  rw [wtoNodeOf.e, wtoStringS_ok a.path (by unfold wN at hw; omega)]
  simp
theorem wtoNodes_ok (a : Nodes) (hw : wNs a ≤ 1048576) : wtoNodes [vNs a] [] = rNodes a := by
  unfold wNs at hw
  have := wL_len wN a.list
  rw [wtoNodes.e, wtoNodeOfS_of a.list (by omega) (fun n hn => wtoNodeOf_ok n (by have := wL_mem wN a.list n hn; omega))]
  simp
theorem weqNodeOf_refl (a : NodeOf) (hw : wN a ≤ 1048576) : weqNodeOf [vN a, vN a] [] = rB true := by
  have := wP_len a.path
  rw [weqNodeOf.e, weqStringS_refl a.path (by unfold wN at hw; omega)]
  simp
theorem weqNodes_refl (a : Nodes) (hw : wNs a ≤ 1048576) : weqNodes [vNs a, vNs a] [] = rB true := by
  unfold wNs at hw
  have := wL_len wN a.list
  rw [weqNodes.e, weqNodeOfS_of a.list (by omega) (fun n hn => weqNodeOf_refl n (by have := wL_mem wN a.list n hn; omega))]
  simp
/-! ### trees -/
end Go.PVx
/- Numbers and paths as texts; nodes as a text; the law FnExactNodesWrite on data. (Over the tables of the seat of doors: PvDTab, PvDRes.) -/
namespace Go.PVx
open Go.PV Go.Proofs

/-- A number's digits. -/
abbrev dec (n : Nat) : Str := Lib.decDigits n
theorem dec_len (n : Nat) (h : n ≤ 1000000) : (dec n).length ≤ 7 := by
  unfold dec
  rw [Lib.decDigits_length]
  by_cases h0 : n = 0
  · subst h0; rw [Lib.nDigits_small (by omega)]; omega
  · have : ∀ (k m : Nat), m < 10 ^ (k + 1) → Lib.nDigits m ≤ k + 1 := by
      intro k
      induction k with
      | zero => intro m hm; rw [Lib.nDigits_small (by simpa using hm)]; omega
      | succ k ih =>
        intro m hm
        by_cases h10 : m < 10
        · rw [Lib.nDigits_small h10]; omega
        · rw [Lib.nDigits_big h10]
          have := ih (m / 10) (by rw [Nat.pow_succ] at hm; omega)
          omega
    exact this 6 n (by omega)
theorem strOf_byte (d : Nat) (h : d < 10) : strOf [[D.v (Value.int IntKind.u8 (IntKind.u8.wrap (IntKind.i64.wrap (48 + (d : Int)))))]] = mkS [UInt8.ofNat (48 + d)] := by
  rw [wrap_in _ (by omega), IntKind.wrap_u8]
  have : (48 + (d : Int)) % 256 = ((48 + d : Nat) : Int) := by omega
  rw [this]
  rfl
theorem sl1Dec_ok : ∀ (n : Nat), n ≤ 1000000 → sl1Dec [vI n] [] = rS (dec n) := by
  intro n
  induction n using Nat.strongRecOn with
  | _ n ih =>
    intro h
    rw [sl1Dec.e]
    have h1 : decide ((n : Int) < -9223372036854775807) = false := decide_eq_false (by omega)
    have h2 : decide ((n : Int) < 0) = false := by simp
    rw [h1, h2]
    simp only [cond_false]
    rw [sl1Dec.p3]
    unfold dec
    rw [Lib.decDigits]
    by_cases h10 : n < 10
    · have h3 : decide ((n : Int) < 10) = true := by simp; omega
      rw [h3, dif_pos h10, cond_true, strOf_byte n h10]
    · have h3 : decide ((n : Int) < 10) = false := by simp; omega
      have hq : (n : Int).tdiv 10 = ((n / 10 : Nat) : Int) := by rw [Int.tdiv_eq_ediv_of_nonneg (by omega)]; omega
      have hr : (n : Int).tmod 10 = ((n % 10 : Nat) : Int) := by rw [Int.tmod_eq_emod_of_nonneg (by omega)]; omega
      have hw : IntKind.i64.wrap ((n / 10 : Nat) : Int) = ((n / 10 : Nat) : Int) := wrap_in _ (by omega)
      have hi := ih (n / 10) (by omega) (by omega)
      have hl := dec_len (n / 10) (by omega)
      unfold dec at hi hl
      have e1 : (Lib.decDigits (n / 10)).length ≤ 70368744177663 := by omega
      rw [h3, dif_neg h10, cond_false, hq, hw, hi, hr, strOf_byte (n % 10) (by omega)]
      simp [e1]
theorem strconv_Itoa_ok (n : Nat) (h : n ≤ 1000000) : strconv_Itoa [vI n] [] = rS (dec n) := by
  rw [strconv_Itoa.ext]
  have h1 : decide (-9223372036854775808 ≤ (n : Int)) = true := decide_eq_true (by omega)
  have h2 : decide ((n : Int) ≤ 9223372036854775807) = true := decide_eq_true (by omega)
  simp only [extItoa, h1, h2, Bool.and_self, cond_true, Lib.itoa_nonneg]
  rfl

/-! ### paths -/
/-- A path's text. -/
def pt (p : List Str) : Str := if p = [] then [47] else Lib.joinTail [47] p
theorem joinTail_len (p : List Str) : (Lib.joinTail [47] p).length = wP p := by
  unfold wP
  induction p with
  | nil => rfl
  | cons x p ih =>
    have : Lib.joinTail [47] (x :: p) = [47] ++ x ++ Lib.joinTail [47] p := by simp [Lib.joinTail]
    rw [this]
    simp only [List.length_append, List.length_cons, List.length_nil, ih, wL]
theorem pt_len (p : List Str) : (pt p).length ≤ 1 + wP p := by
  unfold pt
  split
  · simp
  · rw [joinTail_len]; omega
theorem strRows_eSs : ∀ p : List Str, strRows (eSs p) = some (p.map mkS)
  | [] => rfl
  | x :: p => by
    have := strRows_eSs p
    simp only [List.map_cons, strRows, this]
    rfl
theorem strings_Join_ok (p : List Str) (hp : wP p ≤ 1048576) (h0 : p ≠ []) : strings_Join [vP p, vS [47]] [] = rS (Lib.join p [47]) := by
  rw [strings_Join.ext]
  have hm : (p.map mkS).map (fun x => x.data.toList) = p := by simp [List.map_map, Function.comp_def]
  have hlen : (Lib.join p [47]).length ≤ wP p := by
    cases p with
    | nil => exact absurd rfl h0
    | cons x r =>
      have hj := joinTail_len r
      rw [Lib.join_cons, List.length_append, hj]
      unfold wP
      simp only [wL]; omega
  have hpl := wP_len p
  have e1 : decide ((p.map mkS).length ≤ 140737488355328) = true := by simp; omega
  have e2 : decide ((Lib.join p [47]).length ≤ 140737488355328) = true := by simp; omega
  have hx : joinD (p.map mkS) (mkS [47]) = mkS (Lib.join p [47]) := by
    unfold joinD
    rw [hm]
    rfl
  show extJoin [.one (.s (eSs p)), .one (.v (.string (mkS [47])))] [] = _
  simp only [extJoin, strRows_eSs, e1, hm]
  have hs : (mkS [47]).data.toList = [47] := rfl
  rw [hs, e2]
  simp only [Bool.and_self, cond_true, hx]
theorem ipathText_ok (p : List Str) (hp : wP p ≤ 1048576) : ipathText [vP p] [] = rS (pt p) := by
  rw [ipathText.e]
  cases p with
  | nil => rfl
  | cons x r =>
    have h1 := strings_Join_ok (x :: r) hp (by simp)
    have h2 : (Lib.join (x :: r) [47]).length ≤ 1048576 := by
      have hj := joinTail_len r
      unfold wP at hp hj
      rw [Lib.join_cons, List.length_append, hj]
      simp only [wL] at hp; omega
    have e1 : decide (1 + (Lib.join (x :: r) [47]).length ≤ 70368744177664) = true := by simp; omega
    have h3 : ((((eSs (x :: r)).length : Nat) : Int) == 0) = false := by simp; omega
    have h4 : (ByteArray.mk #[47]) = mkS [47] := rfl
    rw [h3, cond_false, h4, h1]
    have h5 : pt (x :: r) = 47 :: Lib.join (x :: r) [47] := by
      unfold pt
      rw [if_neg (by simp), Lib.join_cons]
      simp [Lib.joinTail]
    rw [h5]
    simp [e1]
theorem sl3Name_ok (p : List Str) (hp : wP p ≤ 1048576) : sl3Name [vP p] [] = rS (pt p) := by
  have hpl := wP_len p
  have hlen := joinTail_len p
  have key : ∀ k, k ≤ p.length → sl3Name.L3 (eSs p) (mkS (Lib.joinTail [47] (p.take k))) (k : Int) = some (sl3Name.x3 (mkS (Lib.joinTail [47] p))) := by
    refine up p.length ?_ fun k hk ih => ?_
    · rw [sl3Name.s3]; simp
    · have hs : Lib.joinTail [47] (p.take (k + 1)) = Lib.joinTail [47] (p.take k) ++ [47] ++ p[k] := Lib.joinTail_take_succ [47] p k p[k] (by simp [hk])
      have hle := Lib.joinTail_take_le [47] p (k + 1)
      rw [hs] at hle
      simp only [List.length_append, List.length_cons, List.length_nil] at hle
      have e1 : decide ((Lib.joinTail [47] (p.take k)).length + 1 ≤ 70368744177664) = true := by simp; omega
      have e2 : decide ((Lib.joinTail [47] (p.take k)).length + 1 + p[k].length ≤ 70368744177664) = true := by simp; omega
      have h4 : (ByteArray.mk #[47]) = mkS [47] := rfl
      rw [hs] at ih
      rw [sl3Name.s3]
      simp only [Int.toNat_natCast, str_at hk, wrap_nat k (by omega), h4, mkS_append, size_mkS, List.getD_cons_zero, str_v, List.length_append, List.length_cons, List.length_nil, e1, e2, ih]
      simp [hk]
  have h0 := key 0 (by omega)
  rw [sl3Name.e]
  have h5 : (ByteArray.mk #[]) = mkS (Lib.joinTail [47] (p.take 0)) := rfl
  rw [h5]
  have h0 : sl3Name.L3 (eSs p) (mkS (Lib.joinTail [47] (p.take 0))) 0 = _ := h0
  rw [h0, Option.bind_some, sl3Name.a3x3, toList_mkS]
  cases p with
  | nil => rfl
  | cons x r =>
    have : Lib.joinTail [47] (x :: r) = 47 :: (x ++ Lib.joinTail [47] r) := by simp [Lib.joinTail]
    simp [pt, this]
end Go.PVx
/- Nodes as a text; the law FnExactNodesWrite on data. -/
namespace Go.PVx
open Go.PV Go.Proofs

def line (a : NodeOf) : Str := dec a.id.toNat ++ [32] ++ pt a.path ++ [10]
def head5 (n : Nodes) : Str := [110, 101, 120, 116, 32] ++ dec n.next.toNat ++ [10]
def linesTo (n : Nodes) (k : Nat) : Str := head5 n ++ ((n.list.take k).map line).flatten
/-- The text of nodes. -/
def nodesText (n : Nodes) : Str := bif okB n then head5 n ++ (n.list.map line).flatten else []
theorem linesTo_succ (n : Nodes) (k : Nat) (h : k < n.list.length) : linesTo n (k + 1) = linesTo n k ++ line n.list[k] := by
  unfold linesTo
  rw [take_snoc n.list k h]
  simp only [List.map_append, List.flatten_append, List.map_cons, List.map_nil, List.flatten_cons, List.flatten_nil, List.append_nil, List.append_assoc]
theorem linesTo_all (n : Nodes) : linesTo n n.list.length = head5 n ++ (n.list.map line).flatten := by simp [linesTo]
theorem inB_iff (a b c : Int) : inB a b c = true ↔ b ≤ a ∧ a ≤ c := by simp [inB]
theorem nodesB_ids (nx : Int) (h0 : 1 ≤ nx) (h1 : nx ≤ 10000) : ∀ (l pre : List NodeOf), nodesB nx pre l = true → ∀ a ∈ l, 1 ≤ a.id ∧ a.id ≤ 10000
  | [], _, _, a, ha => by simp at ha
  | x :: l, pre, h, a, ha => by
    simp only [nodesB, Bool.and_eq_true] at h
    obtain ⟨h2, _, _, _, h3⟩ := h
    rw [wrap_in _ (by omega), inB_iff] at h2
    rcases List.mem_cons.1 ha with rfl | ha
    · omega
    · exact nodesB_ids nx h0 h1 l _ h3 a ha
theorem okB_spec {n : Nodes} (h : okB n = true) : 1 ≤ n.next ∧ n.next ≤ 10000 ∧ n.list.length ≤ 30 ∧ ∀ a ∈ n.list, 1 ≤ a.id ∧ a.id ≤ 10000 := by
  unfold okB at h
  simp only [Bool.and_eq_true, decide_eq_true_eq, inB_iff] at h
  exact ⟨h.1.1.1, h.1.1.2, h.1.2, nodesB_ids _ h.1.1.1 h.1.1.2 _ _ h.2⟩
theorem wNs_mem {n : Nodes} (hw : wNs n ≤ 1048576) {a : NodeOf} (h : a ∈ n.list) : wP a.path ≤ 1048576 := by
  have := wL_mem wN n.list a h
  unfold wNs at hw
  unfold wN at this hw
  omega
theorem line_len {n : Nodes} (hw : wNs n ≤ 1048576) (hk : okB n = true) {a : NodeOf} (h : a ∈ n.list) : (line a).length ≤ 1048586 := by
  obtain ⟨_, _, _, h4⟩ := okB_spec hk
  have h5 := h4 a h
  have h1 := dec_len a.id.toNat (by omega)
  have h2 := pt_len a.path
  have h3 := wNs_mem hw h
  unfold line
  simp only [List.length_append, List.length_cons, List.length_nil]
  omega
theorem linesTo_len {n : Nodes} (hw : wNs n ≤ 1048576) (hk : okB n = true) : ∀ k, k ≤ n.list.length → (linesTo n k).length ≤ 13 + k * 1048586
  | 0, _ => by
    obtain ⟨h1, h2, _, _⟩ := okB_spec hk
    have := dec_len n.next.toNat (by omega)
    simp only [linesTo, head5, List.take_zero, List.map_nil, List.flatten_nil, List.append_nil, List.length_append, List.length_cons, List.length_nil]
    omega
  | k + 1, h => by
    have := linesTo_len hw hk k (by omega)
    have h2 := line_len hw hk (List.getElem_mem (show k < n.list.length by omega))
    rw [linesTo_succ n k (by omega), List.length_append, Nat.succ_mul]
    omega
theorem head_mk (n : Nodes) : (ByteArray.mk #[110, 101, 120, 116, 32]) ++ mkS (dec n.next.toNat) ++ (ByteArray.mk #[10]) = mkS (linesTo n 0) := by
  have h1 : (ByteArray.mk #[110, 101, 120, 116, 32]) = mkS [110, 101, 120, 116, 32] := rfl
  have h2 : (ByteArray.mk #[10]) = mkS [10] := rfl
  rw [h1, h2]
  simp [linesTo, head5]
theorem num_at {a : NodeOf} (h : 1 ≤ a.id) : (a.id : Int) = ((a.id.toNat : Nat) : Int) := by omega

theorem sNodesWrite_ok (n : Nodes) (ho : sL oN n.list) (hw : wNs n ≤ 1048576) : sNodesWrite [vNs n] [] = rS (nodesText n) := by
  rw [sNodesWrite.e, sl33Ok_ok n ho]
  unfold nodesText
  cases hk : okB n with
  | false => simp
  | true =>
    obtain ⟨h1, h2, h3, h4⟩ := okB_spec hk
    have hd := sl1Dec_ok n.next.toNat (by omega)
    have hdl := dec_len n.next.toNat (by omega)
    rw [show ((n.next.toNat : Nat) : Int) = n.next from by omega] at hd
    have key : ∀ k, k ≤ n.list.length → (sNodesWrite.L5 (mkS (linesTo n k)) (k : Int) n.next (n.list.map eN)).bind sNodesWrite.A5 = rS (linesTo n n.list.length) := by
      refine up n.list.length ?_ fun k hk1 ih => ?_
      · rw [sNodesWrite.s5]; simp [sNodesWrite.a5x5]
      · have hm := List.getElem_mem hk1
        have hid := h4 _ hm
        have hl := linesTo_len hw hk k (by omega)
        have hll := line_len hw hk hm
        have hD := sl1Dec_ok n.list[k].id.toNat (by omega)
        rw [← num_at hid.1] at hD
        have hN := sl3Name_ok n.list[k].path (wNs_mem hw hm)
        have hs : linesTo n (k + 1) = linesTo n k ++ dec n.list[k].id.toNat ++ [32] ++ pt n.list[k].path ++ [10] := by
          rw [linesTo_succ n k hk1]; simp [line]
        unfold line at hll
        simp only [List.length_append, List.length_cons, List.length_nil] at hll
        have e1 : decide ((linesTo n k).length + (dec n.list[k].id.toNat).length ≤ 70368744177664) = true := decide_eq_true (by omega)
        have e2 : decide ((linesTo n k).length + (dec n.list[k].id.toNat).length + 1 ≤ 70368744177664) = true := decide_eq_true (by omega)
        have e3 : decide ((linesTo n k).length + (dec n.list[k].id.toNat).length + 1 + (pt n.list[k].path).length ≤ 70368744177664) = true := decide_eq_true (by omega)
        have e4 : decide ((linesTo n k).length + (dec n.list[k].id.toNat).length + 1 + (pt n.list[k].path).length + 1 ≤ 70368744177664) = true := decide_eq_true (by omega)
        have b1 : (ByteArray.mk #[32]) = mkS [32] := rfl
        have b2 : (ByteArray.mk #[10]) = mkS [10] := rfl
        have hb1 : decide ((k : Int) < ((n.list.map eN).length : Int)) = true := by simp; omega
        have hb2 : decide (0 ≤ (k : Int)) = true := by simp
        rw [hs] at ih
        rw [← ih, sNodesWrite.s5]
        simp only [Int.toNat_natCast, node_at hk1, wrap_nat k (by omega), hb1, hb2, List.getD_cons_zero, List.getD_cons_succ, int_v, es_s, hD, hN, Option.bind_some, tstr_v, b1, b2, mkS_append, size_mkS, List.length_append, List.length_cons, List.length_nil, e1, e2, e3, e4]
        rfl
    have h0 : (sNodesWrite.L5 (mkS (linesTo n 0)) 0 n.next (n.list.map eN)).bind sNodesWrite.A5 = _ := key 0 (by omega)
    have e1 : decide (5 + (dec n.next.toNat).length ≤ 70368744177664) = true := decide_eq_true (by omega)
    have e2 : decide (((ByteArray.mk #[110, 101, 120, 116, 32]) ++ mkS (dec n.next.toNat)).size + 1 ≤ 70368744177664) = true := by
      have h1 : (ByteArray.mk #[110, 101, 120, 116, 32]) = mkS [110, 101, 120, 116, 32] := rfl
      rw [h1, mkS_append, size_mkS]
      exact decide_eq_true (by simp only [List.length_append, List.length_cons, List.length_nil]; omega)
    have hf : fitsCells [R1.str] [TC.v (Value.string (mkS (dec n.next.toNat)))] = true := rfl
    simp only [Option.bind_some, hd, List.getD_cons_zero, tbool_v, tstr_v, size_mkS, e1, e2, head_mk, h0, linesTo_all, Bool.not_true, cond_false, cond_true, hf, Bool.and_self]
    rfl
theorem iNodesWrite_ok (n : Nodes) (ho : sL oN n.list) (hw : wNs n ≤ 1048576) : iNodesWrite [vNs n] [] = rS (nodesText n) := by
  rw [iNodesWrite.e, inodesWell_ok n ho]
  unfold nodesText
  cases hk : okB n with
  | false => simp
  | true =>
    obtain ⟨h1, h2, h3, h4⟩ := okB_spec hk
    have hd := strconv_Itoa_ok n.next.toNat (by omega)
    have hdl := dec_len n.next.toNat (by omega)
    rw [show ((n.next.toNat : Nat) : Int) = n.next from by omega] at hd
    have key : ∀ k, k ≤ n.list.length → (iNodesWrite.L5 (mkS (linesTo n k)) (n.list.map eN) (n.list.length : Int) (k : Int)).bind iNodesWrite.A5 = rS (linesTo n n.list.length) := by
      refine up n.list.length ?_ fun k hk1 ih => ?_
      · rw [iNodesWrite.s5]; simp [iNodesWrite.a5x5]
      · have hm := List.getElem_mem hk1
        have hid := h4 _ hm
        have hl := linesTo_len hw hk k (by omega)
        have hll := line_len hw hk hm
        have hD := strconv_Itoa_ok n.list[k].id.toNat (by omega)
        rw [← num_at hid.1] at hD
        have hN := ipathText_ok n.list[k].path (wNs_mem hw hm)
        have hs : linesTo n (k + 1) = linesTo n k ++ (dec n.list[k].id.toNat ++ [32] ++ pt n.list[k].path ++ [10]) := by
          rw [linesTo_succ n k hk1]; simp [line]
        unfold line at hll
        simp only [List.length_append, List.length_cons, List.length_nil] at hll
        have e1 : decide ((dec n.list[k].id.toNat).length + 1 ≤ 70368744177664) = true := decide_eq_true (by omega)
        have e2 : decide ((dec n.list[k].id.toNat).length + 1 + (pt n.list[k].path).length ≤ 70368744177664) = true := decide_eq_true (by omega)
        have e3 : decide ((dec n.list[k].id.toNat).length + 1 + (pt n.list[k].path).length + 1 ≤ 70368744177664) = true := decide_eq_true (by omega)
        have e4 : decide ((linesTo n k).length + ((dec n.list[k].id.toNat).length + 1 + (pt n.list[k].path).length + 1) ≤ 70368744177664) = true := decide_eq_true (by omega)
        have b1 : (ByteArray.mk #[32]) = mkS [32] := rfl
        have b2 : (ByteArray.mk #[10]) = mkS [10] := rfl
        have hb0 : decide ((k : Int) < (n.list.length : Int)) = true := by simp; omega
        have hb1 : decide ((k : Int) < ((n.list.map eN).length : Int)) = true := by simp; omega
        have hb2 : decide (0 ≤ (k : Int)) = true := by simp
        rw [hs] at ih
        rw [← ih, iNodesWrite.s5]
        simp only [Int.toNat_natCast, node_at hk1, wrap_nat k (by omega), hb0, hb1, hb2, List.getD_cons_zero, List.getD_cons_succ, int_v, es_s, hD, hN, Option.bind_some, tstr_v, b1, b2, mkS_append, size_mkS, List.length_append, List.length_cons, List.length_nil, e1, e2, e3, e4]
        rfl
    have h0 : (iNodesWrite.L5 (mkS (linesTo n 0)) (n.list.map eN) (n.list.length : Int) 0).bind iNodesWrite.A5 = _ := key 0 (by omega)
    have e1 : decide (5 + (dec n.next.toNat).length ≤ 70368744177664) = true := decide_eq_true (by omega)
    have e2 : decide (((ByteArray.mk #[110, 101, 120, 116, 32]) ++ mkS (dec n.next.toNat)).size + 1 ≤ 70368744177664) = true := by
      have h1 : (ByteArray.mk #[110, 101, 120, 116, 32]) = mkS [110, 101, 120, 116, 32] := rfl
      rw [h1, mkS_append, size_mkS]
      exact decide_eq_true (by simp only [List.length_append, List.length_cons, List.length_nil]; omega)
    have hf : fitsCells [R1.str] [TC.v (Value.string (mkS (dec n.next.toNat)))] = true := rfl
    simp only [Option.bind_some, hd, List.getD_cons_zero, tbool_v, tstr_v, size_mkS, e1, e2, head_mk, List.length_map, h0, linesTo_all, Bool.not_true, cond_false, cond_true, hf, Bool.and_self]
    rfl
theorem wFnExactNodesWrite_ok (n : Nodes) (ho : sL oN n.list) : wFnExactNodesWrite [vNs n] [] = rB true := by
  have hL : (Lim : Int) = 1048576 := rfl
  have h1 := wszNodes_ok n ho 1048576 (by omega) (by omega)
  rw [wFnExactNodesWrite.e, h1]
  by_cases hx : (wNs n : Int) ≤ 1048576
  · rw [szR_pos hx]
    have h1' : ¬ (1048576 : Int) - (wNs n : Int) < 0 := by omega
    have hw : wNs n ≤ 1048576 := by omega
    have h2 := wtoNodes_ok n hw
    have h3 := sNodesWrite_ok n ho hw
    have h4 := iNodesWrite_ok n ho hw
    have h5 := weqNodes_refl n hw
    simp [h1', wFnExactNodesWrite.p4, h2, h3, wFnExactNodesWrite.p6, h4, h5, wFnExactNodesWrite.p9]
  · rw [szR_neg hx]; simp
end Go.PVx
