/- A part of the proof: PvU1, PvU2, PvU3, PvU4, PvL0, PvL1, PvV1, PvV3, PvV4, PvV5. -/
import Derived.Test.YtjhnnagcebcedaaDoorRes
import Derived.Test.YtjhnnagcebcedaaDoorTy
import Derived.Test.YtjhnnagcebcedaaDoorExt
set_option linter.unusedSimpArgs false
set_option linter.unusedVariables false
/- Names, paths, their order. -/
namespace Go.PVx
open Go.PV Go.Proofs

def inB (a b c : Int) : Bool := decide (b ≤ a) && decide (a ≤ c)
theorem sl1In_ok (a b c : Int) : sl1In [vI a, vI b, vI c] [] = rB (inB a b c) := by
  rw [sl1In.e]; unfold inB; by_cases h : b ≤ a <;> simp [h]
theorem iwithin_ok (a b c : Int) : iwithin [vI a, vI b, vI c] [] = rB (inB a b c) := by
  rw [iwithin.e]; unfold inB; by_cases h : b ≤ a <;> simp [h]
theorem imodeOk_ok (a : Int) : imodeOk [vI a] [] = rB (inB a 0 7) := by
  rw [imodeOk.e, iwithin_ok]; simp

/-! ### names -/
def okc (b : UInt8) : Bool := (decide (97 ≤ (b.toNat : Int)) && decide ((b.toNat : Int) ≤ 122)) || (decide (48 ≤ (b.toNat : Int)) && decide ((b.toNat : Int) ≤ 57))
def nameB (s : Str) : Bool := s.all okc && inB s.length 1 5
theorem sl1NameOk.l2 (s : Str) (hs : sS s) : ∀ k, k ≤ s.length → sl1NameOk.L2 (mkS s) (k : Int) = some (bif (s.drop k).all okc then sl1NameOk.x2 (mkS s) else sl1NameOk.q2 (mkS s) false) := by
  unfold sS at hs
  refine up s.length ?_ fun k hk ih => ?_
  · rw [sl1NameOk.s2]; simp
  · rw [sl1NameOk.s2, drop_cons s k hk, List.all_cons]
    simp only [Int.toNat_natCast, byteAt_lt s k hk, wrap_nat k (by omega), ih, okc]
    by_cases h1 : 97 ≤ (s[k].toNat : Int) <;> by_cases h2 : (s[k].toNat : Int) ≤ 122 <;> by_cases h3 : 48 ≤ (s[k].toNat : Int) <;> by_cases h4 : (s[k].toNat : Int) ≤ 57 <;> simp [h1, h2, h3, h4, hk]
theorem sl1NameOk_ok (s : Str) (hs : sS s) : sl1NameOk [vS s] [] = rB (nameB s) := by
  have h := sl1NameOk.l2 s hs 0 (by omega)
  rw [sl1NameOk.e, show (0 : Int) = ((0 : Nat) : Int) from rfl, h]
  unfold nameB
  cases h : s.all okc <;> simp [h, sl1NameOk.a2q2, sl1NameOk.a2x2, sl1In_ok]
theorem inameOk.l2 (s : Str) (hs : sS s) : ∀ k, k ≤ s.length → inameOk.L2 (mkS s) s.length (k : Int) = some (bif (s.drop k).all okc then inameOk.x2 (mkS s) else inameOk.q2 (mkS s) false) := by
  unfold sS at hs
  refine up s.length ?_ fun k hk ih => ?_
  · rw [inameOk.s2]; simp
  · rw [inameOk.s2, drop_cons s k hk, List.all_cons]
    simp only [Int.toNat_natCast, byteAt_lt s k hk, wrap_nat k (by omega), ih, okc]
    have e1 : decide ((s[k].toNat : Int) < 97) = !decide (97 ≤ (s[k].toNat : Int)) := by by_cases h : 97 ≤ (s[k].toNat : Int) <;> simp [h] <;> omega
    have e2 : decide ((s[k].toNat : Int) > 122) = !decide ((s[k].toNat : Int) ≤ 122) := by by_cases h : (s[k].toNat : Int) ≤ 122 <;> simp [h] <;> omega
    have e3 : decide ((s[k].toNat : Int) < 48) = !decide (48 ≤ (s[k].toNat : Int)) := by by_cases h : 48 ≤ (s[k].toNat : Int) <;> simp [h] <;> omega
    have e4 : decide ((s[k].toNat : Int) > 57) = !decide ((s[k].toNat : Int) ≤ 57) := by by_cases h : (s[k].toNat : Int) ≤ 57 <;> simp [h] <;> omega
    simp only [e1, e2, e3, e4]
    cases decide (97 ≤ (s[k].toNat : Int)) <;> cases decide ((s[k].toNat : Int) ≤ 122) <;> cases decide (48 ≤ (s[k].toNat : Int)) <;> cases decide ((s[k].toNat : Int) ≤ 57) <;> simp [hk]
theorem inameOk_ok (s : Str) (hs : sS s) : inameOk [vS s] [] = rB (nameB s) := by
  have h := inameOk.l2 s hs 0 (by omega)
  rw [inameOk.e, size_mkS, show (0 : Int) = ((0 : Nat) : Int) from rfl, h]
  unfold nameB
  cases h : s.all okc <;> simp [h, inameOk.a2q2, inameOk.a2x2, iwithin_ok]

/-! ### paths -/
def pathB (least : Int) (p : List Str) : Bool := p.all nameB && inB p.length least 4
theorem sl2PathOk.l2 (p : List Str) (hp : oP p) : ∀ k, k ≤ p.length → sl2PathOk.L2 (eSs p) (k : Int) = some (bif (p.drop k).all nameB then sl2PathOk.x2 (eSs p) else sl2PathOk.q2 (eSs p) false) := by
  have hl := hp.1
  refine up p.length ?_ fun k hk ih => ?_
  · rw [sl2PathOk.s2]; simp
  · rw [sl2PathOk.s2, drop_cons p k hk, List.all_cons]
    simp only [Int.toNat_natCast, getD_map eS p k hk, wrap_nat k (by omega), ih]
    have h := sl1NameOk_ok p[k] (sL_at hp hk)
    cases hn : nameB p[k] <;> rw [hn] at h <;> simp [hk, eS, h]
theorem sl2PathOk_ok (p : List Str) (hp : oP p) : sl2PathOk [vP p] [] = rB (pathB 1 p) := by
  have h := sl2PathOk.l2 p hp 0 (by omega)
  rw [sl2PathOk.e, show (0 : Int) = ((0 : Nat) : Int) from rfl, h]
  unfold pathB
  cases h : p.all nameB <;> simp [h, sl2PathOk.a2q2, sl2PathOk.a2x2, sl1In_ok]
theorem inamesOk.l2 (p : List Str) (hp : oP p) (least : Int) : ∀ k, k ≤ p.length → inamesOk.L2 (eSs p) least (eSs p) p.length (k : Int) =
    some (bif (p.drop k).all nameB then inamesOk.x2 (eSs p) least else inamesOk.q2 (eSs p) least false) := by
  have hl := hp.1
  refine up p.length ?_ fun k hk ih => ?_
  · rw [inamesOk.s2]; simp
  · rw [inamesOk.s2, drop_cons p k hk, List.all_cons]
    simp only [Int.toNat_natCast, getD_map eS p k hk, wrap_nat k (by omega), ih]
    have h := inameOk_ok p[k] (sL_at hp hk)
    cases hn : nameB p[k] <;> rw [hn] at h <;> simp [hk, eS, h]
theorem inamesOk_ok (p : List Str) (hp : oP p) (least : Int) : inamesOk [vP p, vI least] [] = rB (pathB least p) := by
  have h := inamesOk.l2 p hp least 0 (by omega)
  rw [inamesOk.e]
  simp only [List.length_map]
  rw [show (0 : Int) = ((0 : Nat) : Int) from rfl, h]
  unfold pathB
  cases h : p.all nameB <;> simp [h, inamesOk.a2q2, inamesOk.a2x2, iwithin_ok]

/-! ### the same path -/
def isPre (b a : List Str) : Bool := b.isPrefixOf a
theorem isPre_take (a b : List Str) (h : b.length ≤ a.length) : decide (b = a.take b.length) = isPre b a := by
  unfold isPre
  rw [Bool.eq_iff_iff, decide_eq_true_iff, List.isPrefixOf_iff_prefix, List.prefix_iff_eq_take]
theorem isPre_len (a b : List Str) (h : a.length = b.length) : isPre b a = decide (a = b) := by
  rw [← isPre_take a b (by omega), Bool.eq_iff_iff, decide_eq_true_iff, decide_eq_true_iff, ← h, List.take_length]
  exact ⟨Eq.symm, Eq.symm⟩
/-! ### the order of paths -/
def lessP : List Str → List Str → Bool
  | _, [] => false
  | [], _ :: _ => true
  | x :: a, y :: b => bif x == y then lessP a b else Op.bytesLess x y
def cmpS (a b : Str) : Int := bif Op.bytesLess a b then -1 else bif a == b then 0 else 1
theorem less_irr : ∀ a : Str, Op.bytesLess a a = false := by
  intro a
  induction a with
  | nil => rfl
  | cons x a ih => simp [Op.bytesLess, ih]
/-- What slices.Compare answers. -/
def cmpP : List Str → List Str → Int
  | [], [] => 0
  | [], _ :: _ => -1
  | _ :: _, [] => 1
  | x :: a, y :: b => bif cmpS x y != 0 then cmpS x y else cmpP a b
theorem cmpP_less : ∀ a b : List Str, decide (cmpP a b ≥ 0) = !lessP a b
  | [], [] => rfl
  | [], _ :: _ => rfl
  | _ :: _, [] => rfl
  | x :: a, y :: b => by
    unfold cmpP lessP
    by_cases h : x = y
    · subst h
      have : cmpS x x = 0 := by simp [cmpS, less_irr]
      simp only [this, bne_self_eq_false, cond_false, beq_self_eq_true, cond_true]
      exact cmpP_less a b
    · have h2 : (x == y) = false := by simpa using h
      unfold cmpS
      rw [h2]
      cases Op.bytesLess x y <;> simp
end Go.PVx
/- Trees that are ok. -/
namespace Go.PVx
open Go.PV Go.Proofs

theorem tree_at {ks : List Tree} {k : Nat} (h : k < ks.length) :
    (ks.map eT).getD k [] = [.v (.bool ks[k].dir), .v (.int .i64 ks[k].mode), .v (.string (mkS ks[k].data)), .s (eSs ks[k].names), .s (ks[k].kids.map eT)] := by
  rw [getD_map eT ks k h, eT_eq]
theorem oT_data {t : Tree} (h : oT t) : sS t.data := ((oT_eq t).1 h).1
theorem oT_names {t : Tree} (h : oT t) : oP t.names := ((oT_eq t).1 h).2.1
theorem oT_kids {t : Tree} (h : oT t) : sL oT t.kids := ((oT_eq t).1 h).2.2

/-- Names that are ok, ascending, behind one. -/
def namesB : Option Str → List Str → Bool
  | _, [] => true
  | p, x :: l => nameB x && (match p with | none => true | some y => Op.bytesLess y x) && namesB (some x) l
def prevOf (l : List Str) : Nat → Option Str
  | 0 => none
  | k + 1 => l[k]?
def plainB (t : Tree) : Bool := inB t.mode 0 7 && decide (t.names.length = t.kids.length) && (bif t.dir then namesB none t.names && decide (t.data = []) else decide (t.data.length ≤ 24) && decide (t.names.length = 0))
mutual
def partsB : Int → Tree → Bool
  | d, ⟨a, b, c, e, ks⟩ => plainB ⟨a, b, c, e, ks⟩ && decide (d ≤ 4) && partsBs (d + 1) ks
def partsBs : Int → List Tree → Bool
  | _, [] => true
  | d, t :: ts => partsB d t && partsBs d ts
end
theorem partsBs_all (d : Int) : ∀ l : List Tree, partsBs d l = l.all (partsB d)
  | [] => rfl
  | t :: ts => by rw [partsBs, partsBs_all d ts]; rfl
theorem partsB_eq (d : Int) (t : Tree) : partsB d t = (plainB t && decide (d ≤ 4) && t.kids.all (partsB (d + 1))) := by
  obtain ⟨a, b, c, e, ks⟩ := t
  rw [partsB, partsBs_all]
mutual
/-- How many parts are below. -/
def cnt : Tree → Nat
  | ⟨_, _, _, _, ks⟩ => cnts ks
def cnts : List Tree → Nat
  | [] => 0
  | t :: ts => 1 + cnt t + cnts ts
end
theorem cnts_wL : ∀ l : List Tree, cnts l = wL cnt l
  | [] => rfl
  | t :: ts => by rw [cnts, cnts_wL ts]; rfl
theorem cnt_eq (t : Tree) : cnt t = wL cnt t.kids := by
  obtain ⟨a, b, c, e, ks⟩ := t
  rw [cnt, cnts_wL]
theorem wL_le {α : Type} (v w : α → Nat) : ∀ l : List α, (∀ x ∈ l, v x ≤ w x) → wL v l ≤ wL w l
  | [], _ => Nat.le_refl _
  | x :: l, h => by
    have h1 := h x (by simp)
    have h2 := wL_le v w l fun y hy => h y (List.mem_cons_of_mem _ hy)
    simp only [wL]; omega
theorem cnt_le (t : Tree) : cnt t ≤ wT t := by
  induction t using Tree.ind with
  | h d m s ns ks ih =>
    rw [cnt_eq, wT_eq]
    have := wL_le cnt wT ks ih
    simp only at this ⊢
    omega
def treeB (t : Tree) : Bool := t.dir && partsB 0 t && decide (cnt t ≤ 30)

theorem empty_eq (s : Str) : s.isEmpty = decide (s = []) := by cases s <;> rfl
/-! ### the reference's -/
theorem prev_some {l : List Str} {k : Nat} (h : k < l.length) : prevOf l (k + 1) = some l[k] := by simp [prevOf, h]
/-- The sum of what is below each. -/
def sumC : List Tree → Int
  | [] => 0
  | t :: l => (cnt t : Int) + sumC l
theorem sumC_wL : ∀ l : List Tree, sumC l = (wL cnt l : Int) - l.length
  | [] => rfl
  | t :: l => by simp only [sumC, wL, List.length_cons, sumC_wL l]; omega
/-! ### the program's -/
end Go.PVx
/- Nodes that are ok by themselves. -/
namespace Go.PVx
open Go.PV Go.Proofs

theorem node_at {l : List NodeOf} {k : Nat} (h : k < l.length) : (l.map eN).getD k [] = [.v (.int .i64 l[k].id), .s (eSs l[k].path)] := by
  rw [getD_map eN l k h]; rfl
def oN (n : NodeOf) : Prop := oP n.path
/-- Nodes behind others: ids, paths, their order. -/
def nodesB (nx : Int) : List NodeOf → List NodeOf → Bool
  | _, [] => true
  | pre, x :: l => inB x.id 1 (IntKind.i64.wrap (nx - 1)) && (pathB 1 x.path && ((match pre.getLast? with | none => true | some y => lessP y.path x.path) && (pre.all (fun y => !(y.id == x.id)) && nodesB nx (pre ++ [x]) l)))
def okB (n : Nodes) : Bool := inB n.next 1 10000 && decide (n.list.length ≤ 30) && nodesB n.next [] n.list
theorem last_take {α : Type} {l : List α} {j : Nat} (h : j < l.length) : (l.take (j + 1)).getLast? = some l[j] := by
  rw [take_snoc l j h, List.getLast?_concat]

/-! ### the reference's -/
/-! ### the program's -/
end Go.PVx
/- The paths of a tree. -/
namespace Go.PVx
open Go.PV Go.Proofs

theorem rowsLen_map {α : Type} (f : α → List D) (n : Nat) (h : ∀ x, (f x).length = n) (l : List α) : rowsLen n (l.map f) = true := by
  simp [rowsLen, h]
@[simp] theorem rowsLen_eS (l : List Str) : rowsLen 1 (eSs l) = true := rowsLen_map eS 1 (fun _ => rfl) l
@[simp] theorem rowsLen_ePa (l : List (List Str)) : rowsLen 1 (l.map ePa) = true := rowsLen_map ePa 1 (fun _ => rfl) l
@[simp] theorem rowsLen_eN (l : List NodeOf) : rowsLen 2 (l.map eN) = true := rowsLen_map eN 2 (fun _ => rfl) l
@[simp] theorem rowsCell_eS (b : Bool) (l : List Str) : rowsCell b (eSs l) = true := by simp [rowsCell, eS, cellD, isCell]
@[simp] theorem rowsCell_ePa (l : List (List Str)) : rowsCell true (l.map ePa) = true := by simp [rowsCell, ePa, cellD]
theorem snoc_eS (l : List Str) (s : Str) : eSs l ++ [[D.v (.string (mkS s))]] = eSs (l ++ [s]) := by simp [eS]
theorem snoc_ePa (l : List (List Str)) (p : List Str) : l.map ePa ++ [[D.s (eSs p)]] = (l ++ [p]).map ePa := by simp [ePa]
theorem path_at {l : List (List Str)} {k : Nat} (h : k < l.length) : (l.map ePa).getD k [] = [.s (eSs l[k])] := by
  rw [getD_map ePa l k h]; rfl

mutual
/-- The paths below a part at a path. -/
def pathsT (p : List Str) : Tree → List (List Str)
  | ⟨_, _, _, ns, ks⟩ => pathsZ p ns ks
def pathsZ (p : List Str) : List Str → List Tree → List (List Str)
  | n :: ns, k :: ks => (p ++ [n]) :: (pathsT (p ++ [n]) k ++ pathsZ p ns ks)
  | [], _ => []
  | _ :: _, [] => []
end
theorem pathsT_eq (p : List Str) (t : Tree) : pathsT p t = pathsZ p t.names t.kids := by
  obtain ⟨a, b, c, ns, ks⟩ := t
  rw [pathsT]
theorem partsB_names {d : Int} {t : Tree} (h : partsB d t = true) : t.names.length = t.kids.length := by
  rw [partsB_eq] at h
  simp only [plainB, Bool.and_eq_true, decide_eq_true_eq] at h
  exact h.1.1.1.2
theorem partsB_kid {d : Int} {t : Tree} (h : partsB d t = true) {k : Tree} (hk : k ∈ t.kids) : partsB (d + 1) k = true := by
  rw [partsB_eq] at h
  simp only [Bool.and_eq_true, List.all_eq_true] at h
  exact h.2 k hk
theorem pathsZ_drop (p : List Str) {ns : List Str} {ks : List Tree} {k : Nat} (h1 : k < ns.length) (h2 : k < ks.length) :
    pathsZ p (ns.drop k) (ks.drop k) = (p ++ [ns[k]]) :: (pathsT (p ++ [ns[k]]) ks[k] ++ pathsZ p (ns.drop (k + 1)) (ks.drop (k + 1))) := by
  rw [drop_cons ns k h1, drop_cons ks k h2, pathsZ]
theorem pathsZ_nil (p : List Str) (ns : List Str) (ks : List Tree) (h : ns.length ≤ 0) : pathsZ p ns ks = [] := by
  cases ns with
  | nil => rw [pathsZ]
  | cons => simp at h
theorem pathsT_len (t : Tree) : ∀ (p : List Str) (d : Int), partsB d t = true → (pathsT p t).length = cnt t := by
  induction t using Tree.ind with
  | h a b c ns ks ih =>
    intro p d hp
    have hn := partsB_names hp
    have hk := fun k (h : k ∈ ks) => partsB_kid hp (k := k) h
    simp only at hn
    rw [pathsT_eq, cnt_eq]
    simp only
    clear hp
    induction ks generalizing ns with
    | nil =>
      have : ns = [] := List.eq_nil_of_length_eq_zero hn
      subst this
      simp [pathsZ, wL]
    | cons k ks ihk =>
      cases ns with
      | nil => simp at hn
      | cons n ns =>
        rw [pathsZ, List.length_cons, List.length_append, ih k (by simp) _ (d + 1) (hk k (by simp)), ihk ns (fun k h => ih k (List.mem_cons_of_mem _ h)) (by simpa using hn) (fun k h => hk k (List.mem_cons_of_mem _ h)), wL]
        omega

/-! ### the reference's -/
/-! ### the program's -/
abbrev oB (l : List (List Str)) : PV.Obj := { kind := Kind.box, row := [D.s (l.map ePa)], fl := [Own.deep] }
theorem fitsCos_box (a b : List (List Str)) (n : Nat) : fitsCos [{ ob := oB a, src := Src.box n }] [oB b] = true := by simp
/-! ### nodes and a tree -/
def nodesOkB (n : Nodes) (t : Tree) : Bool := treeB t && okB n && decide (pathsT [] t = n.list.map NodeOf.path)
theorem treeB_parts {t : Tree} (h : treeB t = true) : partsB 0 t = true := by
  simp only [treeB, Bool.and_eq_true] at h; exact h.1.2
theorem pathsT_small (t : Tree) : ∀ (p : List Str) (d : Int), partsB d t = true → wT t ≤ 1048576 → p.length + wT t ≤ 2097152 → ∀ q ∈ pathsT p t, q.length ≤ 2097152 := by
  induction t using Tree.ind with
  | h a b c ns ks ih =>
    intro p d hp hw hpw q hq
    have hn := partsB_names hp
    have hk := fun k (h : k ∈ ks) => partsB_kid hp (k := k) h
    simp only at hn
    rw [pathsT_eq] at hq
    rw [wT_eq] at hw hpw
    simp only at hq hw hpw
    have key : ∀ k, k ≤ ns.length → q ∈ pathsZ p (ns.drop k) (ks.drop k) → q.length ≤ 2097152 := by
      refine up ns.length ?_ fun k hk1 ihk h => ?_
      · intro h; rw [pathsZ_nil p _ _ (by simp)] at h; simp at h
      · have hk2 : k < ks.length := by omega
        have hwk := wL_at wT hk2
        rw [pathsZ_drop p hk1 hk2] at h
        rcases List.mem_cons.1 h with rfl | h
        · simp only [List.length_append, List.length_cons, List.length_nil]; omega
        · rcases List.mem_append.1 h with h | h
          · exact ih ks[k] (List.getElem_mem hk2) _ (d + 1) (hk _ (List.getElem_mem hk2)) (by omega) (by simp only [List.length_append, List.length_cons, List.length_nil]; omega) q h
          · exact ihk h
    exact key 0 (by omega) (by simpa using hq)
end Go.PVx
/- What the laws do with their arguments: how large they are, copies, that they are the same: words for all types; lists of texts. -/
namespace Go.PVx
open Go.PV Go.Proofs

/-- What is left of a room. -/
def szR (w : Nat) (x : Int) : Int := bif decide ((w : Int) ≤ x) then x - w else -1
theorem szR_pos {w : Nat} {x : Int} (h : (w : Int) ≤ x) : szR w x = x - w := by simp [szR, h]
theorem szR_neg {w : Nat} {x : Int} (h : ¬ (w : Int) ≤ x) : szR w x = -1 := by simp [szR, h]
def sumW {α : Type} (w : α → Nat) : List α → Nat
  | [] => 0
  | x :: l => w x + sumW w l
theorem wL_sum {α : Type} (w : α → Nat) : ∀ l : List α, wL w l = l.length + sumW w l
  | [] => rfl
  | x :: l => by simp only [wL, sumW, List.length_cons, wL_sum w l]; omega
theorem szR_add {a b : Nat} {x : Int} (h : (a : Int) ≤ x) : szR (a + b) x = szR b (x - a) := by
  unfold szR
  by_cases h2 : (b : Int) ≤ x - a
  · have h3 : ((a + b : Nat) : Int) ≤ x := by omega
    simp only [h2, h3, decide_true, cond_true]; omega
  · have h3 : ¬ ((a + b : Nat) : Int) ≤ x := by omega
    simp only [h2, h3, decide_false, cond_false]
theorem szR_more {a b : Nat} {x : Int} (h : ¬ (a : Int) ≤ x) : szR (a + b) x = -1 := szR_neg (by omega)
theorem szR_ge {w : Nat} {x : Int} (h : 0 ≤ szR w x) : (w : Int) ≤ x := by
  by_cases h2 : (w : Int) ≤ x
  · exact h2
  · rw [szR_neg h2] at h; omega
theorem szR_le {w : Nat} {x : Int} (hx : 0 ≤ x) : szR w x ≤ x := by
  by_cases h2 : (w : Int) ≤ x
  · rw [szR_pos h2]; omega
  · rw [szR_neg h2]; omega

theorem str_at {l : List Str} {k : Nat} (h : k < l.length) : (eSs l).getD k [] = [.v (.string (mkS l[k]))] := by
  rw [getD_map eS l k h]; rfl
theorem wszStringS.l5 (l : List Str) (ho : oP l) : ∀ k, k ≤ l.length → ∀ x : Int, 0 ≤ x → x ≤ Lim → (wszStringS.L5 (eSs l) x (k : Int)).bind wszStringS.A5 = rI (szR (sumW List.length (l.drop k)) x) := by
  have hl := ho.1
  have hL : (Lim : Int) = 1048576 := rfl
  refine up l.length ?_ fun k hk ih x h0 h1 => ?_
  · intro x h0 h1; rw [wszStringS.s5]; simp [sumW, szR, wszStringS.a5x5, h0]
  · rw [wszStringS.s5, drop_cons l k hk]
    have hsz := sL_at ho hk
    unfold sS at hsz
    have hw : IntKind.i64.wrap (x - (l[k].length : Int)) = x - (l[k].length : Int) := wrap_in _ (by omega)
    simp only [Int.toNat_natCast, str_at hk, wrap_nat k (by omega), sumW, List.getD_cons_zero, str_v, size_mkS, hw]
    by_cases hx : (l[k].length : Int) ≤ x
    · have hn : ¬ x - (l[k].length : Int) < 0 := by omega
      have := ih (x - (l[k].length : Int)) (by omega) (by omega)
      push_cast at this
      rw [szR_add hx, ← this]
      simp [-List.getElem_cons_drop, hk, hn]
    · have hn : x - (l[k].length : Int) < 0 := by omega
      rw [szR_more hx]
      simp [-List.getElem_cons_drop, hk, hn, wszStringS.a5q5]
theorem wszStringS_ok (l : List Str) (ho : oP l) (x : Int) (h0 : 0 ≤ x) (h1 : x ≤ Lim) : wszStringS [vP l, vI x] [] = rI (szR (wP l) x) := by
  have hl := ho.1
  have hL : (Lim : Int) = 1048576 := rfl
  have hw : IntKind.i64.wrap (x - (l.length : Int)) = x - (l.length : Int) := wrap_in _ (by omega)
  rw [wszStringS.e]
  unfold wP
  simp only [List.length_map, hw, wL_sum]
  by_cases hx : (l.length : Int) ≤ x
  · have hn : ¬ x - (l.length : Int) < 0 := by omega
    have := wszStringS.l5 l ho 0 (by omega) (x - (l.length : Int)) (by omega) (by omega)
    rw [List.drop_zero] at this
    rw [szR_add hx, ← this]
    simp [hn]
  · have hn : x - (l.length : Int) < 0 := by omega
    rw [szR_more hx]
    simp [hn]

/-! ### copies -/
theorem wtoStringS_ok (l : List Str) (hl : l.length ≤ 1048576) : wtoStringS [vP l] [] = rO (eSs l) := by
  have key : ∀ k, k ≤ l.length → (wtoStringS.L3 (eSs l) (k : Int) ((l.take k).map eS ++ List.replicate (l.length - k) [D.v (Value.string (mkS []))])).bind wtoStringS.A3 = rO (eSs l) := by
    refine up l.length ?_ fun k hk ih => ?_
    · rw [wtoStringS.s3, fill_all]; simp [wtoStringS.a3x3]
    · rw [wtoStringS.s3]
      have h1 := fill_get eS l [D.v (Value.string (mkS []))] k hk
      have h2 := fill_len eS l [D.v (Value.string (mkS []))] k (by omega)
      have h3 := fill_set eS l [D.v (Value.string (mkS []))] k hk
      rw [← ih]
      simp only [Int.toNat_natCast, str_at hk, wrap_nat k (by omega), h1, h2, List.getD_cons_zero, str_v]
      have h3' : List.set ((l.take k).map eS ++ List.replicate (l.length - k) [D.v (Value.string (mkS []))]) k (D.v (Value.string (mkS l[k])) :: List.drop 1 [D.v (Value.string (mkS []))]) = _ := h3
      rw [h3']
      have hb1 : decide ((k : Int) < ((eSs l).length : Int)) = true := by simp; omega
      have hb2 : decide (0 ≤ (k : Int)) = true := by simp
      have hb3 : decide ((k : Int) < (l.length : Int)) = true := by simp; omega
      simp only [hb1, hb2, hb3]
      rfl
  rw [wtoStringS.e]
  have hc : (decide (((eSs l).length : Int) * ((↑16 : Int) + 1) ≤ 2 ^ 46) && true && true) = true := by simp; omega
  rw [hc, cond_true]
  have h0 := key 0 (by omega)
  rw [fill_zero] at h0
  simp only [List.length_map, Int.toNat_natCast]
  exact h0
theorem weqStringS_refl (l : List Str) (hl : l.length ≤ 9223372036854775807) : weqStringS [vP l, vP l] [] = rB true := by
  have key : ∀ k, k ≤ l.length → weqStringS.L4 (eSs l) (eSs l) (k : Int) = some weqStringS.x4 := by
    refine up l.length ?_ fun k hk ih => ?_
    · rw [weqStringS.s4]; simp
    · rw [weqStringS.s4]
      simp only [Int.toNat_natCast, str_at hk, wrap_nat k (by omega), ih]
      simp [hk]
  have h0 : weqStringS.L4 (eSs l) (eSs l) 0 = _ := key 0 (by omega)
  rw [weqStringS.e, h0]
  simp [weqStringS.a4x4]
end Go.PVx
/- What the laws do with nodes and trees. (The lemmas on lists are printed by wip/pv/tool/genlaw.py.) -/
namespace Go.PVx
open Go.PV Go.Proofs
abbrev rNodeOf (a : NodeOf) : Option Res := some ⟨[.v (.int .i64 a.id), .o .deep (eSs a.path)], []⟩
abbrev rNodes (a : Nodes) : Option Res := some ⟨[.v (.int .i64 a.next), .o .deep (a.list.map eN)], []⟩
abbrev rTree (t : Tree) : Option Res := some ⟨[.v (.bool t.dir), .v (.int .i64 t.mode), .v (.string (mkS t.data)), .o .deep (eSs t.names), .o .deep (t.kids.map eT)], []⟩

/-! ### NodeOf: lists -/
/-! ### Tree: lists -/
/-! ### nodes -/
theorem wP_len (p : List Str) : p.length ≤ wP p := wL_len _ p
/-! ### trees -/
end Go.PVx
/- Numbers and paths as texts; nodes as a text; the law FnExactNodesWrite on data. (Over the tables of the seat of doors: PvDTab, PvDRes.) -/
namespace Go.PVx
open Go.PV Go.Proofs

/-- A number's digits. -/
abbrev dec (n : Nat) : Str := Lib.decDigits n
theorem dec_len (n : Nat) (h : n ≤ 1000000) : (dec n).length ≤ 7 := by
  unfold dec
  rw [Lib.decDigits_length]
  by_cases h0 : n = 0
  · subst h0; rw [Lib.nDigits_small (by omega)]; omega
  · have : ∀ (k m : Nat), m < 10 ^ (k + 1) → Lib.nDigits m ≤ k + 1 := by
      intro k
      induction k with
      | zero => intro m hm; rw [Lib.nDigits_small (by simpa using hm)]; omega
      | succ k ih =>
        intro m hm
        by_cases h10 : m < 10
        · rw [Lib.nDigits_small h10]; omega
        · rw [Lib.nDigits_big h10]
          have := ih (m / 10) (by rw [Nat.pow_succ] at hm; omega)
          omega
    exact this 6 n (by omega)
theorem strOf_byte (d : Nat) (h : d < 10) : strOf [[D.v (Value.int IntKind.u8 (IntKind.u8.wrap (IntKind.i64.wrap (48 + (d : Int)))))]] = mkS [UInt8.ofNat (48 + d)] := by
  rw [wrap_in _ (by omega), IntKind.wrap_u8]
  have : (48 + (d : Int)) % 256 = ((48 + d : Nat) : Int) := by omega
  rw [this]
  rfl
theorem sl1Dec_ok : ∀ (n : Nat), n ≤ 1000000 → sl1Dec [vI n] [] = rS (dec n) := by
  intro n
  induction n using Nat.strongRecOn with
  | _ n ih =>
    intro h
    rw [sl1Dec.e]
    have h1 : decide ((n : Int) < -9223372036854775807) = false := decide_eq_false (by omega)
    have h2 : decide ((n : Int) < 0) = false := by simp
    rw [h1, h2]
    simp only [cond_false]
    rw [sl1Dec.p3]
    unfold dec
    rw [Lib.decDigits]
    by_cases h10 : n < 10
    · have h3 : decide ((n : Int) < 10) = true := by simp; omega
      rw [h3, dif_pos h10, cond_true, strOf_byte n h10]
    · have h3 : decide ((n : Int) < 10) = false := by simp; omega
      have hq : (n : Int).tdiv 10 = ((n / 10 : Nat) : Int) := by rw [Int.tdiv_eq_ediv_of_nonneg (by omega)]; omega
      have hr : (n : Int).tmod 10 = ((n % 10 : Nat) : Int) := by rw [Int.tmod_eq_emod_of_nonneg (by omega)]; omega
      have hw : IntKind.i64.wrap ((n / 10 : Nat) : Int) = ((n / 10 : Nat) : Int) := wrap_in _ (by omega)
      have hi := ih (n / 10) (by omega) (by omega)
      have hl := dec_len (n / 10) (by omega)
      unfold dec at hi hl
      have e1 : (Lib.decDigits (n / 10)).length ≤ 70368744177663 := by omega
      rw [h3, dif_neg h10, cond_false, hq, hw, hi, hr, strOf_byte (n % 10) (by omega)]
      simp [e1]
theorem strconv_Itoa_ok (n : Nat) (h : n ≤ 1000000) : strconv_Itoa [vI n] [] = rS (dec n) := by
  rw [strconv_Itoa.ext]
  have h1 : decide (-9223372036854775808 ≤ (n : Int)) = true := decide_eq_true (by omega)
  have h2 : decide ((n : Int) ≤ 9223372036854775807) = true := decide_eq_true (by omega)
  simp only [extItoa, h1, h2, Bool.and_self, cond_true, Lib.itoa_nonneg]
  rfl

/-! ### paths -/
/-- A path's text. -/
def pt (p : List Str) : Str := if p = [] then [47] else Lib.joinTail [47] p
theorem joinTail_len (p : List Str) : (Lib.joinTail [47] p).length = wP p := by
  unfold wP
  induction p with
  | nil => rfl
  | cons x p ih =>
    have : Lib.joinTail [47] (x :: p) = [47] ++ x ++ Lib.joinTail [47] p := by simp [Lib.joinTail]
    rw [this]
    simp only [List.length_append, List.length_cons, List.length_nil, ih, wL]
theorem pt_len (p : List Str) : (pt p).length ≤ 1 + wP p := by
  unfold pt
  split
  · simp
  · rw [joinTail_len]; omega
theorem strRows_eSs : ∀ p : List Str, strRows (eSs p) = some (p.map mkS)
  | [] => rfl
  | x :: p => by
    have := strRows_eSs p
    simp only [List.map_cons, strRows, this]
    rfl
theorem strings_Join_ok (p : List Str) (hp : wP p ≤ 1048576) (h0 : p ≠ []) : strings_Join [vP p, vS [47]] [] = rS (Lib.join p [47]) := by
  rw [strings_Join.ext]
  have hm : (p.map mkS).map (fun x => x.data.toList) = p := by simp [List.map_map, Function.comp_def]
  have hlen : (Lib.join p [47]).length ≤ wP p := by
    cases p with
    | nil => exact absurd rfl h0
    | cons x r =>
      have hj := joinTail_len r
      rw [Lib.join_cons, List.length_append, hj]
      unfold wP
      simp only [wL]; omega
  have hpl := wP_len p
  have e1 : decide ((p.map mkS).length ≤ 140737488355328) = true := by simp; omega
  have e2 : decide ((Lib.join p [47]).length ≤ 140737488355328) = true := by simp; omega
  have hx : joinD (p.map mkS) (mkS [47]) = mkS (Lib.join p [47]) := by
    unfold joinD
    rw [hm]
    rfl
  show extJoin [.one (.s (eSs p)), .one (.v (.string (mkS [47])))] [] = _
  simp only [extJoin, strRows_eSs, e1, hm]
  have hs : (mkS [47]).data.toList = [47] := rfl
  rw [hs, e2]
  simp only [Bool.and_self, cond_true, hx]
theorem ipathText_ok (p : List Str) (hp : wP p ≤ 1048576) : ipathText [vP p] [] = rS (pt p) := by
  rw [ipathText.e]
  cases p with
  | nil => rfl
  | cons x r =>
    have h1 := strings_Join_ok (x :: r) hp (by simp)
    have h2 : (Lib.join (x :: r) [47]).length ≤ 1048576 := by
      have hj := joinTail_len r
      unfold wP at hp hj
      rw [Lib.join_cons, List.length_append, hj]
      simp only [wL] at hp; omega
    have e1 : decide (1 + (Lib.join (x :: r) [47]).length ≤ 70368744177664) = true := by simp; omega
    have h3 : ((((eSs (x :: r)).length : Nat) : Int) == 0) = false := by simp; omega
    have h4 : (ByteArray.mk #[47]) = mkS [47] := rfl
    rw [h3, cond_false, h4, h1]
    have h5 : pt (x :: r) = 47 :: Lib.join (x :: r) [47] := by
      unfold pt
      rw [if_neg (by simp), Lib.join_cons]
      simp [Lib.joinTail]
    rw [h5]
    simp [e1]
theorem sl3Name_ok (p : List Str) (hp : wP p ≤ 1048576) : sl3Name [vP p] [] = rS (pt p) := by
  have hpl := wP_len p
  have hlen := joinTail_len p
  have key : ∀ k, k ≤ p.length → sl3Name.L3 (eSs p) (mkS (Lib.joinTail [47] (p.take k))) (k : Int) = some (sl3Name.x3 (mkS (Lib.joinTail [47] p))) := by
    refine up p.length ?_ fun k hk ih => ?_
    · rw [sl3Name.s3]; simp
    · have hs : Lib.joinTail [47] (p.take (k + 1)) = Lib.joinTail [47] (p.take k) ++ [47] ++ p[k] := Lib.joinTail_take_succ [47] p k p[k] (by simp [hk])
      have hle := Lib.joinTail_take_le [47] p (k + 1)
      rw [hs] at hle
      simp only [List.length_append, List.length_cons, List.length_nil] at hle
      have e1 : decide ((Lib.joinTail [47] (p.take k)).length + 1 ≤ 70368744177664) = true := by simp; omega
      have e2 : decide ((Lib.joinTail [47] (p.take k)).length + 1 + p[k].length ≤ 70368744177664) = true := by simp; omega
      have h4 : (ByteArray.mk #[47]) = mkS [47] := rfl
      rw [hs] at ih
      rw [sl3Name.s3]
      simp only [Int.toNat_natCast, str_at hk, wrap_nat k (by omega), h4, mkS_append, size_mkS, List.getD_cons_zero, str_v, List.length_append, List.length_cons, List.length_nil, e1, e2, ih]
      simp [hk]
  have h0 := key 0 (by omega)
  rw [sl3Name.e]
  have h5 : (ByteArray.mk #[]) = mkS (Lib.joinTail [47] (p.take 0)) := rfl
  rw [h5]
  have h0 : sl3Name.L3 (eSs p) (mkS (Lib.joinTail [47] (p.take 0))) 0 = _ := h0
  rw [h0, Option.bind_some, sl3Name.a3x3, toList_mkS]
  cases p with
  | nil => rfl
  | cons x r =>
    have : Lib.joinTail [47] (x :: r) = 47 :: (x ++ Lib.joinTail [47] r) := by simp [Lib.joinTail]
    simp [pt, this]
end Go.PVx
/- Bytes in hexadecimal. -/
namespace Go.PVx
open Go.PV Go.Proofs

def hexD : Str := [48, 49, 50, 51, 52, 53, 54, 55, 56, 57, 97, 98, 99, 100, 101, 102]
theorem hexD_mk : (ByteArray.mk #[48, 49, 50, 51, 52, 53, 54, 55, 56, 57, 97, 98, 99, 100, 101, 102]) = mkS hexD := rfl
def dig (n : Nat) : UInt8 := hexD.getD n 0
def hexB (b : UInt8) : Str := [dig (b.toNat / 16), dig (b.toNat % 16)]
def hexS (s : Str) : Str := (s.map hexB).flatten
/-- The text of bytes. -/
def dataT (s : Str) : Str := if s = [] then [45] else hexS s
theorem dig_fin : ∀ i : Fin 16, (hexD.take (i.val + 1)).drop i.val = [dig i.val] := by decide
theorem dig_at {i : Nat} (h : i < 16) : (hexD.take (i + 1)).drop i = [dig i] := dig_fin ⟨i, h⟩
theorem hexS_len : ∀ s : Str, (hexS s).length = 2 * s.length
  | [] => rfl
  | b :: s => by
    have : hexS (b :: s) = hexB b ++ hexS s := by simp [hexS]
    rw [this, List.length_append, hexS_len s]
    simp only [hexB, List.length_cons, List.length_nil]; omega
theorem hexS_succ (s : Str) (k : Nat) (h : k < s.length) : hexS (s.take (k + 1)) = hexS (s.take k) ++ hexB s[k] := by
  unfold hexS
  rw [take_snoc s k h]
  simp only [List.map_append, List.flatten_append, List.map_cons, List.map_nil, List.flatten_cons, List.flatten_nil, List.append_nil]
theorem nib (b : UInt8) : (IntKind.u8.wrap ((b.toNat : Int).tdiv 16)) = ((b.toNat / 16 : Nat) : Int) ∧ IntKind.u8.wrap (((b.toNat / 16 : Nat) : Int) + 1) = ((b.toNat / 16 + 1 : Nat) : Int) ∧
    (b.toNat : Int).tmod 16 = ((b.toNat % 16 : Nat) : Int) ∧ IntKind.u8.wrap (((b.toNat % 16 : Nat) : Int) + 1) = ((b.toNat % 16 + 1 : Nat) : Int) ∧ b.toNat / 16 < 16 ∧ b.toNat % 16 < 16 := by
  have hb : b.toNat < 256 := b.toNat_lt
  refine ⟨?_, ?_, ?_, ?_, by omega, by omega⟩
  · rw [IntKind.wrap_u8, Int.tdiv_eq_ediv_of_nonneg (by omega)]; omega
  · rw [IntKind.wrap_u8]; omega
  · rw [Int.tmod_eq_emod_of_nonneg (by omega)]; omega
  · rw [IntKind.wrap_u8]; omega
theorem sl1Hex_ok (s : Str) (hs : s.length ≤ 1048576) : sl1Hex [vS s] [] = rS (dataT s) := by
  have key : ∀ k, k ≤ s.length → sl1Hex.L3 (mkS s) (mkS (hexS (s.take k))) (k : Int) = some (sl1Hex.x3 (mkS (hexS s))) := by
    refine up s.length ?_ fun k hk ih => ?_
    · rw [sl1Hex.s3]; simp
    · obtain ⟨n1, n2, n3, n4, n5, n6⟩ := nib s[k]
      have hl := hexS_len (s.take k)
      rw [List.length_take] at hl
      rw [hexS_succ s k hk] at ih
      have e0 : decide ((k : Int) < (s.length : Int)) = true := by simp; omega
      have e1 : decide ((0 : Int) ≤ (k : Int)) = true := by simp
      have e2 : decide (((s[k].toNat / 16 : Nat) : Int) ≤ ((s[k].toNat / 16 + 1 : Nat) : Int)) = true := decide_eq_true (by omega)
      have e3 : decide (((s[k].toNat / 16 + 1 : Nat) : Int) ≤ ((hexD.length : Nat) : Int)) = true := decide_eq_true (by show _ ≤ ((16 : Nat) : Int); omega)
      have e4 : decide (((s[k].toNat % 16 : Nat) : Int) ≤ ((s[k].toNat % 16 + 1 : Nat) : Int)) = true := decide_eq_true (by omega)
      have e5 : decide (((s[k].toNat % 16 + 1 : Nat) : Int) ≤ ((hexD.length : Nat) : Int)) = true := decide_eq_true (by show _ ≤ ((16 : Nat) : Int); omega)
      have e6 : decide ((hexS (s.take k)).length + 1 ≤ 70368744177664) = true := decide_eq_true (by omega)
      have e7 : decide ((hexS (s.take k)).length + 1 + 1 ≤ 70368744177664) = true := decide_eq_true (by omega)
      have hx : hexS (s.take k) ++ [dig (s[k].toNat / 16)] ++ [dig (s[k].toNat % 16)] = hexS (s.take k) ++ hexB s[k] := by simp [hexB]
      rw [sl1Hex.s3]
      simp only [Int.toNat_natCast, byteAt_lt s k hk, hexD_mk, size_mkS, n1, n2, n3, n4, extract_mkS, dig_at n5, dig_at n6, mkS_append, List.length_append, List.length_cons, List.length_nil, Nat.zero_add, wrap_nat k (by omega), e0, e1, e2, e3, e4, e5, e6, e7, hx, ih]
      rfl
  have h0 : sl1Hex.L3 (mkS s) (mkS (hexS (s.take 0))) 0 = _ := key 0 (by omega)
  have h1 : (ByteArray.mk #[]) = mkS (hexS (s.take 0)) := rfl
  rw [sl1Hex.e, h1, h0, Option.bind_some, sl1Hex.a3x3, toList_mkS]
  unfold dataT
  cases s with
  | nil => rfl
  | cons b s =>
    have : hexS (b :: s) = dig (b.toNat / 16) :: dig (b.toNat % 16) :: hexS s := by simp [hexS, hexB]
    rw [this]
    rfl
def byteRow (b : UInt8) : List D := [.v (.int .u8 (b.toNat : Int))]
theorem strOf_bytes (l : Str) : strOf (l.map byteRow) = mkS l := by
  have key : ∀ (l : Str) (acc : Str), ((l.map byteRow).map fun r => (r.getD 0 .h).int).foldl (fun r n => r.push (UInt8.ofNat n.toNat)) (mkS acc) = mkS (acc ++ l) := by
    intro l
    induction l with
    | nil => intro acc; simp
    | cons b l ih =>
      intro acc
      have hp : (mkS acc).push b = mkS (acc ++ [b]) := by
        show ByteArray.mk (acc.toArray.push b) = ByteArray.mk (acc ++ [b]).toArray
        rw [List.push_toArray]
      have hb : UInt8.ofNat (b.toNat : Int).toNat = b := by simp
      simp only [List.map_cons, List.foldl_cons, byteRow, List.getD_cons_zero, int_v]
      rw [hb, hp]
      have := ih (acc ++ [b])
      simp only [byteRow, List.append_assoc, List.cons_append, List.nil_append] at this
      exact this
  exact key l []
theorem bytesB_bytes (l : Str) : bytesB (l.map byteRow) = true := by
  simp [bytesB, byteRow]
theorem rowsLen_bytes (l : Str) : rowsLen 1 (l.map byteRow) = true := rowsLen_map byteRow 1 (fun _ => rfl) l
theorem ihexOf_ok (s : Str) (hs : s.length ≤ 1048576) : ihexOf [vS s] [] = rS (hexS s) := by
  have key : ∀ k, k ≤ s.length → ihexOf.L3 (mkS s) (k : Int) ((hexS (s.take k)).map byteRow) = some (ihexOf.x3 ((hexS s).map byteRow)) := by
    refine up s.length ?_ fun k hk ih => ?_
    · rw [ihexOf.s3]; simp
    · obtain ⟨n1, n2, n3, n4, n5, n6⟩ := nib s[k]
      have hl := hexS_len (s.take k)
      rw [List.length_take] at hl
      rw [hexS_succ s k hk] at ih
      have e0 : decide ((k : Int) < (s.length : Int)) = true := by simp; omega
      have e1 : decide ((0 : Int) ≤ (k : Int)) = true := by simp
      have e2 : decide (((s[k].toNat / 16 : Nat) : Int) < ((hexD.length : Nat) : Int)) = true := decide_eq_true (by show _ < ((16 : Nat) : Int); omega)
      have e3 : decide (((s[k].toNat % 16 : Nat) : Int) < ((hexD.length : Nat) : Int)) = true := decide_eq_true (by show _ < ((16 : Nat) : Int); omega)
      have e6 : decide ((((hexS (s.take k)).map byteRow).length + 2) * 2 ≤ 70368744177664) = true := decide_eq_true (by rw [List.length_map]; omega)
      have hx : (hexS (s.take k)).map byteRow ++ [[D.v (Value.int IntKind.u8 ((dig (s[k].toNat / 16)).toNat : Int))], [D.v (Value.int IntKind.u8 ((dig (s[k].toNat % 16)).toNat : Int))]] = (hexS (s.take k) ++ hexB s[k]).map byteRow := by
        simp [hexB, byteRow]
      have d1 : byteAt (mkS hexD) (s[k].toNat / 16) = ((dig (s[k].toNat / 16)).toNat : Int) := byteAt_mkS _ _
      have d2 : byteAt (mkS hexD) (s[k].toNat % 16) = ((dig (s[k].toNat % 16)).toNat : Int) := byteAt_mkS _ _
      rw [ihexOf.s3]
      simp only [Int.toNat_natCast, byteAt_lt s k hk, hexD_mk, size_mkS, n1, n3, wrap_nat k (by omega), e0, e1, e2, e3, e6, rowsLen_bytes, d1, d2, hx, ih]
      rfl
  have h0 : ihexOf.L3 (mkS s) 0 [] = _ := key 0 (by omega)
  rw [ihexOf.e, h0, Option.bind_some, ihexOf.a3x3, bytesB_bytes, strOf_bytes]
  rfl
theorem idataText_ok (s : Str) (hs : s.length ≤ 1048576) : idataText [vS s] [] = rS (dataT s) := by
  rw [idataText.e, ihexOf_ok s hs, toList_mkS]
  unfold dataT
  cases s with
  | nil => rfl
  | cons b s => simp
end Go.PVx
/- Calls: whether they are calls, their texts. -/
namespace Go.PVx
open Go.PV Go.Proofs

abbrev rC (c : Call) : Option Res := some ⟨[.v (.int .i64 c.kind), .o .deep (eSs c.path), .o .deep (eSs c.to), .v (.int .i64 c.at), .v (.string (mkS c.data))], []⟩
def wC (c : Call) : Nat := wP c.path + wP c.to + c.data.length
structure OC (c : Call) : Prop where
  path : oP c.path
  to : oP c.to
  data : sS c.data
  lo : -9223372036854775808 ≤ c.at
  hi : c.at ≤ 9223372036854775807
/-- Is it a call? -/
def callB (c : Call) : Bool :=
  if c.kind = 1 ∨ c.kind = 6 then pathB 1 c.path && inB c.at 0 7
  else if c.kind = 2 ∨ c.kind = 3 then pathB 1 c.path && inB c.at 0 24
  else if c.kind = 4 then pathB 1 c.path
  else if c.kind = 5 then pathB 1 c.path && pathB 1 c.to
  else false
theorem sl2CallOk_ok (c : Call) (h : OC c) : sl2CallOk [vC c] [] = rB (callB c) := by
  obtain ⟨k, p, t, a, d⟩ := c
  have h1 := sl2PathOk_ok p h.path
  have h2 := sl2PathOk_ok t h.to
  rw [sl2CallOk.e]
  unfold callB
  simp only [h1, h2, sl1In_ok, sl2CallOk.p2]
  by_cases k1 : k = 1
  · subst k1; cases hb : pathB 1 p <;> simp
  by_cases k6 : k = 6
  · subst k6; cases hb : pathB 1 p <;> simp
  by_cases k2 : k = 2
  · subst k2; cases hb : pathB 1 p <;> simp
  by_cases k3 : k = 3
  · subst k3; cases hb : pathB 1 p <;> simp
  by_cases k4 : k = 4
  · subst k4; cases hb : pathB 1 p <;> simp
  by_cases k5 : k = 5
  · subst k5; cases hb : pathB 1 p <;> simp
  have e1 : (k == 1) = false := beq_eq_false_iff_ne.2 k1
  have e2 : (k == 2) = false := beq_eq_false_iff_ne.2 k2
  have e3 : (k == 3) = false := beq_eq_false_iff_ne.2 k3
  have e4 : (k == 4) = false := beq_eq_false_iff_ne.2 k4
  have e5 : (k == 5) = false := beq_eq_false_iff_ne.2 k5
  have e6 : (k == 6) = false := beq_eq_false_iff_ne.2 k6
  simp only [e1, e2, e3, e4, e5, e6, k1, k2, k3, k4, k5, k6, cond_false, or_self, if_false]
theorem iCall_isCall_ok (c : Call) (h : OC c) : iCall_isCall [vC c] [] = rB (callB c) := by
  obtain ⟨k, p, t, a, d⟩ := c
  have h1 := inamesOk_ok p h.path 1
  have h2 := inamesOk_ok t h.to 1
  rw [iCall_isCall.e]
  unfold callB
  simp only [h1, h2, iwithin_ok, imodeOk_ok, iCall_isCall.p2, iCall_isCall.p3]
  by_cases k1 : k = 1
  · subst k1; cases hb : pathB 1 p <;> simp [inB]
  by_cases k6 : k = 6
  · subst k6; cases hb : pathB 1 p <;> simp [inB]
  by_cases k2 : k = 2
  · subst k2; cases hb : pathB 1 p <;> simp [inB]
  by_cases k3 : k = 3
  · subst k3; cases hb : pathB 1 p <;> simp [inB]
  by_cases k4 : k = 4
  · subst k4; cases hb : pathB 1 p <;> simp [inB]
  by_cases k5 : k = 5
  · subst k5; cases hb : pathB 1 p <;> simp [inB]
  have hn : inB k 1 6 = false := by simp [inB]; omega
  simp [hn, k1, k2, k3, k4, k5, k6]
theorem wszCall_ok (c : Call) (h : OC c) (x : Int) (h0 : 0 ≤ x) (h1 : x ≤ Lim) : wszCall [vC c, vI x] [] = rI (szR (wC c) x) := by
  have hL : (Lim : Int) = 1048576 := rfl
  have hd := h.data
  unfold sS at hd
  have e1 := wszStringS_ok c.path h.path x h0 h1
  rw [wszCall.e, e1]
  unfold wC
  by_cases hx : (wP c.path : Int) ≤ x
  · rw [szR_pos hx]
    have n1 : ¬ x - (wP c.path : Int) < 0 := by omega
    have e2 := wszStringS_ok c.to h.to (x - wP c.path) (by omega) (by omega)
    by_cases hx2 : (wP c.to : Int) ≤ x - wP c.path
    · rw [szR_pos hx2] at e2
      have n2 : ¬ x - (wP c.path : Int) - (wP c.to : Int) < 0 := by omega
      have hw : IntKind.i64.wrap (x - (wP c.path : Int) - (wP c.to : Int) - (c.data.length : Int)) = x - (wP c.path : Int) - (wP c.to : Int) - (c.data.length : Int) := wrap_in _ (by omega)
      by_cases hx3 : (c.data.length : Int) ≤ x - wP c.path - wP c.to
      · rw [szR_pos (by omega)]
        have n3 : ¬ x - (wP c.path : Int) - (wP c.to : Int) - (c.data.length : Int) < 0 := by omega
        simp [n1, wszCall.p3, e2, n2, hw, wszCall.p6, n3]
        omega
      · rw [szR_neg (by omega)]
        have n3 : x - (wP c.path : Int) - (wP c.to : Int) - (c.data.length : Int) < 0 := by omega
        simp [n1, wszCall.p3, e2, n2, hw, wszCall.p6, n3]
    · rw [szR_neg hx2] at e2
      rw [szR_neg (by omega)]
      simp [n1, wszCall.p3, e2]
  · rw [szR_neg hx, szR_neg (by omega)]
    simp
theorem wtoCall_ok (c : Call) (hw : wC c ≤ 1048576) : wtoCall [vC c] [] = rC c := by
  unfold wC at hw
  have h1 := wP_len c.path
  have h2 := wP_len c.to
  rw [wtoCall.e, wtoStringS_ok c.path (by omega), wtoStringS_ok c.to (by omega)]
  simp
theorem weqCall_refl (c : Call) (hw : wC c ≤ 1048576) : weqCall [vC c, vC c] [] = rB true := by
  unfold wC at hw
  have h1 := wP_len c.path
  have h2 := wP_len c.to
  have h3 := weqStringS_refl c.to (by omega)
  rw [weqCall.e, weqStringS_refl c.path (by omega)]
  have b1 : (c.kind != c.kind) = false := by simp
  have b2 : (c.at != c.at) = false := by simp
  have b3 : ((mkS c.data).toList == (mkS c.data).toList) = true := by simp
  have hf : fitsCells [R1.bool] [TC.v (Value.bool true)] = true := rfl
  simp only [b1, cond_false, cond_true, Option.bind_some, hf, Bool.and_self, List.getD_cons_zero, tbool_v, Bool.not_true, weqCall.p3, h3, weqCall.p5, b2, b3]
end Go.PVx
/- Calls as texts. -/
namespace Go.PVx
open Go.PV Go.Proofs

def wordK (k : Int) : Str :=
  if k = 1 then [109, 107, 100, 105, 114] else if k = 2 then [119, 114, 105, 116, 101] else if k = 3 then [116, 114, 117, 110, 99, 97, 116, 101]
  else if k = 4 then [114, 101, 109, 111, 118, 101] else if k = 5 then [114, 101, 110, 97, 109, 101] else [99, 104, 109, 111, 100]
def headC (c : Call) : Str := wordK c.kind ++ [32] ++ pt c.path
def tailC (c : Call) : Str :=
  if c.kind = 4 then [] else if c.kind = 5 then [32] ++ pt c.to else if c.kind = 2 then [32] ++ dec c.at.toNat ++ [32] ++ dataT c.data else [32] ++ dec c.at.toNat
/-- A call's text. -/
def callT (c : Call) : Str := if callB c = true ∧ ¬ (c.kind = 2 ∧ 24 < c.data.length) then headC c ++ tailC c else []
theorem callB_spec {c : Call} (hc : callB c = true) : (c.kind = 1 ∨ c.kind = 2 ∨ c.kind = 3 ∨ c.kind = 4 ∨ c.kind = 5 ∨ c.kind = 6) ∧ ((c.kind = 1 ∨ c.kind = 2 ∨ c.kind = 3 ∨ c.kind = 6) → 0 ≤ c.at ∧ c.at ≤ 24) := by
  unfold callB at hc
  split at hc
  · rename_i hk
    simp only [Bool.and_eq_true, inB, decide_eq_true_eq] at hc
    exact ⟨by omega, fun _ => by omega⟩
  split at hc
  · rename_i hk
    simp only [Bool.and_eq_true, inB, decide_eq_true_eq] at hc
    exact ⟨by omega, fun _ => by omega⟩
  split at hc
  · exact ⟨by omega, fun _ => by omega⟩
  split at hc
  · exact ⟨by omega, fun _ => by omega⟩
  · exact absurd hc (by simp)
theorem le_dec (n m : Nat) (h : n ≤ m) : decide (n ≤ m) = true := decide_eq_true h
theorem lim_le (n : Nat) (h : n ≤ 9000000) : decide (n ≤ 70368744177664) = true := decide_eq_true (by omega)
theorem dataT_len (s : Str) : (dataT s).length ≤ 1 + 2 * s.length := by
  unfold dataT
  split
  · simp
  · rw [hexS_len]; omega
theorem sCallText_ok (c : Call) (h : OC c) (hw : wC c ≤ 1048576) : sCallText [vC c] [] = rS (callT c) := by
  have hok := sl2CallOk_ok c h
  obtain ⟨k, p, t, a, d⟩ := c
  unfold wC at hw
  simp only at hw
  have hp := pt_len p
  have ht := pt_len t
  have hd := dataT_len d
  have h1 := sl3Name_ok p (by omega)
  have h2 := sl3Name_ok t (by omega)
  have h3 := sl1Hex_ok d (by omega)
  rw [sCallText.e, hok]
  have b32 : (ByteArray.mk #[32]) = mkS [32] := rfl
  have hkinds : callB ⟨k, p, t, a, d⟩ = true → (k = 1 ∨ k = 2 ∨ k = 3 ∨ k = 4 ∨ k = 5 ∨ k = 6) ∧ ((k = 1 ∨ k = 2 ∨ k = 3 ∨ k = 6) → 0 ≤ a ∧ a ≤ 24) := fun hc => callB_spec (c := ⟨k, p, t, a, d⟩) hc
  cases hb : callB ⟨k, p, t, a, d⟩ with
  | false => simp [callT, hb]
  | true =>
    obtain ⟨hk, ha⟩ := hkinds hb
    rcases hk with rfl | rfl | rfl | rfl | rfl | rfl
    · obtain ⟨a0, a1⟩ := ha (by omega)
      have hD := sl1Dec_ok a.toNat (by omega)
      have hl := dec_len a.toNat (by omega)
      rw [show ((a.toNat : Nat) : Int) = a from by omega] at hD
      simp [sCallText.p2, sl42Words.e, h1, sCallText.p3, hD, b32, callT, hb, headC, tailC, wordK]
      simp (disch := omega) only [le_dec, cond_true]
    · obtain ⟨a0, a1⟩ := ha (by omega)
      have hD := sl1Dec_ok a.toNat (by omega)
      have hl := dec_len a.toNat (by omega)
      rw [show ((a.toNat : Nat) : Int) = a from by omega] at hD
      by_cases h24 : 24 < d.length
      · have h24' : (24 : Int) < (d.length : Int) := by omega
        simp [callT, hb, h24, h24']
      · have h24' : ¬ (24 : Int) < (d.length : Int) := by omega
        simp [sCallText.p2, sl42Words.e, h1, h3, sCallText.p3, hD, b32, callT, hb, headC, tailC, wordK, h24, h24']
        simp (disch := omega) only [le_dec, cond_true]
    · obtain ⟨a0, a1⟩ := ha (by omega)
      have hD := sl1Dec_ok a.toNat (by omega)
      have hl := dec_len a.toNat (by omega)
      rw [show ((a.toNat : Nat) : Int) = a from by omega] at hD
      simp [sCallText.p2, sl42Words.e, h1, sCallText.p3, hD, b32, callT, hb, headC, tailC, wordK]
      simp (disch := omega) only [le_dec, cond_true]
    · simp [sCallText.p2, sl42Words.e, h1, sCallText.p3, sCallText.p4, b32, callT, hb, headC, tailC, wordK]
      simp (disch := omega) only [le_dec, cond_true]
    · simp [sCallText.p2, sl42Words.e, h1, h2, sCallText.p3, b32, callT, hb, headC, tailC, wordK]
      simp (disch := omega) only [le_dec, cond_true]
    · obtain ⟨a0, a1⟩ := ha (by omega)
      have hD := sl1Dec_ok a.toNat (by omega)
      have hl := dec_len a.toNat (by omega)
      rw [show ((a.toNat : Nat) : Int) = a from by omega] at hD
      simp [sCallText.p2, sl42Words.e, h1, sCallText.p3, hD, b32, callT, hb, headC, tailC, wordK]
      simp (disch := omega) only [le_dec, cond_true]
theorem strconv_Itoa_any (a : Int) (h0 : -9223372036854775808 ≤ a) (h1 : a ≤ 9223372036854775807) : strconv_Itoa [vI a] [] = rS (Lib.itoa a) := by
  rw [strconv_Itoa.ext]
  have e1 : decide (-9223372036854775808 ≤ a) = true := decide_eq_true h0
  have e2 : decide (a ≤ 9223372036854775807) = true := decide_eq_true h1
  simp only [extItoa, e1, e2, Bool.and_self, cond_true]
  rfl
theorem iCallText_ok (c : Call) (h : OC c) (hw : wC c ≤ 1048576) : iCallText [vC c] [] = rS (callT c) := by
  have hok := iCall_isCall_ok c h
  have hI := strconv_Itoa_any c.at h.lo h.hi
  obtain ⟨k, p, t, a, d⟩ := c
  unfold wC at hw
  simp only at hw hI
  have hp := pt_len p
  have ht := pt_len t
  have hd := dataT_len d
  have h1 := ipathText_ok p (by omega)
  have h2 := ipathText_ok t (by omega)
  have h3 := idataText_ok d (by omega)
  rw [iCallText.e, hok]
  have b32 : (ByteArray.mk #[32]) = mkS [32] := rfl
  have hkinds : callB ⟨k, p, t, a, d⟩ = true → (k = 1 ∨ k = 2 ∨ k = 3 ∨ k = 4 ∨ k = 5 ∨ k = 6) ∧ ((k = 1 ∨ k = 2 ∨ k = 3 ∨ k = 6) → 0 ≤ a ∧ a ≤ 24) := fun hc => callB_spec (c := ⟨k, p, t, a, d⟩) hc
  cases hb : callB ⟨k, p, t, a, d⟩ with
  | false => simp [callT, hb]
  | true =>
    obtain ⟨hk, ha⟩ := hkinds hb
    rcases hk with rfl | rfl | rfl | rfl | rfl | rfl
    · obtain ⟨a0, a1⟩ := ha (by omega)
      have hD := strconv_Itoa_ok a.toNat (by omega)
      have hl := dec_len a.toNat (by omega)
      rw [show ((a.toNat : Nat) : Int) = a from by omega] at hD
      simp [h1, iCallText.p3, iCallText.p5, hD, b32, callT, hb, headC, tailC, wordK]
      simp (disch := omega) only [le_dec, cond_true]
    · obtain ⟨a0, a1⟩ := ha (by omega)
      have hD := strconv_Itoa_ok a.toNat (by omega)
      have hl := dec_len a.toNat (by omega)
      rw [show ((a.toNat : Nat) : Int) = a from by omega] at hD
      by_cases h24 : 24 < d.length
      · have h24' : (24 : Int) < (d.length : Int) := by omega
        simp [h1, h3, iCallText.p3, iCallText.p5, hD, b32, callT, hb, h24, h24']
        simp (disch := omega) only [le_dec, cond_true]
      · have h24' : ¬ (24 : Int) < (d.length : Int) := by omega
        simp [h1, h3, iCallText.p3, iCallText.p5, hD, b32, callT, hb, headC, tailC, wordK, h24, h24']
        simp (disch := omega) only [le_dec, cond_true]
    · obtain ⟨a0, a1⟩ := ha (by omega)
      have hD := strconv_Itoa_ok a.toNat (by omega)
      have hl := dec_len a.toNat (by omega)
      rw [show ((a.toNat : Nat) : Int) = a from by omega] at hD
      simp [h1, iCallText.p3, iCallText.p5, hD, b32, callT, hb, headC, tailC, wordK]
      simp (disch := omega) only [le_dec, cond_true]
    · simp [h1, iCallText.p3, iCallText.p5, hI, b32, callT, hb, headC, tailC, wordK]
      simp (disch := omega) only [le_dec, cond_true]
    · simp [h1, h2, iCallText.p3, iCallText.p5, hI, b32, callT, hb, headC, tailC, wordK]
      simp (disch := omega) only [le_dec, cond_true]
    · obtain ⟨a0, a1⟩ := ha (by omega)
      have hD := strconv_Itoa_ok a.toNat (by omega)
      have hl := dec_len a.toNat (by omega)
      rw [show ((a.toNat : Nat) : Int) = a from by omega] at hD
      simp [h1, iCallText.p3, iCallText.p5, hD, b32, callT, hb, headC, tailC, wordK]
      simp (disch := omega) only [le_dec, cond_true]
theorem wFnExactCallText_ok (c : Call) (h : OC c) : wFnExactCallText [vC c] [] = rB true := by
  have hL : (Lim : Int) = 1048576 := rfl
  have h1 := wszCall_ok c h 1048576 (by omega) (by omega)
  rw [wFnExactCallText.e, h1]
  by_cases hx : (wC c : Int) ≤ 1048576
  · rw [szR_pos hx]
    have h1' : ¬ (1048576 : Int) - (wC c : Int) < 0 := by omega
    have hw : wC c ≤ 1048576 := by omega
    have h2 := wtoCall_ok c hw
    have h3 := sCallText_ok c h hw
    have h4 := iCallText_ok c h hw
    have h5 := weqCall_refl c hw
    simp [h1', wFnExactCallText.p4, h2, h3, wFnExactCallText.p6, h4, h5, wFnExactCallText.p9]
  · rw [szR_neg hx]; simp
end Go.PVx
