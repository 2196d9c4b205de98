/- A part of the proof: PvU1, PvU2, PvU3, PvU4, PvL0, PvL1, PvV1, PvV2, PvM1, PvM2, PvV3, PvV4, PvY1, PvN1, PvN2, PvN3, PvN4, PvN5, PvN6, PvY2, PvY3, PvY4, PvY5. -/
import Derived.Test.YtgpfhocdahjnmaaDoorRes
import Derived.Test.YtgpfhocdahjnmaaDoorTy
import Derived.Test.YtgpfhocdahjnmaaDoorExt
import Derived.Lib.AtoiAllCases
set_option linter.unusedSimpArgs false
set_option linter.unusedVariables false
/- Names, paths, their order. -/
namespace Go.PVx
open Go.PV Go.Proofs

def inB (a b c : Int) : Bool := decide (b ≤ a) && decide (a ≤ c)
theorem sl1In_ok (a b c : Int) : sl1In [vI a, vI b, vI c] [] = rB (inB a b c) := by
  rw [sl1In.e]; unfold inB; by_cases h : b ≤ a <;> simp [h]
theorem iwithin_ok (a b c : Int) : iwithin [vI a, vI b, vI c] [] = rB (inB a b c) := by
  rw [iwithin.e]; unfold inB; by_cases h : b ≤ a <;> simp [h]
theorem imodeOk_ok (a : Int) : imodeOk [vI a] [] = rB (inB a 0 7) := by
  rw [imodeOk.e, iwithin_ok]; simp

/-! ### names -/
def okc (b : UInt8) : Bool := (decide (97 ≤ (b.toNat : Int)) && decide ((b.toNat : Int) ≤ 122)) || (decide (48 ≤ (b.toNat : Int)) && decide ((b.toNat : Int) ≤ 57))
def nameB (s : Str) : Bool := s.all okc && inB s.length 1 5
theorem sl1NameOk.l2 (s : Str) (hs : sS s) : ∀ k, k ≤ s.length → sl1NameOk.L2 (mkS s) (k : Int) = some (bif (s.drop k).all okc then sl1NameOk.x2 (mkS s) else sl1NameOk.q2 (mkS s) false) := by
  unfold sS at hs
  refine up s.length ?_ fun k hk ih => ?_
  · rw [sl1NameOk.s2]; simp
  · rw [sl1NameOk.s2, drop_cons s k hk, List.all_cons]
    simp only [Int.toNat_natCast, byteAt_lt s k hk, sl1NameOk.p5, wrap_nat k (by omega), ih, okc]
    by_cases h1 : 97 ≤ (s[k].toNat : Int) <;> by_cases h2 : (s[k].toNat : Int) ≤ 122 <;> by_cases h3 : 48 ≤ (s[k].toNat : Int) <;> by_cases h4 : (s[k].toNat : Int) ≤ 57 <;> simp [h1, h2, h3, h4, hk]
theorem sl1NameOk_ok (s : Str) (hs : sS s) : sl1NameOk [vS s] [] = rB (nameB s) := by
  have h := sl1NameOk.l2 s hs 0 (by omega)
  rw [sl1NameOk.e, show (0 : Int) = ((0 : Nat) : Int) from rfl, h]
  unfold nameB
  cases h : s.all okc <;> simp [h, sl1NameOk.a2q2, sl1NameOk.a2x2, sl1In_ok]
theorem inameOk.l2 (s : Str) (hs : sS s) : ∀ k, k ≤ s.length → inameOk.L2 (mkS s) s.length (k : Int) = some (bif (s.drop k).all okc then inameOk.x2 (mkS s) else inameOk.q2 (mkS s) false) := by
  unfold sS at hs
  refine up s.length ?_ fun k hk ih => ?_
  · rw [inameOk.s2]; simp
  · rw [inameOk.s2, drop_cons s k hk, List.all_cons]
    simp only [Int.toNat_natCast, byteAt_lt s k hk, inameOk.p5, wrap_nat k (by omega), ih, okc]
    have e1 : decide ((s[k].toNat : Int) < 97) = !decide (97 ≤ (s[k].toNat : Int)) := by by_cases h : 97 ≤ (s[k].toNat : Int) <;> simp [h] <;> omega
    have e2 : decide ((s[k].toNat : Int) > 122) = !decide ((s[k].toNat : Int) ≤ 122) := by by_cases h : (s[k].toNat : Int) ≤ 122 <;> simp [h] <;> omega
    have e3 : decide ((s[k].toNat : Int) < 48) = !decide (48 ≤ (s[k].toNat : Int)) := by by_cases h : 48 ≤ (s[k].toNat : Int) <;> simp [h] <;> omega
    have e4 : decide ((s[k].toNat : Int) > 57) = !decide ((s[k].toNat : Int) ≤ 57) := by by_cases h : (s[k].toNat : Int) ≤ 57 <;> simp [h] <;> omega
    simp only [e1, e2, e3, e4]
    cases decide (97 ≤ (s[k].toNat : Int)) <;> cases decide ((s[k].toNat : Int) ≤ 122) <;> cases decide (48 ≤ (s[k].toNat : Int)) <;> cases decide ((s[k].toNat : Int) ≤ 57) <;> simp [hk]
theorem inameOk_ok (s : Str) (hs : sS s) : inameOk [vS s] [] = rB (nameB s) := by
  have h := inameOk.l2 s hs 0 (by omega)
  rw [inameOk.e, size_mkS, show (0 : Int) = ((0 : Nat) : Int) from rfl, h]
  unfold nameB
  cases h : s.all okc <;> simp [h, inameOk.a2q2, inameOk.a2x2, iwithin_ok]

/-! ### paths -/
def pathB (least : Int) (p : List Str) : Bool := p.all nameB && inB p.length least 4
theorem sl2PathOk.l2 (p : List Str) (hp : oP p) : ∀ k, k ≤ p.length → sl2PathOk.L2 (eSs p) (k : Int) = some (bif (p.drop k).all nameB then sl2PathOk.x2 (eSs p) else sl2PathOk.q2 (eSs p) false) := by
  have hl := hp.1
  refine up p.length ?_ fun k hk ih => ?_
  · rw [sl2PathOk.s2]; simp
  · rw [sl2PathOk.s2, drop_cons p k hk, List.all_cons]
    simp only [Int.toNat_natCast, getD_map eS p k hk, wrap_nat k (by omega), ih]
    have h := sl1NameOk_ok p[k] (sL_at hp hk)
    cases hn : nameB p[k] <;> rw [hn] at h <;> simp [hk, eS, h]
theorem sl2PathOk_ok (p : List Str) (hp : oP p) : sl2PathOk [vP p] [] = rB (pathB 1 p) := by
  have h := sl2PathOk.l2 p hp 0 (by omega)
  rw [sl2PathOk.e, show (0 : Int) = ((0 : Nat) : Int) from rfl, h]
  unfold pathB
  cases h : p.all nameB <;> simp [h, sl2PathOk.a2q2, sl2PathOk.a2x2, sl1In_ok]
theorem inamesOk.l2 (p : List Str) (hp : oP p) (least : Int) : ∀ k, k ≤ p.length → inamesOk.L2 (eSs p) least (eSs p) p.length (k : Int) =
    some (bif (p.drop k).all nameB then inamesOk.x2 (eSs p) least else inamesOk.q2 (eSs p) least false) := by
  have hl := hp.1
  refine up p.length ?_ fun k hk ih => ?_
  · rw [inamesOk.s2]; simp
  · rw [inamesOk.s2, drop_cons p k hk, List.all_cons]
    simp only [Int.toNat_natCast, getD_map eS p k hk, wrap_nat k (by omega), ih]
    have h := inameOk_ok p[k] (sL_at hp hk)
    cases hn : nameB p[k] <;> rw [hn] at h <;> simp [hk, eS, h]
theorem inamesOk_ok (p : List Str) (hp : oP p) (least : Int) : inamesOk [vP p, vI least] [] = rB (pathB least p) := by
  have h := inamesOk.l2 p hp least 0 (by omega)
  rw [inamesOk.e]
  simp only [List.length_map]
  rw [show (0 : Int) = ((0 : Nat) : Int) from rfl, h]
  unfold pathB
  cases h : p.all nameB <;> simp [h, inamesOk.a2q2, inamesOk.a2x2, iwithin_ok]

/-! ### the same path -/
def isPre (b a : List Str) : Bool := b.isPrefixOf a
theorem isPre_take (a b : List Str) (h : b.length ≤ a.length) : decide (b = a.take b.length) = isPre b a := by
  unfold isPre
  rw [Bool.eq_iff_iff, decide_eq_true_iff, List.isPrefixOf_iff_prefix, List.prefix_iff_eq_take]
theorem isPre_len (a b : List Str) (h : a.length = b.length) : isPre b a = decide (a = b) := by
  rw [← isPre_take a b (by omega), Bool.eq_iff_iff, decide_eq_true_iff, decide_eq_true_iff, ← h, List.take_length]
  exact ⟨Eq.symm, Eq.symm⟩
/-! ### the order of paths -/
def lessP : List Str → List Str → Bool
  | _, [] => false
  | [], _ :: _ => true
  | x :: a, y :: b => bif x == y then lessP a b else Op.bytesLess x y
def cmpS (a b : Str) : Int := bif Op.bytesLess a b then -1 else bif a == b then 0 else 1
theorem less_irr : ∀ a : Str, Op.bytesLess a a = false := by
  intro a
  induction a with
  | nil => rfl
  | cons x a ih => simp [Op.bytesLess, ih]
/-- What slices.Compare answers. -/
def cmpP : List Str → List Str → Int
  | [], [] => 0
  | [], _ :: _ => -1
  | _ :: _, [] => 1
  | x :: a, y :: b => bif cmpS x y != 0 then cmpS x y else cmpP a b
theorem cmpP_less : ∀ a b : List Str, decide (cmpP a b ≥ 0) = !lessP a b
  | [], [] => rfl
  | [], _ :: _ => rfl
  | _ :: _, [] => rfl
  | x :: a, y :: b => by
    unfold cmpP lessP
    by_cases h : x = y
    · subst h
      have : cmpS x x = 0 := by simp [cmpS, less_irr]
      simp only [this, bne_self_eq_false, cond_false, beq_self_eq_true, cond_true]
      exact cmpP_less a b
    · have h2 : (x == y) = false := by simpa using h
      unfold cmpS
      rw [h2]
      cases Op.bytesLess x y <;> simp
end Go.PVx
/- Trees that are ok. -/
namespace Go.PVx
open Go.PV Go.Proofs

theorem tree_at {ks : List Tree} {k : Nat} (h : k < ks.length) :
    (ks.map eT).getD k [] = [.v (.bool ks[k].dir), .v (.int .i64 ks[k].mode), .v (.string (mkS ks[k].data)), .s (eSs ks[k].names), .s (ks[k].kids.map eT)] := by
  rw [getD_map eT ks k h, eT_eq]
theorem oT_data {t : Tree} (h : oT t) : sS t.data := ((oT_eq t).1 h).1
theorem oT_names {t : Tree} (h : oT t) : oP t.names := ((oT_eq t).1 h).2.1
theorem oT_kids {t : Tree} (h : oT t) : sL oT t.kids := ((oT_eq t).1 h).2.2

/-- Names that are ok, ascending, behind one. -/
def namesB : Option Str → List Str → Bool
  | _, [] => true
  | p, x :: l => nameB x && (match p with | none => true | some y => Op.bytesLess y x) && namesB (some x) l
def prevOf (l : List Str) : Nat → Option Str
  | 0 => none
  | k + 1 => l[k]?
def plainB (t : Tree) : Bool := inB t.mode 0 7 && decide (t.names.length = t.kids.length) && (bif t.dir then namesB none t.names && decide (t.data = []) else decide (t.data.length ≤ 24) && decide (t.names.length = 0))
mutual
def partsB : Int → Tree → Bool
  | d, ⟨a, b, c, e, ks⟩ => plainB ⟨a, b, c, e, ks⟩ && decide (d ≤ 4) && partsBs (d + 1) ks
def partsBs : Int → List Tree → Bool
  | _, [] => true
  | d, t :: ts => partsB d t && partsBs d ts
end
theorem partsBs_all (d : Int) : ∀ l : List Tree, partsBs d l = l.all (partsB d)
  | [] => rfl
  | t :: ts => by rw [partsBs, partsBs_all d ts]; rfl
theorem partsB_eq (d : Int) (t : Tree) : partsB d t = (plainB t && decide (d ≤ 4) && t.kids.all (partsB (d + 1))) := by
  obtain ⟨a, b, c, e, ks⟩ := t
  rw [partsB, partsBs_all]
mutual
/-- How many parts are below. -/
def cnt : Tree → Nat
  | ⟨_, _, _, _, ks⟩ => cnts ks
def cnts : List Tree → Nat
  | [] => 0
  | t :: ts => 1 + cnt t + cnts ts
end
theorem cnts_wL : ∀ l : List Tree, cnts l = wL cnt l
  | [] => rfl
  | t :: ts => by rw [cnts, cnts_wL ts]; rfl
theorem cnt_eq (t : Tree) : cnt t = wL cnt t.kids := by
  obtain ⟨a, b, c, e, ks⟩ := t
  rw [cnt, cnts_wL]
theorem wL_le {α : Type} (v w : α → Nat) : ∀ l : List α, (∀ x ∈ l, v x ≤ w x) → wL v l ≤ wL w l
  | [], _ => Nat.le_refl _
  | x :: l, h => by
    have h1 := h x (by simp)
    have h2 := wL_le v w l fun y hy => h y (List.mem_cons_of_mem _ hy)
    simp only [wL]; omega
theorem cnt_le (t : Tree) : cnt t ≤ wT t := by
  induction t using Tree.ind with
  | h d m s ns ks ih =>
    rw [cnt_eq, wT_eq]
    have := wL_le cnt wT ks ih
    simp only at this ⊢
    omega
def treeB (t : Tree) : Bool := t.dir && partsB 0 t && decide (cnt t ≤ 30)

theorem empty_eq (s : Str) : s.isEmpty = decide (s = []) := by cases s <;> rfl
/-! ### the reference's -/
theorem prev_some {l : List Str} {k : Nat} (h : k < l.length) : prevOf l (k + 1) = some l[k] := by simp [prevOf, h]
/-- The sum of what is below each. -/
def sumC : List Tree → Int
  | [] => 0
  | t :: l => (cnt t : Int) + sumC l
theorem sumC_wL : ∀ l : List Tree, sumC l = (wL cnt l : Int) - l.length
  | [] => rfl
  | t :: l => by simp only [sumC, wL, List.length_cons, sumC_wL l]; omega
/-! ### the program's -/
end Go.PVx
/- Nodes that are ok by themselves. -/
namespace Go.PVx
open Go.PV Go.Proofs

theorem node_at {l : List NodeOf} {k : Nat} (h : k < l.length) : (l.map eN).getD k [] = [.v (.int .i64 l[k].id), .s (eSs l[k].path)] := by
  rw [getD_map eN l k h]; rfl
def oN (n : NodeOf) : Prop := oP n.path
/-- Nodes behind others: ids, paths, their order. -/
def nodesB (nx : Int) : List NodeOf → List NodeOf → Bool
  | _, [] => true
  | pre, x :: l => inB x.id 1 (IntKind.i64.wrap (nx - 1)) && (pathB 1 x.path && ((match pre.getLast? with | none => true | some y => lessP y.path x.path) && (pre.all (fun y => !(y.id == x.id)) && nodesB nx (pre ++ [x]) l)))
def okB (n : Nodes) : Bool := inB n.next 1 10000 && decide (n.list.length ≤ 30) && nodesB n.next [] n.list
theorem last_take {α : Type} {l : List α} {j : Nat} (h : j < l.length) : (l.take (j + 1)).getLast? = some l[j] := by
  rw [take_snoc l j h, List.getLast?_concat]

/-! ### the reference's -/
/-! ### the program's -/
end Go.PVx
/- The paths of a tree. -/
namespace Go.PVx
open Go.PV Go.Proofs

theorem rowsLen_map {α : Type} (f : α → List D) (n : Nat) (h : ∀ x, (f x).length = n) (l : List α) : rowsLen n (l.map f) = true := by
  simp [rowsLen, h]
@[simp] theorem rowsLen_eS (l : List Str) : rowsLen 1 (eSs l) = true := rowsLen_map eS 1 (fun _ => rfl) l
@[simp] theorem rowsLen_ePa (l : List (List Str)) : rowsLen 1 (l.map ePa) = true := rowsLen_map ePa 1 (fun _ => rfl) l
@[simp] theorem rowsLen_eN (l : List NodeOf) : rowsLen 2 (l.map eN) = true := rowsLen_map eN 2 (fun _ => rfl) l
@[simp] theorem rowsCell_eS (b : Bool) (l : List Str) : rowsCell b (eSs l) = true := by simp [rowsCell, eS, cellD, isCell]
@[simp] theorem rowsCell_ePa (l : List (List Str)) : rowsCell true (l.map ePa) = true := by simp [rowsCell, ePa, cellD]
theorem snoc_eS (l : List Str) (s : Str) : eSs l ++ [[D.v (.string (mkS s))]] = eSs (l ++ [s]) := by simp [eS]
theorem snoc_ePa (l : List (List Str)) (p : List Str) : l.map ePa ++ [[D.s (eSs p)]] = (l ++ [p]).map ePa := by simp [ePa]
theorem path_at {l : List (List Str)} {k : Nat} (h : k < l.length) : (l.map ePa).getD k [] = [.s (eSs l[k])] := by
  rw [getD_map ePa l k h]; rfl

mutual
/-- The paths below a part at a path. -/
def pathsT (p : List Str) : Tree → List (List Str)
  | ⟨_, _, _, ns, ks⟩ => pathsZ p ns ks
def pathsZ (p : List Str) : List Str → List Tree → List (List Str)
  | n :: ns, k :: ks => (p ++ [n]) :: (pathsT (p ++ [n]) k ++ pathsZ p ns ks)
  | [], _ => []
  | _ :: _, [] => []
end
theorem pathsT_eq (p : List Str) (t : Tree) : pathsT p t = pathsZ p t.names t.kids := by
  obtain ⟨a, b, c, ns, ks⟩ := t
  rw [pathsT]
theorem partsB_names {d : Int} {t : Tree} (h : partsB d t = true) : t.names.length = t.kids.length := by
  rw [partsB_eq] at h
  simp only [plainB, Bool.and_eq_true, decide_eq_true_eq] at h
  exact h.1.1.1.2
theorem partsB_kid {d : Int} {t : Tree} (h : partsB d t = true) {k : Tree} (hk : k ∈ t.kids) : partsB (d + 1) k = true := by
  rw [partsB_eq] at h
  simp only [Bool.and_eq_true, List.all_eq_true] at h
  exact h.2 k hk
theorem pathsZ_drop (p : List Str) {ns : List Str} {ks : List Tree} {k : Nat} (h1 : k < ns.length) (h2 : k < ks.length) :
    pathsZ p (ns.drop k) (ks.drop k) = (p ++ [ns[k]]) :: (pathsT (p ++ [ns[k]]) ks[k] ++ pathsZ p (ns.drop (k + 1)) (ks.drop (k + 1))) := by
  rw [drop_cons ns k h1, drop_cons ks k h2, pathsZ]
theorem pathsZ_nil (p : List Str) (ns : List Str) (ks : List Tree) (h : ns.length ≤ 0) : pathsZ p ns ks = [] := by
  cases ns with
  | nil => rw [pathsZ]
  | cons => simp at h
theorem pathsT_len (t : Tree) : ∀ (p : List Str) (d : Int), partsB d t = true → (pathsT p t).length = cnt t := by
  induction t using Tree.ind with
  | h a b c ns ks ih =>
    intro p d hp
    have hn := partsB_names hp
    have hk := fun k (h : k ∈ ks) => partsB_kid hp (k := k) h
    simp only at hn
    rw [pathsT_eq, cnt_eq]
    simp only
    clear hp
    induction ks generalizing ns with
    | nil =>
      have : ns = [] := List.eq_nil_of_length_eq_zero hn
      subst this
      simp [pathsZ, wL]
    | cons k ks ihk =>
      cases ns with
      | nil => simp at hn
      | cons n ns =>
        rw [pathsZ, List.length_cons, List.length_append, ih k (by simp) _ (d + 1) (hk k (by simp)), ihk ns (fun k h => ih k (List.mem_cons_of_mem _ h)) (by simpa using hn) (fun k h => hk k (List.mem_cons_of_mem _ h)), wL]
        omega

/-! ### the reference's -/
/-! ### the program's -/
abbrev oB (l : List (List Str)) : PV.Obj := { kind := Kind.box, row := [D.s (l.map ePa)], fl := [Own.deep] }
theorem fitsCos_box (a b : List (List Str)) (n : Nat) : fitsCos [{ ob := oB a, src := Src.box n }] [oB b] = true := by simp
/-! ### nodes and a tree -/
def nodesOkB (n : Nodes) (t : Tree) : Bool := treeB t && okB n && decide (pathsT [] t = n.list.map NodeOf.path)
theorem treeB_parts {t : Tree} (h : treeB t = true) : partsB 0 t = true := by
  simp only [treeB, Bool.and_eq_true] at h; exact h.1.2
theorem pathsT_small (t : Tree) : ∀ (p : List Str) (d : Int), partsB d t = true → wT t ≤ 1048576 → p.length + wT t ≤ 2097152 → ∀ q ∈ pathsT p t, q.length ≤ 2097152 := by
  induction t using Tree.ind with
  | h a b c ns ks ih =>
    intro p d hp hw hpw q hq
    have hn := partsB_names hp
    have hk := fun k (h : k ∈ ks) => partsB_kid hp (k := k) h
    simp only at hn
    rw [pathsT_eq] at hq
    rw [wT_eq] at hw hpw
    simp only at hq hw hpw
    have key : ∀ k, k ≤ ns.length → q ∈ pathsZ p (ns.drop k) (ks.drop k) → q.length ≤ 2097152 := by
      refine up ns.length ?_ fun k hk1 ihk h => ?_
      · intro h; rw [pathsZ_nil p _ _ (by simp)] at h; simp at h
      · have hk2 : k < ks.length := by omega
        have hwk := wL_at wT hk2
        rw [pathsZ_drop p hk1 hk2] at h
        rcases List.mem_cons.1 h with rfl | h
        · simp only [List.length_append, List.length_cons, List.length_nil]; omega
        · rcases List.mem_append.1 h with h | h
          · exact ih ks[k] (List.getElem_mem hk2) _ (d + 1) (hk _ (List.getElem_mem hk2)) (by omega) (by simp only [List.length_append, List.length_cons, List.length_nil]; omega) q h
          · exact ihk h
    exact key 0 (by omega) (by simpa using hq)
end Go.PVx
/- What the laws do with their arguments: how large they are, copies, that they are the same: words for all types; lists of texts. -/
namespace Go.PVx
open Go.PV Go.Proofs

/-- What is left of a room. -/
def szR (w : Nat) (x : Int) : Int := bif decide ((w : Int) ≤ x) then x - w else -1
theorem szR_pos {w : Nat} {x : Int} (h : (w : Int) ≤ x) : szR w x = x - w := by simp [szR, h]
theorem szR_neg {w : Nat} {x : Int} (h : ¬ (w : Int) ≤ x) : szR w x = -1 := by simp [szR, h]
def sumW {α : Type} (w : α → Nat) : List α → Nat
  | [] => 0
  | x :: l => w x + sumW w l
theorem wL_sum {α : Type} (w : α → Nat) : ∀ l : List α, wL w l = l.length + sumW w l
  | [] => rfl
  | x :: l => by simp only [wL, sumW, List.length_cons, wL_sum w l]; omega
theorem szR_add {a b : Nat} {x : Int} (h : (a : Int) ≤ x) : szR (a + b) x = szR b (x - a) := by
  unfold szR
  by_cases h2 : (b : Int) ≤ x - a
  · have h3 : ((a + b : Nat) : Int) ≤ x := by omega
    simp only [h2, h3, decide_true, cond_true]; omega
  · have h3 : ¬ ((a + b : Nat) : Int) ≤ x := by omega
    simp only [h2, h3, decide_false, cond_false]
theorem szR_more {a b : Nat} {x : Int} (h : ¬ (a : Int) ≤ x) : szR (a + b) x = -1 := szR_neg (by omega)
theorem szR_ge {w : Nat} {x : Int} (h : 0 ≤ szR w x) : (w : Int) ≤ x := by
  by_cases h2 : (w : Int) ≤ x
  · exact h2
  · rw [szR_neg h2] at h; omega
theorem szR_le {w : Nat} {x : Int} (hx : 0 ≤ x) : szR w x ≤ x := by
  by_cases h2 : (w : Int) ≤ x
  · rw [szR_pos h2]; omega
  · rw [szR_neg h2]; omega

theorem str_at {l : List Str} {k : Nat} (h : k < l.length) : (eSs l).getD k [] = [.v (.string (mkS l[k]))] := by
  rw [getD_map eS l k h]; rfl
/-! ### copies -/
theorem weqStringS_refl (l : List Str) (hl : l.length ≤ 9223372036854775807) : weqStringS [vP l, vP l] [] = rB true := by
  have key : ∀ k, k ≤ l.length → weqStringS.L4 (eSs l) (eSs l) (k : Int) = some weqStringS.x4 := by
    refine up l.length ?_ fun k hk ih => ?_
    · rw [weqStringS.s4]; simp
    · rw [weqStringS.s4]
      simp only [Int.toNat_natCast, str_at hk, wrap_nat k (by omega), ih]
      simp [hk]
  have h0 : weqStringS.L4 (eSs l) (eSs l) 0 = _ := key 0 (by omega)
  rw [weqStringS.e, h0]
  simp [weqStringS.a4x4]
end Go.PVx
/- What the laws do with nodes and trees. (The lemmas on lists are printed by wip/pv/tool/genlaw.py.) -/
namespace Go.PVx
open Go.PV Go.Proofs
abbrev rNodeOf (a : NodeOf) : Option Res := some ⟨[.v (.int .i64 a.id), .o .deep (eSs a.path)], []⟩
abbrev rNodes (a : Nodes) : Option Res := some ⟨[.v (.int .i64 a.next), .o .deep (a.list.map eN)], []⟩
abbrev rTree (t : Tree) : Option Res := some ⟨[.v (.bool t.dir), .v (.int .i64 t.mode), .v (.string (mkS t.data)), .o .deep (eSs t.names), .o .deep (t.kids.map eT)], []⟩

/-! ### NodeOf: lists -/
/-! ### Tree: lists -/
/-! ### nodes -/
theorem wP_len (p : List Str) : p.length ≤ wP p := wL_len _ p
/-! ### trees -/
end Go.PVx
/- Numbers and paths as texts; nodes as a text; the law FnExactNodesWrite on data. (Over the tables of the seat of doors: PvDTab, PvDRes.) -/
namespace Go.PVx
open Go.PV Go.Proofs

/-- A number's digits. -/
abbrev dec (n : Nat) : Str := Lib.decDigits n
theorem dec_len (n : Nat) (h : n ≤ 1000000) : (dec n).length ≤ 7 := by
  unfold dec
  rw [Lib.decDigits_length]
  by_cases h0 : n = 0
  · subst h0; rw [Lib.nDigits_small (by omega)]; omega
  · have : ∀ (k m : Nat), m < 10 ^ (k + 1) → Lib.nDigits m ≤ k + 1 := by
      intro k
      induction k with
      | zero => intro m hm; rw [Lib.nDigits_small (by simpa using hm)]; omega
      | succ k ih =>
        intro m hm
        by_cases h10 : m < 10
        · rw [Lib.nDigits_small h10]; omega
        · rw [Lib.nDigits_big h10]
          have := ih (m / 10) (by rw [Nat.pow_succ] at hm; omega)
          omega
    exact this 6 n (by omega)
theorem strOf_byte (d : Nat) (h : d < 10) : strOf [[D.v (Value.int IntKind.u8 (IntKind.u8.wrap (IntKind.i64.wrap (48 + (d : Int)))))]] = mkS [UInt8.ofNat (48 + d)] := by
  rw [wrap_in _ (by omega), IntKind.wrap_u8]
  have : (48 + (d : Int)) % 256 = ((48 + d : Nat) : Int) := by omega
  rw [this]
  rfl
theorem sl1Dec_ok : ∀ (n : Nat), n ≤ 1000000 → sl1Dec [vI n] [] = rS (dec n) := by
  intro n
  induction n using Nat.strongRecOn with
  | _ n ih =>
    intro h
    rw [sl1Dec.e]
    have h1 : decide ((n : Int) < -9223372036854775807) = false := decide_eq_false (by omega)
    have h2 : decide ((n : Int) < 0) = false := by simp
    rw [h1, h2]
    simp only [cond_false]
    unfold dec
    rw [Lib.decDigits]
    by_cases h10 : n < 10
    · have h3 : decide ((n : Int) < 10) = true := by simp; omega
      rw [h3, dif_pos h10, cond_true, strOf_byte n h10]
    · have h3 : decide ((n : Int) < 10) = false := by simp; omega
      have hq : (n : Int).tdiv 10 = ((n / 10 : Nat) : Int) := by rw [Int.tdiv_eq_ediv_of_nonneg (by omega)]; omega
      have hr : (n : Int).tmod 10 = ((n % 10 : Nat) : Int) := by rw [Int.tmod_eq_emod_of_nonneg (by omega)]; omega
      have hw : IntKind.i64.wrap ((n / 10 : Nat) : Int) = ((n / 10 : Nat) : Int) := wrap_in _ (by omega)
      have hi := ih (n / 10) (by omega) (by omega)
      have hl := dec_len (n / 10) (by omega)
      unfold dec at hi hl
      have e1 : (Lib.decDigits (n / 10)).length ≤ 70368744177663 := by omega
      rw [h3, dif_neg h10, cond_false, hq, hw, hi, hr, strOf_byte (n % 10) (by omega)]
      simp [e1]
theorem strconv_Itoa_ok (n : Nat) (h : n ≤ 1000000) : strconv_Itoa [vI n] [] = rS (dec n) := by
  rw [strconv_Itoa.ext]
  have h1 : decide (-9223372036854775808 ≤ (n : Int)) = true := decide_eq_true (by omega)
  have h2 : decide ((n : Int) ≤ 9223372036854775807) = true := decide_eq_true (by omega)
  simp only [extItoa, h1, h2, Bool.and_self, cond_true, Lib.itoa_nonneg]
  rfl

/-! ### paths -/
/-- A path's text. -/
def pt (p : List Str) : Str := if p = [] then [47] else Lib.joinTail [47] p
theorem joinTail_len (p : List Str) : (Lib.joinTail [47] p).length = wP p := by
  unfold wP
  induction p with
  | nil => rfl
  | cons x p ih =>
    have : Lib.joinTail [47] (x :: p) = [47] ++ x ++ Lib.joinTail [47] p := by simp [Lib.joinTail]
    rw [this]
    simp only [List.length_append, List.length_cons, List.length_nil, ih, wL]
theorem pt_len (p : List Str) : (pt p).length ≤ 1 + wP p := by
  unfold pt
  split
  · simp
  · rw [joinTail_len]; omega
theorem strRows_eSs : ∀ p : List Str, strRows (eSs p) = some (p.map mkS)
  | [] => rfl
  | x :: p => by
    have := strRows_eSs p
    simp only [List.map_cons, strRows, this]
    rfl
theorem strings_Join_ok (p : List Str) (hp : wP p ≤ 1048576) (h0 : p ≠ []) : strings_Join [vP p, vS [47]] [] = rS (Lib.join p [47]) := by
  rw [strings_Join.ext]
  have hm : (p.map mkS).map (fun x => x.data.toList) = p := by simp [List.map_map, Function.comp_def]
  have hlen : (Lib.join p [47]).length ≤ wP p := by
    cases p with
    | nil => exact absurd rfl h0
    | cons x r =>
      have hj := joinTail_len r
      rw [Lib.join_cons, List.length_append, hj]
      unfold wP
      simp only [wL]; omega
  have hpl := wP_len p
  have e1 : decide ((p.map mkS).length ≤ 140737488355328) = true := by simp; omega
  have e2 : decide ((Lib.join p [47]).length ≤ 140737488355328) = true := by simp; omega
  have hx : joinD (p.map mkS) (mkS [47]) = mkS (Lib.join p [47]) := by
    unfold joinD
    rw [hm]
    rfl
  show extJoin [.one (.s (eSs p)), .one (.v (.string (mkS [47])))] [] = _
  simp only [extJoin, strRows_eSs, e1, hm]
  have hs : (mkS [47]).data.toList = [47] := rfl
  rw [hs, e2]
  simp only [Bool.and_self, cond_true, hx]
theorem ipathText_ok (p : List Str) (hp : wP p ≤ 1048576) : ipathText [vP p] [] = rS (pt p) := by
  rw [ipathText.e]
  cases p with
  | nil => rfl
  | cons x r =>
    have h1 := strings_Join_ok (x :: r) hp (by simp)
    have h2 : (Lib.join (x :: r) [47]).length ≤ 1048576 := by
      have hj := joinTail_len r
      unfold wP at hp hj
      rw [Lib.join_cons, List.length_append, hj]
      simp only [wL] at hp; omega
    have e1 : decide (1 + (Lib.join (x :: r) [47]).length ≤ 70368744177664) = true := by simp; omega
    have h3 : ((((eSs (x :: r)).length : Nat) : Int) == 0) = false := by simp; omega
    have h4 : (ByteArray.mk #[47]) = mkS [47] := rfl
    rw [h3, cond_false, h4, h1]
    have h5 : pt (x :: r) = 47 :: Lib.join (x :: r) [47] := by
      unfold pt
      rw [if_neg (by simp), Lib.join_cons]
      simp [Lib.joinTail]
    rw [h5]
    simp [e1]
theorem sl3Name_ok (p : List Str) (hp : wP p ≤ 1048576) : sl3Name [vP p] [] = rS (pt p) := by
  have hpl := wP_len p
  have hlen := joinTail_len p
  have key : ∀ k, k ≤ p.length → sl3Name.L3 (eSs p) (mkS (Lib.joinTail [47] (p.take k))) (k : Int) = some (sl3Name.x3 (mkS (Lib.joinTail [47] p))) := by
    refine up p.length ?_ fun k hk ih => ?_
    · rw [sl3Name.s3]; simp
    · have hs : Lib.joinTail [47] (p.take (k + 1)) = Lib.joinTail [47] (p.take k) ++ [47] ++ p[k] := Lib.joinTail_take_succ [47] p k p[k] (by simp [hk])
      have hle := Lib.joinTail_take_le [47] p (k + 1)
      rw [hs] at hle
      simp only [List.length_append, List.length_cons, List.length_nil] at hle
      have e1 : decide ((Lib.joinTail [47] (p.take k)).length + 1 ≤ 70368744177664) = true := by simp; omega
      have e2 : decide ((Lib.joinTail [47] (p.take k)).length + 1 + p[k].length ≤ 70368744177664) = true := by simp; omega
      have h4 : (ByteArray.mk #[47]) = mkS [47] := rfl
      rw [hs] at ih
      rw [sl3Name.s3]
      simp only [Int.toNat_natCast, str_at hk, wrap_nat k (by omega), h4, mkS_append, size_mkS, List.getD_cons_zero, str_v, List.length_append, List.length_cons, List.length_nil, e1, e2, ih]
      simp [hk]
  have h0 := key 0 (by omega)
  rw [sl3Name.e]
  have h5 : (ByteArray.mk #[]) = mkS (Lib.joinTail [47] (p.take 0)) := rfl
  rw [h5]
  have h0 : sl3Name.L3 (eSs p) (mkS (Lib.joinTail [47] (p.take 0))) 0 = _ := h0
  rw [h0, Option.bind_some, sl3Name.a3x3, toList_mkS]
  cases p with
  | nil => rfl
  | cons x r =>
    have : Lib.joinTail [47] (x :: r) = 47 :: (x ++ Lib.joinTail [47] r) := by simp [Lib.joinTail]
    simp [pt, this]
end Go.PVx
/- Nodes as a text; the law FnExactNodesWrite on data. -/
namespace Go.PVx
open Go.PV Go.Proofs

def line (a : NodeOf) : Str := dec a.id.toNat ++ [32] ++ pt a.path ++ [10]
def head5 (n : Nodes) : Str := [110, 101, 120, 116, 32] ++ dec n.next.toNat ++ [10]
def linesTo (n : Nodes) (k : Nat) : Str := head5 n ++ ((n.list.take k).map line).flatten
/-- The text of nodes. -/
def nodesText (n : Nodes) : Str := bif okB n then head5 n ++ (n.list.map line).flatten else []
theorem linesTo_succ (n : Nodes) (k : Nat) (h : k < n.list.length) : linesTo n (k + 1) = linesTo n k ++ line n.list[k] := by
  unfold linesTo
  rw [take_snoc n.list k h]
  simp only [List.map_append, List.flatten_append, List.map_cons, List.map_nil, List.flatten_cons, List.flatten_nil, List.append_nil, List.append_assoc]
theorem linesTo_all (n : Nodes) : linesTo n n.list.length = head5 n ++ (n.list.map line).flatten := by simp [linesTo]
theorem inB_iff (a b c : Int) : inB a b c = true ↔ b ≤ a ∧ a ≤ c := by simp [inB]
theorem nodesB_ids (nx : Int) (h0 : 1 ≤ nx) (h1 : nx ≤ 10000) : ∀ (l pre : List NodeOf), nodesB nx pre l = true → ∀ a ∈ l, 1 ≤ a.id ∧ a.id ≤ 10000
  | [], _, _, a, ha => by simp at ha
  | x :: l, pre, h, a, ha => by
    simp only [nodesB, Bool.and_eq_true] at h
    obtain ⟨h2, _, _, _, h3⟩ := h
    rw [wrap_in _ (by omega), inB_iff] at h2
    rcases List.mem_cons.1 ha with rfl | ha
    · omega
    · exact nodesB_ids nx h0 h1 l _ h3 a ha
theorem okB_spec {n : Nodes} (h : okB n = true) : 1 ≤ n.next ∧ n.next ≤ 10000 ∧ n.list.length ≤ 30 ∧ ∀ a ∈ n.list, 1 ≤ a.id ∧ a.id ≤ 10000 := by
  unfold okB at h
  simp only [Bool.and_eq_true, decide_eq_true_eq, inB_iff] at h
  exact ⟨h.1.1.1, h.1.1.2, h.1.2, nodesB_ids _ h.1.1.1 h.1.1.2 _ _ h.2⟩
theorem wNs_mem {n : Nodes} (hw : wNs n ≤ 1048576) {a : NodeOf} (h : a ∈ n.list) : wP a.path ≤ 1048576 := by
  have := wL_mem wN n.list a h
  unfold wNs at hw
  unfold wN at this hw
  omega
theorem line_len {n : Nodes} (hw : wNs n ≤ 1048576) (hk : okB n = true) {a : NodeOf} (h : a ∈ n.list) : (line a).length ≤ 1048586 := by
  obtain ⟨_, _, _, h4⟩ := okB_spec hk
  have h5 := h4 a h
  have h1 := dec_len a.id.toNat (by omega)
  have h2 := pt_len a.path
  have h3 := wNs_mem hw h
  unfold line
  simp only [List.length_append, List.length_cons, List.length_nil]
  omega
theorem linesTo_len {n : Nodes} (hw : wNs n ≤ 1048576) (hk : okB n = true) : ∀ k, k ≤ n.list.length → (linesTo n k).length ≤ 13 + k * 1048586
  | 0, _ => by
    obtain ⟨h1, h2, _, _⟩ := okB_spec hk
    have := dec_len n.next.toNat (by omega)
    simp only [linesTo, head5, List.take_zero, List.map_nil, List.flatten_nil, List.append_nil, List.length_append, List.length_cons, List.length_nil]
    omega
  | k + 1, h => by
    have := linesTo_len hw hk k (by omega)
    have h2 := line_len hw hk (List.getElem_mem (show k < n.list.length by omega))
    rw [linesTo_succ n k (by omega), List.length_append, Nat.succ_mul]
    omega
theorem head_mk (n : Nodes) : (ByteArray.mk #[110, 101, 120, 116, 32]) ++ mkS (dec n.next.toNat) ++ (ByteArray.mk #[10]) = mkS (linesTo n 0) := by
  have h1 : (ByteArray.mk #[110, 101, 120, 116, 32]) = mkS [110, 101, 120, 116, 32] := rfl
  have h2 : (ByteArray.mk #[10]) = mkS [10] := rfl
  rw [h1, h2]
  simp [linesTo, head5]
theorem num_at {a : NodeOf} (h : 1 ≤ a.id) : (a.id : Int) = ((a.id.toNat : Nat) : Int) := by omega

end Go.PVx
/- What the laws write into what they gave and got (mark), and whether it still stands there (held): texts, lists of texts. -/
namespace Go.PVx
open Go.PV Go.Proofs

/-- Marks stay below this. -/
abbrev Top : Int := 1000000000000

theorem bArr (b : ByteArray) : b = mkS b.data.toList := (mkS_of b).symm
theorem strOf_one (n : Int) : (strOf [[D.v (Value.int IntKind.u8 n)]]).size = 1 := rfl
theorem wmarkText.l4 : ∀ (n : Nat) (k : Int) (b : ByteArray), 0 ≤ k → k ≤ 1000000000000 → k < 10 ^ n → b.size + n ≤ 40 → ∃ b' : ByteArray, wmarkText.L4 k b = some (wmarkText.x4 b') ∧ b'.size ≤ 40
  | 0, k, b, h0, ht, h1, h3 => by
    have : k = 0 := by simp at h1; omega
    subst this
    refine ⟨b, ?_, by omega⟩
    rw [wmarkText.s4]
    simp
  | n + 1, k, b, h0, ht, h1, h3 => by
    rw [wmarkText.s4]
    by_cases hk : k > 0
    · have hd : k.tdiv 10 = k / 10 := Int.tdiv_eq_ediv_of_nonneg h0
      have hp : (10 : Int) ^ (n + 1) = 10 ^ n * 10 := Int.pow_succ _ _
      have hq : k / 10 < 10 ^ n := by omega
      have hw : IntKind.i64.wrap (k / 10) = k / 10 := wrap_in _ (by omega)
      have hsz : (strOf [[D.v (Value.int IntKind.u8 (IntKind.u8.wrap (IntKind.i64.wrap (48 + k.tmod 10))))]] ++ b).size = 1 + b.size := by
        rw [ByteArray.size_append, strOf_one]
      obtain ⟨b', h4, h5⟩ := wmarkText.l4 n (k / 10) (strOf [[D.v (Value.int IntKind.u8 (IntKind.u8.wrap (IntKind.i64.wrap (48 + k.tmod 10))))]] ++ b) (by omega) (by omega) hq (by rw [hsz]; omega)
      refine ⟨b', ?_, h5⟩
      rw [hd, hw, h4]
      have h6 : decide (1 + b.size ≤ 70368744177664) = true := by simp; omega
      rw [h6]
      simp [hk]
    · have : k = 0 := by omega
      subst this
      exact ⟨b, by simp, by omega⟩
theorem wmarkText_ex (k : Int) (h0 : 0 ≤ k) (h1 : k ≤ Top) : ∃ s : Str, wmarkText [vI k] [] = rS s := by
  rw [wmarkText.e]
  by_cases hk : k ≤ 0
  · exact ⟨[109, 48], by simp only [hk, decide_true, cond_true]; rfl⟩
  · have hT : Top = 1000000000000 := rfl
    obtain ⟨b', h4, h5⟩ := wmarkText.l4 20 k { data := #[] } (by omega) (by omega) (by omega) (by decide)
    refine ⟨(ByteArray.mk #[109] ++ b').data.toList, ?_⟩
    rw [h4]
    have h6 : decide (1 + b'.size ≤ 70368744177664) = true := by simp; omega
    simp only [hk, decide_false, cond_false, Option.bind_some, wmarkText.a4x4, h6, cond_true]
    rfl
/-- The text of a mark. -/
noncomputable def mt (k : Int) : Str := by
  classical
  exact if h : ∃ s : Str, wmarkText [vI k] [] = rS s then h.choose else []
theorem wmarkText_ok (k : Int) (h0 : 0 ≤ k) (h1 : k ≤ Top) : wmarkText [vI k] [] = rS (mt k) := by
  have h := wmarkText_ex k h0 h1
  unfold mt
  rw [dif_pos h]
  exact h.choose_spec

/-! ### lists of texts -/
noncomputable def mP (k : Int) : List Str → List Str
  | [] => []
  | _ :: l => mt k :: mP (k + 1) l
@[simp] theorem mP_len : ∀ (l : List Str) (k : Int), (mP k l).length = l.length
  | [], _ => rfl
  | _ :: l, k => by simp [mP, mP_len l]
theorem mP_at : ∀ (l : List Str) (k : Int) (i : Nat) (h : i < (mP k l).length), (mP k l)[i] = mt (k + i)
  | [], _, i, h => by simp [mP] at h
  | x :: l, k, 0, h => by simp [mP]
  | x :: l, k, i + 1, h => by
    simp only [mP, List.getElem_cons_succ]
    rw [mP_at l (k + 1) i (by simpa [mP] using h)]
    congr 1; push_cast; omega
abbrev gV (es : List (List D)) : PV.Obj := { kind := Kind.virt, row := [D.s es], fl := [Own.deep] }
/-- What a mark answers. -/
abbrev rM (k : Int) (es : List (List D)) : Option Res := some ⟨[.v (.int .i64 k)], [gV es]⟩
theorem wmarkStringS_ok (l : List Str) (k : Int) (h0 : 0 ≤ k) (h1 : k + l.length ≤ Top) :
    wmarkStringS [.one (.r 0 [] 0), vI k] [gV (eSs l)] = rM (k + l.length) (eSs (mP k l)) := by
  have hT : Top = 1000000000000 := rfl
  have key : ∀ j, j ≤ l.length → ∀ m : List Str, m.length = j → (wmarkStringS.L2 (k + j) (j : Int) (m.map eS ++ (l.drop j).map eS)).bind wmarkStringS.A2 = rM (k + l.length) (eSs (m ++ mP (k + j) (l.drop j))) := by
    refine up l.length ?_ fun j hj ih m hm => ?_
    · intro m hm
      rw [wmarkStringS.s2]
      simp [hm, wmarkStringS.a2x2, mP]
    · have hg := turn_get eS eS l m j hj hm
      have hl := turn_len eS eS l m j (by omega) hm
      have hs := turn_set eS eS l m j hj hm (mt (k + j))
      have ht := wmarkText_ok (k + j) (by omega) (by omega)
      have hw : IntKind.i64.wrap (k + j + 1) = k + j + 1 := wrap_in _ (by omega)
      have := ih (m ++ [mt (k + j)]) (by simp [hm])
      rw [wmarkStringS.s2]
      simp only [Int.toNat_natCast, hg, hl, hw, wrap_nat j (by omega)]
      have hs' : List.set (m.map eS ++ (l.drop j).map eS) j (D.v (Value.string (mkS (mt (k + j)))) :: List.drop 1 (eS l[j])) = _ := hs
      push_cast at this
      rw [show k + ((j : Int) + 1) = k + j + 1 from by omega] at this
      have hd : mP (k + j) (l.drop j) = mt (k + j) :: mP (k + j + 1) (l.drop (j + 1)) := by rw [drop_cons l j hj, mP]
      rw [hd]
      rw [show m ++ mt (k + j) :: mP (k + j + 1) (l.drop (j + 1)) = m ++ [mt (k + j)] ++ mP (k + j + 1) (l.drop (j + 1)) from by simp, ← this]
      have h2 : decide ((j : Int) < (l.length : Int)) = true := by simp; omega
      have h3 : decide ((0 : Int) ≤ (j : Int)) = true := by simp
      have h4 : (eS l[j]).length = 1 := rfl
      simp only [h2, h3, h4, ht, Option.bind_some]
      have h5 : (fitsCells [R1.str] [TC.v (Value.string (mkS (mt (k + j))))]) = true := rfl
      simp only [h5, Bool.and_true, decide_true, Bool.and_self, cond_true, Nat.le_refl, List.getD_cons_zero, tstr_v, hs']
      push_cast
      rfl
  rw [wmarkStringS.e]
  have := key 0 (by omega) [] rfl
  simpa using this
theorem wheldStringS_ok (l : List Str) (k : Int) (h0 : 0 ≤ k) (h1 : k + l.length ≤ Top) : wheldStringS [vP (mP k l), vI k] [] = rI (k + l.length) := by
  have hT : Top = 1000000000000 := rfl
  have hlen := mP_len l k
  have key : ∀ j, j ≤ l.length → (wheldStringS.L2 (eSs (mP k l)) (k + j) (j : Int)).bind wheldStringS.A2 = rI (k + l.length) := by
    refine up l.length ?_ fun j hj ih => ?_
    · rw [wheldStringS.s2]
      simp [wheldStringS.a2x2]
    · have hj' : j < (mP k l).length := by omega
      have ht := wmarkText_ok (k + j) (by omega) (by omega)
      have hw : IntKind.i64.wrap (k + j + 1) = k + j + 1 := wrap_in _ (by omega)
      push_cast at ih
      rw [show k + ((j : Int) + 1) = k + j + 1 from by omega] at ih
      rw [wheldStringS.s2]
      simp only [Int.toNat_natCast, str_at hj', mP_at l k j hj', wrap_nat j (by omega), hw, ht, Option.bind_some]
      rw [← ih]
      simp [hj]
  rw [wheldStringS.e]
  have := key 0 (by omega)
  simpa using this
end Go.PVx
/- mark and held: nodes. -/
namespace Go.PVx
open Go.PV Go.Proofs

/-- How many marks a list of nodes bears. -/
def cN (a : NodeOf) : Nat := 1 + a.path.length
noncomputable def mN (k : Int) (a : NodeOf) : NodeOf := ⟨k, mP (k + 1) a.path⟩
noncomputable def mNs (k : Int) : List NodeOf → List NodeOf
  | [] => []
  | a :: l => mN k a :: mNs (k + cN a) l
@[simp] theorem mNs_len : ∀ (l : List NodeOf) (k : Int), (mNs k l).length = l.length
  | [], _ => rfl
  | _ :: l, k => by simp [mNs, mNs_len l]
theorem sumW_snoc {α : Type} (w : α → Nat) (l : List α) (j : Nat) (h : j < l.length) : sumW w (l.take (j + 1)) = sumW w (l.take j) + w l[j] := by
  rw [take_snoc l j h]
  generalize l.take j = p
  induction p with
  | nil => simp [sumW]
  | cons x p ih => simp only [List.cons_append, sumW, ih]; omega
theorem sumW_le {α : Type} (w : α → Nat) (l : List α) (j : Nat) : sumW w (l.take j) ≤ sumW w l := by
  induction l generalizing j with
  | nil => simp
  | cons x l ih =>
    cases j with
    | zero => simp [sumW]
    | succ j => simp only [List.take_succ_cons, sumW]; have := ih j; omega
theorem mNs_at : ∀ (l : List NodeOf) (k : Int) (i : Nat) (h : i < (mNs k l).length) (h' : i < l.length), (mNs k l)[i] = mN (k + (sumW cN (l.take i) : Nat)) l[i]
  | [], _, i, h, _ => by simp [mNs] at h
  | x :: l, k, 0, h, _ => by simp [mNs, sumW]
  | x :: l, k, i + 1, h, h' => by
    simp only [mNs, List.getElem_cons_succ, List.take_succ_cons, sumW]
    rw [mNs_at l (k + cN x) i (by simpa [mNs] using h) (by simpa using h')]
    congr 1; push_cast; omega
theorem eN_len (a : NodeOf) : (eN a).length = 2 := rfl
theorem getD_set1 (l : List (List D)) (j : Nat) (x : List D) (h : j < l.length) : (l.set j x).getD j [] = x := by
  simp [List.getD_eq_getElem?_getD, h]
noncomputable def mNo (k : Int) (n : Nodes) : Nodes := ⟨n.next, mNs k n.list⟩
end Go.PVx
/- Bytes in hexadecimal. -/
namespace Go.PVx
open Go.PV Go.Proofs

def hexD : Str := [48, 49, 50, 51, 52, 53, 54, 55, 56, 57, 97, 98, 99, 100, 101, 102]
theorem hexD_mk : (ByteArray.mk #[48, 49, 50, 51, 52, 53, 54, 55, 56, 57, 97, 98, 99, 100, 101, 102]) = mkS hexD := rfl
def dig (n : Nat) : UInt8 := hexD.getD n 0
def hexB (b : UInt8) : Str := [dig (b.toNat / 16), dig (b.toNat % 16)]
def hexS (s : Str) : Str := (s.map hexB).flatten
/-- The text of bytes. -/
def dataT (s : Str) : Str := if s = [] then [45] else hexS s
theorem dig_fin : ∀ i : Fin 16, (hexD.take (i.val + 1)).drop i.val = [dig i.val] := by decide
theorem dig_at {i : Nat} (h : i < 16) : (hexD.take (i + 1)).drop i = [dig i] := dig_fin ⟨i, h⟩
theorem hexS_len : ∀ s : Str, (hexS s).length = 2 * s.length
  | [] => rfl
  | b :: s => by
    have : hexS (b :: s) = hexB b ++ hexS s := by simp [hexS]
    rw [this, List.length_append, hexS_len s]
    simp only [hexB, List.length_cons, List.length_nil]; omega
theorem hexS_succ (s : Str) (k : Nat) (h : k < s.length) : hexS (s.take (k + 1)) = hexS (s.take k) ++ hexB s[k] := by
  unfold hexS
  rw [take_snoc s k h]
  simp only [List.map_append, List.flatten_append, List.map_cons, List.map_nil, List.flatten_cons, List.flatten_nil, List.append_nil]
theorem nib (b : UInt8) : (IntKind.u8.wrap ((b.toNat : Int).tdiv 16)) = ((b.toNat / 16 : Nat) : Int) ∧ IntKind.u8.wrap (((b.toNat / 16 : Nat) : Int) + 1) = ((b.toNat / 16 + 1 : Nat) : Int) ∧
    (b.toNat : Int).tmod 16 = ((b.toNat % 16 : Nat) : Int) ∧ IntKind.u8.wrap (((b.toNat % 16 : Nat) : Int) + 1) = ((b.toNat % 16 + 1 : Nat) : Int) ∧ b.toNat / 16 < 16 ∧ b.toNat % 16 < 16 := by
  have hb : b.toNat < 256 := b.toNat_lt
  refine ⟨?_, ?_, ?_, ?_, by omega, by omega⟩
  · rw [IntKind.wrap_u8, Int.tdiv_eq_ediv_of_nonneg (by omega)]; omega
  · rw [IntKind.wrap_u8]; omega
  · rw [Int.tmod_eq_emod_of_nonneg (by omega)]; omega
  · rw [IntKind.wrap_u8]; omega
theorem sl1Hex_ok (s : Str) (hs : s.length ≤ 1048576) : sl1Hex [vS s] [] = rS (dataT s) := by
  have key : ∀ k, k ≤ s.length → sl1Hex.L3 (mkS s) (mkS (hexS (s.take k))) (k : Int) = some (sl1Hex.x3 (mkS (hexS s))) := by
    refine up s.length ?_ fun k hk ih => ?_
    · rw [sl1Hex.s3]; simp
    · obtain ⟨n1, n2, n3, n4, n5, n6⟩ := nib s[k]
      have hl := hexS_len (s.take k)
      rw [List.length_take] at hl
      rw [hexS_succ s k hk] at ih
      have e0 : decide ((k : Int) < (s.length : Int)) = true := by simp; omega
      have e1 : decide ((0 : Int) ≤ (k : Int)) = true := by simp
      have e2 : decide (((s[k].toNat / 16 : Nat) : Int) ≤ ((s[k].toNat / 16 + 1 : Nat) : Int)) = true := decide_eq_true (by omega)
      have e3 : decide (((s[k].toNat / 16 + 1 : Nat) : Int) ≤ ((hexD.length : Nat) : Int)) = true := decide_eq_true (by show _ ≤ ((16 : Nat) : Int); omega)
      have e4 : decide (((s[k].toNat % 16 : Nat) : Int) ≤ ((s[k].toNat % 16 + 1 : Nat) : Int)) = true := decide_eq_true (by omega)
      have e5 : decide (((s[k].toNat % 16 + 1 : Nat) : Int) ≤ ((hexD.length : Nat) : Int)) = true := decide_eq_true (by show _ ≤ ((16 : Nat) : Int); omega)
      have e6 : decide ((hexS (s.take k)).length + 1 ≤ 70368744177664) = true := decide_eq_true (by omega)
      have e7 : decide ((hexS (s.take k)).length + 1 + 1 ≤ 70368744177664) = true := decide_eq_true (by omega)
      have hx : hexS (s.take k) ++ [dig (s[k].toNat / 16)] ++ [dig (s[k].toNat % 16)] = hexS (s.take k) ++ hexB s[k] := by simp [hexB]
      rw [sl1Hex.s3]
      simp only [Int.toNat_natCast, byteAt_lt s k hk, hexD_mk, size_mkS, n1, n2, n3, n4, extract_mkS, dig_at n5, dig_at n6, mkS_append, List.length_append, List.length_cons, List.length_nil, Nat.zero_add, wrap_nat k (by omega), e0, e1, e2, e3, e4, e5, e6, e7, hx, ih]
      rfl
  have h0 : sl1Hex.L3 (mkS s) (mkS (hexS (s.take 0))) 0 = _ := key 0 (by omega)
  have h1 : (ByteArray.mk #[]) = mkS (hexS (s.take 0)) := rfl
  rw [sl1Hex.e, h1, h0, Option.bind_some, sl1Hex.a3x3, toList_mkS]
  unfold dataT
  cases s with
  | nil => rfl
  | cons b s =>
    have : hexS (b :: s) = dig (b.toNat / 16) :: dig (b.toNat % 16) :: hexS s := by simp [hexS, hexB]
    rw [this]
    rfl
def byteRow (b : UInt8) : List D := [.v (.int .u8 (b.toNat : Int))]
theorem strOf_bytes (l : Str) : strOf (l.map byteRow) = mkS l := by
  have key : ∀ (l : Str) (acc : Str), ((l.map byteRow).map fun r => (r.getD 0 .h).int).foldl (fun r n => r.push (UInt8.ofNat n.toNat)) (mkS acc) = mkS (acc ++ l) := by
    intro l
    induction l with
    | nil => intro acc; simp
    | cons b l ih =>
      intro acc
      have hp : (mkS acc).push b = mkS (acc ++ [b]) := by
        show ByteArray.mk (acc.toArray.push b) = ByteArray.mk (acc ++ [b]).toArray
        rw [List.push_toArray]
      have hb : UInt8.ofNat (b.toNat : Int).toNat = b := by simp
      simp only [List.map_cons, List.foldl_cons, byteRow, List.getD_cons_zero, int_v]
      rw [hb, hp]
      have := ih (acc ++ [b])
      simp only [byteRow, List.append_assoc, List.cons_append, List.nil_append] at this
      exact this
  exact key l []
theorem bytesB_bytes (l : Str) : bytesB (l.map byteRow) = true := by
  simp [bytesB, byteRow]
theorem rowsLen_bytes (l : Str) : rowsLen 1 (l.map byteRow) = true := rowsLen_map byteRow 1 (fun _ => rfl) l
theorem ihexOf_ok (s : Str) (hs : s.length ≤ 1048576) : ihexOf [vS s] [] = rS (hexS s) := by
  have key : ∀ k, k ≤ s.length → ihexOf.L3 (mkS s) (k : Int) ((hexS (s.take k)).map byteRow) = some (ihexOf.x3 ((hexS s).map byteRow)) := by
    refine up s.length ?_ fun k hk ih => ?_
    · rw [ihexOf.s3]; simp
    · obtain ⟨n1, n2, n3, n4, n5, n6⟩ := nib s[k]
      have hl := hexS_len (s.take k)
      rw [List.length_take] at hl
      rw [hexS_succ s k hk] at ih
      have e0 : decide ((k : Int) < (s.length : Int)) = true := by simp; omega
      have e1 : decide ((0 : Int) ≤ (k : Int)) = true := by simp
      have e2 : decide (((s[k].toNat / 16 : Nat) : Int) < ((hexD.length : Nat) : Int)) = true := decide_eq_true (by show _ < ((16 : Nat) : Int); omega)
      have e3 : decide (((s[k].toNat % 16 : Nat) : Int) < ((hexD.length : Nat) : Int)) = true := decide_eq_true (by show _ < ((16 : Nat) : Int); omega)
      have e6 : decide ((((hexS (s.take k)).map byteRow).length + 2) * 2 ≤ 70368744177664) = true := decide_eq_true (by rw [List.length_map]; omega)
      have hx : (hexS (s.take k)).map byteRow ++ [[D.v (Value.int IntKind.u8 ((dig (s[k].toNat / 16)).toNat : Int))], [D.v (Value.int IntKind.u8 ((dig (s[k].toNat % 16)).toNat : Int))]] = (hexS (s.take k) ++ hexB s[k]).map byteRow := by
        simp [hexB, byteRow]
      have d1 : byteAt (mkS hexD) (s[k].toNat / 16) = ((dig (s[k].toNat / 16)).toNat : Int) := byteAt_mkS _ _
      have d2 : byteAt (mkS hexD) (s[k].toNat % 16) = ((dig (s[k].toNat % 16)).toNat : Int) := byteAt_mkS _ _
      rw [ihexOf.s3]
      simp only [Int.toNat_natCast, byteAt_lt s k hk, hexD_mk, size_mkS, n1, n3, wrap_nat k (by omega), e0, e1, e2, e3, e6, rowsLen_bytes, d1, d2, hx, ih]
      rfl
  have h0 : ihexOf.L3 (mkS s) 0 [] = _ := key 0 (by omega)
  rw [ihexOf.e, h0, Option.bind_some, ihexOf.a3x3, bytesB_bytes, strOf_bytes]
  rfl
theorem idataText_ok (s : Str) (hs : s.length ≤ 1048576) : idataText [vS s] [] = rS (dataT s) := by
  rw [idataText.e, ihexOf_ok s hs, toList_mkS]
  unfold dataT
  cases s with
  | nil => rfl
  | cons b s => simp
end Go.PVx
/- Calls: whether they are calls, their texts. -/
namespace Go.PVx
open Go.PV Go.Proofs

abbrev rC (c : Call) : Option Res := some ⟨[.v (.int .i64 c.kind), .o .deep (eSs c.path), .o .deep (eSs c.to), .v (.int .i64 c.at), .v (.string (mkS c.data))], []⟩
def wC (c : Call) : Nat := wP c.path + wP c.to + c.data.length
structure OC (c : Call) : Prop where
  path : oP c.path
  to : oP c.to
  data : sS c.data
  lo : -9223372036854775808 ≤ c.at
  hi : c.at ≤ 9223372036854775807
/-- Is it a call? -/
def callB (c : Call) : Bool :=
  if c.kind = 1 ∨ c.kind = 6 then pathB 1 c.path && inB c.at 0 7
  else if c.kind = 2 ∨ c.kind = 3 then pathB 1 c.path && inB c.at 0 24
  else if c.kind = 4 then pathB 1 c.path
  else if c.kind = 5 then pathB 1 c.path && pathB 1 c.to
  else false
theorem iCall_isCall_ok (c : Call) (h : OC c) : iCall_isCall [vC c] [] = rB (callB c) := by
  obtain ⟨k, p, t, a, d⟩ := c
  have h1 := inamesOk_ok p h.path 1
  have h2 := inamesOk_ok t h.to 1
  rw [iCall_isCall.e]
  unfold callB
  simp only [h1, h2, iwithin_ok, imodeOk_ok, iCall_isCall.p2, iCall_isCall.p3, iCall_isCall.p6, iCall_isCall.p9]
  by_cases k1 : k = 1
  · subst k1; cases hb : pathB 1 p <;> simp [inB]
  by_cases k6 : k = 6
  · subst k6; cases hb : pathB 1 p <;> simp [inB]
  by_cases k2 : k = 2
  · subst k2; cases hb : pathB 1 p <;> simp [inB]
  by_cases k3 : k = 3
  · subst k3; cases hb : pathB 1 p <;> simp [inB]
  by_cases k4 : k = 4
  · subst k4; cases hb : pathB 1 p <;> simp [inB]
  by_cases k5 : k = 5
  · subst k5; cases hb : pathB 1 p <;> simp [inB]
  have hn : inB k 1 6 = false := by simp [inB]; omega
  simp [hn, k1, k2, k3, k4, k5, k6]
end Go.PVx
/- Calls: whether they are calls; their texts (both sides). -/
namespace Go.PVx
open Go.PV Go.Proofs

theorem sl2CallOk_ok (c : Call) (h : OC c) : sl2CallOk [vC c] [] = rB (callB c) := by
  obtain ⟨k, p, t, a, d⟩ := c
  have h1 := sl2PathOk_ok p h.path
  have h2 := sl2PathOk_ok t h.to
  rw [sl2CallOk.e]
  unfold callB
  simp (disch := omega) only [pvS, pvT, pvC, pvL, pvR, pvN, h1, h2, sl1In_ok, sl2CallOk.p4, sl2CallOk.p7]
  grind
theorem iCall_isCall_ok' (c : Call) (h : OC c) : iCall_isCall [vC c] [] = rB (callB c) := by
  obtain ⟨k, p, t, a, d⟩ := c
  have h1 := inamesOk_ok p h.path 1
  have h2 := inamesOk_ok t h.to 1
  rw [iCall_isCall.e]
  unfold callB
  simp (disch := omega) only [pvS, pvT, pvC, pvL, pvR, pvN, h1, h2, iwithin_ok, imodeOk_ok, iCall_isCall.p2, iCall_isCall.p3, iCall_isCall.p6, iCall_isCall.p9]
  grind [inB]
def wordK (k : Int) : Str :=
  if k = 1 then [109, 107, 100, 105, 114] else if k = 2 then [119, 114, 105, 116, 101] else if k = 3 then [116, 114, 117, 110, 99, 97, 116, 101]
  else if k = 4 then [114, 101, 109, 111, 118, 101] else if k = 5 then [114, 101, 110, 97, 109, 101] else [99, 104, 109, 111, 100]
def headC (c : Call) : Str := wordK c.kind ++ [32] ++ pt c.path
def tailC (c : Call) : Str :=
  if c.kind = 4 then [] else if c.kind = 5 then [32] ++ pt c.to else if c.kind = 2 then [32] ++ dec c.at.toNat ++ [32] ++ dataT c.data else [32] ++ dec c.at.toNat
/-- A call's text. -/
def callT (c : Call) : Str := if callB c = true ∧ ¬ (c.kind = 2 ∧ 24 < c.data.length) then headC c ++ tailC c else []
theorem callB_spec {c : Call} (hc : callB c = true) : (c.kind = 1 ∨ c.kind = 2 ∨ c.kind = 3 ∨ c.kind = 4 ∨ c.kind = 5 ∨ c.kind = 6) ∧ ((c.kind = 1 ∨ c.kind = 2 ∨ c.kind = 3 ∨ c.kind = 6) → 0 ≤ c.at ∧ c.at ≤ 24) := by
  unfold callB at hc
  split at hc
  · rename_i hk
    simp only [Bool.and_eq_true, inB, decide_eq_true_eq] at hc
    exact ⟨by omega, fun _ => by omega⟩
  split at hc
  · rename_i hk
    simp only [Bool.and_eq_true, inB, decide_eq_true_eq] at hc
    exact ⟨by omega, fun _ => by omega⟩
  split at hc
  · exact ⟨by omega, fun _ => by omega⟩
  split at hc
  · exact ⟨by omega, fun _ => by omega⟩
  · exact absurd hc (by simp)
theorem le_dec (n m : Nat) (h : n ≤ m) : decide (n ≤ m) = true := decide_eq_true h
theorem lim_le (n : Nat) (h : n ≤ 9000000) : decide (n ≤ 70368744177664) = true := decide_eq_true (by omega)
theorem dataT_len (s : Str) : (dataT s).length ≤ 1 + 2 * s.length := by
  unfold dataT
  split
  · simp
  · rw [hexS_len]; omega
theorem strconv_Itoa_any (a : Int) (h0 : -9223372036854775808 ≤ a) (h1 : a ≤ 9223372036854775807) : strconv_Itoa [vI a] [] = rS (Lib.itoa a) := by
  rw [strconv_Itoa.ext]
  have e1 : decide (-9223372036854775808 ≤ a) = true := decide_eq_true h0
  have e2 : decide (a ≤ 9223372036854775807) = true := decide_eq_true h1
  simp only [extItoa, e1, e2, Bool.and_self, cond_true]
  rfl


theorem sl1Dec_int (a : Int) (h0 : 0 ≤ a) (h1 : a ≤ 1000000) : sl1Dec [AV.one (A1.v (Value.int IntKind.i64 a))] [] = rS (dec a.toNat) := by
  have := sl1Dec_ok a.toNat (by omega)
  rwa [show ((a.toNat : Nat) : Int) = a by omega] at this
theorem dec_len_int (a : Int) (h1 : a ≤ 1000000) : (dec a.toNat).length ≤ 7 := dec_len a.toNat (by omega)
theorem sCallText_ok (c : Call) (h : OC c) (hw : wC c ≤ 1048576) : sCallText [vC c] [] = rS (callT c) := by
  have hok := sl2CallOk_ok c h
  have hsp := @callB_spec c
  obtain ⟨k, p, t, a, d⟩ := c
  unfold wC at hw
  simp only at hw hsp
  have hp := pt_len p
  have ht := pt_len t
  have hd := dataT_len d
  have h1 := sl3Name_ok p (by omega)
  have h2 := sl3Name_ok t (by omega)
  have h3 := sl1Hex_ok d (by omega)
  rw [sCallText.e, hok]
  cases hb : callB ⟨k, p, t, a, d⟩ with
  | false => simp (disch := omega) only [pvS, pvT, pvC, pvL, pvR, pvN, callT, hb]; rfl
  | true =>
    have hk1 := (hsp hb).1
    have hk := (hsp hb).2
    clear hsp
    have hl := dec_len_int a
    rcases hk1 with rfl | rfl | rfl | rfl | rfl | rfl
    all_goals
      simp (disch := omega) only [pvS, pvT, pvC, pvL, pvR, pvN, sCallText.p2, sCallText.p3, sCallText.p8, sl42Words.e, h1, h2, h3, sl1Dec_int]
      simp [callT, headC, tailC, wordK, hb]
    grind
theorem iCallText_ok (c : Call) (h : OC c) (hw : wC c ≤ 1048576) : iCallText [vC c] [] = rS (callT c) := by
  have hok := iCall_isCall_ok' c h
  have hI := strconv_Itoa_any c.at h.lo h.hi
  have hsp := @callB_spec c
  obtain ⟨k, p, t, a, d⟩ := c
  unfold wC at hw
  simp only at hw hsp hI
  have hp := pt_len p
  have ht := pt_len t
  have hd := dataT_len d
  have h1 := ipathText_ok p (by omega)
  have h2 := ipathText_ok t (by omega)
  have h3 := idataText_ok d (by omega)
  rw [iCallText.e, hok]
  cases hb : callB ⟨k, p, t, a, d⟩ with
  | false => simp (disch := omega) only [pvS, pvT, pvC, pvL, pvR, pvN, callT, hb]; rfl
  | true =>
    have hk1 := (hsp hb).1
    have hk := (hsp hb).2
    clear hsp
    have hl := dec_len_int a
    have hD : 0 ≤ a → a ≤ 24 → Lib.itoa a = dec a.toNat := fun h0 h1 => by
      have := strconv_Itoa_ok a.toNat (by omega)
      rw [show ((a.toNat : Nat) : Int) = a by omega, hI] at this
      simpa using this
    rcases hk1 with rfl | rfl | rfl | rfl | rfl | rfl
    all_goals
      simp (disch := omega) only [pvS, pvT, pvC, pvL, pvR, pvN, iCallText.p7, h1, h2, h3, hI, hD]
      simp [callT, headC, tailC, wordK, hb]
    all_goals grind
end Go.PVx
/- Texts that are cut at a byte. -/
namespace Go.PVx
open Go.PV Go.Proofs

/-- A text's pieces between the places of a byte. -/
def cutAt (b : UInt8) : Str → List Str
  | [] => [[]]
  | c :: s => if c = b then [] :: cutAt b s else ((c :: (cutAt b s).headD []) :: (cutAt b s).tail)
theorem cutAt_ne (b : UInt8) : ∀ s, cutAt b s ≠ []
  | [] => by simp [cutAt]
  | c :: s => by unfold cutAt; split <;> simp
theorem cutAt_cons (b : UInt8) (s : Str) : cutAt b s = (cutAt b s).headD [] :: (cutAt b s).tail := by
  cases h : cutAt b s with
  | nil => exact absurd h (cutAt_ne b s)
  | cons x l => rfl
theorem index_one_nil (b : UInt8) : Lib.index [] [b] = -1 := rfl
theorem index_one_eq (b : UInt8) (s : Str) : Lib.index (b :: s) [b] = 0 := by simp [Lib.index]
theorem index_one_ne (b c : UInt8) (s : Str) (h : c ≠ b) : Lib.index (c :: s) [b] = if Lib.index s [b] == -1 then -1 else Lib.index s [b] + 1 := by
  have : ([b] : List UInt8).isPrefixOf (c :: s) = false := by show ((b == c) && _) = false; rw [beq_eq_false_iff_ne.2 (Ne.symm h)]; rfl
  simp only [Lib.index, this]
  rfl
/-- strings.Split at one byte. -/
theorem splitK_one (b : UInt8) : ∀ (s : Str), Lib.splitK [b] 0 (Lib.count s [b]) s = cutAt b s
  | [] => by
    rw [Lib.count_miss (index_one_nil b)]
    rfl
  | c :: s => by
    have ih := splitK_one b s
    by_cases h : c = b
    · subst h
      rw [Lib.count_cons_eq, Nat.add_comm, Lib.splitK, index_one_eq]
      simp only [cutAt, if_true]
      rw [if_neg (by decide)]
      have : List.drop ((0 : Int).toNat + [c].length) (c :: s) = s := rfl
      rw [this, ih]
      rfl
    · rw [Lib.count_cons_ne c b s h]
      have hi := index_one_ne b c s h
      cases hc : Lib.count s [b] with
      | zero =>
        rw [hc] at ih
        have h1 : Lib.splitK [b] 0 0 s = [s] := rfl
        rw [h1] at ih
        rw [cutAt, if_neg h, ← ih]
        rfl
      | succ k =>
        rw [hc] at ih
        have hne : Lib.index s [b] ≠ -1 := fun h0 => by rw [Lib.count_miss h0] at hc; exact absurd hc (by simp)
        have hge := Lib.index_ge s [b]
        obtain ⟨i, hi0⟩ : ∃ i : Nat, Lib.index s [b] = i := ⟨(Lib.index s [b]).toNat, by omega⟩
        rw [hi0] at hi hne
        have hb : ((i : Int) == -1) = false := beq_eq_false_iff_ne.2 hne
        rw [hb] at hi
        rw [cutAt, if_neg h, ← ih, Lib.splitK, Lib.splitK, hi, hi0, hb]
        have hb2 : (((i : Int) + 1) == -1) = false := beq_eq_false_iff_ne.2 (by omega)
        simp only [Bool.false_eq_true, if_false, hb2]
        have e1 : ((i : Int) + 1).toNat = i + 1 := by omega
        simp only [e1, Int.toNat_natCast, List.headD_cons, List.tail_cons, List.length_cons, List.length_nil, Nat.add_zero, Nat.zero_add]
        rw [show i + 1 + 1 = (i + 1) + 1 from rfl, List.take_succ_cons, List.drop_succ_cons]
theorem splitB_one (b : UInt8) (s : Str) : Lib.splitB (mkS [b]) 0 (Lib.countB (mkS s) (mkS [b])) (mkS s) = (cutAt b s).map mkS := by
  have h1 := Lib.splitB_data (mkS [b]) 0 (Lib.countB (mkS s) (mkS [b])) (mkS s)
  have h2 : Lib.countB (mkS s) (mkS [b]) = Lib.count s [b] := rfl
  have h3 : (mkS s).data.toList = s := by simp
  have h4 : (mkS [b]).data.toList = [b] := rfl
  rw [h3, h4, h2, splitK_one] at h1
  rw [h2, ← h1, List.map_map]
  have : (mkS ∘ fun x : ByteArray => x.data.toList) = id := by funext x; exact mkS_of x
  rw [this, List.map_id]
theorem strings_Split_ok (s : Str) (b : UInt8) (hs : s.length ≤ 1048576) : strings_Split [vS s, vS [b]] [] = some ⟨[.o .deep (eSs (cutAt b s))], []⟩ := by
  rw [strings_Split.ext]
  have e1 : decide ((mkS s).size < 4294967281) = true := by simp; omega
  have e2 : decide (1 ≤ (mkS [b]).size) = true := rfl
  simp only [extSplit, e1, e2, Bool.and_self, cond_true, splitB_one]
  simp [eSs, eS, List.map_map, Function.comp_def]
theorem cutAt_len (b : UInt8) : ∀ s : Str, (cutAt b s).length ≤ s.length + 1
  | [] => by simp [cutAt]
  | c :: s => by
    have := cutAt_len b s
    unfold cutAt
    split
    · simp; omega
    · simp; omega
theorem cutAt_pos (b : UInt8) (s : Str) : 1 ≤ (cutAt b s).length := by
  rw [cutAt_cons]; simp
/-- The reference's. -/
def glue (p : Str) (l : List Str) : List Str := (p ++ l.headD []) :: l.tail
theorem sl1Cut_ok (s : Str) (b : UInt8) (hs : s.length ≤ 1048576) : sl1Cut [vS s, .one (.v (.int .u8 b.toNat))] [] = some ⟨[.o .deep (eSs (cutAt b s))], []⟩ := by
  have key : ∀ i, i ≤ s.length → ∀ (f : Nat) (acc : List Str), f ≤ i → acc.length ≤ f → (sl1Cut.L4 (mkS s) b.toNat (f : Int) (i : Int) (eSs acc)).bind sl1Cut.A4 = some ⟨[.o .deep (eSs (acc ++ glue ((s.take i).drop f) (cutAt b (s.drop i))))], []⟩ := by
    have rl : ∀ l : List Str, rowsLen 1 (eSs l) = true := fun l => by simp [rowsLen, eSs, eS]
    have sn : ∀ (l : List Str) (x : Str), eSs l ++ [[D.v (.string (mkS x))]] = eSs (l ++ [x]) := fun l x => by simp [eSs, eS]
    refine up s.length ?_ fun i hi ih => ?_
    · intro f acc hf ha
      rw [sl1Cut.s4]
      have e1 : decide (((f : Nat) : Int) ≤ (s.length : Int)) = true := by simp; omega
      have e2 : decide ((acc.length + 1) * 17 ≤ 70368744177664) = true := by simp; omega
      have e3 : (eSs acc).length = acc.length := by simp
      simp only [size_mkS, Int.lt_irrefl, decide_false, cond_false, Option.bind_some, sl1Cut.a4x4, e1, e2, e3, rl, Int.toNat_natCast, extract_mkS]
      simp [sn, glue, cutAt]
    · intro f acc hf ha
      have hb : (s.drop i) = s[i] :: s.drop (i + 1) := drop_cons s i hi
      have hw : IntKind.i64.wrap ((i : Int) + 1) = ((i + 1 : Nat) : Int) := wrap_nat i (by omega)
      have e1 : decide (((f : Nat) : Int) ≤ (i : Int)) = true := by simp; omega
      have e2 : decide ((acc.length + 1) * 17 ≤ 70368744177664) = true := by simp; omega
      have e3 : (eSs acc).length = acc.length := by simp
      have e4 : decide ((i : Int) < (s.length : Int)) = true := by simp; omega
      have e5 : decide ((i : Int) ≤ (s.length : Int)) = true := by simp; omega
      have e6 : decide ((0 : Int) ≤ (i : Int)) = true := by simp
      have e7 : decide ((0 : Int) ≤ (f : Int)) = true := by simp
      rw [sl1Cut.s4]
      simp only [size_mkS, e1, e2, e3, e4, e5, e6, e7, rl, Int.toNat_natCast, byteAt_lt s i hi, extract_mkS, hw, Bool.and_self, cond_true, sn]
      by_cases h : s[i] = b
      · have hbe : (((s[i].toNat : Nat) : Int) == ((b.toNat : Nat) : Int)) = true := by simp [h]
        rw [hbe, cond_true, ih (i + 1) _ (by omega) (by simp; omega)]
        have : cutAt b (s.drop i) = [] :: cutAt b (s.drop (i + 1)) := by rw [hb, cutAt, if_pos h]
        rw [this]
        have h0 : (s.take (i + 1)).drop (i + 1) = [] := by simp
        rw [h0]
        simp only [glue, List.headD_cons, List.tail_cons, List.append_nil, List.nil_append, List.append_assoc, List.cons_append]
        rw [← cutAt_cons]
      · have hbe : (((s[i].toNat : Nat) : Int) == ((b.toNat : Nat) : Int)) = false := by
          refine beq_eq_false_iff_ne.2 fun h1 => h (UInt8.toNat_inj.1 (by omega))
        rw [hbe, cond_false, ih f acc (by omega) ha]
        have : cutAt b (s.drop i) = (s[i] :: (cutAt b (s.drop (i + 1))).headD []) :: (cutAt b (s.drop (i + 1))).tail := by rw [hb, cutAt, if_neg h]
        rw [this]
        have h1 : (s.take (i + 1)).drop f = (s.take i).drop f ++ [s[i]] := by
          rw [take_snoc s i hi, List.drop_append_of_le_length (by simp; omega)]
        rw [h1]
        simp [glue]
  rw [sl1Cut.e]
  have := key 0 (by omega) 0 [] (by omega) (by simp)
  have h0 : (sl1Cut.L4 (mkS s) b.toNat 0 0 []).bind sl1Cut.A4 = _ := this
  rw [h0]
  simp only [glue, List.take_zero, List.drop_zero, List.drop_nil, List.nil_append]
  rw [← cutAt_cons]
end Go.PVx
/- The text of nodes, read again. -/
namespace Go.PVx
open Go.PV Go.Proofs

theorem cutAt_at (b : UInt8) (y : Str) : ∀ x : Str, b ∉ x → cutAt b (x ++ b :: y) = x :: cutAt b y
  | [], _ => by simp [cutAt]
  | c :: x, h => by
    have hc : c ≠ b := fun e => h (by simp [e])
    have ih := cutAt_at b y x (fun e => h (by simp [e]))
    rw [List.cons_append, cutAt, if_neg hc, ih]
    rfl
theorem cutAt_no (b : UInt8) : ∀ x : Str, b ∉ x → cutAt b x = [x]
  | [], _ => rfl
  | c :: x, h => by
    have hc : c ≠ b := fun e => h (by simp [e])
    have ih := cutAt_no b x (fun e => h (by simp [e]))
    rw [cutAt, if_neg hc, ih]
    rfl
theorem cutAt_list (b : UInt8) : ∀ l : List Str, (∀ x ∈ l, b ∉ x) → cutAt b (l.map fun x => x ++ [b]).flatten = l ++ [[]]
  | [], _ => rfl
  | x :: l, h => by
    have ih := cutAt_list b l fun y hy => h y (by simp [hy])
    rw [List.map_cons, List.flatten_cons, List.append_assoc, List.singleton_append, cutAt_at b _ x (h x (by simp)), ih]
    rfl
/-- A path's text at its slashes. -/
theorem cutAt_tail : ∀ p : List Str, p ≠ [] → (∀ x ∈ p, (47 : UInt8) ∉ x) → cutAt 47 (Lib.joinTail [47] p) = [] :: p
  | [], h, _ => absurd rfl h
  | [x], _, h => by
    have : Lib.joinTail [47] [x] = [] ++ 47 :: x := by simp [Lib.joinTail]
    rw [this, cutAt_at 47 x [] (by simp), cutAt_no 47 x (h x (by simp))]
  | x :: y :: p, _, h => by
    have ih := cutAt_tail (y :: p) (by simp) fun z hz => h z (by simp only [List.mem_cons] at hz ⊢; exact .inr hz)
    have e1 : Lib.joinTail [47] (x :: y :: p) = [] ++ 47 :: (x ++ Lib.joinTail [47] (y :: p)) := by simp [Lib.joinTail]
    have e2 : Lib.joinTail [47] (y :: p) = 47 :: (y ++ Lib.joinTail [47] p) := by simp [Lib.joinTail]
    have e3 : cutAt 47 (y ++ Lib.joinTail [47] p) = y :: p := by
      have := ih
      rw [e2] at this
      rw [cutAt, if_pos rfl] at this
      exact (List.cons.inj this).2
    rw [e1, cutAt_at 47 _ [] (by simp), e2, cutAt_at 47 _ x (h x (by simp)), e3]

/-! ### names, numbers -/
theorem okc_ne {b : UInt8} (h : okc b = true) : b ≠ 10 ∧ b ≠ 32 ∧ b ≠ 47 := by
  refine ⟨?_, ?_, ?_⟩ <;> (rintro rfl; simp [okc] at h)
theorem name_no {s : Str} (h : nameB s = true) : (10 : UInt8) ∉ s ∧ (32 : UInt8) ∉ s ∧ (47 : UInt8) ∉ s := by
  simp only [nameB, Bool.and_eq_true, List.all_eq_true] at h
  exact ⟨fun e => (okc_ne (h.1 _ e)).1 rfl, fun e => (okc_ne (h.1 _ e)).2.1 rfl, fun e => (okc_ne (h.1 _ e)).2.2 rfl⟩
theorem dec_digit (n : Nat) : ∀ c ∈ dec n, 48 ≤ c.toNat ∧ c.toNat ≤ 57 := by
  induction n using Nat.strongRecOn with
  | _ n ih =>
    intro c hc
    unfold dec at hc ih
    rw [Lib.decDigits] at hc
    split at hc
    · rename_i h
      simp only [List.mem_singleton] at hc
      subst hc
      rw [UInt8.toNat_ofNat']
      omega
    · rename_i h
      rcases List.mem_append.1 hc with h1 | h1
      · exact ih (n / 10) (by omega) c h1
      · simp only [List.mem_singleton] at h1
        subst h1
        rw [UInt8.toNat_ofNat']
        omega
theorem dec_no (n : Nat) : (10 : UInt8) ∉ dec n ∧ (32 : UInt8) ∉ dec n ∧ (47 : UInt8) ∉ dec n := by
  refine ⟨fun h => ?_, fun h => ?_, fun h => ?_⟩ <;> (have := dec_digit n _ h; simp at this)
theorem tail_no (b : UInt8) (hb : b ≠ 47) : ∀ p : List Str, (∀ x ∈ p, b ∉ x) → b ∉ Lib.joinTail [47] p
  | [], _ => by simp [Lib.joinTail]
  | x :: p, h => by
    have ih := tail_no b hb p fun y hy => h y (by simp [hy])
    have : Lib.joinTail [47] (x :: p) = 47 :: (x ++ Lib.joinTail [47] p) := by simp [Lib.joinTail]
    rw [this]
    simp only [List.mem_cons, List.mem_append, not_or]
    exact ⟨hb, h x (by simp), ih⟩

/-! ### the reference's reading of a number -/
def valS : Int → Str → Int
  | a, [] => a
  | a, c :: r => if (c.toNat : Int) < 48 ∨ (c.toNat : Int) > 57 then -1 else valS (a * 10 + ((c.toNat : Int) - 48)) r
def numS (s : Str) : Int := if inB s.length 1 5 = false ∨ (1 < s.length ∧ s.headD 0 = 48) then -1 else valS 0 s
theorem sl21In_ok (a b c : Int) : sl21In [vI a, vI b, vI c] [] = rB (inB a b c) := by
  rw [sl21In.e]
  unfold inB
  by_cases h1 : b ≤ a <;> by_cases h2 : a ≤ c <;> simp [h1, h2]
theorem sl22Num_ok (s : Str) (hs : s.length ≤ 1048576) : sl22Num [vS s] [] = rI (numS s) := by
  rw [sl22Num.e, size_mkS, sl21In_ok]
  unfold numS
  cases h5 : inB s.length 1 5 with
  | false => simp [sl22Num.p2]
  | true =>
    rw [inB_iff] at h5
    have key : ∀ k, k ≤ s.length → ∀ a : Int, 0 ≤ a → a < 10 ^ k → (sl22Num.L5 (mkS s) a (k : Int)).bind sl22Num.A5 = rI (valS a (s.drop k)) := by
      refine up s.length ?_ fun k hk ih => ?_
      · intro a _ _
        rw [sl22Num.s5]; simp [sl22Num.a5x5, valS]
      · intro a h0 h1
        have e4 : decide ((k : Int) < (s.length : Int)) = true := by simp; omega
        have e6 : decide ((0 : Int) ≤ (k : Int)) = true := by simp
        have hp : (10 : Int) ^ k ≤ 10 ^ 5 := by
          have : k ≤ 5 := by omega
          have := Nat.pow_le_pow_right (show 0 < 10 by omega) this
          exact_mod_cast this
        rw [sl22Num.s5, drop_cons s k hk, valS]
        have hc := s[k].toNat_lt
        simp only [size_mkS, e4, e6, Bool.and_self, cond_true, Int.toNat_natCast, byteAt_lt s k hk, sl22Num.p8, sl22Num.p9, wrap_nat k (by omega)]
        by_cases h2 : (s[k].toNat : Int) < 48
        · simp [h2, sl22Num.a5q5]
        · by_cases h3 : (s[k].toNat : Int) > 57
          · simp [h2, h3, sl22Num.a5q5]
          · have w1 : IntKind.u8.wrap ((s[k].toNat : Int) - 48) = (s[k].toNat : Int) - 48 := by rw [IntKind.wrap_u8]; omega
            have w2 : IntKind.i64.wrap (a * 10) = a * 10 := wrap_in _ (by omega)
            have w3 : IntKind.i64.wrap ((s[k].toNat : Int) - 48) = (s[k].toNat : Int) - 48 := wrap_in _ (by omega)
            have w4 : IntKind.i64.wrap (a * 10 + ((s[k].toNat : Int) - 48)) = a * 10 + ((s[k].toNat : Int) - 48) := wrap_in _ (by omega)
            have ih := ih (a * 10 + ((s[k].toNat : Int) - 48)) (by omega) (by rw [Int.pow_succ]; omega)
            rw [show ((k + 1 : Nat) : Int) = (k : Int) + 1 from by omega] at ih
            simp [h2, h3, w1, w2, w3, w4, ih]
    have k0 := key 0 (by omega) 0 (by omega) (by simp)
    have k0 : (sl22Num.L5 (mkS s) 0 0).bind sl22Num.A5 = rI (valS 0 s) := k0
    by_cases h1 : 1 < s.length
    · have hb : byteAt (mkS s) 0 = ((s.headD 0).toNat : Int) := by
        have := byteAt_lt s 0 (by omega)
        rw [this]
        cases s with
        | nil => simp at h1
        | cons c r => rfl
      have h1' : (1 : Int) < (s.length : Int) := by omega
      have h0 : (0 : Int) < (s.length : Int) := by omega
      by_cases h2 : s.headD 0 = 48
      · have h3 : (((s.headD 0).toNat : Int) == 48) = true := by rw [h2]; rfl
        rw [if_pos (.inr ⟨h1, h2⟩)]
        simp only [decide_eq_true (show (s.length : Int) > 1 from h1'), decide_eq_true h0, hb, h3, sl22Num.p2]
        simp
      · have h3 : (((s.headD 0).toNat : Int) == 48) = false := by
          refine beq_eq_false_iff_ne.2 fun h3 => h2 (UInt8.toNat_inj.1 ?_)
          have : (48 : UInt8).toNat = 48 := rfl
          omega
        rw [if_neg (by simp only [Bool.true_eq_false, false_or]; exact fun h => h2 h.2)]
        simp only [decide_eq_true (show (s.length : Int) > 1 from h1'), decide_eq_true h0, hb, h3, sl22Num.p2, sl22Num.p3]
        simp [k0]
    · have h1' : ¬ (s.length : Int) > 1 := by omega
      rw [if_neg (by simp only [Bool.true_eq_false, false_or]; exact fun h => h1 h.1)]
      simp only [decide_eq_false h1', sl22Num.p2, sl22Num.p3]
      simp [k0]
end Go.PVx
/- Numbers, written and read again. -/
namespace Go.PVx
open Go.PV Go.Proofs

def digN (a : Nat) (l : Str) : Nat := l.foldl (fun a c => a * 10 + (c.toNat - 48)) a
theorem dec_small {n : Nat} (h : n < 10) : dec n = [UInt8.ofNat (48 + n)] := by
  unfold dec; rw [Lib.decDigits, dif_pos h]
theorem dec_big {n : Nat} (h : ¬ n < 10) : dec n = dec (n / 10) ++ [UInt8.ofNat (48 + n % 10)] := by
  show Lib.decDigits n = Lib.decDigits (n / 10) ++ _
  rw [Lib.decDigits, dif_neg h]
theorem digN_dec (n : Nat) : digN 0 (dec n) = n := by
  induction n using Nat.strongRecOn with
  | _ n ih =>
    by_cases h : n < 10
    · rw [dec_small h]
      simp only [digN, List.foldl_cons, List.foldl_nil, UInt8.toNat_ofNat']
      omega
    · have := ih (n / 10) (by omega)
      rw [dec_big h]
      unfold digN at this ⊢
      rw [List.foldl_append, this]
      simp only [List.foldl_cons, List.foldl_nil, UInt8.toNat_ofNat']
      omega
theorem valS_dig : ∀ (l : Str) (a : Nat), (∀ c ∈ l, 48 ≤ c.toNat ∧ c.toNat ≤ 57) → valS (a : Int) l = (digN a l : Nat)
  | [], a, _ => rfl
  | c :: l, a, h => by
    have hc := h c (by simp)
    have ih := valS_dig l (a * 10 + (c.toNat - 48)) fun d hd => h d (by simp [hd])
    rw [valS, if_neg (by omega)]
    have e : (a : Int) * 10 + ((c.toNat : Int) - 48) = ((a * 10 + (c.toNat - 48) : Nat) : Int) := by omega
    rw [e, ih]
    rfl
theorem dec_len5 (n : Nat) (h : n ≤ 99999) : 1 ≤ (dec n).length ∧ (dec n).length ≤ 5 := by
  have key : ∀ (k m : Nat), m < 10 ^ (k + 1) → 1 ≤ (dec m).length ∧ (dec m).length ≤ k + 1 := by
    intro k
    induction k with
    | zero => intro m hm; rw [dec_small (by simpa using hm)]; simp
    | succ k ih =>
      intro m hm
      by_cases h10 : m < 10
      · rw [dec_small h10]; simp
      · have := ih (m / 10) (by rw [Nat.pow_succ] at hm; omega)
        rw [dec_big h10]
        simp only [List.length_append, List.length_cons, List.length_nil]
        omega
  exact key 4 n (by omega)
theorem dec_head (n : Nat) (h : 1 ≤ n) : (dec n).headD 0 ≠ 48 := by
  induction n using Nat.strongRecOn with
  | _ n ih =>
    by_cases h10 : n < 10
    · rw [dec_small h10]
      intro e
      have e := congrArg UInt8.toNat e
      simp only [List.headD_cons, UInt8.toNat_ofNat'] at e
      have : (48 : UInt8).toNat = 48 := rfl
      omega
    · have h1 := ih (n / 10) (by omega) (by omega)
      rw [dec_big h10]
      cases hd : dec (n / 10) with
      | nil =>
        rw [hd] at h1
        have : 1 ≤ (dec (n / 10)).length := by
          unfold dec
          rw [Lib.decDigits]
          split <;> simp
        rw [hd] at this
        simp at this
      | cons c r => rw [hd] at h1; exact h1
theorem numS_dec (n : Nat) (h : 1 ≤ n) (h2 : n ≤ 10000) : numS (dec n) = n := by
  have hl := dec_len5 n (by omega)
  unfold numS
  rw [if_neg, ← Int.natCast_zero, valS_dig (dec n) 0 (dec_digit n), digN_dec]
  simp only [not_or, not_and]
  refine ⟨?_, fun _ => dec_head n h⟩
  have : inB ((dec n).length : Int) 1 5 = true := by rw [inB_iff]; omega
  simp [this]
theorem parse_dig : ∀ (l : Str) (a : Nat), (∀ c ∈ l, 48 ≤ c.toNat ∧ c.toNat ≤ 57) → (a + 1) * 10 ^ l.length ≤ 10 ^ 18 → Lib.parseUint10 a l = .ok (digN a l) ∧ digN a l < 10 ^ 18
  | [], a, _, h => ⟨rfl, by simp only [digN, List.foldl_nil, List.length_nil, Nat.pow_zero, Nat.mul_one] at h ⊢; omega⟩
  | c :: l, a, hd, h => by
    have hc := hd c (by simp)
    have h10 : 1 ≤ 10 ^ l.length := Nat.pow_pos (by omega)
    rw [List.length_cons, Nat.pow_succ] at h
    have h3 : (a * 10 + (c.toNat - 48) + 1) * 10 ^ l.length ≤ 10 ^ 18 := by
      refine Nat.le_trans (Nat.mul_le_mul_right _ (show a * 10 + (c.toNat - 48) + 1 ≤ (a + 1) * 10 by omega)) ?_
      rw [Nat.mul_assoc, Nat.mul_comm 10]; exact h
    have h4 : a * 10 + (c.toNat - 48) + 1 ≤ 10 ^ 18 := by
      refine Nat.le_trans ?_ h3
      exact Nat.le_mul_of_pos_right _ h10
    obtain ⟨h5, h6⟩ := parse_dig l (a * 10 + (c.toNat - 48)) (fun d hd' => hd d (by simp [hd'])) h3
    have e : digN a (c :: l) = digN (a * 10 + (c.toNat - 48)) l := rfl
    rw [e, Lib.parseUint10, if_pos hc, if_neg (by omega), if_neg (by omega)]
    exact ⟨h5, h6⟩
theorem atoiN_dec (n : Nat) (h : n ≤ 99999) : atoiN (dec n) = n := by
  have hl := dec_len5 n h
  have hd := dec_digit n
  obtain ⟨h1, h2⟩ := parse_dig (dec n) 0 hd (by
    refine Nat.le_trans (Nat.mul_le_mul_left _ (Nat.pow_le_pow_right (by omega) (show (dec n).length ≤ 18 by omega))) ?_
    omega)
  rw [digN_dec] at h1
  cases hx : dec n with
  | nil => rw [hx] at hl; simp at hl
  | cons c r =>
    have hc := hd c (by rw [hx]; simp)
    have h3 : Lib.atoiAll (c :: r) = .ok (n : Int) := by
      rw [hx] at h1
      rw [Lib.atoiAll_plain c r (by omega) (by omega)]
      have hm : Lib.parseMag (c :: r) = .ok n := by
        unfold Lib.parseMag
        rw [if_neg (by simp)]
        exact h1
      rw [hm]
      simp only [Lib.signless]
      rw [if_neg (by omega)]
    unfold atoiN
    rw [h3]
end Go.PVx
/- Both readings of nodes; they agree. -/
namespace Go.PVx
open Go.PV Go.Proofs

def cutSp (s : Str) : Str × Str := ((Lib.cut s [32]).1, (Lib.cut s [32]).2.1)
theorem index_at (b : UInt8) (y : Str) : ∀ x : Str, b ∉ x → Lib.index (x ++ b :: y) [b] = x.length
  | [], _ => index_one_eq b y
  | c :: x, h => by
    have hc : c ≠ b := fun e => h (by simp [e])
    have ih := index_at b y x (fun e => h (by simp [e]))
    rw [List.cons_append, index_one_ne b c _ hc, ih]
    have : ((x.length : Int) == -1) = false := beq_eq_false_iff_ne.2 (by omega)
    rw [this]
    simp
theorem cutSp_at (x y : Str) (h : (32 : UInt8) ∉ x) : cutSp (x ++ 32 :: y) = (x, y) := by
  unfold cutSp Lib.cut
  rw [index_at 32 y x h, if_pos (by omega)]
  simp
def pathI (s : Str) : List Str := if Lib.trimPrefix s [47] = [] then [] else cutAt 47 (Lib.trimPrefix s [47])
theorem pathI_pt (p : List Str) (h0 : p ≠ []) (hn : ∀ x ∈ p, nameB x = true) : pathI (pt p) = p := by
  have h1 := cutAt_tail p h0 fun x hx => (name_no (hn x hx)).2.2
  have h2 : pt p = Lib.joinTail [47] p := by unfold pt; rw [if_neg h0]
  obtain ⟨t, ht⟩ : ∃ t, Lib.joinTail [47] p = 47 :: t := by
    cases p with
    | nil => exact absurd rfl h0
    | cons x r => exact ⟨x ++ Lib.joinTail [47] r, by simp [Lib.joinTail]⟩
  rw [ht, cutAt, if_pos rfl] at h1
  have h1 := (List.cons.inj h1).2
  have h3 : Lib.trimPrefix (pt p) [47] = t := by
    rw [h2, ht]
    simp [Lib.trimPrefix, Lib.hasPrefix]
  unfold pathI
  rw [h3, if_neg, h1]
  intro e
  rw [e] at h1
  have h4 : p = [[]] := h1.symm
  have := hn [] (by rw [h4]; simp)
  simp [nameB, inB] at this

def parseI : List Str → Nodes
  | [] => ⟨0, []⟩
  | l :: ls => ⟨atoiN (cutSp l).2, ls.map fun l => ⟨atoiN (cutSp l).1, pathI (cutSp l).2⟩⟩
def parseS : Nat → Int → List NodeOf → List Str → Option Nodes
  | _, nx, acc, [] => some ⟨nx, acc⟩
  | i, nx, acc, l :: ls =>
    if (cutAt 32 l).length ≠ 2 ∨ 30 < i then none
    else if i = 0 then parseS (i + 1) (numS ((cutAt 32 l).getD 1 [])) acc ls
    else parseS (i + 1) nx (acc ++ [⟨numS ((cutAt 32 l).getD 0 []), (cutAt 47 ((cutAt 32 l).getD 1 [])).drop 1⟩]) ls
def linesT (s : Str) : List Str := (cutAt 10 s).dropLast
def RI (s : Str) : Option Nodes := if s ≠ [] ∧ nodesText (parseI (linesT s)) = s then some (parseI (linesT s)) else none
def RS (s : Str) : Option Nodes := match parseS 0 0 [] (linesT s) with
  | some n => if okB n = true ∧ nodesText n = s then some n else none
  | none => none

theorem nodesB_paths (nx : Int) : ∀ (l pre : List NodeOf), nodesB nx pre l = true → ∀ a ∈ l, pathB 1 a.path = true
  | [], _, _, a, ha => by simp at ha
  | x :: l, pre, h, a, ha => by
    simp only [nodesB, Bool.and_eq_true] at h
    obtain ⟨_, h2, _, _, h3⟩ := h
    rcases List.mem_cons.1 ha with rfl | ha
    · exact h2
    · exact nodesB_paths nx l _ h3 a ha
theorem pathB_spec {p : List Str} (h : pathB 1 p = true) : p ≠ [] ∧ ∀ x ∈ p, nameB x = true := by
  simp only [pathB, Bool.and_eq_true, List.all_eq_true, inB_iff] at h
  exact ⟨fun e => by rw [e] at h; simp at h, h.1⟩
def lnb (a : NodeOf) : Str := dec a.id.toNat ++ 32 :: pt a.path
def hdb (n : Nodes) : Str := [110, 101, 120, 116] ++ 32 :: dec n.next.toNat
theorem nodesText_lines (n : Nodes) (h : okB n = true) : nodesText n = ((hdb n :: n.list.map lnb).map fun x => x ++ [10]).flatten := by
  unfold nodesText
  rw [h, cond_true]
  simp only [List.map_cons, List.flatten_cons, List.map_map]
  have e1 : hdb n ++ [10] = head5 n := by simp [head5, hdb]
  have e2 : n.list.map line = n.list.map ((fun x => x ++ [10]) ∘ lnb) := List.map_congr_left fun a _ => by simp [line, lnb]
  rw [e1, e2]
theorem ok_all {n : Nodes} (h : okB n = true) : ∀ a ∈ n.list, (1 ≤ a.id ∧ a.id ≤ 10000) ∧ a.path ≠ [] ∧ ∀ x ∈ a.path, nameB x = true := fun a ha => by
  obtain ⟨_, _, _, h4⟩ := okB_spec h
  refine ⟨h4 a ha, pathB_spec ?_⟩
  unfold okB at h
  simp only [Bool.and_eq_true] at h
  exact nodesB_paths _ _ _ h.2 a ha
theorem pt_no (b : UInt8) (hb : b ≠ 47) {p : List Str} (h0 : p ≠ []) (h : ∀ x ∈ p, b ∉ x) : b ∉ pt p := by
  unfold pt
  rw [if_neg h0]
  exact tail_no b hb p h
theorem lines_text (n : Nodes) (h : okB n = true) : linesT (nodesText n) = hdb n :: n.list.map lnb := by
  have ha := ok_all h
  unfold linesT
  rw [nodesText_lines n h, cutAt_list 10, List.dropLast_concat]
  intro x hx
  rcases List.mem_cons.1 hx with rfl | hx
  · simp only [hdb, List.mem_append, List.mem_cons, List.not_mem_nil, or_false, not_or]
    exact ⟨⟨by decide, by decide, by decide, by decide⟩, by decide, (dec_no _).1⟩
  · obtain ⟨a, h1, rfl⟩ := List.mem_map.1 hx
    obtain ⟨_, h2, h3⟩ := ha a h1
    simp only [lnb, List.mem_append, List.mem_cons, not_or]
    exact ⟨(dec_no _).1, by decide, pt_no 10 (by decide) h2 fun y hy => (name_no (h3 y hy)).1⟩
theorem parseI_text (n : Nodes) (h : okB n = true) : parseI (linesT (nodesText n)) = n := by
  obtain ⟨h1, h2, h3, h4⟩ := okB_spec h
  have ha := ok_all h
  rw [lines_text n h]
  have e1 : cutSp (hdb n) = ([110, 101, 120, 116], dec n.next.toNat) := cutSp_at _ _ (by decide)
  have e2 : (n.list.map lnb).map (fun l => (⟨atoiN (cutSp l).1, pathI (cutSp l).2⟩ : NodeOf)) = n.list := by
    rw [List.map_map]
    refine (List.map_congr_left (g := id) fun a hx => ?_).trans (List.map_id _)
    obtain ⟨h5, h6, h7⟩ := ha a hx
    have e3 : cutSp (lnb a) = (dec a.id.toNat, pt a.path) := cutSp_at _ _ (dec_no _).2.1
    have e4 : ((a.id.toNat : Nat) : Int) = a.id := by omega
    simp only [Function.comp_def, e3, atoiN_dec a.id.toNat (by omega), pathI_pt a.path h6 h7, e4, id]
  have e4 : ((n.next.toNat : Nat) : Int) = n.next := by omega
  simp only [parseI, e1, e2, atoiN_dec n.next.toNat (by omega), e4]
theorem parseS_list (nx : Int) : ∀ (l acc : List NodeOf) (i : Nat), 1 ≤ i → i + l.length ≤ 31 → (∀ a ∈ l, (1 ≤ a.id ∧ a.id ≤ 10000) ∧ a.path ≠ [] ∧ ∀ x ∈ a.path, nameB x = true) → parseS i nx acc (l.map lnb) = some ⟨nx, acc ++ l⟩
  | [], acc, i, _, _, _ => by simp [parseS]
  | a :: l, acc, i, h1, h2, h => by
    obtain ⟨h5, h6, h7⟩ := h a (by simp)
    have ih := parseS_list nx l (acc ++ [a]) (i + 1) (by omega) (by simp at h2; omega) fun x hx => h x (by simp [hx])
    have e3 : cutAt 32 (lnb a) = [dec a.id.toNat, pt a.path] := by
      unfold lnb
      rw [cutAt_at 32 _ _ (dec_no _).2.1, cutAt_no 32 _ (pt_no 32 (by decide) h6 fun y hy => (name_no (h7 y hy)).2.1)]
    have e4 : ((a.id.toNat : Nat) : Int) = a.id := by omega
    have e5 : (cutAt 47 (pt a.path)).drop 1 = a.path := by
      have : pt a.path = Lib.joinTail [47] a.path := by unfold pt; rw [if_neg h6]
      rw [this, cutAt_tail a.path h6 fun x hx => (name_no (h7 x hx)).2.2]
      rfl
    rw [List.map_cons, parseS, e3]
    rw [if_neg (by simp at h2 ⊢; omega), if_neg (by omega)]
    simp only [List.getD_cons_zero, List.getD_cons_succ, e5, numS_dec a.id.toNat (by omega) (by omega), e4]
    have : (⟨a.id, a.path⟩ : NodeOf) = a := rfl
    rw [this, ih]
    simp
theorem parseS_text (n : Nodes) (h : okB n = true) : parseS 0 0 [] (linesT (nodesText n)) = some n := by
  obtain ⟨h1, h2, h3, h4⟩ := okB_spec h
  rw [lines_text n h, parseS]
  have e3 : cutAt 32 (hdb n) = [[110, 101, 120, 116], dec n.next.toNat] := by
    unfold hdb
    rw [cutAt_at 32 _ _ (by decide), cutAt_no 32 _ (dec_no _).2.1]
  have e4 : ((n.next.toNat : Nat) : Int) = n.next := by omega
  rw [e3, if_neg (by simp), if_pos rfl]
  simp only [List.getD_cons_zero, List.getD_cons_succ, numS_dec n.next.toNat (by omega) (by omega), e4]
  rw [parseS_list n.next n.list [] 1 (by omega) (by omega) (ok_all h)]
  rfl
theorem text_ok {n : Nodes} {s : Str} (h : nodesText n = s) (hs : s ≠ []) : okB n = true := by
  unfold nodesText at h
  cases hk : okB n with
  | true => rfl
  | false => rw [hk, cond_false] at h; exact absurd h.symm hs
theorem text_ne {n : Nodes} (h : okB n = true) : nodesText n ≠ [] := by
  rw [nodesText_lines n h]
  simp [hdb]
/-- Both read the same. -/
theorem RI_RS (s : Str) : RI s = RS s := by
  unfold RI
  split
  · rename_i h
    have hk := text_ok h.2 h.1
    have h2 := parseS_text _ hk
    rw [h.2] at h2
    unfold RS
    rw [h2]
    simp only [hk, h.2, and_self, if_true]
  · rename_i h
    unfold RS
    split
    · rename_i n hn
      split
      · rename_i h2
        have h3 := parseI_text n h2.1
        rw [h2.2] at h3
        refine absurd ⟨?_, by rw [h3]; exact h2.2⟩ h
        rw [← h2.2]
        exact text_ne h2.1
      · rfl
    · rfl
end Go.PVx
/- The program's reading of nodes. -/
namespace Go.PVx
open Go.PV Go.Proofs

/-! ### sizes -/
theorem wL_cut (b : UInt8) : ∀ s : Str, wL List.length (cutAt b s) = s.length + 1
  | [] => rfl
  | c :: s => by
    have ih := wL_cut b s
    unfold cutAt
    split
    · simp only [wL, ih, List.length_nil, List.length_cons]; omega
    · rw [cutAt_cons b s] at ih
      simp only [wL, List.length_cons] at ih ⊢
      omega
theorem wL_dropLast {α : Type} (w : α → Nat) : ∀ l : List α, wL w l.dropLast ≤ wL w l - 1
  | [] => by simp [wL]
  | [x] => by simp [wL]
  | x :: y :: l => by
    have ih := wL_dropLast w (y :: l)
    simp only [List.dropLast_cons_cons, wL] at ih ⊢
    omega
theorem wL_lines (s : Str) : wL List.length (linesT s) ≤ s.length := by
  have h1 := wL_cut 10 s
  have h2 := wL_dropLast List.length (cutAt 10 s)
  unfold linesT
  omega
theorem oP_of {p : List Str} (h : wP p ≤ 1048576) : oP p := by
  unfold wP at h
  refine ⟨?_, fun x hx => ?_⟩
  · have := wL_len List.length p; omega
  · have := wL_mem List.length p x hx
    unfold sS
    omega
theorem oN_of {n : Nodes} (h : wNs n ≤ 1048576) : sL oN n.list := by
  unfold wNs at h
  refine ⟨?_, fun x hx => ?_⟩
  · have := wL_len wN n.list; omega
  · have := wL_mem wN n.list x hx
    unfold wN at this h
    exact oP_of (by omega)
def nodeI (l : Str) : NodeOf := ⟨atoiN (cutSp l).1, pathI (cutSp l).2⟩
theorem cutSp_len (l : Str) : (cutSp l).1.length ≤ l.length ∧ ((cutSp l).2 = [] ∨ (cutSp l).2.length + 1 ≤ l.length) := by
  unfold cutSp Lib.cut
  split
  · rename_i h
    have := Lib.index_room l [32] h
    simp only [List.length_take, List.length_drop, List.length_cons, List.length_nil] at this ⊢
    omega
  · exact ⟨Nat.le_refl _, .inl rfl⟩
theorem trim_len (s p : Str) : (Lib.trimPrefix s p).length ≤ s.length := by
  unfold Lib.trimPrefix
  split
  · simp
  · exact Nat.le_refl _
theorem nodeI_w (l : Str) : wN (nodeI l) ≤ l.length := by
  have h1 := trim_len (cutSp l).2 [47]
  unfold wN nodeI pathI wP
  rcases (cutSp_len l).2 with h | h
  · rw [h]
    have : Lib.trimPrefix [] [47] = [] := rfl
    rw [this, if_pos rfl]
    simp [wL]
  · simp only
    split
    · simp [wL]
    · rw [wL_cut]; omega
theorem wL_map_le {α β : Type} (w : β → Nat) (v : α → Nat) (f : α → β) (h : ∀ a, w (f a) ≤ v a) : ∀ l : List α, wL w (l.map f) ≤ wL v l
  | [] => by simp [wL]
  | x :: l => by
    have := wL_map_le w v f h l
    have := h x
    simp only [List.map_cons, wL]
    omega
theorem parseI_w (s : Str) : wNs (parseI (linesT s)) ≤ s.length := by
  have h := wL_lines s
  unfold wNs
  cases hl : linesT s with
  | nil => simp [parseI, wL]
  | cons x ls =>
    rw [hl] at h
    have h2 := wL_map_le wN List.length nodeI nodeI_w ls
    simp only [wL] at h
    show wL wN (ls.map nodeI) ≤ _
    omega

/-! ### the library's -/
theorem inumRead_ok (l : Str) (hl : l.length ≤ 1048576) : inumRead [vS l] [] = rI (atoiN l) := by
  have h : strconv_Atoi [vS l] [] = some ⟨[.v (.int .i64 (atoiN l)), .d], []⟩ := by
    rw [strconv_Atoi.ext]
    have e1 : decide ((mkS l).size ≤ 281474976710656) = true := by simp; omega
    have h3 : (mkS l).data.toList = l := by simp
    simp only [extAtoi, e1, cond_true, h3]
  rw [inumRead.e, h]
  rfl
theorem ipathRead_ok (l : Str) (hl : l.length ≤ 1048576) : ipathRead [vS l] [] = some ⟨[.o .deep (eSs (pathI l))], []⟩ := by
  have h : strings_TrimPrefix [vS l, vS [47]] [] = rS (Lib.trimPrefix l [47]) := by
    rw [strings_TrimPrefix.ext]
    have h3 : (mkS l).data.toList = l := by simp
    have h4 : (mkS [47]).data.toList = [47] := rfl
    simp only [extTrimPrefix, h3, h4]
    rfl
  have b1 : (ByteArray.mk #[47]) = mkS [47] := rfl
  have ht := trim_len l [47]
  have hS := strings_Split_ok (Lib.trimPrefix l [47]) 47 (by omega)
  rw [ipathRead.e, b1, h]
  unfold pathI
  by_cases h0 : Lib.trimPrefix l [47] = []
  · simp [h0]
  · have hi : (Lib.trimPrefix l [47]).isEmpty = false := by cases h : Lib.trimPrefix l [47] with
      | nil => exact absurd h h0
      | cons x r => rfl
    simp [h0, hS, hi, fitsCells, TC.es]

/-! ### the loop -/
def finI (s : Str) (n : Nodes) : Option Res := if s ≠ [] ∧ nodesText n = s then some ⟨[.v (.int .i64 n.next), .o .deep (n.list.map eN), .v (.bool true)], []⟩ else some ⟨[.v (.int .i64 0), .o .deep [], .v (.bool false)], []⟩
theorem rl2 (l : List NodeOf) : rowsLen 2 (l.map eN) = true := by simp [rowsLen, eN]
end Go.PVx
/- The reference's reading of nodes. -/
namespace Go.PVx
open Go.PV Go.Proofs

/-! ### sizes -/
theorem cut2_w {l x y : Str} (h : cutAt 32 l = [x, y]) : x.length + y.length + 1 = l.length := by
  have := wL_cut 32 l
  rw [h] at this
  simp only [wL] at this
  omega
def nodeS (l : Str) : NodeOf := ⟨numS ((cutAt 32 l).getD 0 []), (cutAt 47 ((cutAt 32 l).getD 1 [])).drop 1⟩
theorem wL_drop1 {α : Type} (w : α → Nat) (l : List α) : wL w (l.drop 1) ≤ wL w l := by
  cases l with
  | nil => simp
  | cons x l => simp [wL]
theorem nodeS_w {l : Str} (h : (cutAt 32 l).length = 2) : wN (nodeS l) ≤ l.length := by
  obtain ⟨x, y, hxy⟩ : ∃ x y, cutAt 32 l = [x, y] := by
    match hc : cutAt 32 l, h with
    | [x, y], _ => exact ⟨x, y, rfl⟩
  have h1 := cut2_w hxy
  have h2 := wL_drop1 List.length (cutAt 47 y)
  have h3 := wL_cut 47 y
  unfold wN nodeS wP
  simp only [hxy, List.getD_cons_zero, List.getD_cons_succ]
  omega

/-! ### the loop -/
def finS (s : Str) : Option Nodes → Option Res
  | some n => if okB n = true ∧ nodesText n = s then some ⟨[.v (.int .i64 n.next), .o .deep (n.list.map eN), .v (.bool true)], []⟩ else some ⟨[.v (.int .i64 0), .o .deep [], .v (.bool false)], []⟩
  | none => some ⟨[.v (.int .i64 0), .o .deep [], .v (.bool false)], []⟩
theorem nthC {s : Str} {i : Nat} (h : i < (linesT s).length) : (eSs (cutAt 10 s)).getD i [] = [D.v (.string (mkS (linesT s)[i]))] := by
  have hl : (linesT s).length = (cutAt 10 s).length - 1 := by simp [linesT]
  have h2 : i < (cutAt 10 s).length := by omega
  rw [getD_map eS (cutAt 10 s) i h2]
  have : (linesT s)[i] = (cutAt 10 s)[i] := by simp [linesT]
  rw [this]
  rfl
theorem lenC (s : Str) : (cutAt 10 s).length = (linesT s).length + 1 := by
  have := cutAt_pos 10 s
  simp [linesT]
  omega
theorem cut32 (l : Str) (h : l.length ≤ 1048576) : sl1Cut [vS l, .one (.v (.int .u8 32))] [] = some ⟨[.o .deep (eSs (cutAt 32 l))], []⟩ := sl1Cut_ok l 32 h
theorem cut47 (l : Str) (h : l.length ≤ 1048576) : sl1Cut [vS l, .one (.v (.int .u8 47))] [] = some ⟨[.o .deep (eSs (cutAt 47 l))], []⟩ := sl1Cut_ok l 47 h
end Go.PVx
/- Bytes in hexadecimal are read. -/
namespace Go.PVx
open Go.PV Go.Proofs

def nibV (x : Int) : Int := if 48 ≤ x ∧ x ≤ 57 then x - 48 else if 97 ≤ x ∧ x ≤ 102 then x - 87 else if 65 ≤ x ∧ x ≤ 70 then x - 55 else -1
def digV (x : Int) : Int := if 48 ≤ x ∧ x ≤ 57 then x - 48 else if 97 ≤ x ∧ x ≤ 102 then x - 87 else 99
theorem inibble_ok (x : Int) (h0 : 0 ≤ x) (h1 : x ≤ 255) : inibble [AV.one (A1.v (Value.int .u8 x))] [] = rI (nibV x) := by
  rw [inibble.e]
  unfold nibV
  by_cases a : 48 ≤ x <;> by_cases b : x ≤ 57 <;> by_cases c : 97 ≤ x <;> by_cases d : x ≤ 102 <;> by_cases e : 65 ≤ x <;> by_cases f : x ≤ 70 <;>
    first | omega | (simp (disch := omega) only [pvS, pvT, pvC, pvL, pvR, pvN, inibble.p2, inibble.p4, inibble.p6]; simp [a, b, c, d, e, f]; try omega)
theorem sl1Digit_ok (x : Int) (h0 : 0 ≤ x) (h1 : x ≤ 255) : sl1Digit [AV.one (A1.v (Value.int .u8 x))] [] = rI (digV x) := by
  rw [sl1Digit.e]
  unfold digV
  by_cases a : 48 ≤ x <;> by_cases b : x ≤ 57 <;> by_cases c : 97 ≤ x <;> by_cases d : x ≤ 102 <;>
    first | omega | (simp (disch := omega) only [pvS, pvT, pvC, pvL, pvR, pvN, sl1Digit.p2, sl1Digit.p4]; simp [a, b, c, d]; try omega)
theorem nibV_le (x : Int) : -1 ≤ nibV x ∧ nibV x ≤ 15 := by unfold nibV; (repeat' split) <;> omega
theorem digV_le (x : Int) : 0 ≤ digV x ∧ (digV x ≤ 15 ∨ digV x = 99) := by unfold digV; (repeat' split) <;> omega
def hx (a b : Int) : UInt8 := UInt8.ofNat (16 * a + b).toNat
theorem hx_row (a b : Int) (h : 0 ≤ 16 * a + b) (h2 : 16 * a + b ≤ 255) : [D.v (Value.int .u8 (16 * a + b))] = byteRow (hx a b) := by
  unfold byteRow hx
  rw [UInt8.toNat_ofNat', Nat.mod_eq_of_lt (by omega), Int.toNat_of_nonneg h]
def unhexI : Str → Str
  | a :: b :: s => if 0 ≤ nibV a.toNat ∧ 0 ≤ nibV b.toNat then hx (nibV a.toNat) (nibV b.toNat) :: unhexI s else []
  | _ => []
theorem unhexI_len : ∀ s : Str, (unhexI s).length ≤ s.length
  | [] => by simp [unhexI]
  | [a] => by simp [unhexI]
  | a :: b :: s => by
    have := unhexI_len s
    unfold unhexI
    split <;> simp <;> omega
theorem two {α : Type} (s : List α) (k : Nat) (h : k + 1 < s.length) : s.drop k = s[k] :: s[k + 1] :: s.drop (k + 2) := by
  rw [drop_cons s k (by omega), drop_cons s (k + 1) h]
theorem iunhex_l (s : Str) (hs : s.length ≤ 1048576) : ∀ (n k : Nat) (acc : Str), s.length - k ≤ n → k ≤ s.length → acc.length ≤ k →
    iunhex.L3 (mkS s) (k : Int) (acc.map byteRow) = some (iunhex.x3 ((acc ++ unhexI (s.drop k)).map byteRow)) := by
  intro n
  induction n with
  | zero =>
    intro k acc h1 h2 h3
    rw [iunhex.s3]
    simp (disch := omega) only [pvS, pvT, pvC, pvL, pvR, pvN]
    rw [show s.drop k = [] from List.drop_eq_nil_of_le (by omega), unhexI.eq_2 _ (by simp), List.append_nil]
  | succ n ih =>
    intro k acc h1 h2 h3
    by_cases h : k + 1 < s.length
    · have b1 : s[k].toNat < 256 := s[k].toNat_lt
      have b2 : s[k + 1].toNat < 256 := s[k + 1].toNat_lt
      have n1 := nibV_le s[k].toNat
      have n2 := nibV_le s[k + 1].toNat
      have e2 : (k : Int) + 2 = ((k + 2 : Nat) : Int) := rfl
      rw [two s k h, unhexI]
      by_cases c1 : 0 ≤ nibV s[k].toNat
      · by_cases c2 : 0 ≤ nibV s[k + 1].toNat
        · have := ih (k + 2) (acc ++ [hx (nibV s[k].toNat) (nibV s[k + 1].toNat)]) (by omega) (by omega) (by simp; omega)
          rw [iunhex.s3]
          simp (disch := omega) only [pvS, pvT, pvC, pvL, pvR, pvN, inibble_ok, iunhex.p5, rowsLen_bytes, hx_row, e2]
          simp only [List.map_append, List.map_cons, List.map_nil, List.append_assoc, List.singleton_append] at this
          rw [this, if_pos ⟨c1, c2⟩, List.map_append, List.map_cons]
        · rw [iunhex.s3]
          simp (disch := omega) only [pvS, pvT, pvC, pvL, pvR, pvN, inibble_ok]
          rw [if_neg (fun h => c2 h.2), List.append_nil]
      · rw [iunhex.s3]
        simp (disch := omega) only [pvS, pvT, pvC, pvL, pvR, pvN, inibble_ok]
        rw [if_neg (fun h => c1 h.1), List.append_nil]
    · rw [iunhex.s3]
      simp (disch := omega) only [pvS, pvT, pvC, pvL, pvR, pvN]
      have : unhexI (s.drop k) = [] := by
        have hl : (s.drop k).length ≤ 1 := by simp; omega
        match hd : s.drop k, hl with
        | [], _ => rfl
        | [a], _ => rfl
      rw [this, List.append_nil]
theorem idataRead_ok (s : Str) (hs : s.length ≤ 1048576) : idataRead [vS s] [] = rS (unhexI s) := by
  have h := iunhex_l s hs s.length 0 [] (by omega) (by omega) (by simp)
  have h0 : iunhex [vS s] [] = rS (unhexI s) := by
    rw [iunhex.e]
    have h' : iunhex.L3 (mkS s) 0 [] = _ := h
    rw [h', Option.bind_some, iunhex.a3x3]
    simp only [List.nil_append, List.drop_zero, bytesB_bytes, strOf_bytes, cond_true]
  rw [idataRead.e, h0]
  simp (disch := omega) only [pvS, pvT, pvC, pvL, pvR, pvN]
def bytesV : Str → Option Str
  | [] => some []
  | [_] => none
  | a :: b :: s => if digV a.toNat ≤ 15 ∧ digV b.toNat ≤ 15 then (bytesV s).map (hx (digV a.toNat) (digV b.toNat) :: ·) else none
def bytesS (s : Str) : Option Str := if s = [45] then some [] else if s.length % 2 = 1 ∨ s = [] then none else bytesV s
def rBy (o : Option Str) : Option Res := some ⟨[.v (.string (mkS (o.getD []))), .v (.bool o.isSome)], []⟩
theorem sl1Bytes_l (s : Str) (hs : s.length ≤ 1048576) (hp : s.length % 2 = 0) : ∀ (n k : Nat) (acc : Str), s.length - k ≤ n → k ≤ s.length → k % 2 = 0 → acc.length ≤ k →
    (sl1Bytes.L7 (mkS s) (k : Int) (acc.map byteRow)).bind sl1Bytes.A7 = rBy ((bytesV (s.drop k)).map (acc ++ ·)) := by
  intro n
  induction n with
  | zero =>
    intro k acc h1 h2 h0 h3
    rw [sl1Bytes.s7]
    simp (disch := omega) only [pvS, pvT, pvC, pvL, pvR, pvN]
    rw [show s.drop k = [] from List.drop_eq_nil_of_le (by omega), sl1Bytes.a7x7, bytesB_bytes, strOf_bytes]
    simp [bytesV, rBy]
  | succ n ih =>
    intro k acc h1 h2 h0 h3
    by_cases h : k < s.length
    · have h : k + 1 < s.length := by omega
      have b1 : s[k].toNat < 256 := s[k].toNat_lt
      have b2 : s[k + 1].toNat < 256 := s[k + 1].toNat_lt
      have n1 := digV_le s[k].toNat
      have n2 := digV_le s[k + 1].toNat
      have e2 : (k : Int) + 2 = ((k + 2 : Nat) : Int) := rfl
      rw [two s k h, bytesV]
      by_cases c1 : digV s[k].toNat ≤ 15
      · by_cases c2 : digV s[k + 1].toNat ≤ 15
        · have := ih (k + 2) (acc ++ [hx (digV s[k].toNat) (digV s[k + 1].toNat)]) (by omega) (by omega) (by omega) (by simp; omega)
          rw [sl1Bytes.s7]
          simp (disch := omega) only [pvS, pvT, pvC, pvL, pvR, pvN, sl1Digit_ok, sl1Bytes.p12, sl1Bytes.p13, rowsLen_bytes, hx_row, e2]
          simp only [List.map_append, List.map_cons, List.map_nil] at this
          rw [this, if_pos ⟨c1, c2⟩]
          cases bytesV (s.drop (k + 2)) <;> simp [rBy]
        · rw [sl1Bytes.s7]
          simp (disch := omega) only [pvS, pvT, pvC, pvL, pvR, pvN, sl1Digit_ok, sl1Bytes.p12, sl1Bytes.a7q7]
          rw [if_neg (fun h => c2 h.2)]
          rfl
      · rw [sl1Bytes.s7]
        simp (disch := omega) only [pvS, pvT, pvC, pvL, pvR, pvN, sl1Digit_ok, sl1Bytes.p12, sl1Bytes.a7q7]
        rw [if_neg (fun h => c1 h.1)]
        rfl
    · rw [sl1Bytes.s7]
      simp (disch := omega) only [pvS, pvT, pvC, pvL, pvR, pvN]
      rw [show s.drop k = [] from List.drop_eq_nil_of_le (by omega), sl1Bytes.a7x7, bytesB_bytes, strOf_bytes]
      simp [bytesV, rBy]
theorem sl1Bytes_ok (s : Str) (hs : s.length ≤ 1048576) : sl1Bytes [vS s] [] = rBy (bytesS s) := by
  rw [sl1Bytes.e]
  unfold bytesS
  by_cases h1 : s = [45]
  · subst h1
    have e1 : (([45] : Str) == [45]) = true := rfl
    simp (disch := omega) only [pvS, pvT, pvC, pvL, pvR, pvN, e1, if_true]
    rfl
  · have e1 : (s == [45]) = false := beq_eq_false_iff_ne.2 h1
    by_cases h2 : s.length % 2 = 1
    · simp (disch := omega) only [pvS, pvT, pvC, pvL, pvR, pvN, e1, sl1Bytes.p5, h1, h2]
      simp [rBy]
    · by_cases h3 : s = []
      · subst h3; simp (disch := omega) only [pvS, pvT, pvC, pvL, pvR, pvN, sl1Bytes.p5, if_true, or_true]; rfl
      · have e3 : (s == []) = false := beq_eq_false_iff_ne.2 h3
        have := sl1Bytes_l s hs (by omega) s.length 0 [] (by omega) (by omega) (by omega) (by simp)
        have h0 : sl1Bytes.L7 (mkS s) 0 [] = sl1Bytes.L7 (mkS s) ((0 : Nat) : Int) (([] : Str).map byteRow) := rfl
        simp (disch := omega) only [pvS, pvT, pvC, pvL, pvR, pvN, e1, e3, sl1Bytes.p5, sl1Bytes.p6]
        rw [h0, this, List.drop_zero, if_neg h1, if_neg (by simp [h2, h3])]
        cases bytesV s <;> simp
end Go.PVx
/- Calls are read, by both. -/
namespace Go.PVx
open Go.PV Go.Proofs

theorem cut32' (l : Str) (h : l.length ≤ 1048576) : sl1Cut [AV.one (A1.v (Value.string (mkS l))), AV.one (A1.v (Value.int .u8 32))] [] = some ⟨[.o .deep (eSs (cutAt 32 l))], []⟩ := sl1Cut_ok l 32 h
theorem cut47' (l : Str) (h : l.length ≤ 1048576) : sl1Cut [AV.one (A1.v (Value.string (mkS l))), AV.one (A1.v (Value.int .u8 47))] [] = some ⟨[.o .deep (eSs (cutAt 47 l))], []⟩ := sl1Cut_ok l 47 h
theorem split32 (s : Str) (hs : s.length ≤ 1048576) : strings_Split [AV.one (A1.v (Value.string (mkS s))), AV.one (A1.v (Value.string (mkS [32])))] [] = some ⟨[.o .deep (eSs (cutAt 32 s))], []⟩ := strings_Split_ok s 32 hs
theorem wL_drop1' {α : Type} (w : α → Nat) (l : List α) (h : l ≠ []) : wL w (l.drop 1) + 1 ≤ wL w l := by
  cases l with
  | nil => exact absurd rfl h
  | cons x l => simp [wL]; omega
def pathS (s : Str) : List Str × Bool :=
  if s = [47] then ([], true) else if s = [] ∨ s.headD 0 ≠ 47 then ([], false) else ((cutAt 47 s).drop 1, pathB 1 ((cutAt 47 s).drop 1))
def rPB (x : List Str × Bool) : Option Res := some ⟨[.s (eSs x.1), .v (.bool x.2)], []⟩
theorem sl41PathOf_ok (s : Str) (hs : s.length ≤ 1048576) : sl41PathOf [AV.one (A1.v (Value.string (mkS s)))] [] = rPB (pathS s) := by
  have hw := wL_cut 47 s
  have hd := wL_drop1' List.length (cutAt 47 s) (cutAt_ne 47 s)
  have ho : oP ((cutAt 47 s).drop 1) := oP_of (by unfold wP; omega)
  have hok := sl2PathOk_ok _ ho
  have hl := cutAt_pos 47 s
  rw [sl41PathOf.e]
  unfold pathS
  by_cases h1 : s = [47]
  · subst h1
    have e1 : (([47] : Str) == [47]) = true := rfl
    simp (disch := omega) only [pvS, pvT, pvC, pvL, pvR, pvN, e1, if_true]
    rfl
  have e1 : (s == [47]) = false := beq_eq_false_iff_ne.2 h1
  cases s with
  | nil =>
    simp (disch := omega) only [pvS, pvT, pvC, pvL, pvR, pvN, sl41PathOf.p4, e1]
    rfl
  | cons b r =>
    have e3 : ((b :: r) == ([] : Str)) = false := rfl
    have e4 : byteAt (mkS (b :: r)) 0 = (b.toNat : Int) := byteAt_lt (b :: r) 0 (by simp)
    have e5 : (0 : Int) < (((b :: r).length : Nat) : Int) := by simp
    by_cases h2 : b = 47
    · have e6 : (((b.toNat : Int) != 47)) = false := by subst h2; rfl
      rw [if_neg h1, if_neg (by simp [h2])]
      have e7 : (1 : Int) ≤ ((cutAt 47 (b :: r)).length : Int) := by omega
      have e8 : ((eSs (cutAt 47 (b :: r))).getD 0 []).length = 1 := by rw [getD_map eS _ 0 (by omega)]; rfl
      simp (disch := omega) only [pvS, pvT, pvC, pvL, pvR, pvN, sl41PathOf.p4, e1, e3, e4, e6, sl41PathOf.p5, cut47', e7, e8, hok]
      rfl
    · have e6 : (((b.toNat : Int) != 47)) = true := by
        have : b.toNat ≠ 47 := fun h => h2 (UInt8.toNat_inj.1 h)
        simp; omega
      rw [if_neg h1, if_pos (.inr (by simpa using h2))]
      have e9 : decide ((0 : Int) < (((b :: r).length : Nat) : Int)) = true := decide_eq_true e5
      simp (disch := omega) only [pvS, pvT, pvC, pvL, pvR, pvN, sl41PathOf.p4, e1, e3, e4, e6] at e9 ⊢
      rfl
/-! ### the words of calls -/
def mkW : Str := [109, 107, 100, 105, 114]
def kindW (w : Str) : Int := if w = [] then 0 else if w = [109, 107, 100, 105, 114] then 1 else if w = [119, 114, 105, 116, 101] then 2 else if w = [116, 114, 117, 110, 99, 97, 116, 101] then 3 else
  if w = [114, 101, 109, 111, 118, 101] then 4 else if w = [114, 101, 110, 97, 109, 101] then 5 else if w = [99, 104, 109, 111, 100] then 6 else -1
theorem index_words (w : Str) : slices_Index_Sstring_string [.one (.s [[D.v (.string (mkS []))], [D.v (.string (mkS [109, 107, 100, 105, 114]))], [D.v (.string (mkS [119, 114, 105, 116, 101]))],
    [D.v (.string (mkS [116, 114, 117, 110, 99, 97, 116, 101]))], [D.v (.string (mkS [114, 101, 109, 111, 118, 101]))], [D.v (.string (mkS [114, 101, 110, 97, 109, 101]))], [D.v (.string (mkS [99, 104, 109, 111, 100]))]]), vS w] [] = rI (kindW w) := by
  rw [slices_Index_Sstring_string.e]
  unfold kindW
  iterate 8
    try rw [slices_Index_Sstring_string.s2]
    try simp (disch := omega) only [pvS, pvT, pvC, pvL, pvR, pvN, Nat.zero_add, slices_Index_Sstring_string.a2q2, slices_Index_Sstring_string.a2x2]
  simp only [Bool.cond_eq_ite, beq_iff_eq]
  (repeat' split) <;> simp only [Option.bind_some, slices_Index_Sstring_string.a2q2, slices_Index_Sstring_string.a2x2]
theorem pathI_w (l : Str) : wP (pathI l) ≤ l.length + 1 ∧ (l = [] → wP (pathI l) = 0) := by
  have h1 := trim_len l [47]
  unfold pathI wP
  refine ⟨?_, fun h => by rw [h]; rfl⟩
  split
  · simp [wL]
  · rw [wL_cut]; omega
theorem atoiN_in (l : Str) : -9223372036854775808 ≤ atoiN l ∧ atoiN l ≤ 9223372036854775807 := by
  unfold atoiN
  split
  · rename_i v h; exact Lib.atoiAll_bounds h
  · unfold Lib.atoiSat; (repeat' split) <;> omega
  · omega
/-- The program's reading. -/
def callI (s : Str) : Call :=
  let w := cutAt 32 s ++ [[], [], []]
  let k := kindW (w.getD 0 [])
  ⟨k, pathI (w.getD 1 []), if k = 5 then pathI (w.getD 2 []) else [], if k = 1 ∨ k = 2 ∨ k = 3 ∨ k = 6 then atoiN (w.getD 2 []) else 0, if k = 2 then unhexI (w.getD 3 []) else []⟩
theorem callI_w (s : Str) : wC (callI s) ≤ s.length := by
  have h := wL_cut 32 s
  unfold callI wC
  simp only
  have p := pathI_w
  have u := unhexI_len
  have n1 : wP ([] : List Str) = 0 := rfl
  have n2 : pathI [] = [] := rfl
  have n3 : unhexI [] = [] := rfl
  match hc : cutAt 32 s with
  | [] => exact absurd hc (cutAt_ne 32 s)
  | [a] => simp only [List.cons_append, List.nil_append, List.getD_cons_zero, List.getD_cons_succ, n2, n3, ite_self, n1]; simp
  | [a, b] =>
    rw [hc] at h
    have := p b
    simp only [wL] at h
    simp only [List.cons_append, List.nil_append, List.getD_cons_zero, List.getD_cons_succ, n2, n3, ite_self, n1, List.length_nil]; omega
  | [a, b, c] =>
    rw [hc] at h
    have := p b
    have := p c
    simp only [wL] at h
    simp only [List.cons_append, List.nil_append, List.getD_cons_zero, List.getD_cons_succ, n3, ite_self, List.length_nil]
    split <;> (try rw [n1]) <;> omega
  | a :: b :: c :: d :: r =>
    rw [hc] at h
    have := p b
    have := p c
    have := u d
    simp only [wL] at h
    simp only [List.cons_append, List.nil_append, List.getD_cons_zero, List.getD_cons_succ]
    split <;> split <;> (try rw [n1]) <;> simp <;> omega
theorem callI_o (s : Str) (hs : s.length ≤ 1048576) : OC (callI s) := by
  have h := callI_w s
  unfold wC at h
  refine ⟨oP_of (by omega), oP_of (by omega), by unfold sS; omega, ?_, ?_⟩
  · unfold callI; simp only; have := atoiN_in ((cutAt 32 s ++ [[], [], []]).getD 2 []); split <;> omega
  · unfold callI; simp only; have := atoiN_in ((cutAt 32 s ++ [[], [], []]).getD 2 []); split <;> omega
def rCB (o : Option Call) : Option Res :=
  match o with
  | some c => some ⟨[.v (.int .i64 c.kind), .o .deep (eSs c.path), .o .deep (eSs c.to), .v (.int .i64 c.at), .v (.string (mkS c.data)), .v (.bool true)], []⟩
  | none => some ⟨[.v (.int .i64 0), .o .deep [], .o .deep [], .v (.int .i64 0), .v (.string (mkS [])), .v (.bool false)], []⟩
def CI (s : Str) : Option Call := if s ≠ [] ∧ callT (callI s) = s then some (callI s) else none
theorem iCallParse_ok (s : Str) (hs : s.length ≤ 1048576) : iCallParse [vS s] [] = rCB (CI s) := by
  have ho := callI_o s hs
  have hw := callI_w s
  have hT := iCallText_ok (callI s) ho (by omega)
  have hl := cutAt_len 32 s
  have hll := wL_cut 32 s
  have hpos := cutAt_pos 32 s
  unfold CI
  obtain ⟨w, hwd⟩ : ∃ w, w = cutAt 32 s ++ [[], [], []] := ⟨_, rfl⟩
  have wl : w.length = (cutAt 32 s).length + 3 := by rw [hwd]; simp
  have hsz : ∀ i, (w.getD i []).length ≤ 1048576 := fun i => by
    rw [hwd, List.getD_eq_getElem?_getD]
    cases hg : (cutAt 32 s ++ [[], [], []])[i]? with
    | none => simp
    | some x =>
      have := List.mem_of_getElem? hg
      simp only [List.mem_append, List.mem_cons, List.not_mem_nil, or_false, or_self] at this
      rcases this with h | h
      · have := wL_mem List.length _ _ h; simp only [Option.getD_some]; omega
      · simp [h]
  have hrow : ∀ i, i < w.length → (eSs w).getD i [] = [D.v (.string (mkS (w.getD i [])))] := fun i h => by
    rw [getD_map eS w i h, List.getD_eq_getElem?_getD, List.getElem?_eq_getElem h]; rfl
  have happ : eSs (cutAt 32 s) ++ [[D.v (.string (mkS []))], [D.v (.string (mkS []))], [D.v (.string (mkS []))]] = eSs w := by rw [hwd]; simp [eS]
  have q0 := hrow 0 (by omega)
  have q1 := hrow 1 (by omega)
  have q2 := hrow 2 (by omega)
  have q3 := hrow 3 (by omega)
  have s0 := hsz 0
  have s1 := hsz 1
  have s2 := hsz 2
  have s3 := hsz 3
  have hI : callI s = ⟨kindW (w.getD 0 []), pathI (w.getD 1 []), if kindW (w.getD 0 []) = 5 then pathI (w.getD 2 []) else [], if kindW (w.getD 0 []) = 1 ∨ kindW (w.getD 0 []) = 2 ∨ kindW (w.getD 0 []) = 3 ∨ kindW (w.getD 0 []) = 6 then atoiN (w.getD 2 []) else 0, if kindW (w.getD 0 []) = 2 then unhexI (w.getD 3 []) else []⟩ := by rw [hwd]; rfl
  rw [hI] at hT ⊢
  have rp := ipathRead_ok (w.getD 1 []) s1
  have rp2 := ipathRead_ok (w.getD 2 []) s2
  have rn := inumRead_ok (w.getD 2 []) s2
  have rd := idataRead_ok (w.getD 3 []) s3
  have rk := index_words (w.getD 0 [])
  generalize kindW (w.getD 0 []) = k at *
  generalize pathI (w.getD 1 []) = p1 at *
  generalize pathI (w.getD 2 []) = p2 at *
  generalize atoiN (w.getD 2 []) = a2 at *
  generalize unhexI (w.getD 3 []) = d3 at *
  rw [iCallParse.e]
  simp (disch := omega) only [pvS, pvT, pvC, pvL, pvR, pvN, split32, happ, q0, q1, q2, q3, rk, rp, rp2, rn, rd, iCallParse.p5, iCallParse.p10]
  have fin : ∀ c : Call, iCallText [vC c] [] = rS (callT c) → iCallParse.P13 (mkS s) 0 [] [] 0 (mkS []) c.kind (eSs c.path) (eSs c.to) c.at (mkS c.data) = rCB (if s ≠ [] ∧ callT c = s then some c else none) := by
    intro c hc
    rw [iCallParse.p13, hc]
    by_cases e0 : s = []
    · subst e0
      simp (disch := omega) only [pvS, pvT, pvC, pvL, pvR, pvN, show (([] : Str) == []) = true from rfl, iCallParse.p14]
      simp [rCB]
    · have b0 : (s == []) = false := beq_eq_false_iff_ne.2 e0
      by_cases e1 : callT c = s
      · have b1 : (callT c == s) = true := by simp [e1]
        simp (disch := omega) only [pvS, pvT, pvC, pvL, pvR, pvN, b0, b1, iCallParse.p14]
        simp [rCB, e0, e1]
      · have b1 : (callT c == s) = false := beq_eq_false_iff_ne.2 e1
        simp (disch := omega) only [pvS, pvT, pvC, pvL, pvR, pvN, b0, b1, iCallParse.p14]
        simp [rCB, e0, e1]
  rw [← fin _ hT]
  grind
/-- The reference's reading. -/
def kindV (w : Str) : Int := if w = [109, 107, 100, 105, 114] then 1 else if w = [119, 114, 105, 116, 101] then 2 else if w = [116, 114, 117, 110, 99, 97, 116, 101] then 3 else
  if w = [114, 101, 109, 111, 118, 101] then 4 else if w = [114, 101, 110, 97, 109, 101] then 5 else if w = [99, 104, 109, 111, 100] then 6 else 0
def callS (ws : List Str) (k : Int) : Call :=
  ⟨k, (pathS (ws.getD 1 [])).1, if k = 5 ∧ 2 < ws.length then (pathS (ws.getD 2 [])).1 else [], if k ≠ 5 ∧ k ≠ 4 ∧ 2 < ws.length then numS (ws.getD 2 []) else 0, if k = 2 ∧ 3 < ws.length then (bytesS (ws.getD 3 [])).getD [] else []⟩
def CS (s : Str) : Option Call :=
  if kindV ((cutAt 32 s).getD 0 []) = 0 ∨ (cutAt 32 s).length < 2 then none
  else if (pathS ((cutAt 32 s).getD 1 [])).2 = true ∧ callT (callS (cutAt 32 s) (kindV ((cutAt 32 s).getD 0 []))) = s then some (callS (cutAt 32 s) (kindV ((cutAt 32 s).getD 0 []))) else none
def rCS (o : Option Call) : Option Res :=
  match o with
  | some c => some ⟨[.v (.int .i64 c.kind), .s (eSs c.path), .s (eSs c.to), .v (.int .i64 c.at), .v (.string (mkS c.data)), .v (.bool true)], []⟩
  | none => some ⟨[.v (.int .i64 0), .s [], .s [], .v (.int .i64 0), .v (.string (mkS [])), .v (.bool false)], []⟩
theorem sCallParse_kind (s : Str) (ws : List Str) (h : 1 ≤ ws.length) :
    sCallParse.L4 (mkS s) 1 0 [] [] 0 (mkS []) (eSs ws) 0 [] [] 0 (mkS []) = some (sCallParse.x4 (mkS s) 0 [] [] 0 (mkS []) (eSs ws) (kindV (ws.getD 0 [])) [] [] 0 (mkS [])) := by
  have q0 : (eSs ws).getD 0 [] = [D.v (.string (mkS (ws.getD 0 [])))] := by
    rw [getD_map eS ws 0 h, List.getD_eq_getElem?_getD, List.getElem?_eq_getElem h]; rfl
  unfold kindV
  generalize ws.getD 0 [] = w at *
  have t1 : ∀ x, sCallParse.L4 (mkS s) 1 0 [] [] 0 (mkS []) (eSs ws) x [] [] 0 (mkS []) = sCallParse.L4 (mkS s) 2 0 [] [] 0 (mkS []) (eSs ws) (if [109, 107, 100, 105, 114] = w then 1 else x) [] [] 0 (mkS []) := fun x => by
    rw [sCallParse.s4]
    simp (disch := omega) only [pvS, pvT, pvC, pvL, pvR, pvN, sl42Words.e, q0]
    by_cases e : [109, 107, 100, 105, 114] = w
    · rw [if_pos e, beq_iff_eq.2 e]; rfl
    · rw [if_neg e, beq_eq_false_iff_ne.2 e]; rfl
  have t2 : ∀ x, sCallParse.L4 (mkS s) 2 0 [] [] 0 (mkS []) (eSs ws) x [] [] 0 (mkS []) = sCallParse.L4 (mkS s) 3 0 [] [] 0 (mkS []) (eSs ws) (if [119, 114, 105, 116, 101] = w then 2 else x) [] [] 0 (mkS []) := fun x => by
    rw [sCallParse.s4]
    simp (disch := omega) only [pvS, pvT, pvC, pvL, pvR, pvN, sl42Words.e, q0]
    by_cases e : [119, 114, 105, 116, 101] = w
    · rw [if_pos e, beq_iff_eq.2 e]; rfl
    · rw [if_neg e, beq_eq_false_iff_ne.2 e]; rfl
  have t3 : ∀ x, sCallParse.L4 (mkS s) 3 0 [] [] 0 (mkS []) (eSs ws) x [] [] 0 (mkS []) = sCallParse.L4 (mkS s) 4 0 [] [] 0 (mkS []) (eSs ws) (if [116, 114, 117, 110, 99, 97, 116, 101] = w then 3 else x) [] [] 0 (mkS []) := fun x => by
    rw [sCallParse.s4]
    simp (disch := omega) only [pvS, pvT, pvC, pvL, pvR, pvN, sl42Words.e, q0]
    by_cases e : [116, 114, 117, 110, 99, 97, 116, 101] = w
    · rw [if_pos e, beq_iff_eq.2 e]; rfl
    · rw [if_neg e, beq_eq_false_iff_ne.2 e]; rfl
  have t4 : ∀ x, sCallParse.L4 (mkS s) 4 0 [] [] 0 (mkS []) (eSs ws) x [] [] 0 (mkS []) = sCallParse.L4 (mkS s) 5 0 [] [] 0 (mkS []) (eSs ws) (if [114, 101, 109, 111, 118, 101] = w then 4 else x) [] [] 0 (mkS []) := fun x => by
    rw [sCallParse.s4]
    simp (disch := omega) only [pvS, pvT, pvC, pvL, pvR, pvN, sl42Words.e, q0]
    by_cases e : [114, 101, 109, 111, 118, 101] = w
    · rw [if_pos e, beq_iff_eq.2 e]; rfl
    · rw [if_neg e, beq_eq_false_iff_ne.2 e]; rfl
  have t5 : ∀ x, sCallParse.L4 (mkS s) 5 0 [] [] 0 (mkS []) (eSs ws) x [] [] 0 (mkS []) = sCallParse.L4 (mkS s) 6 0 [] [] 0 (mkS []) (eSs ws) (if [114, 101, 110, 97, 109, 101] = w then 5 else x) [] [] 0 (mkS []) := fun x => by
    rw [sCallParse.s4]
    simp (disch := omega) only [pvS, pvT, pvC, pvL, pvR, pvN, sl42Words.e, q0]
    by_cases e : [114, 101, 110, 97, 109, 101] = w
    · rw [if_pos e, beq_iff_eq.2 e]; rfl
    · rw [if_neg e, beq_eq_false_iff_ne.2 e]; rfl
  have t6 : ∀ x, sCallParse.L4 (mkS s) 6 0 [] [] 0 (mkS []) (eSs ws) x [] [] 0 (mkS []) = sCallParse.L4 (mkS s) 7 0 [] [] 0 (mkS []) (eSs ws) (if [99, 104, 109, 111, 100] = w then 6 else x) [] [] 0 (mkS []) := fun x => by
    rw [sCallParse.s4]
    simp (disch := omega) only [pvS, pvT, pvC, pvL, pvR, pvN, sl42Words.e, q0]
    by_cases e : [99, 104, 109, 111, 100] = w
    · rw [if_pos e, beq_iff_eq.2 e]; rfl
    · rw [if_neg e, beq_eq_false_iff_ne.2 e]; rfl
  rw [t1, t2, t3, t4, t5, t6, sCallParse.s4]
  simp (disch := omega) only [pvS, pvT, pvC, pvL, pvR, pvN, sl42Words.e]
  grind
theorem pathS_w (l : Str) : wP (pathS l).1 ≤ l.length := by
  have n1 : wP ([] : List Str) = 0 := rfl
  unfold pathS
  split
  · simp only [n1]; omega
  · split
    · simp only [n1]; omega
    · have h := wL_cut 47 l
      have := wL_drop1' List.length (cutAt 47 l) (cutAt_ne 47 l)
      simp only [wP]; omega
theorem bytesV_w : ∀ s : Str, ∀ t, bytesV s = some t → t.length ≤ s.length
  | [], t, h => by simp only [bytesV, Option.some.injEq] at h; subst h; simp
  | [_], t, h => by simp [bytesV] at h
  | a :: b :: s, t, h => by
    unfold bytesV at h
    split at h
    · cases hb : bytesV s with
      | none => rw [hb] at h; simp at h
      | some u =>
        rw [hb] at h
        have := bytesV_w s u hb
        simp only [Option.map_some, Option.some.injEq] at h
        subst h
        simp only [List.length_cons]; omega
    · simp at h
theorem bytesS_w (l : Str) : ((bytesS l).getD []).length ≤ l.length := by
  unfold bytesS
  split
  · simp
  · split
    · simp
    · cases h : bytesV l with
      | none => simp
      | some t => simpa using bytesV_w l t h
theorem valS_in : ∀ (l : Str) (a : Int) (n : Nat), l.length ≤ n → n ≤ 5 → 0 ≤ a → a < 10 ^ (5 - n) → -1 ≤ valS a l ∧ valS a l < 100000
  | [], a, n, h, hn, h0, h1 => by
    have : (10 : Int) ^ (5 - n) ≤ 100000 := by
      have : n = 0 ∨ n = 1 ∨ n = 2 ∨ n = 3 ∨ n = 4 ∨ n = 5 := by omega
      rcases this with rfl | rfl | rfl | rfl | rfl | rfl <;> decide
    simp only [valS]; omega
  | c :: r, a, n, h, hn, h0, h1 => by
    unfold valS
    split
    · omega
    · rename_i hc
      simp only [List.length_cons] at h
      refine valS_in r _ (n - 1) (by omega) (by omega) (by omega) ?_
      have hp : (10 : Int) ^ (5 - (n - 1)) = 10 ^ (5 - n) * 10 := by rw [show 5 - (n - 1) = (5 - n) + 1 by omega]; exact Int.pow_succ _ _
      omega
theorem numS_in (l : Str) : -1 ≤ numS l ∧ numS l < 100000 := by
  unfold numS
  split
  · omega
  · rename_i h
    simp only [not_or, inB, Bool.and_eq_false_iff, decide_eq_false_iff_not] at h
    exact valS_in l 0 5 (by omega) (by omega) (by omega) (by decide)
theorem callS_w (s : Str) (k : Int) : wC (callS (cutAt 32 s) k) ≤ s.length := by
  have h := wL_cut 32 s
  unfold callS wC
  simp only
  have p := pathS_w
  have u := bytesS_w
  have n1 : wP ([] : List Str) = 0 := rfl
  match hc : cutAt 32 s with
  | [] => exact absurd hc (cutAt_ne 32 s)
  | [a] =>
    have := p []
    simp only [List.length_nil] at this
    simp; omega
  | [a, b] =>
    rw [hc] at h
    have := p b
    simp only [wL] at h
    simp; omega
  | [a, b, c] =>
    rw [hc] at h
    have := p b
    have := p c
    simp only [wL] at h
    simp only [List.getD_cons_zero, List.getD_cons_succ]
    split <;> (try rw [n1]) <;> simp <;> omega
  | a :: b :: c :: d :: r =>
    rw [hc] at h
    have := p b
    have := p c
    have := u d
    simp only [wL] at h
    simp only [List.getD_cons_zero, List.getD_cons_succ]
    split <;> split <;> (try rw [n1]) <;> simp <;> omega
theorem callS_o {w : List Str} {k : Int} {n : Nat} (h : wC (callS w k) ≤ n) (hn : n ≤ 1048576) : OC (callS w k) := by
  unfold wC at h
  refine ⟨oP_of (by omega), oP_of (by omega), by unfold sS; omega, ?_, ?_⟩
  · unfold callS; simp only; have := numS_in (w.getD 2 []); split <;> omega
  · unfold callS; simp only; have := numS_in (w.getD 2 []); split <;> omega
theorem sCallParse_ok (s : Str) (hs : s.length ≤ 1048576) : sCallParse [vS s] [] = rCS (CS s) := by
  have hl := cutAt_len 32 s
  have hll := wL_cut 32 s
  have hpos := cutAt_pos 32 s
  unfold CS
  obtain ⟨w, hwd⟩ : ∃ w, w = cutAt 32 s := ⟨_, rfl⟩
  have hsz : ∀ i, (w.getD i []).length ≤ 1048576 := fun i => by
    rw [hwd, List.getD_eq_getElem?_getD]
    cases hg : (cutAt 32 s)[i]? with
    | none => simp
    | some x =>
      have := wL_mem List.length _ _ (List.mem_of_getElem? hg)
      simp only [Option.getD_some]; omega
  have hrow : ∀ i, i < w.length → (eSs w).getD i [] = [D.v (.string (mkS (w.getD i [])))] := fun i h => by
    rw [getD_map eS w i h, List.getD_eq_getElem?_getD, List.getElem?_eq_getElem h]; rfl
  have ho : ∀ k, OC (callS w k) ∧ wC (callS w k) ≤ 1048576 := fun k => by
    have := callS_w s k
    rw [← hwd] at this
    exact ⟨callS_o this (by omega), by omega⟩
  have hk := sCallParse_kind s w (by rw [hwd]; exact hpos)
  have b1 := sl41PathOf_ok (w.getD 1 []) (hsz 1)
  have b2 := sl41PathOf_ok (w.getD 2 []) (hsz 2)
  have b3 := sl22Num_ok (w.getD 2 []) (hsz 2)
  have b4 := sl1Bytes_ok (w.getD 3 []) (hsz 3)
  rw [← hwd]
  have fin : ∀ (c : Call) (b : Bool), sCallText [vC c] [] = rS (callT c) → sCallParse.P21 (mkS s) b 0 [] [] 0 (mkS []) c.kind (eSs c.path) (eSs c.to) c.at (mkS c.data) = rCS (if b = true ∧ callT c = s then some c else none) := by
    intro c b hc
    rw [sCallParse.p21, hc]
    cases b with
    | false => simp (disch := omega) only [pvS, pvT, pvC, pvL, pvR, pvN, sCallParse.p22]; simp [rCS]
    | true =>
      by_cases e1 : callT c = s
      · have b1 : (callT c == s) = true := by simp [e1]
        simp (disch := omega) only [pvS, pvT, pvC, pvL, pvR, pvN, b1, sCallParse.p22]
        simp [rCS, e1]
      · have b1 : (callT c == s) = false := beq_eq_false_iff_ne.2 e1
        simp (disch := omega) only [pvS, pvT, pvC, pvL, pvR, pvN, b1, sCallParse.p22]
        simp [rCS, e1]
  have finb : ∀ (c : Call) (b : Bool), sCallText [vC c] [] = rS (callT c) → sCallParse.P21b (mkS s) b 0 [] [] 0 (mkS []) c.kind (eSs c.path) (eSs c.to) c.at (mkS c.data) = rCS (if b = true ∧ callT c = s then some c else none) := by
    intro c b hc
    rw [sCallParse.p21b, hc]
    cases b with
    | false => simp (disch := omega) only [pvS, pvT, pvC, pvL, pvR, pvN, sCallParse.p22b]; simp [rCS]
    | true =>
      by_cases e1 : callT c = s
      · have b1 : (callT c == s) = true := by simp [e1]
        simp (disch := omega) only [pvS, pvT, pvC, pvL, pvR, pvN, b1, sCallParse.p22b]
        simp [rCS, e1]
      · have b1 : (callT c == s) = false := beq_eq_false_iff_ne.2 e1
        simp (disch := omega) only [pvS, pvT, pvC, pvL, pvR, pvN, b1, sCallParse.p22b]
        simp [rCS, e1]
  have hc32 := cut32' s hs
  rw [← hwd] at hc32
  obtain ⟨k, hkd⟩ : ∃ k, k = kindV (w.getD 0 []) := ⟨_, rfl⟩
  rw [← hkd] at hk ⊢
  have h1 := fin _ (pathS (w.getD 1 [])).2 (sCallText_ok _ (ho k).1 (ho k).2)
  have h2 := finb _ (pathS (w.getD 1 [])).2 (sCallText_ok _ (ho k).1 (ho k).2)
  rw [sCallParse.e]
  have r1 := hrow 1
  have r2 := hrow 2
  have r3 := hrow 3
  unfold rPB at b1 b2
  unfold rBy at b4
  by_cases k0 : k = 0
  · subst k0
    simp (disch := omega) only [pvS, pvT, pvC, pvL, pvR, pvN, hc32, hk, sCallParse.a4x4, sCallParse.p9]
    rfl
  by_cases l2 : w.length < 2
  · rw [if_pos (.inr l2)]
    simp (disch := omega) only [pvS, pvT, pvC, pvL, pvR, pvN, hc32, hk, sCallParse.a4x4, sCallParse.p9]
    rfl
  rw [if_neg (by omega)]
  unfold callS at h1 h2 ⊢
  simp only at h1 h2
  by_cases k5 : k = 5
  · by_cases l3 : 2 < w.length
    · rw [← h1]
      simp (disch := omega) only [pvS, pvT, pvC, pvL, pvR, pvN, hc32, hk, sCallParse.a4x4, sCallParse.p9, sCallParse.p10, r1, r2, b1, b2, sCallParse.p15, sCallParse.p16]
      grind
    · rw [← h2]
      simp (disch := omega) only [pvS, pvT, pvC, pvL, pvR, pvN, hc32, hk, sCallParse.a4x4, sCallParse.p9, sCallParse.p10, r1, b1, sCallParse.p15, sCallParse.p16]
      grind
  · rw [← h2]
    by_cases l3 : 2 < w.length
    · by_cases l4 : 3 < w.length
      · simp (disch := omega) only [pvS, pvT, pvC, pvL, pvR, pvN, hc32, hk, sCallParse.a4x4, sCallParse.p9, sCallParse.p10, r1, r2, r3, b1, b2, b3, b4, sCallParse.p15, sCallParse.p16]
        grind
      · simp (disch := omega) only [pvS, pvT, pvC, pvL, pvR, pvN, hc32, hk, sCallParse.a4x4, sCallParse.p9, sCallParse.p10, r1, r2, b1, b2, b3, sCallParse.p15, sCallParse.p16]
        grind
    · simp (disch := omega) only [pvS, pvT, pvC, pvL, pvR, pvN, hc32, hk, sCallParse.a4x4, sCallParse.p9, sCallParse.p10, r1, b1, sCallParse.p15, sCallParse.p16]
      grind
end Go.PVx
/- Both read the same calls. -/
namespace Go.PVx
open Go.PV Go.Proofs

def wordsC (c : Call) : List Str := [wordK c.kind, pt c.path] ++ (if c.kind = 4 then [] else if c.kind = 5 then [pt c.to] else if c.kind = 2 then [dec c.at.toNat, dataT c.data] else [dec c.at.toNat])
def normC (c : Call) : Call := ⟨c.kind, c.path, if c.kind = 5 then c.to else [], if c.kind = 1 ∨ c.kind = 2 ∨ c.kind = 3 ∨ c.kind = 6 then c.at else 0, if c.kind = 2 then c.data else []⟩
theorem dig_hex : ∀ i : Fin 16, (48 ≤ (dig i.val).toNat ∧ (dig i.val).toNat ≤ 57 ∧ nibV (dig i.val).toNat = i.val ∧ digV (dig i.val).toNat = i.val) ∨ (97 ≤ (dig i.val).toNat ∧ (dig i.val).toNat ≤ 102 ∧ nibV (dig i.val).toNat = i.val ∧ digV (dig i.val).toNat = i.val) := by decide
theorem dig_ge {i : Nat} (h : i < 16) : 48 ≤ (dig i).toNat ∧ nibV (dig i).toNat = i ∧ digV (dig i).toNat = i := by
  have := dig_hex ⟨i, h⟩
  simp only at this
  omega
theorem hexS_cons (b : UInt8) (s : Str) : hexS (b :: s) = dig (b.toNat / 16) :: dig (b.toNat % 16) :: hexS s := by simp [hexS, hexB]
theorem hexS_ge : ∀ (s : Str), ∀ c ∈ hexS s, 48 ≤ c.toNat
  | [], c, h => by simp [hexS] at h
  | b :: s, c, h => by
    have hb : b.toNat < 256 := b.toNat_lt
    rw [hexS_cons] at h
    rcases List.mem_cons.1 h with rfl | h
    · exact (dig_ge (by omega)).1
    rcases List.mem_cons.1 h with rfl | h
    · exact (dig_ge (by omega)).1
    exact hexS_ge s c h
theorem dataT_ge (s : Str) : ∀ c ∈ dataT s, 45 ≤ c.toNat := fun c h => by
  unfold dataT at h
  split at h
  · simp at h; subst h; decide
  · have := hexS_ge s c h; omega
theorem dataT_no (s : Str) (b : UInt8) (hb : b.toNat < 45) : b ∉ dataT s := fun h => by
  have := dataT_ge s b h; omega
theorem hx_of (b : UInt8) : hx ((b.toNat / 16 : Nat) : Int) ((b.toNat % 16 : Nat) : Int) = b := by
  have hb : b.toNat < 256 := b.toNat_lt
  unfold hx
  rw [show (16 * ((b.toNat / 16 : Nat) : Int) + ((b.toNat % 16 : Nat) : Int)).toNat = b.toNat by omega]
  simp
theorem unhexI_hex : ∀ s : Str, unhexI (hexS s) = s
  | [] => rfl
  | b :: s => by
    have hb : b.toNat < 256 := b.toNat_lt
    have d1 := dig_ge (i := b.toNat / 16) (by omega)
    have d2 := dig_ge (i := b.toNat % 16) (by omega)
    rw [hexS_cons, unhexI, d1.2.1, d2.2.1, if_pos (by omega), unhexI_hex s, hx_of]
theorem bytesV_hex : ∀ s : Str, bytesV (hexS s) = some s
  | [] => rfl
  | b :: s => by
    have hb : b.toNat < 256 := b.toNat_lt
    have d1 := dig_ge (i := b.toNat / 16) (by omega)
    have d2 := dig_ge (i := b.toNat % 16) (by omega)
    rw [hexS_cons, bytesV, d1.2.2, d2.2.2, if_pos (by omega), bytesV_hex s, hx_of]
    rfl
theorem unhexI_data (s : Str) : unhexI (dataT s) = s := by
  unfold dataT
  split
  · rename_i h; subst h; rfl
  · exact unhexI_hex s
theorem bytesS_data (s : Str) : bytesS (dataT s) = some s := by
  unfold dataT
  split
  · rename_i h; subst h; rfl
  · rename_i h
    have hl := hexS_len s
    have h1 : hexS s ≠ [45] := fun e => by rw [e] at hl; simp at hl; omega
    have h2 : hexS s ≠ [] := fun e => by
      rw [e] at hl
      simp only [List.length_nil] at hl
      exact h (List.length_eq_zero_iff.1 (by omega))
    unfold bytesS
    rw [if_neg h1, if_neg (by simp [h2]; omega), bytesV_hex]
theorem pathS_pt (p : List Str) (h : pathB 1 p = true) : pathS (pt p) = (p, true) := by
  obtain ⟨h0, hn⟩ := pathB_spec h
  have h1 := cutAt_tail p h0 fun x hx => (name_no (hn x hx)).2.2
  have h2 : pt p = Lib.joinTail [47] p := by unfold pt; rw [if_neg h0]
  have h3 : cutAt 47 (pt p) = [] :: p := by rw [h2]; exact h1
  unfold pathS
  have e1 : pt p ≠ [47] := fun e => by
    rw [e] at h3
    have : cutAt 47 [47] = [[], []] := rfl
    rw [this] at h3
    obtain ⟨_, h4⟩ := List.cons.inj h3
    have := hn [] (by rw [← h4]; simp)
    simp [nameB, inB] at this
  have e2 : ¬ (pt p = [] ∨ (pt p).headD 0 ≠ 47) := by
    rw [h2]
    cases p with
    | nil => exact absurd rfl h0
    | cons x p => simp [Lib.joinTail]
  rw [if_neg e1, if_neg e2, h3]
  simp [h]
theorem numS_dec0 (n : Nat) (h2 : n ≤ 10000) : numS (dec n) = n := by
  by_cases h : n = 0
  · subst h
    have : dec 0 = [48] := dec_small (n := 0) (by omega)
    rw [this]; rfl
  · exact numS_dec n (by omega) h2
theorem kindW_word (k : Int) (h : k = 1 ∨ k = 2 ∨ k = 3 ∨ k = 4 ∨ k = 5 ∨ k = 6) : kindW (wordK k) = k ∧ kindV (wordK k) = k ∧ (32 : UInt8) ∉ wordK k := by
  rcases h with rfl | rfl | rfl | rfl | rfl | rfl <;> decide
theorem cut_words (x : Str) (l : List Str) (hx : (32 : UInt8) ∉ x) (hl : ∀ y ∈ l, (32 : UInt8) ∉ y) : cutAt 32 (x ++ (l.map fun y => 32 :: y).flatten) = x :: l := by
  induction l generalizing x with
  | nil => simp [cutAt_no 32 x hx]
  | cons y l ih =>
    rw [List.map_cons, List.flatten_cons, List.cons_append, cutAt_at 32 _ x hx, ih y (hl y (by simp)) fun z hz => hl z (by simp [hz])]
theorem cut_callT (c : Call) (h : callB c = true) (h24 : ¬ (c.kind = 2 ∧ 24 < c.data.length)) : cutAt 32 (callT c) = wordsC c := by
  have hs := callB_spec h
  have hk := kindW_word c.kind hs.1
  have hp : pathB 1 c.path = true := by unfold callB at h; grind
  have ht : c.kind = 5 → pathB 1 c.to = true := fun h5 => by unfold callB at h; grind
  obtain ⟨p0, pn⟩ := pathB_spec hp
  have hp32 : (32 : UInt8) ∉ pt c.path := pt_no 32 (by decide) p0 fun x hx => (name_no (pn x hx)).2.1
  have ht32 : c.kind = 5 → (32 : UInt8) ∉ pt c.to := fun h5 => pt_no 32 (by decide) (pathB_spec (ht h5)).1 fun x hx => (name_no ((pathB_spec (ht h5)).2 x hx)).2.1
  have hd := dataT_no c.data 32 (by decide)
  have he := (dec_no c.at.toNat).2.1
  have key := cut_words (wordK c.kind) (wordsC c).tail hk.2.2 fun y hy => by
    unfold wordsC at hy
    simp only [List.cons_append, List.nil_append, List.tail_cons, List.mem_cons] at hy
    rcases hy with rfl | hy
    · exact hp32
    · split at hy
      · simp at hy
      · split at hy
        · simp only [List.mem_cons, List.not_mem_nil, or_false] at hy; subst hy; exact ht32 (by assumption)
        · split at hy
          · simp only [List.mem_cons, List.not_mem_nil, or_false] at hy
            rcases hy with rfl | rfl
            · exact he
            · exact hd
          · simp only [List.mem_cons, List.not_mem_nil, or_false] at hy; subst hy; exact he
  have e : callT c = wordK c.kind ++ ((wordsC c).tail.map fun y => 32 :: y).flatten := by
    unfold callT headC tailC wordsC
    rw [if_pos ⟨h, h24⟩]
    split
    · simp
    · split
      · simp
      · split <;> simp
  rw [e, key]
  rfl
theorem callI_text (c : Call) (h : callB c = true) (h24 : ¬ (c.kind = 2 ∧ 24 < c.data.length)) : callI (callT c) = normC c := by
  have hs := callB_spec h
  have hk := kindW_word c.kind hs.1
  have hp : pathB 1 c.path = true := by unfold callB at h; grind
  have ht : c.kind = 5 → pathB 1 c.to = true := fun h5 => by unfold callB at h; grind
  have e1 := pathI_pt c.path (pathB_spec hp).1 (pathB_spec hp).2
  have e2 : c.kind = 5 → pathI (pt c.to) = c.to := fun h5 => pathI_pt c.to (pathB_spec (ht h5)).1 (pathB_spec (ht h5)).2
  have e3 := unhexI_data c.data
  have e4 : c.kind = 1 ∨ c.kind = 2 ∨ c.kind = 3 ∨ c.kind = 6 → atoiN (dec c.at.toNat) = c.at := fun hh => by
    have := hs.2 hh
    rw [atoiN_dec _ (by omega)]; omega
  unfold callI normC
  rw [cut_callT c h h24]
  unfold wordsC
  rcases hs.1 with k | k | k | k | k | k <;> simp only [k] at * <;> simp [hk.1, e1, e2, e3, e4]
theorem callS_text (c : Call) (h : callB c = true) (h24 : ¬ (c.kind = 2 ∧ 24 < c.data.length)) :
    kindV ((cutAt 32 (callT c)).getD 0 []) = c.kind ∧ 2 ≤ (cutAt 32 (callT c)).length ∧ pathS ((cutAt 32 (callT c)).getD 1 []) = (c.path, true) ∧ callS (cutAt 32 (callT c)) c.kind = normC c := by
  have hs := callB_spec h
  have hk := kindW_word c.kind hs.1
  have hp : pathB 1 c.path = true := by unfold callB at h; grind
  have ht : c.kind = 5 → pathB 1 c.to = true := fun h5 => by unfold callB at h; grind
  have e1 := pathS_pt c.path hp
  have e2 : c.kind = 5 → pathS (pt c.to) = (c.to, true) := fun h5 => pathS_pt c.to (ht h5)
  have e3 := bytesS_data c.data
  have e4 : c.kind = 1 ∨ c.kind = 2 ∨ c.kind = 3 ∨ c.kind = 6 → numS (dec c.at.toNat) = c.at := fun hh => by
    have := hs.2 hh
    rw [numS_dec0 _ (by omega)]; omega
  rw [cut_callT c h h24]
  unfold callS normC wordsC
  refine ⟨by simp [hk.2.1], by simp, by simp [e1], ?_⟩
  rcases hs.1 with k | k | k | k | k | k <;> simp only [k] at * <;> simp [e1, e2, e3, e4]
theorem callT_ok {c : Call} {s : Str} (h : callT c = s) (hs : s ≠ []) : callB c = true ∧ ¬ (c.kind = 2 ∧ 24 < c.data.length) := by
  unfold callT at h
  split at h
  · assumption
  · exact absurd h.symm hs
/-- Both read the same. -/
theorem CI_CS (s : Str) : CI s = CS s := by
  have h1 : ∀ c, CI s = some c → CS s = some c := fun c h => by
    unfold CI at h
    split at h
    · rename_i hc
      simp only [Option.some.injEq] at h
      have hb := callT_ok hc.2 hc.1
      have hn := callI_text _ hb.1 hb.2
      obtain ⟨a1, a2, a3, a4⟩ := callS_text _ hb.1 hb.2
      rw [hc.2] at hn a1 a2 a3 a4
      rw [h] at hn a1 a3 a4 hb
      unfold CS
      have hk := callB_spec hb.1
      rw [a1, a3, if_neg (by omega), a4, ← hn]
      rw [h] at hc
      rw [if_pos ⟨rfl, hc.2⟩]
    · simp at h
  have h2 : ∀ c, CS s = some c → CI s = some c := fun c h => by
    unfold CS at h
    split at h
    · simp at h
    · rename_i h0
      split at h
      · rename_i hc
        simp only [Option.some.injEq] at h
        have hs : s ≠ [] := fun e => by subst e; exact h0 (.inl rfl)
        have hb := callT_ok hc.2 hs
        have hn := callI_text _ hb.1 hb.2
        rw [hc.2, h] at hn
        rw [h] at hc hb
        have e : normC c = c := by
          have hk := callB_spec hb.1
          rw [← h]
          unfold normC callS
          rw [← h] at hk
          unfold callS at hk
          simp only at hk ⊢
          grind
        rw [e] at hn
        unfold CI
        rw [hn, if_pos ⟨hs, hc.2⟩]
      · simp at h
  cases hI : CI s with
  | some c => rw [h1 c hI]
  | none =>
    cases hS : CS s with
    | none => rfl
    | some c => rw [h2 c hS] at hI; exact hI.symm
end Go.PVx
/- The law FnExactCallParse on data. -/
namespace Go.PVx
open Go.PV Go.Proofs

theorem weqCall_refl' (c : Call) (hw : wC c ≤ 1048576) : weqCall [vC c, vC c] [] = rB true := by
  unfold wC at hw
  have h1 := wP_len c.path
  have h2 := wP_len c.to
  have h3 := weqStringS_refl c.to (by omega)
  have h4 := weqStringS_refl c.path (by omega)
  have b3 : (c.data == c.data) = true := by simp
  rw [weqCall.e]
  simp (disch := omega) only [pvS, pvT, pvC, pvL, pvR, pvN, h3, h4, weqCall.p8, b3]
theorem wmarkCall_ok (c : Call) (hw : wC c ≤ 1048576) : wmarkCall [.g [.v (.int .i64 c.kind), .r 0 [] 0, .r 0 [] 1, .v (.int .i64 c.at), .v (.string (mkS c.data))], vI 1] [⟨.virt, [.s (eSs c.path), .s (eSs c.to)], [.deep, .deep]⟩] =
    some ⟨[.v (.int .i64 (1 + c.path.length + c.to.length))], [⟨.virt, [.s (eSs (mP 1 c.path)), .s (eSs (mP (1 + c.path.length) c.to))], [.deep, .deep]⟩]⟩ := by
  unfold wC at hw
  have h1 := wP_len c.path
  have h2 := wP_len c.to
  have hT : Top = 1000000000000 := rfl
  have m1 := wmarkStringS_ok c.path 1 (by omega) (by omega)
  have m2 := wmarkStringS_ok c.to (1 + c.path.length) (by omega) (by omega)
  rw [wmarkCall.e]
  simp (disch := omega) only [pvS, pvT, pvC, pvL, pvR, pvN, pvO, m1, m2]
theorem wheldCall_ok (c : Call) (hw : wC c ≤ 1048576) : wheldCall [.g [.v (.int .i64 c.kind), .s (eSs (mP 1 c.path)), .s (eSs (mP (1 + c.path.length) c.to)), .v (.int .i64 c.at), .v (.string (mkS c.data))], vI 1] [] = rI (1 + c.path.length + c.to.length) := by
  unfold wC at hw
  have h1 := wP_len c.path
  have h2 := wP_len c.to
  have hT : Top = 1000000000000 := rfl
  have m1 := wheldStringS_ok c.path 1 (by omega) (by omega)
  have m2 := wheldStringS_ok c.to (1 + c.path.length) (by omega) (by omega)
  rw [wheldCall.e]
  simp (disch := omega) only [pvS, pvT, pvC, pvL, pvR, pvN, pvO, m1, m2]
theorem wFnExactCallParse_ok (s : Str) : wFnExactCallParse [vS s] [] = rB true := by
  rw [wFnExactCallParse.e]
  by_cases hs : s.length ≤ 1048576
  · have h1 := sCallParse_ok s hs
    have h2 := iCallParse_ok s hs
    have hw : wC ((CS s).getD ⟨0, [], [], 0, []⟩) ≤ 1048576 := by
      unfold CS
      split
      · simp [wC, wP, wL]
      · split
        · have := callS_w s (kindV ((cutAt 32 s).getD 0 [])); simp only [Option.getD_some]; omega
        · simp [wC, wP, wL]
    rw [CI_CS] at h2
    have e1 : rCS (CS s) = some ⟨[.v (.int .i64 ((CS s).getD ⟨0, [], [], 0, []⟩).kind), .s (eSs ((CS s).getD ⟨0, [], [], 0, []⟩).path), .s (eSs ((CS s).getD ⟨0, [], [], 0, []⟩).to), .v (.int .i64 ((CS s).getD ⟨0, [], [], 0, []⟩).at), .v (.string (mkS ((CS s).getD ⟨0, [], [], 0, []⟩).data)), .v (.bool (CS s).isSome)], []⟩ := by
      cases CS s <;> rfl
    have e2 : rCB (CS s) = some ⟨[.v (.int .i64 ((CS s).getD ⟨0, [], [], 0, []⟩).kind), .o .deep (eSs ((CS s).getD ⟨0, [], [], 0, []⟩).path), .o .deep (eSs ((CS s).getD ⟨0, [], [], 0, []⟩).to), .v (.int .i64 ((CS s).getD ⟨0, [], [], 0, []⟩).at), .v (.string (mkS ((CS s).getD ⟨0, [], [], 0, []⟩).data)), .v (.bool (CS s).isSome)], []⟩ := by
      cases CS s <;> rfl
    rw [e1] at h1
    rw [e2] at h2
    generalize (CS s).getD ⟨0, [], [], 0, []⟩ = c at *
    generalize (CS s).isSome = b at *
    have h3 := weqCall_refl' c hw
    have h4 := wmarkCall_ok c hw
    have h5 := wheldCall_ok c hw
    have b1 : ((!b) == b) = false := by cases b <;> rfl
    have b2 : (!(b == b)) = false := by cases b <;> rfl
    simp (disch := omega) only [pvS, pvT, pvC, pvL, pvR, pvN, pvO, h1, h2, h3, h4, h5, wFnExactCallParse.p6, wFnExactCallParse.p7, wFnExactCallParse.p16, wFnExactCallParse.p17, wFnExactCallParse.p18, b1, b2]
  · simp (disch := omega) only [pvS, pvT, pvC, pvL, pvR, pvN]
end Go.PVx
