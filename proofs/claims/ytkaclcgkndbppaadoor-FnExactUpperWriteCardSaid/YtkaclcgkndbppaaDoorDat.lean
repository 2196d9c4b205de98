/- A part of the proof: PvU1, PvU2, PvU3, PvU4, PvL0, PvL1, PvV1, PvV3, PvV4, PvY1, PvW0, PvW1, PvW2, PvW3, PvW4. -/
import Derived.Test.YtkaclcgkndbppaaDoorRes
import Derived.Test.YtkaclcgkndbppaaDoorTy
import Derived.Test.YtkaclcgkndbppaaDoorExt
set_option linter.unusedSimpArgs false
set_option linter.unusedVariables false
/- Names, paths, their order. -/
namespace Go.PVx
open Go.PV Go.Proofs

def inB (a b c : Int) : Bool := decide (b ≤ a) && decide (a ≤ c)
theorem sl1In_ok (a b c : Int) : sl1In [vI a, vI b, vI c] [] = rB (inB a b c) := by
  rw [sl1In.e]; unfold inB; by_cases h : b ≤ a <;> simp [h]
theorem iwithin_ok (a b c : Int) : iwithin [vI a, vI b, vI c] [] = rB (inB a b c) := by
  rw [iwithin.e]; unfold inB; by_cases h : b ≤ a <;> simp [h]
theorem imodeOk_ok (a : Int) : imodeOk [vI a] [] = rB (inB a 0 7) := by
  rw [imodeOk.e, iwithin_ok]; simp

/-! ### names -/
def okc (b : UInt8) : Bool := (decide (97 ≤ (b.toNat : Int)) && decide ((b.toNat : Int) ≤ 122)) || (decide (48 ≤ (b.toNat : Int)) && decide ((b.toNat : Int) ≤ 57))
def nameB (s : Str) : Bool := s.all okc && inB s.length 1 5
theorem sl1NameOk.l2 (s : Str) (hs : sS s) : ∀ k, k ≤ s.length → sl1NameOk.L2 (mkS s) (k : Int) = some (bif (s.drop k).all okc then sl1NameOk.x2 (mkS s) else sl1NameOk.q2 (mkS s) false) := by
  unfold sS at hs
  refine up s.length ?_ fun k hk ih => ?_
  · rw [sl1NameOk.s2]; simp
  · rw [sl1NameOk.s2, drop_cons s k hk, List.all_cons]
    simp only [Int.toNat_natCast, byteAt_lt s k hk, sl1NameOk.p5, wrap_nat k (by omega), ih, okc]
    by_cases h1 : 97 ≤ (s[k].toNat : Int) <;> by_cases h2 : (s[k].toNat : Int) ≤ 122 <;> by_cases h3 : 48 ≤ (s[k].toNat : Int) <;> by_cases h4 : (s[k].toNat : Int) ≤ 57 <;> simp [h1, h2, h3, h4, hk]
theorem sl1NameOk_ok (s : Str) (hs : sS s) : sl1NameOk [vS s] [] = rB (nameB s) := by
  have h := sl1NameOk.l2 s hs 0 (by omega)
  rw [sl1NameOk.e, show (0 : Int) = ((0 : Nat) : Int) from rfl, h]
  unfold nameB
  cases h : s.all okc <;> simp [h, sl1NameOk.a2q2, sl1NameOk.a2x2, sl1In_ok]
theorem inameOk.l2 (s : Str) (hs : sS s) : ∀ k, k ≤ s.length → inameOk.L2 (mkS s) s.length (k : Int) = some (bif (s.drop k).all okc then inameOk.x2 (mkS s) else inameOk.q2 (mkS s) false) := by
  unfold sS at hs
  refine up s.length ?_ fun k hk ih => ?_
  · rw [inameOk.s2]; simp
  · rw [inameOk.s2, drop_cons s k hk, List.all_cons]
    simp only [Int.toNat_natCast, byteAt_lt s k hk, inameOk.p5, wrap_nat k (by omega), ih, okc]
    have e1 : decide ((s[k].toNat : Int) < 97) = !decide (97 ≤ (s[k].toNat : Int)) := by by_cases h : 97 ≤ (s[k].toNat : Int) <;> simp [h] <;> omega
    have e2 : decide ((s[k].toNat : Int) > 122) = !decide ((s[k].toNat : Int) ≤ 122) := by by_cases h : (s[k].toNat : Int) ≤ 122 <;> simp [h] <;> omega
    have e3 : decide ((s[k].toNat : Int) < 48) = !decide (48 ≤ (s[k].toNat : Int)) := by by_cases h : 48 ≤ (s[k].toNat : Int) <;> simp [h] <;> omega
    have e4 : decide ((s[k].toNat : Int) > 57) = !decide ((s[k].toNat : Int) ≤ 57) := by by_cases h : (s[k].toNat : Int) ≤ 57 <;> simp [h] <;> omega
    simp only [e1, e2, e3, e4]
    cases decide (97 ≤ (s[k].toNat : Int)) <;> cases decide ((s[k].toNat : Int) ≤ 122) <;> cases decide (48 ≤ (s[k].toNat : Int)) <;> cases decide ((s[k].toNat : Int) ≤ 57) <;> simp [hk]
theorem inameOk_ok (s : Str) (hs : sS s) : inameOk [vS s] [] = rB (nameB s) := by
  have h := inameOk.l2 s hs 0 (by omega)
  rw [inameOk.e, size_mkS, show (0 : Int) = ((0 : Nat) : Int) from rfl, h]
  unfold nameB
  cases h : s.all okc <;> simp [h, inameOk.a2q2, inameOk.a2x2, iwithin_ok]

/-! ### paths -/
def pathB (least : Int) (p : List Str) : Bool := p.all nameB && inB p.length least 4
theorem sl2PathOk.l2 (p : List Str) (hp : oP p) : ∀ k, k ≤ p.length → sl2PathOk.L2 (eSs p) (k : Int) = some (bif (p.drop k).all nameB then sl2PathOk.x2 (eSs p) else sl2PathOk.q2 (eSs p) false) := by
  have hl := hp.1
  refine up p.length ?_ fun k hk ih => ?_
  · rw [sl2PathOk.s2]; simp
  · rw [sl2PathOk.s2, drop_cons p k hk, List.all_cons]
    simp only [Int.toNat_natCast, getD_map eS p k hk, wrap_nat k (by omega), ih]
    have h := sl1NameOk_ok p[k] (sL_at hp hk)
    cases hn : nameB p[k] <;> rw [hn] at h <;> simp [hk, eS, h]
theorem sl2PathOk_ok (p : List Str) (hp : oP p) : sl2PathOk [vP p] [] = rB (pathB 1 p) := by
  have h := sl2PathOk.l2 p hp 0 (by omega)
  rw [sl2PathOk.e, show (0 : Int) = ((0 : Nat) : Int) from rfl, h]
  unfold pathB
  cases h : p.all nameB <;> simp [h, sl2PathOk.a2q2, sl2PathOk.a2x2, sl1In_ok]
theorem inamesOk.l2 (p : List Str) (hp : oP p) (least : Int) : ∀ k, k ≤ p.length → inamesOk.L2 (eSs p) least (eSs p) p.length (k : Int) =
    some (bif (p.drop k).all nameB then inamesOk.x2 (eSs p) least else inamesOk.q2 (eSs p) least false) := by
  have hl := hp.1
  refine up p.length ?_ fun k hk ih => ?_
  · rw [inamesOk.s2]; simp
  · rw [inamesOk.s2, drop_cons p k hk, List.all_cons]
    simp only [Int.toNat_natCast, getD_map eS p k hk, wrap_nat k (by omega), ih]
    have h := inameOk_ok p[k] (sL_at hp hk)
    cases hn : nameB p[k] <;> rw [hn] at h <;> simp [hk, eS, h]
theorem inamesOk_ok (p : List Str) (hp : oP p) (least : Int) : inamesOk [vP p, vI least] [] = rB (pathB least p) := by
  have h := inamesOk.l2 p hp least 0 (by omega)
  rw [inamesOk.e]
  simp only [List.length_map]
  rw [show (0 : Int) = ((0 : Nat) : Int) from rfl, h]
  unfold pathB
  cases h : p.all nameB <;> simp [h, inamesOk.a2q2, inamesOk.a2x2, iwithin_ok]

/-! ### the same path -/
def isPre (b a : List Str) : Bool := b.isPrefixOf a
theorem isPre_take (a b : List Str) (h : b.length ≤ a.length) : decide (b = a.take b.length) = isPre b a := by
  unfold isPre
  rw [Bool.eq_iff_iff, decide_eq_true_iff, List.isPrefixOf_iff_prefix, List.prefix_iff_eq_take]
theorem isPre_len (a b : List Str) (h : a.length = b.length) : isPre b a = decide (a = b) := by
  rw [← isPre_take a b (by omega), Bool.eq_iff_iff, decide_eq_true_iff, decide_eq_true_iff, ← h, List.take_length]
  exact ⟨Eq.symm, Eq.symm⟩
/-! ### the order of paths -/
def lessP : List Str → List Str → Bool
  | _, [] => false
  | [], _ :: _ => true
  | x :: a, y :: b => bif x == y then lessP a b else Op.bytesLess x y
def cmpS (a b : Str) : Int := bif Op.bytesLess a b then -1 else bif a == b then 0 else 1
theorem less_irr : ∀ a : Str, Op.bytesLess a a = false := by
  intro a
  induction a with
  | nil => rfl
  | cons x a ih => simp [Op.bytesLess, ih]
/-- What slices.Compare answers. -/
def cmpP : List Str → List Str → Int
  | [], [] => 0
  | [], _ :: _ => -1
  | _ :: _, [] => 1
  | x :: a, y :: b => bif cmpS x y != 0 then cmpS x y else cmpP a b
theorem cmpP_less : ∀ a b : List Str, decide (cmpP a b ≥ 0) = !lessP a b
  | [], [] => rfl
  | [], _ :: _ => rfl
  | _ :: _, [] => rfl
  | x :: a, y :: b => by
    unfold cmpP lessP
    by_cases h : x = y
    · subst h
      have : cmpS x x = 0 := by simp [cmpS, less_irr]
      simp only [this, bne_self_eq_false, cond_false, beq_self_eq_true, cond_true]
      exact cmpP_less a b
    · have h2 : (x == y) = false := by simpa using h
      unfold cmpS
      rw [h2]
      cases Op.bytesLess x y <;> simp
end Go.PVx
/- Trees that are ok. -/
namespace Go.PVx
open Go.PV Go.Proofs

theorem tree_at {ks : List Tree} {k : Nat} (h : k < ks.length) :
    (ks.map eT).getD k [] = [.v (.bool ks[k].dir), .v (.int .i64 ks[k].mode), .v (.string (mkS ks[k].data)), .s (eSs ks[k].names), .s (ks[k].kids.map eT)] := by
  rw [getD_map eT ks k h, eT_eq]
theorem oT_data {t : Tree} (h : oT t) : sS t.data := ((oT_eq t).1 h).1
theorem oT_names {t : Tree} (h : oT t) : oP t.names := ((oT_eq t).1 h).2.1
theorem oT_kids {t : Tree} (h : oT t) : sL oT t.kids := ((oT_eq t).1 h).2.2

/-- Names that are ok, ascending, behind one. -/
def namesB : Option Str → List Str → Bool
  | _, [] => true
  | p, x :: l => nameB x && (match p with | none => true | some y => Op.bytesLess y x) && namesB (some x) l
def prevOf (l : List Str) : Nat → Option Str
  | 0 => none
  | k + 1 => l[k]?
def plainB (t : Tree) : Bool := inB t.mode 0 7 && decide (t.names.length = t.kids.length) && (bif t.dir then namesB none t.names && decide (t.data = []) else decide (t.data.length ≤ 24) && decide (t.names.length = 0))
mutual
def partsB : Int → Tree → Bool
  | d, ⟨a, b, c, e, ks⟩ => plainB ⟨a, b, c, e, ks⟩ && decide (d ≤ 4) && partsBs (d + 1) ks
def partsBs : Int → List Tree → Bool
  | _, [] => true
  | d, t :: ts => partsB d t && partsBs d ts
end
theorem partsBs_all (d : Int) : ∀ l : List Tree, partsBs d l = l.all (partsB d)
  | [] => rfl
  | t :: ts => by rw [partsBs, partsBs_all d ts]; rfl
theorem partsB_eq (d : Int) (t : Tree) : partsB d t = (plainB t && decide (d ≤ 4) && t.kids.all (partsB (d + 1))) := by
  obtain ⟨a, b, c, e, ks⟩ := t
  rw [partsB, partsBs_all]
mutual
/-- How many parts are below. -/
def cnt : Tree → Nat
  | ⟨_, _, _, _, ks⟩ => cnts ks
def cnts : List Tree → Nat
  | [] => 0
  | t :: ts => 1 + cnt t + cnts ts
end
theorem cnts_wL : ∀ l : List Tree, cnts l = wL cnt l
  | [] => rfl
  | t :: ts => by rw [cnts, cnts_wL ts]; rfl
theorem cnt_eq (t : Tree) : cnt t = wL cnt t.kids := by
  obtain ⟨a, b, c, e, ks⟩ := t
  rw [cnt, cnts_wL]
theorem wL_le {α : Type} (v w : α → Nat) : ∀ l : List α, (∀ x ∈ l, v x ≤ w x) → wL v l ≤ wL w l
  | [], _ => Nat.le_refl _
  | x :: l, h => by
    have h1 := h x (by simp)
    have h2 := wL_le v w l fun y hy => h y (List.mem_cons_of_mem _ hy)
    simp only [wL]; omega
theorem cnt_le (t : Tree) : cnt t ≤ wT t := by
  induction t using Tree.ind with
  | h d m s ns ks ih =>
    rw [cnt_eq, wT_eq]
    have := wL_le cnt wT ks ih
    simp only at this ⊢
    omega
def treeB (t : Tree) : Bool := t.dir && partsB 0 t && decide (cnt t ≤ 30)

theorem empty_eq (s : Str) : s.isEmpty = decide (s = []) := by cases s <;> rfl
/-! ### the reference's -/
theorem prev_some {l : List Str} {k : Nat} (h : k < l.length) : prevOf l (k + 1) = some l[k] := by simp [prevOf, h]
/-- The sum of what is below each. -/
def sumC : List Tree → Int
  | [] => 0
  | t :: l => (cnt t : Int) + sumC l
theorem sumC_wL : ∀ l : List Tree, sumC l = (wL cnt l : Int) - l.length
  | [] => rfl
  | t :: l => by simp only [sumC, wL, List.length_cons, sumC_wL l]; omega
/-! ### the program's -/
end Go.PVx
/- Nodes that are ok by themselves. -/
namespace Go.PVx
open Go.PV Go.Proofs

theorem node_at {l : List NodeOf} {k : Nat} (h : k < l.length) : (l.map eN).getD k [] = [.v (.int .i64 l[k].id), .s (eSs l[k].path)] := by
  rw [getD_map eN l k h]; rfl
def oN (n : NodeOf) : Prop := oP n.path
/-- Nodes behind others: ids, paths, their order. -/
def nodesB (nx : Int) : List NodeOf → List NodeOf → Bool
  | _, [] => true
  | pre, x :: l => inB x.id 1 (IntKind.i64.wrap (nx - 1)) && (pathB 1 x.path && ((match pre.getLast? with | none => true | some y => lessP y.path x.path) && (pre.all (fun y => !(y.id == x.id)) && nodesB nx (pre ++ [x]) l)))
def okB (n : Nodes) : Bool := inB n.next 1 10000 && decide (n.list.length ≤ 30) && nodesB n.next [] n.list
theorem last_take {α : Type} {l : List α} {j : Nat} (h : j < l.length) : (l.take (j + 1)).getLast? = some l[j] := by
  rw [take_snoc l j h, List.getLast?_concat]

/-! ### the reference's -/
/-! ### the program's -/
end Go.PVx
/- The paths of a tree. -/
namespace Go.PVx
open Go.PV Go.Proofs

theorem rowsLen_map {α : Type} (f : α → List D) (n : Nat) (h : ∀ x, (f x).length = n) (l : List α) : rowsLen n (l.map f) = true := by
  simp [rowsLen, h]
@[simp] theorem rowsLen_eS (l : List Str) : rowsLen 1 (eSs l) = true := rowsLen_map eS 1 (fun _ => rfl) l
@[simp] theorem rowsLen_ePa (l : List (List Str)) : rowsLen 1 (l.map ePa) = true := rowsLen_map ePa 1 (fun _ => rfl) l
@[simp] theorem rowsLen_eN (l : List NodeOf) : rowsLen 2 (l.map eN) = true := rowsLen_map eN 2 (fun _ => rfl) l
@[simp] theorem rowsCell_eS (b : Bool) (l : List Str) : rowsCell b (eSs l) = true := by simp [rowsCell, eS, cellD, isCell]
@[simp] theorem rowsCell_ePa (l : List (List Str)) : rowsCell true (l.map ePa) = true := by simp [rowsCell, ePa, cellD]
theorem snoc_eS (l : List Str) (s : Str) : eSs l ++ [[D.v (.string (mkS s))]] = eSs (l ++ [s]) := by simp [eS]
theorem snoc_ePa (l : List (List Str)) (p : List Str) : l.map ePa ++ [[D.s (eSs p)]] = (l ++ [p]).map ePa := by simp [ePa]
theorem path_at {l : List (List Str)} {k : Nat} (h : k < l.length) : (l.map ePa).getD k [] = [.s (eSs l[k])] := by
  rw [getD_map ePa l k h]; rfl

mutual
/-- The paths below a part at a path. -/
def pathsT (p : List Str) : Tree → List (List Str)
  | ⟨_, _, _, ns, ks⟩ => pathsZ p ns ks
def pathsZ (p : List Str) : List Str → List Tree → List (List Str)
  | n :: ns, k :: ks => (p ++ [n]) :: (pathsT (p ++ [n]) k ++ pathsZ p ns ks)
  | [], _ => []
  | _ :: _, [] => []
end
theorem pathsT_eq (p : List Str) (t : Tree) : pathsT p t = pathsZ p t.names t.kids := by
  obtain ⟨a, b, c, ns, ks⟩ := t
  rw [pathsT]
theorem partsB_names {d : Int} {t : Tree} (h : partsB d t = true) : t.names.length = t.kids.length := by
  rw [partsB_eq] at h
  simp only [plainB, Bool.and_eq_true, decide_eq_true_eq] at h
  exact h.1.1.1.2
theorem partsB_kid {d : Int} {t : Tree} (h : partsB d t = true) {k : Tree} (hk : k ∈ t.kids) : partsB (d + 1) k = true := by
  rw [partsB_eq] at h
  simp only [Bool.and_eq_true, List.all_eq_true] at h
  exact h.2 k hk
theorem pathsZ_drop (p : List Str) {ns : List Str} {ks : List Tree} {k : Nat} (h1 : k < ns.length) (h2 : k < ks.length) :
    pathsZ p (ns.drop k) (ks.drop k) = (p ++ [ns[k]]) :: (pathsT (p ++ [ns[k]]) ks[k] ++ pathsZ p (ns.drop (k + 1)) (ks.drop (k + 1))) := by
  rw [drop_cons ns k h1, drop_cons ks k h2, pathsZ]
theorem pathsZ_nil (p : List Str) (ns : List Str) (ks : List Tree) (h : ns.length ≤ 0) : pathsZ p ns ks = [] := by
  cases ns with
  | nil => rw [pathsZ]
  | cons => simp at h
theorem pathsT_len (t : Tree) : ∀ (p : List Str) (d : Int), partsB d t = true → (pathsT p t).length = cnt t := by
  induction t using Tree.ind with
  | h a b c ns ks ih =>
    intro p d hp
    have hn := partsB_names hp
    have hk := fun k (h : k ∈ ks) => partsB_kid hp (k := k) h
    simp only at hn
    rw [pathsT_eq, cnt_eq]
    simp only
    clear hp
    induction ks generalizing ns with
    | nil =>
      have : ns = [] := List.eq_nil_of_length_eq_zero hn
      subst this
      simp [pathsZ, wL]
    | cons k ks ihk =>
      cases ns with
      | nil => simp at hn
      | cons n ns =>
        rw [pathsZ, List.length_cons, List.length_append, ih k (by simp) _ (d + 1) (hk k (by simp)), ihk ns (fun k h => ih k (List.mem_cons_of_mem _ h)) (by simpa using hn) (fun k h => hk k (List.mem_cons_of_mem _ h)), wL]
        omega

/-! ### the reference's -/
/-! ### the program's -/
abbrev oB (l : List (List Str)) : PV.Obj := { kind := Kind.box, row := [D.s (l.map ePa)], fl := [Own.deep] }
theorem fitsCos_box (a b : List (List Str)) (n : Nat) : fitsCos [{ ob := oB a, src := Src.box n }] [oB b] = true := by simp
/-! ### nodes and a tree -/
def nodesOkB (n : Nodes) (t : Tree) : Bool := treeB t && okB n && decide (pathsT [] t = n.list.map NodeOf.path)
theorem treeB_parts {t : Tree} (h : treeB t = true) : partsB 0 t = true := by
  simp only [treeB, Bool.and_eq_true] at h; exact h.1.2
theorem pathsT_small (t : Tree) : ∀ (p : List Str) (d : Int), partsB d t = true → wT t ≤ 1048576 → p.length + wT t ≤ 2097152 → ∀ q ∈ pathsT p t, q.length ≤ 2097152 := by
  induction t using Tree.ind with
  | h a b c ns ks ih =>
    intro p d hp hw hpw q hq
    have hn := partsB_names hp
    have hk := fun k (h : k ∈ ks) => partsB_kid hp (k := k) h
    simp only at hn
    rw [pathsT_eq] at hq
    rw [wT_eq] at hw hpw
    simp only at hq hw hpw
    have key : ∀ k, k ≤ ns.length → q ∈ pathsZ p (ns.drop k) (ks.drop k) → q.length ≤ 2097152 := by
      refine up ns.length ?_ fun k hk1 ihk h => ?_
      · intro h; rw [pathsZ_nil p _ _ (by simp)] at h; simp at h
      · have hk2 : k < ks.length := by omega
        have hwk := wL_at wT hk2
        rw [pathsZ_drop p hk1 hk2] at h
        rcases List.mem_cons.1 h with rfl | h
        · simp only [List.length_append, List.length_cons, List.length_nil]; omega
        · rcases List.mem_append.1 h with h | h
          · exact ih ks[k] (List.getElem_mem hk2) _ (d + 1) (hk _ (List.getElem_mem hk2)) (by omega) (by simp only [List.length_append, List.length_cons, List.length_nil]; omega) q h
          · exact ihk h
    exact key 0 (by omega) (by simpa using hq)
end Go.PVx
/- What the laws do with their arguments: how large they are, copies, that they are the same: words for all types; lists of texts. -/
namespace Go.PVx
open Go.PV Go.Proofs

/-- What is left of a room. -/
def szR (w : Nat) (x : Int) : Int := bif decide ((w : Int) ≤ x) then x - w else -1
theorem szR_pos {w : Nat} {x : Int} (h : (w : Int) ≤ x) : szR w x = x - w := by simp [szR, h]
theorem szR_neg {w : Nat} {x : Int} (h : ¬ (w : Int) ≤ x) : szR w x = -1 := by simp [szR, h]
def sumW {α : Type} (w : α → Nat) : List α → Nat
  | [] => 0
  | x :: l => w x + sumW w l
theorem wL_sum {α : Type} (w : α → Nat) : ∀ l : List α, wL w l = l.length + sumW w l
  | [] => rfl
  | x :: l => by simp only [wL, sumW, List.length_cons, wL_sum w l]; omega
theorem szR_add {a b : Nat} {x : Int} (h : (a : Int) ≤ x) : szR (a + b) x = szR b (x - a) := by
  unfold szR
  by_cases h2 : (b : Int) ≤ x - a
  · have h3 : ((a + b : Nat) : Int) ≤ x := by omega
    simp only [h2, h3, decide_true, cond_true]; omega
  · have h3 : ¬ ((a + b : Nat) : Int) ≤ x := by omega
    simp only [h2, h3, decide_false, cond_false]
theorem szR_more {a b : Nat} {x : Int} (h : ¬ (a : Int) ≤ x) : szR (a + b) x = -1 := szR_neg (by omega)
theorem szR_ge {w : Nat} {x : Int} (h : 0 ≤ szR w x) : (w : Int) ≤ x := by
  by_cases h2 : (w : Int) ≤ x
  · exact h2
  · rw [szR_neg h2] at h; omega
theorem szR_le {w : Nat} {x : Int} (hx : 0 ≤ x) : szR w x ≤ x := by
  by_cases h2 : (w : Int) ≤ x
  · rw [szR_pos h2]; omega
  · rw [szR_neg h2]; omega

theorem str_at {l : List Str} {k : Nat} (h : k < l.length) : (eSs l).getD k [] = [.v (.string (mkS l[k]))] := by
  rw [getD_map eS l k h]; rfl
theorem wszStringS.l5 (l : List Str) (ho : oP l) : ∀ k, k ≤ l.length → ∀ x : Int, 0 ≤ x → x ≤ Lim → (wszStringS.L5 (eSs l) x (k : Int)).bind wszStringS.A5 = rI (szR (sumW List.length (l.drop k)) x) := by
  have hl := ho.1
  have hL : (Lim : Int) = 1048576 := rfl
  refine up l.length ?_ fun k hk ih x h0 h1 => ?_
  · intro x h0 h1; rw [wszStringS.s5]; simp [sumW, szR, wszStringS.a5x5, h0]
  · rw [wszStringS.s5, drop_cons l k hk]
    have hsz := sL_at ho hk
    unfold sS at hsz
    have hw : IntKind.i64.wrap (x - (l[k].length : Int)) = x - (l[k].length : Int) := wrap_in _ (by omega)
    simp only [Int.toNat_natCast, str_at hk, wrap_nat k (by omega), sumW, List.getD_cons_zero, str_v, size_mkS, hw]
    by_cases hx : (l[k].length : Int) ≤ x
    · have hn : ¬ x - (l[k].length : Int) < 0 := by omega
      have := ih (x - (l[k].length : Int)) (by omega) (by omega)
      push_cast at this
      rw [szR_add hx, ← this]
      simp [-List.getElem_cons_drop, hk, hn]
    · have hn : x - (l[k].length : Int) < 0 := by omega
      rw [szR_more hx]
      simp [-List.getElem_cons_drop, hk, hn, wszStringS.a5q5]
theorem wszStringS_ok (l : List Str) (ho : oP l) (x : Int) (h0 : 0 ≤ x) (h1 : x ≤ Lim) : wszStringS [vP l, vI x] [] = rI (szR (wP l) x) := by
  have hl := ho.1
  have hL : (Lim : Int) = 1048576 := rfl
  have hw : IntKind.i64.wrap (x - (l.length : Int)) = x - (l.length : Int) := wrap_in _ (by omega)
  rw [wszStringS.e]
  unfold wP
  simp only [List.length_map, hw, wL_sum]
  by_cases hx : (l.length : Int) ≤ x
  · have hn : ¬ x - (l.length : Int) < 0 := by omega
    have := wszStringS.l5 l ho 0 (by omega) (x - (l.length : Int)) (by omega) (by omega)
    rw [List.drop_zero] at this
    rw [szR_add hx, ← this]
    simp [hn]
  · have hn : x - (l.length : Int) < 0 := by omega
    rw [szR_more hx]
    simp [hn]

/-! ### copies -/
theorem wtoStringS_ok (l : List Str) (hl : l.length ≤ 1048576) : wtoStringS [vP l] [] = rO (eSs l) := by
  have key : ∀ k, k ≤ l.length → (wtoStringS.L3 (eSs l) (k : Int) ((l.take k).map eS ++ List.replicate (l.length - k) [D.v (Value.string (mkS []))])).bind wtoStringS.A3 = rO (eSs l) := by
    refine up l.length ?_ fun k hk ih => ?_
    · rw [wtoStringS.s3, fill_all]; simp [wtoStringS.a3x3]
    · rw [wtoStringS.s3]
      have h1 := fill_get eS l [D.v (Value.string (mkS []))] k hk
      have h2 := fill_len eS l [D.v (Value.string (mkS []))] k (by omega)
      have h3 := fill_set eS l [D.v (Value.string (mkS []))] k hk
      rw [← ih]
      simp only [Int.toNat_natCast, str_at hk, wrap_nat k (by omega), h1, h2, List.getD_cons_zero, str_v]
      have h3' : List.set ((l.take k).map eS ++ List.replicate (l.length - k) [D.v (Value.string (mkS []))]) k (D.v (Value.string (mkS l[k])) :: List.drop 1 [D.v (Value.string (mkS []))]) = _ := h3
      rw [h3']
      have hb1 : decide ((k : Int) < ((eSs l).length : Int)) = true := by simp; omega
      have hb2 : decide (0 ≤ (k : Int)) = true := by simp
      have hb3 : decide ((k : Int) < (l.length : Int)) = true := by simp; omega
      simp only [hb1, hb2, hb3]
      rfl
  rw [wtoStringS.e]
  have hc : (decide (((eSs l).length : Int) * ((↑16 : Int) + 1) ≤ 2 ^ 46) && true && true) = true := by simp; omega
  rw [hc, cond_true]
  have h0 := key 0 (by omega)
  rw [fill_zero] at h0
  simp only [List.length_map, Int.toNat_natCast]
  exact h0
theorem weqStringS_refl (l : List Str) (hl : l.length ≤ 9223372036854775807) : weqStringS [vP l, vP l] [] = rB true := by
  have key : ∀ k, k ≤ l.length → weqStringS.L4 (eSs l) (eSs l) (k : Int) = some weqStringS.x4 := by
    refine up l.length ?_ fun k hk ih => ?_
    · rw [weqStringS.s4]; simp
    · rw [weqStringS.s4]
      simp only [Int.toNat_natCast, str_at hk, wrap_nat k (by omega), ih]
      simp [hk]
  have h0 : weqStringS.L4 (eSs l) (eSs l) 0 = _ := key 0 (by omega)
  rw [weqStringS.e, h0]
  simp [weqStringS.a4x4]
end Go.PVx
/- What the laws do with nodes and trees. (The lemmas on lists are printed by wip/pv/tool/genlaw.py.) -/
namespace Go.PVx
open Go.PV Go.Proofs
abbrev rNodeOf (a : NodeOf) : Option Res := some ⟨[.v (.int .i64 a.id), .o .deep (eSs a.path)], []⟩
abbrev rNodes (a : Nodes) : Option Res := some ⟨[.v (.int .i64 a.next), .o .deep (a.list.map eN)], []⟩
abbrev rTree (t : Tree) : Option Res := some ⟨[.v (.bool t.dir), .v (.int .i64 t.mode), .v (.string (mkS t.data)), .o .deep (eSs t.names), .o .deep (t.kids.map eT)], []⟩

/-! ### NodeOf: lists -/
/-! ### Tree: lists -/
/-! ### nodes -/
theorem wP_len (p : List Str) : p.length ≤ wP p := wL_len _ p
/-! ### trees -/
end Go.PVx
/- Numbers and paths as texts; nodes as a text; the law FnExactNodesWrite on data. (Over the tables of the seat of doors: PvDTab, PvDRes.) -/
namespace Go.PVx
open Go.PV Go.Proofs

/-- A number's digits. -/
abbrev dec (n : Nat) : Str := Lib.decDigits n
theorem dec_len (n : Nat) (h : n ≤ 1000000) : (dec n).length ≤ 7 := by
  unfold dec
  rw [Lib.decDigits_length]
  by_cases h0 : n = 0
  · subst h0; rw [Lib.nDigits_small (by omega)]; omega
  · have : ∀ (k m : Nat), m < 10 ^ (k + 1) → Lib.nDigits m ≤ k + 1 := by
      intro k
      induction k with
      | zero => intro m hm; rw [Lib.nDigits_small (by simpa using hm)]; omega
      | succ k ih =>
        intro m hm
        by_cases h10 : m < 10
        · rw [Lib.nDigits_small h10]; omega
        · rw [Lib.nDigits_big h10]
          have := ih (m / 10) (by rw [Nat.pow_succ] at hm; omega)
          omega
    exact this 6 n (by omega)
theorem strOf_byte (d : Nat) (h : d < 10) : strOf [[D.v (Value.int IntKind.u8 (IntKind.u8.wrap (IntKind.i64.wrap (48 + (d : Int)))))]] = mkS [UInt8.ofNat (48 + d)] := by
  rw [wrap_in _ (by omega), IntKind.wrap_u8]
  have : (48 + (d : Int)) % 256 = ((48 + d : Nat) : Int) := by omega
  rw [this]
  rfl
theorem sl1Dec_ok : ∀ (n : Nat), n ≤ 1000000 → sl1Dec [vI n] [] = rS (dec n) := by
  intro n
  induction n using Nat.strongRecOn with
  | _ n ih =>
    intro h
    rw [sl1Dec.e]
    have h1 : decide ((n : Int) < -9223372036854775807) = false := decide_eq_false (by omega)
    have h2 : decide ((n : Int) < 0) = false := by simp
    rw [h1, h2]
    simp only [cond_false]
    unfold dec
    rw [Lib.decDigits]
    by_cases h10 : n < 10
    · have h3 : decide ((n : Int) < 10) = true := by simp; omega
      rw [h3, dif_pos h10, cond_true, strOf_byte n h10]
    · have h3 : decide ((n : Int) < 10) = false := by simp; omega
      have hq : (n : Int).tdiv 10 = ((n / 10 : Nat) : Int) := by rw [Int.tdiv_eq_ediv_of_nonneg (by omega)]; omega
      have hr : (n : Int).tmod 10 = ((n % 10 : Nat) : Int) := by rw [Int.tmod_eq_emod_of_nonneg (by omega)]; omega
      have hw : IntKind.i64.wrap ((n / 10 : Nat) : Int) = ((n / 10 : Nat) : Int) := wrap_in _ (by omega)
      have hi := ih (n / 10) (by omega) (by omega)
      have hl := dec_len (n / 10) (by omega)
      unfold dec at hi hl
      have e1 : (Lib.decDigits (n / 10)).length ≤ 70368744177663 := by omega
      rw [h3, dif_neg h10, cond_false, hq, hw, hi, hr, strOf_byte (n % 10) (by omega)]
      simp [e1]
theorem strconv_Itoa_ok (n : Nat) (h : n ≤ 1000000) : strconv_Itoa [vI n] [] = rS (dec n) := by
  rw [strconv_Itoa.ext]
  have h1 : decide (-9223372036854775808 ≤ (n : Int)) = true := decide_eq_true (by omega)
  have h2 : decide ((n : Int) ≤ 9223372036854775807) = true := decide_eq_true (by omega)
  simp only [extItoa, h1, h2, Bool.and_self, cond_true, Lib.itoa_nonneg]
  rfl

/-! ### paths -/
/-- A path's text. -/
def pt (p : List Str) : Str := if p = [] then [47] else Lib.joinTail [47] p
theorem joinTail_len (p : List Str) : (Lib.joinTail [47] p).length = wP p := by
  unfold wP
  induction p with
  | nil => rfl
  | cons x p ih =>
    have : Lib.joinTail [47] (x :: p) = [47] ++ x ++ Lib.joinTail [47] p := by simp [Lib.joinTail]
    rw [this]
    simp only [List.length_append, List.length_cons, List.length_nil, ih, wL]
theorem pt_len (p : List Str) : (pt p).length ≤ 1 + wP p := by
  unfold pt
  split
  · simp
  · rw [joinTail_len]; omega
theorem strRows_eSs : ∀ p : List Str, strRows (eSs p) = some (p.map mkS)
  | [] => rfl
  | x :: p => by
    have := strRows_eSs p
    simp only [List.map_cons, strRows, this]
    rfl
theorem strings_Join_ok (p : List Str) (hp : wP p ≤ 1048576) (h0 : p ≠ []) : strings_Join [vP p, vS [47]] [] = rS (Lib.join p [47]) := by
  rw [strings_Join.ext]
  have hm : (p.map mkS).map (fun x => x.data.toList) = p := by simp [List.map_map, Function.comp_def]
  have hlen : (Lib.join p [47]).length ≤ wP p := by
    cases p with
    | nil => exact absurd rfl h0
    | cons x r =>
      have hj := joinTail_len r
      rw [Lib.join_cons, List.length_append, hj]
      unfold wP
      simp only [wL]; omega
  have hpl := wP_len p
  have e1 : decide ((p.map mkS).length ≤ 140737488355328) = true := by simp; omega
  have e2 : decide ((Lib.join p [47]).length ≤ 140737488355328) = true := by simp; omega
  have hx : joinD (p.map mkS) (mkS [47]) = mkS (Lib.join p [47]) := by
    unfold joinD
    rw [hm]
    rfl
  show extJoin [.one (.s (eSs p)), .one (.v (.string (mkS [47])))] [] = _
  simp only [extJoin, strRows_eSs, e1, hm]
  have hs : (mkS [47]).data.toList = [47] := rfl
  rw [hs, e2]
  simp only [Bool.and_self, cond_true, hx]
theorem ipathText_ok (p : List Str) (hp : wP p ≤ 1048576) : ipathText [vP p] [] = rS (pt p) := by
  rw [ipathText.e]
  cases p with
  | nil => rfl
  | cons x r =>
    have h1 := strings_Join_ok (x :: r) hp (by simp)
    have h2 : (Lib.join (x :: r) [47]).length ≤ 1048576 := by
      have hj := joinTail_len r
      unfold wP at hp hj
      rw [Lib.join_cons, List.length_append, hj]
      simp only [wL] at hp; omega
    have e1 : decide (1 + (Lib.join (x :: r) [47]).length ≤ 70368744177664) = true := by simp; omega
    have h3 : ((((eSs (x :: r)).length : Nat) : Int) == 0) = false := by simp; omega
    have h4 : (ByteArray.mk #[47]) = mkS [47] := rfl
    rw [h3, cond_false, h4, h1]
    have h5 : pt (x :: r) = 47 :: Lib.join (x :: r) [47] := by
      unfold pt
      rw [if_neg (by simp), Lib.join_cons]
      simp [Lib.joinTail]
    rw [h5]
    simp [e1]
theorem sl3Name_ok (p : List Str) (hp : wP p ≤ 1048576) : sl3Name [vP p] [] = rS (pt p) := by
  have hpl := wP_len p
  have hlen := joinTail_len p
  have key : ∀ k, k ≤ p.length → sl3Name.L3 (eSs p) (mkS (Lib.joinTail [47] (p.take k))) (k : Int) = some (sl3Name.x3 (mkS (Lib.joinTail [47] p))) := by
    refine up p.length ?_ fun k hk ih => ?_
    · rw [sl3Name.s3]; simp
    · have hs : Lib.joinTail [47] (p.take (k + 1)) = Lib.joinTail [47] (p.take k) ++ [47] ++ p[k] := Lib.joinTail_take_succ [47] p k p[k] (by simp [hk])
      have hle := Lib.joinTail_take_le [47] p (k + 1)
      rw [hs] at hle
      simp only [List.length_append, List.length_cons, List.length_nil] at hle
      have e1 : decide ((Lib.joinTail [47] (p.take k)).length + 1 ≤ 70368744177664) = true := by simp; omega
      have e2 : decide ((Lib.joinTail [47] (p.take k)).length + 1 + p[k].length ≤ 70368744177664) = true := by simp; omega
      have h4 : (ByteArray.mk #[47]) = mkS [47] := rfl
      rw [hs] at ih
      rw [sl3Name.s3]
      simp only [Int.toNat_natCast, str_at hk, wrap_nat k (by omega), h4, mkS_append, size_mkS, List.getD_cons_zero, str_v, List.length_append, List.length_cons, List.length_nil, e1, e2, ih]
      simp [hk]
  have h0 := key 0 (by omega)
  rw [sl3Name.e]
  have h5 : (ByteArray.mk #[]) = mkS (Lib.joinTail [47] (p.take 0)) := rfl
  rw [h5]
  have h0 : sl3Name.L3 (eSs p) (mkS (Lib.joinTail [47] (p.take 0))) 0 = _ := h0
  rw [h0, Option.bind_some, sl3Name.a3x3, toList_mkS]
  cases p with
  | nil => rfl
  | cons x r =>
    have : Lib.joinTail [47] (x :: r) = 47 :: (x ++ Lib.joinTail [47] r) := by simp [Lib.joinTail]
    simp [pt, this]
end Go.PVx
/- Bytes in hexadecimal. -/
namespace Go.PVx
open Go.PV Go.Proofs

def hexD : Str := [48, 49, 50, 51, 52, 53, 54, 55, 56, 57, 97, 98, 99, 100, 101, 102]
theorem hexD_mk : (ByteArray.mk #[48, 49, 50, 51, 52, 53, 54, 55, 56, 57, 97, 98, 99, 100, 101, 102]) = mkS hexD := rfl
def dig (n : Nat) : UInt8 := hexD.getD n 0
def hexB (b : UInt8) : Str := [dig (b.toNat / 16), dig (b.toNat % 16)]
def hexS (s : Str) : Str := (s.map hexB).flatten
/-- The text of bytes. -/
def dataT (s : Str) : Str := if s = [] then [45] else hexS s
theorem dig_fin : ∀ i : Fin 16, (hexD.take (i.val + 1)).drop i.val = [dig i.val] := by decide
theorem dig_at {i : Nat} (h : i < 16) : (hexD.take (i + 1)).drop i = [dig i] := dig_fin ⟨i, h⟩
theorem hexS_len : ∀ s : Str, (hexS s).length = 2 * s.length
  | [] => rfl
  | b :: s => by
    have : hexS (b :: s) = hexB b ++ hexS s := by simp [hexS]
    rw [this, List.length_append, hexS_len s]
    simp only [hexB, List.length_cons, List.length_nil]; omega
theorem hexS_succ (s : Str) (k : Nat) (h : k < s.length) : hexS (s.take (k + 1)) = hexS (s.take k) ++ hexB s[k] := by
  unfold hexS
  rw [take_snoc s k h]
  simp only [List.map_append, List.flatten_append, List.map_cons, List.map_nil, List.flatten_cons, List.flatten_nil, List.append_nil]
theorem nib (b : UInt8) : (IntKind.u8.wrap ((b.toNat : Int).tdiv 16)) = ((b.toNat / 16 : Nat) : Int) ∧ IntKind.u8.wrap (((b.toNat / 16 : Nat) : Int) + 1) = ((b.toNat / 16 + 1 : Nat) : Int) ∧
    (b.toNat : Int).tmod 16 = ((b.toNat % 16 : Nat) : Int) ∧ IntKind.u8.wrap (((b.toNat % 16 : Nat) : Int) + 1) = ((b.toNat % 16 + 1 : Nat) : Int) ∧ b.toNat / 16 < 16 ∧ b.toNat % 16 < 16 := by
  have hb : b.toNat < 256 := b.toNat_lt
  refine ⟨?_, ?_, ?_, ?_, by omega, by omega⟩
  · rw [IntKind.wrap_u8, Int.tdiv_eq_ediv_of_nonneg (by omega)]; omega
  · rw [IntKind.wrap_u8]; omega
  · rw [Int.tmod_eq_emod_of_nonneg (by omega)]; omega
  · rw [IntKind.wrap_u8]; omega
theorem sl1Hex_ok (s : Str) (hs : s.length ≤ 1048576) : sl1Hex [vS s] [] = rS (dataT s) := by
  have key : ∀ k, k ≤ s.length → sl1Hex.L3 (mkS s) (mkS (hexS (s.take k))) (k : Int) = some (sl1Hex.x3 (mkS (hexS s))) := by
    refine up s.length ?_ fun k hk ih => ?_
    · rw [sl1Hex.s3]; simp
    · obtain ⟨n1, n2, n3, n4, n5, n6⟩ := nib s[k]
      have hl := hexS_len (s.take k)
      rw [List.length_take] at hl
      rw [hexS_succ s k hk] at ih
      have e0 : decide ((k : Int) < (s.length : Int)) = true := by simp; omega
      have e1 : decide ((0 : Int) ≤ (k : Int)) = true := by simp
      have e2 : decide (((s[k].toNat / 16 : Nat) : Int) ≤ ((s[k].toNat / 16 + 1 : Nat) : Int)) = true := decide_eq_true (by omega)
      have e3 : decide (((s[k].toNat / 16 + 1 : Nat) : Int) ≤ ((hexD.length : Nat) : Int)) = true := decide_eq_true (by show _ ≤ ((16 : Nat) : Int); omega)
      have e4 : decide (((s[k].toNat % 16 : Nat) : Int) ≤ ((s[k].toNat % 16 + 1 : Nat) : Int)) = true := decide_eq_true (by omega)
      have e5 : decide (((s[k].toNat % 16 + 1 : Nat) : Int) ≤ ((hexD.length : Nat) : Int)) = true := decide_eq_true (by show _ ≤ ((16 : Nat) : Int); omega)
      have e6 : decide ((hexS (s.take k)).length + 1 ≤ 70368744177664) = true := decide_eq_true (by omega)
      have e7 : decide ((hexS (s.take k)).length + 1 + 1 ≤ 70368744177664) = true := decide_eq_true (by omega)
      have hx : hexS (s.take k) ++ [dig (s[k].toNat / 16)] ++ [dig (s[k].toNat % 16)] = hexS (s.take k) ++ hexB s[k] := by simp [hexB]
      rw [sl1Hex.s3]
      simp only [Int.toNat_natCast, byteAt_lt s k hk, hexD_mk, size_mkS, n1, n2, n3, n4, extract_mkS, dig_at n5, dig_at n6, mkS_append, List.length_append, List.length_cons, List.length_nil, Nat.zero_add, wrap_nat k (by omega), e0, e1, e2, e3, e4, e5, e6, e7, hx, ih]
      rfl
  have h0 : sl1Hex.L3 (mkS s) (mkS (hexS (s.take 0))) 0 = _ := key 0 (by omega)
  have h1 : (ByteArray.mk #[]) = mkS (hexS (s.take 0)) := rfl
  rw [sl1Hex.e, h1, h0, Option.bind_some, sl1Hex.a3x3, toList_mkS]
  unfold dataT
  cases s with
  | nil => rfl
  | cons b s =>
    have : hexS (b :: s) = dig (b.toNat / 16) :: dig (b.toNat % 16) :: hexS s := by simp [hexS, hexB]
    rw [this]
    rfl
def byteRow (b : UInt8) : List D := [.v (.int .u8 (b.toNat : Int))]
theorem strOf_bytes (l : Str) : strOf (l.map byteRow) = mkS l := by
  have key : ∀ (l : Str) (acc : Str), ((l.map byteRow).map fun r => (r.getD 0 .h).int).foldl (fun r n => r.push (UInt8.ofNat n.toNat)) (mkS acc) = mkS (acc ++ l) := by
    intro l
    induction l with
    | nil => intro acc; simp
    | cons b l ih =>
      intro acc
      have hp : (mkS acc).push b = mkS (acc ++ [b]) := by
        show ByteArray.mk (acc.toArray.push b) = ByteArray.mk (acc ++ [b]).toArray
        rw [List.push_toArray]
      have hb : UInt8.ofNat (b.toNat : Int).toNat = b := by simp
      simp only [List.map_cons, List.foldl_cons, byteRow, List.getD_cons_zero, int_v]
      rw [hb, hp]
      have := ih (acc ++ [b])
      simp only [byteRow, List.append_assoc, List.cons_append, List.nil_append] at this
      exact this
  exact key l []
theorem bytesB_bytes (l : Str) : bytesB (l.map byteRow) = true := by
  simp [bytesB, byteRow]
theorem rowsLen_bytes (l : Str) : rowsLen 1 (l.map byteRow) = true := rowsLen_map byteRow 1 (fun _ => rfl) l
theorem ihexOf_ok (s : Str) (hs : s.length ≤ 1048576) : ihexOf [vS s] [] = rS (hexS s) := by
  have key : ∀ k, k ≤ s.length → ihexOf.L3 (mkS s) (k : Int) ((hexS (s.take k)).map byteRow) = some (ihexOf.x3 ((hexS s).map byteRow)) := by
    refine up s.length ?_ fun k hk ih => ?_
    · rw [ihexOf.s3]; simp
    · obtain ⟨n1, n2, n3, n4, n5, n6⟩ := nib s[k]
      have hl := hexS_len (s.take k)
      rw [List.length_take] at hl
      rw [hexS_succ s k hk] at ih
      have e0 : decide ((k : Int) < (s.length : Int)) = true := by simp; omega
      have e1 : decide ((0 : Int) ≤ (k : Int)) = true := by simp
      have e2 : decide (((s[k].toNat / 16 : Nat) : Int) < ((hexD.length : Nat) : Int)) = true := decide_eq_true (by show _ < ((16 : Nat) : Int); omega)
      have e3 : decide (((s[k].toNat % 16 : Nat) : Int) < ((hexD.length : Nat) : Int)) = true := decide_eq_true (by show _ < ((16 : Nat) : Int); omega)
      have e6 : decide ((((hexS (s.take k)).map byteRow).length + 2) * 2 ≤ 70368744177664) = true := decide_eq_true (by rw [List.length_map]; omega)
      have hx : (hexS (s.take k)).map byteRow ++ [[D.v (Value.int IntKind.u8 ((dig (s[k].toNat / 16)).toNat : Int))], [D.v (Value.int IntKind.u8 ((dig (s[k].toNat % 16)).toNat : Int))]] = (hexS (s.take k) ++ hexB s[k]).map byteRow := by
        simp [hexB, byteRow]
      have d1 : byteAt (mkS hexD) (s[k].toNat / 16) = ((dig (s[k].toNat / 16)).toNat : Int) := byteAt_mkS _ _
      have d2 : byteAt (mkS hexD) (s[k].toNat % 16) = ((dig (s[k].toNat % 16)).toNat : Int) := byteAt_mkS _ _
      rw [ihexOf.s3]
      simp only [Int.toNat_natCast, byteAt_lt s k hk, hexD_mk, size_mkS, n1, n3, wrap_nat k (by omega), e0, e1, e2, e3, e6, rowsLen_bytes, d1, d2, hx, ih]
      rfl
  have h0 : ihexOf.L3 (mkS s) 0 [] = _ := key 0 (by omega)
  rw [ihexOf.e, h0, Option.bind_some, ihexOf.a3x3, bytesB_bytes, strOf_bytes]
  rfl
theorem idataText_ok (s : Str) (hs : s.length ≤ 1048576) : idataText [vS s] [] = rS (dataT s) := by
  rw [idataText.e, ihexOf_ok s hs, toList_mkS]
  unfold dataT
  cases s with
  | nil => rfl
  | cons b s => simp
end Go.PVx
/- Calls: whether they are calls, their texts. -/
namespace Go.PVx
open Go.PV Go.Proofs

abbrev rC (c : Call) : Option Res := some ⟨[.v (.int .i64 c.kind), .o .deep (eSs c.path), .o .deep (eSs c.to), .v (.int .i64 c.at), .v (.string (mkS c.data))], []⟩
def wC (c : Call) : Nat := wP c.path + wP c.to + c.data.length
structure OC (c : Call) : Prop where
  path : oP c.path
  to : oP c.to
  data : sS c.data
  lo : -9223372036854775808 ≤ c.at
  hi : c.at ≤ 9223372036854775807
/-- Is it a call? -/
def callB (c : Call) : Bool :=
  if c.kind = 1 ∨ c.kind = 6 then pathB 1 c.path && inB c.at 0 7
  else if c.kind = 2 ∨ c.kind = 3 then pathB 1 c.path && inB c.at 0 24
  else if c.kind = 4 then pathB 1 c.path
  else if c.kind = 5 then pathB 1 c.path && pathB 1 c.to
  else false
end Go.PVx
/- Calls: whether they are calls; their texts (both sides). -/
namespace Go.PVx
open Go.PV Go.Proofs

def wordK (k : Int) : Str :=
  if k = 1 then [109, 107, 100, 105, 114] else if k = 2 then [119, 114, 105, 116, 101] else if k = 3 then [116, 114, 117, 110, 99, 97, 116, 101]
  else if k = 4 then [114, 101, 109, 111, 118, 101] else if k = 5 then [114, 101, 110, 97, 109, 101] else [99, 104, 109, 111, 100]
def headC (c : Call) : Str := wordK c.kind ++ [32] ++ pt c.path
def tailC (c : Call) : Str :=
  if c.kind = 4 then [] else if c.kind = 5 then [32] ++ pt c.to else if c.kind = 2 then [32] ++ dec c.at.toNat ++ [32] ++ dataT c.data else [32] ++ dec c.at.toNat
/-- A call's text. -/
def callT (c : Call) : Str := if callB c = true ∧ ¬ (c.kind = 2 ∧ 24 < c.data.length) then headC c ++ tailC c else []
theorem callB_spec {c : Call} (hc : callB c = true) : (c.kind = 1 ∨ c.kind = 2 ∨ c.kind = 3 ∨ c.kind = 4 ∨ c.kind = 5 ∨ c.kind = 6) ∧ ((c.kind = 1 ∨ c.kind = 2 ∨ c.kind = 3 ∨ c.kind = 6) → 0 ≤ c.at ∧ c.at ≤ 24) := by
  unfold callB at hc
  split at hc
  · rename_i hk
    simp only [Bool.and_eq_true, inB, decide_eq_true_eq] at hc
    exact ⟨by omega, fun _ => by omega⟩
  split at hc
  · rename_i hk
    simp only [Bool.and_eq_true, inB, decide_eq_true_eq] at hc
    exact ⟨by omega, fun _ => by omega⟩
  split at hc
  · exact ⟨by omega, fun _ => by omega⟩
  split at hc
  · exact ⟨by omega, fun _ => by omega⟩
  · exact absurd hc (by simp)
theorem le_dec (n m : Nat) (h : n ≤ m) : decide (n ≤ m) = true := decide_eq_true h
theorem lim_le (n : Nat) (h : n ≤ 9000000) : decide (n ≤ 70368744177664) = true := decide_eq_true (by omega)
theorem dataT_len (s : Str) : (dataT s).length ≤ 1 + 2 * s.length := by
  unfold dataT
  split
  · simp
  · rw [hexS_len]; omega
theorem strconv_Itoa_any (a : Int) (h0 : -9223372036854775808 ≤ a) (h1 : a ≤ 9223372036854775807) : strconv_Itoa [vI a] [] = rS (Lib.itoa a) := by
  rw [strconv_Itoa.ext]
  have e1 : decide (-9223372036854775808 ≤ a) = true := decide_eq_true h0
  have e2 : decide (a ≤ 9223372036854775807) = true := decide_eq_true h1
  simp only [extItoa, e1, e2, Bool.and_self, cond_true]
  rfl


theorem sl1Dec_int (a : Int) (h0 : 0 ≤ a) (h1 : a ≤ 1000000) : sl1Dec [AV.one (A1.v (Value.int IntKind.i64 a))] [] = rS (dec a.toNat) := by
  have := sl1Dec_ok a.toNat (by omega)
  rwa [show ((a.toNat : Nat) : Int) = a by omega] at this
theorem dec_len_int (a : Int) (h1 : a ≤ 1000000) : (dec a.toNat).length ≤ 7 := dec_len a.toNat (by omega)
end Go.PVx
/- What the laws do with uppers. (The lemmas on lists are printed by wip/pv/tool/genlaw.py.) -/
namespace Go.PVx
open Go.PV Go.Proofs

def wE (e : Entry) : Nat := wP e.path + e.data.length
def wU (u : Upper) : Nat := wL wP u.gone + wL wE u.puts
structure OE (e : Entry) : Prop where
  path : oP e.path
  data : sS e.data
structure OU (u : Upper) : Prop where
  gone : sL oP u.gone
  puts : sL OE u.puts
abbrev rPa (a : List Str) : Option Res := rO (eSs a)
abbrev rEntry (e : Entry) : Option Res := some ⟨[.o .deep (eSs e.path), .v (.int .i64 e.what), .v (.bool e.dir), .v (.int .i64 e.mode), .v (.string (mkS e.data))], []⟩
abbrev vU (u : Upper) : AV := .g [.s (u.gone.map ePa), .s (u.puts.map eE)]
abbrev rU (u : Upper) : Option Res := some ⟨[.o .deep (u.gone.map ePa), .o .deep (u.puts.map eE)], []⟩
theorem paths_at {l : List (List Str)} {k : Nat} (h : k < l.length) : (l.map ePa).getD k [] = [.s (eSs l[k])] := by
  rw [getD_map ePa l k h]; rfl
theorem entry_at {l : List Entry} {k : Nat} (h : k < l.length) : (l.map eE).getD k [] = [.s (eSs l[k].path), .v (.int .i64 l[k].what), .v (.bool l[k].dir), .v (.int .i64 l[k].mode), .v (.string (mkS l[k].data))] := by
  rw [getD_map eE l k h]; rfl

/-! ### StringS: lists -/
theorem wszStringSS.l5 (l : List (List Str)) (hl : l.length ≤ 9223372036854775807) (hX : ∀ a ∈ l, ∀ x : Int, 0 ≤ x → x ≤ Lim → wszStringS [vP a, vI x] [] = rI (szR (wP a) x)) : ∀ k, k ≤ l.length → ∀ x : Int, 0 ≤ x → x ≤ Lim →
    (wszStringSS.L5 (l.map ePa) x (k : Int)).bind wszStringSS.A5 = rI (szR (sumW wP (l.drop k)) x) := by
  have hL : (Lim : Int) = 1048576 := rfl
  refine up l.length ?_ fun k hk ih x h0 h1 => ?_
  · intro x h0 h1; rw [wszStringSS.s5]; simp [sumW, szR, wszStringSS.a5x5, h0]
  · rw [wszStringSS.s5, drop_cons l k hk]
    have h := hX l[k] (List.getElem_mem hk) x h0 h1
    simp only [Int.toNat_natCast, paths_at hk, wrap_nat k (by omega), sumW]
    by_cases hx : (wP l[k] : Int) ≤ x
    · have hn : ¬ x - (wP l[k] : Int) < 0 := by omega
      have := ih (x - (wP l[k] : Int)) (by omega) (by omega)
      push_cast at this
      rw [szR_pos hx] at h
      rw [szR_add hx, ← this]
      simp [-List.getElem_cons_drop, hk, hn, h]
    · rw [szR_neg hx] at h
      rw [szR_more hx]
      simp [-List.getElem_cons_drop, hk, h, wszStringSS.a5q5]
theorem wszStringSS_of (l : List (List Str)) (hl : l.length ≤ 9223372036854775807) (hX : ∀ a ∈ l, ∀ x : Int, 0 ≤ x → x ≤ Lim → wszStringS [vP a, vI x] [] = rI (szR (wP a) x)) (x : Int) (h0 : 0 ≤ x) (h1 : x ≤ Lim) :
    wszStringSS [.one (.s (l.map ePa)), vI x] [] = rI (szR (wL wP l) x) := by
  have hL : (Lim : Int) = 1048576 := rfl
  have hw : IntKind.i64.wrap (x - (l.length : Int)) = x - (l.length : Int) := wrap_in _ (by omega)
  rw [wszStringSS.e]
  simp only [List.length_map, hw, wL_sum]
  by_cases hx : (l.length : Int) ≤ x
  · have hn : ¬ x - (l.length : Int) < 0 := by omega
    have := wszStringSS.l5 l hl hX 0 (by omega) (x - (l.length : Int)) (by omega) (by omega)
    rw [List.drop_zero] at this
    rw [szR_add hx, ← this]
    simp [hn]
  · have hn : x - (l.length : Int) < 0 := by omega
    rw [szR_more hx]
    simp [hn]
theorem wtoStringSS_of (l : List (List Str)) (hl : l.length ≤ 1048576) (hX : ∀ a ∈ l, wtoStringS [vP a] [] = rPa a) : wtoStringSS [.one (.s (l.map ePa))] [] = rO (l.map ePa) := by
  have key : ∀ k, k ≤ l.length → (wtoStringSS.L3 (l.map ePa) (k : Int) ((l.take k).map ePa ++ List.replicate (l.length - k) [D.s []])).bind wtoStringSS.A3 = rO (l.map ePa) := by
    refine up l.length ?_ fun k hk ih => ?_
    · rw [wtoStringSS.s3, fill_all]; simp [wtoStringSS.a3x3]
    · rw [wtoStringSS.s3]
      have h := hX l[k] (List.getElem_mem hk)
      have h1 := fill_get ePa l [D.s []] k hk
      have h2 := fill_len ePa l [D.s []] k (by omega)
      have h3 := fill_set ePa l [D.s []] k hk
      have h4 : ePa l[k] = _ := (getD_map ePa l k hk).symm.trans (paths_at hk)
      rw [h4] at h3
      rw [← ih]
      simp only [Int.toNat_natCast, paths_at hk, wrap_nat k (by omega), h1, h2]
      have hb1 : decide ((k : Int) < ((l.map ePa).length : Int)) = true := by simp; omega
      have hb2 : decide (0 ≤ (k : Int)) = true := by simp
      have hb3 : decide ((k : Int) < (l.length : Int)) = true := by simp; omega
      simp only [hb1, hb2, hb3]
      simp only [fitsRow, CK.fits, List.zipIdx, List.all_cons, List.all_nil, List.getD_cons_zero, List.getD_cons_succ, List.length_cons, List.length_nil, str_v, bool_v, int_v, es_s, h, Option.bind_some, fitsCells, R1.fits, tes_o, tint_v, tbool_v, tstr_v]
      simp only [List.drop_succ_cons, List.drop_zero, List.drop_nil]
      rw [h3]
      rfl
  rw [wtoStringSS.e]
  have hc : (decide (((l.map ePa).length : Int) * ((↑24 : Int) + 1) ≤ 2 ^ 46) && true && true) = true := by simp; omega
  rw [hc, cond_true]
  have h0 := key 0 (by omega)
  rw [fill_zero] at h0
  simp only [List.length_map, Int.toNat_natCast]
  exact h0
theorem weqStringSS_of (l : List (List Str)) (hl : l.length ≤ 9223372036854775807) (hX : ∀ a ∈ l, weqStringS [vP a, vP a] [] = rB true) : weqStringSS [.one (.s (l.map ePa)), .one (.s (l.map ePa))] [] = rB true := by
  have key : ∀ k, k ≤ l.length → weqStringSS.L4 (l.map ePa) (l.map ePa) (k : Int) = some weqStringSS.x4 := by
    refine up l.length ?_ fun k hk ih => ?_
    · rw [weqStringSS.s4]; simp
    · rw [weqStringSS.s4]
      have h := hX l[k] (List.getElem_mem hk)
      simp only [Int.toNat_natCast, paths_at hk, wrap_nat k (by omega), ih]
      simp [hk, h]
  have h0 : weqStringSS.L4 (l.map ePa) (l.map ePa) 0 = _ := key 0 (by omega)
  rw [weqStringSS.e, h0]
  simp [weqStringSS.a4x4]


/-! ### Entry: lists -/
theorem wszEntryS.l5 (l : List Entry) (hl : l.length ≤ 9223372036854775807) (hX : ∀ a ∈ l, ∀ x : Int, 0 ≤ x → x ≤ Lim → wszEntry [vE a, vI x] [] = rI (szR (wE a) x)) : ∀ k, k ≤ l.length → ∀ x : Int, 0 ≤ x → x ≤ Lim →
    (wszEntryS.L5 (l.map eE) x (k : Int)).bind wszEntryS.A5 = rI (szR (sumW wE (l.drop k)) x) := by
  have hL : (Lim : Int) = 1048576 := rfl
  refine up l.length ?_ fun k hk ih x h0 h1 => ?_
  · intro x h0 h1; rw [wszEntryS.s5]; simp [sumW, szR, wszEntryS.a5x5, h0]
  · rw [wszEntryS.s5, drop_cons l k hk]
    have h := hX l[k] (List.getElem_mem hk) x h0 h1
    simp only [Int.toNat_natCast, entry_at hk, wrap_nat k (by omega), sumW]
    by_cases hx : (wE l[k] : Int) ≤ x
    · have hn : ¬ x - (wE l[k] : Int) < 0 := by omega
      have := ih (x - (wE l[k] : Int)) (by omega) (by omega)
      push_cast at this
      rw [szR_pos hx] at h
      rw [szR_add hx, ← this]
      simp [-List.getElem_cons_drop, hk, hn, h]
    · rw [szR_neg hx] at h
      rw [szR_more hx]
      simp [-List.getElem_cons_drop, hk, h, wszEntryS.a5q5]
theorem wszEntryS_of (l : List Entry) (hl : l.length ≤ 9223372036854775807) (hX : ∀ a ∈ l, ∀ x : Int, 0 ≤ x → x ≤ Lim → wszEntry [vE a, vI x] [] = rI (szR (wE a) x)) (x : Int) (h0 : 0 ≤ x) (h1 : x ≤ Lim) :
    wszEntryS [.one (.s (l.map eE)), vI x] [] = rI (szR (wL wE l) x) := by
  have hL : (Lim : Int) = 1048576 := rfl
  have hw : IntKind.i64.wrap (x - (l.length : Int)) = x - (l.length : Int) := wrap_in _ (by omega)
  rw [wszEntryS.e]
  simp only [List.length_map, hw, wL_sum]
  by_cases hx : (l.length : Int) ≤ x
  · have hn : ¬ x - (l.length : Int) < 0 := by omega
    have := wszEntryS.l5 l hl hX 0 (by omega) (x - (l.length : Int)) (by omega) (by omega)
    rw [List.drop_zero] at this
    rw [szR_add hx, ← this]
    simp [hn]
  · have hn : x - (l.length : Int) < 0 := by omega
    rw [szR_more hx]
    simp [hn]
theorem wtoEntryS_of (l : List Entry) (hl : l.length ≤ 1048576) (hX : ∀ a ∈ l, wtoEntry [vE a] [] = rEntry a) : wtoEntryS [.one (.s (l.map eE))] [] = rO (l.map eE) := by
  have key : ∀ k, k ≤ l.length → (wtoEntryS.L3 (l.map eE) (k : Int) ((l.take k).map eE ++ List.replicate (l.length - k) [D.s [], D.v (Value.int IntKind.i64 0), D.v (Value.bool false), D.v (Value.int IntKind.i64 0), D.v (Value.string (mkS []))])).bind wtoEntryS.A3 = rO (l.map eE) := by
    refine up l.length ?_ fun k hk ih => ?_
    · rw [wtoEntryS.s3, fill_all]; simp [wtoEntryS.a3x3]
    · rw [wtoEntryS.s3]
      have h := hX l[k] (List.getElem_mem hk)
      have h1 := fill_get eE l [D.s [], D.v (Value.int IntKind.i64 0), D.v (Value.bool false), D.v (Value.int IntKind.i64 0), D.v (Value.string (mkS []))] k hk
      have h2 := fill_len eE l [D.s [], D.v (Value.int IntKind.i64 0), D.v (Value.bool false), D.v (Value.int IntKind.i64 0), D.v (Value.string (mkS []))] k (by omega)
      have h3 := fill_set eE l [D.s [], D.v (Value.int IntKind.i64 0), D.v (Value.bool false), D.v (Value.int IntKind.i64 0), D.v (Value.string (mkS []))] k hk
      have h4 : eE l[k] = _ := (getD_map eE l k hk).symm.trans (entry_at hk)
      rw [h4] at h3
      rw [← ih]
      simp only [Int.toNat_natCast, entry_at hk, wrap_nat k (by omega), h1, h2]
      have hb1 : decide ((k : Int) < ((l.map eE).length : Int)) = true := by simp; omega
      have hb2 : decide (0 ≤ (k : Int)) = true := by simp
      have hb3 : decide ((k : Int) < (l.length : Int)) = true := by simp; omega
      simp only [hb1, hb2, hb3]
      simp only [fitsRow, CK.fits, List.zipIdx, List.all_cons, List.all_nil, List.getD_cons_zero, List.getD_cons_succ, List.length_cons, List.length_nil, str_v, bool_v, int_v, es_s, h, Option.bind_some, fitsCells, R1.fits, tes_o, tint_v, tbool_v, tstr_v]
      simp only [List.drop_succ_cons, List.drop_zero, List.drop_nil]
      rw [h3]
      rfl
  rw [wtoEntryS.e]
  have hc : (decide (((l.map eE).length : Int) * ((↑64 : Int) + 1) ≤ 2 ^ 46) && true && true) = true := by simp; omega
  rw [hc, cond_true]
  have h0 := key 0 (by omega)
  rw [fill_zero] at h0
  simp only [List.length_map, Int.toNat_natCast]
  exact h0
theorem weqEntryS_of (l : List Entry) (hl : l.length ≤ 9223372036854775807) (hX : ∀ a ∈ l, weqEntry [vE a, vE a] [] = rB true) : weqEntryS [.one (.s (l.map eE)), .one (.s (l.map eE))] [] = rB true := by
  have key : ∀ k, k ≤ l.length → weqEntryS.L4 (l.map eE) (l.map eE) (k : Int) = some weqEntryS.x4 := by
    refine up l.length ?_ fun k hk ih => ?_
    · rw [weqEntryS.s4]; simp
    · rw [weqEntryS.s4]
      have h := hX l[k] (List.getElem_mem hk)
      simp only [Int.toNat_natCast, entry_at hk, wrap_nat k (by omega), ih]
      simp [hk, h]
  have h0 : weqEntryS.L4 (l.map eE) (l.map eE) 0 = _ := key 0 (by omega)
  rw [weqEntryS.e, h0]
  simp [weqEntryS.a4x4]


theorem wszEntry_ok (e : Entry) (h : OE e) (x : Int) (h0 : 0 ≤ x) (h1 : x ≤ Lim) : wszEntry [vE e, vI x] [] = rI (szR (wE e) x) := by
  have hL : (Lim : Int) = 1048576 := rfl
  have hd := h.data
  unfold sS at hd
  have e1 := wszStringS_ok e.path h.path x h0 h1
  rw [wszEntry.e, e1]
  unfold wE
  by_cases hx : (wP e.path : Int) ≤ x
  · rw [szR_pos hx]
    by_cases hx2 : (e.data.length : Int) ≤ x - wP e.path
    · rw [szR_pos (by omega), show x - ((wP e.path + e.data.length : Nat) : Int) = x - wP e.path - e.data.length by omega]
      simp (disch := omega) only [pvS, pvT, pvC, pvL, pvR, pvN]
    · rw [szR_neg (by omega)]
      simp (disch := omega) only [pvS, pvT, pvC, pvL, pvR, pvN]
  · rw [szR_neg hx, szR_neg (by omega)]
    rfl
theorem wszUpper_ok (u : Upper) (h : OU u) (x : Int) (h0 : 0 ≤ x) (h1 : x ≤ Lim) : wszUpper [vU u, vI x] [] = rI (szR (wU u) x) := by
  have hL : (Lim : Int) = 1048576 := rfl
  have e1 := wszStringSS_of u.gone h.gone.1 (fun p hp x h0 h1 => wszStringS_ok p (h.gone.2 p hp) x h0 h1) x h0 h1
  rw [wszUpper.e, e1]
  unfold wU
  by_cases hx : (wL wP u.gone : Int) ≤ x
  · rw [szR_pos hx]
    have e2 := wszEntryS_of u.puts h.puts.1 (fun p hp x h0 h1 => wszEntry_ok p (h.puts.2 p hp) x h0 h1) (x - wL wP u.gone) (by omega) (by omega)
    simp (disch := omega) only [pvS, pvT, pvC, pvL, pvR, pvN, e2]
    by_cases hx2 : (wL wE u.puts : Int) ≤ x - wL wP u.gone
    · rw [szR_pos hx2, szR_pos (by omega), show x - ((wL wP u.gone + wL wE u.puts : Nat) : Int) = x - wL wP u.gone - wL wE u.puts by omega]
      simp (disch := omega) only [pvS, pvT, pvC, pvL, pvR, pvN]
    · rw [szR_neg hx2, szR_neg (by omega)]
      rfl
  · rw [szR_neg hx, szR_neg (by omega)]
    rfl
theorem wtoEntry_ok (e : Entry) (hw : wE e ≤ 1048576) : wtoEntry [vE e] [] = rEntry e := by
  have := wP_len e.path
  unfold wE at hw
  rw [wtoEntry.e, wtoStringS_ok e.path (by omega)]
  simp (disch := omega) only [pvS, pvT, pvC, pvL, pvR, pvN]
theorem wtoUpper_ok (u : Upper) (hw : wU u ≤ 1048576) : wtoUpper [vU u] [] = rU u := by
  unfold wU at hw
  have h1 := wL_len wP u.gone
  have h2 := wL_len wE u.puts
  have e1 := wtoStringSS_of u.gone (by omega) (fun p hp => wtoStringS_ok p (by have := wL_mem wP u.gone p hp; have := wP_len p; omega))
  have e2 := wtoEntryS_of u.puts (by omega) (fun p hp => wtoEntry_ok p (by have := wL_mem wE u.puts p hp; omega))
  rw [wtoUpper.e, e1, Option.bind_some, e2]
  simp (disch := omega) only [pvS, pvT, pvC, pvL, pvR, pvN]
theorem weqEntry_refl (e : Entry) (hw : wE e ≤ 1048576) : weqEntry [vE e, vE e] [] = rB true := by
  have := wP_len e.path
  unfold wE at hw
  rw [weqEntry.e, weqStringS_refl e.path (by omega)]
  have b1 : (e.dir != e.dir) = false := by simp
  have b2 : (e.what != e.what) = false := by simp
  have b3 : (e.mode != e.mode) = false := by simp
  have b4 : (e.data == e.data) = true := by simp
  simp (disch := omega) only [pvS, pvT, pvC, pvL, pvR, pvN, b1, b2, b3, b4, weqEntry.p9]
  try simp
theorem weqUpper_refl (u : Upper) (hw : wU u ≤ 1048576) : weqUpper [vU u, vU u] [] = rB true := by
  unfold wU at hw
  have h1 := wL_len wP u.gone
  have h2 := wL_len wE u.puts
  have e1 := weqStringSS_of u.gone (by omega) (fun p hp => weqStringS_refl p (by have := wL_mem wP u.gone p hp; have := wP_len p; omega))
  have e2 := weqEntryS_of u.puts (by omega) (fun p hp => weqEntry_refl p (by have := wL_mem wE u.puts p hp; omega))
  rw [weqUpper.e, e1, Option.bind_some]
  simp (disch := omega) only [pvS, pvT, pvC, pvL, pvR, pvN, e2]
end Go.PVx
/- Uppers: their texts, both sides; the law. -/
namespace Go.PVx
open Go.PV Go.Proofs

/-! ### entries -/
def kindB (e : Entry) : Bool :=
  if e.what = 1 then !e.dir && (e.mode == 0 && e.data == []) else if e.what = 2 then !e.dir || e.data == [] else if e.what = 3 then !e.dir && e.data == [] else if e.what = 4 then !e.dir && e.mode == 0 else false
/-- Is it an entry? -/
def entB (e : Entry) : Bool := pathB (if e.what = 3 then 0 else 1) e.path && (inB e.mode 0 7 && (decide (e.data.length ≤ 24) && kindB e))
theorem pathB0 (p : List Str) (h : p ≠ []) : pathB 0 p = pathB 1 p := by
  have : 0 < p.length := List.length_pos_iff.2 h
  unfold pathB inB
  rw [show decide ((0 : Int) ≤ (p.length : Int)) = true from decide_eq_true (by omega), show decide ((1 : Int) ≤ (p.length : Int)) = true from decide_eq_true (by omega)]
theorem pathB_nil0 : pathB 0 [] = true := rfl
theorem pathB_nil1 : pathB 1 [] = false := rfl
theorem sl3EntryOk_ok (e : Entry) (h : OE e) : sl3EntryOk [vE e] [] = rB (entB e) := by
  obtain ⟨p, k, d, m, s⟩ := e
  have h1 := sl2PathOk_ok p h.path
  have hd := h.data
  unfold sS at hd
  simp only at hd h1
  rw [sl3EntryOk.e]
  unfold entB kindB
  by_cases hp : p = []
  · subst hp
    simp (disch := omega) only [pvS, pvT, pvC, pvL, pvR, pvN, List.map_nil, h1, sl1In_ok, sl3EntryOk.p2, sl3EntryOk.p3, pathB_nil1]
    grind [pathB_nil0, pathB_nil1]
  · have : 0 < p.length := List.length_pos_iff.2 hp
    simp (disch := omega) only [pvS, pvT, pvC, pvL, pvR, pvN, h1, sl1In_ok, sl3EntryOk.p2, sl3EntryOk.p3]
    have h0 := pathB0 p hp
    grind
theorem ientryOk_ok (e : Entry) (h : OE e) : ientryOk [vE e] [] = rB (entB e) := by
  obtain ⟨p, k, d, m, s⟩ := e
  have h1 := inamesOk_ok p h.path 1
  have h2 := inamesOk_ok p h.path 0
  have hd := h.data
  unfold sS at hd
  simp only at hd h1 h2
  rw [ientryOk.e]
  unfold entB kindB
  simp (disch := omega) only [pvS, pvT, pvC, pvL, pvR, pvN, h1, h2, imodeOk_ok, ientryOk.p4, ientryOk.p5, ientryOk.p6]
  grind

end Go.PVx
/- Uppers: lines, their texts. -/
namespace Go.PVx
open Go.PV Go.Proofs
/-! ### lines -/
def lineT (d : Bool) (m : Int) (s : Str) (p : List Str) : Str :=
  bif d then [100, 105, 114, 32] ++ pt p ++ [32] ++ dec m.toNat ++ [10] else [102, 105, 108, 101, 32] ++ pt p ++ [32] ++ dec m.toNat ++ [32] ++ dataT s ++ [10]
theorem lineT_len (d : Bool) (m : Int) (s : Str) (p : List Str) (h : m ≤ 1000000) : (lineT d m s p).length ≤ 17 + wP p + 2 * s.length := by
  have h1 := pt_len p
  have h2 := dec_len_int m h
  have h3 := dataT_len s
  unfold lineT
  cases d <;> simp only [cond_true, cond_false, List.length_append, List.length_cons, List.length_nil] <;> omega
theorem sl1Line_n_ok (d : Bool) (m : Int) (s : Str) (p : List Str) (h0 : 0 ≤ m) (h1 : m ≤ 1000000) (hp : wP p ≤ 1048576) (hs : s.length ≤ 1048576) :
    sl1Line [vS (pt p), .g [.v (.bool d), .v (.int .i64 m), .v (.string (mkS s)), .v (.slice none 0 0), .v (.slice none 0 0)]] [] = rS (lineT d m s p) := by
  have e1 := pt_len p
  have e2 := dec_len_int m h1
  have e3 := dataT_len s
  have e4 := sl1Hex_ok s hs
  rw [sl1Line_n.e]
  unfold lineT
  cases d <;> simp (disch := omega) only [pvS, pvT, pvC, pvL, pvR, pvN, sl1Dec_int, e4]
theorem iTree_line_n_ok (d : Bool) (m : Int) (s : Str) (p : List Str) (h0 : 0 ≤ m) (h1 : m ≤ 1000000) (hp : wP p ≤ 1048576) (hs : s.length ≤ 1048576) :
    iTree_line [.g [.v (.bool d), .v (.int .i64 m), .v (.string (mkS s)), .v (.slice none 0 0), .v (.slice none 0 0)], vP p] [] = rS (lineT d m s p) := by
  have e1 := pt_len p
  have e2 := dec_len_int m h1
  have e3 := dataT_len s
  have e4 := idataText_ok s hs
  have e5 := ipathText_ok p hp
  have e6 := strconv_Itoa_ok m.toNat (by omega)
  rw [show ((m.toNat : Nat) : Int) = m by omega] at e6
  rw [iTree_line_n.e]
  unfold lineT
  cases d <;> simp (disch := omega) only [pvS, pvT, pvC, pvL, pvR, pvN, e4, e5, e6]

/-! ### the text -/
def putB (e : Entry) : Bool := e.what == 2 && bif e.path == [] then e.dir && (e.data == [] && inB e.mode 0 7) else entB e
def putL (e : Entry) : Str := lineT e.dir e.mode e.data e.path
def goneL (g : List Str) : Str := [104, 105, 100, 101, 32] ++ pt g ++ [10]
def fin2 : Str → List Entry → Str
  | acc, [] => if acc.length ≤ 4000 then acc else []
  | acc, e :: es => if putB e = true then fin2 (acc ++ putL e) es else []
def fin1 (es : List Entry) : Str → List (List Str) → Str
  | acc, [] => fin2 acc es
  | acc, g :: gs => if pathB 1 g = true then fin1 es (acc ++ goneL g) gs else []
/-- An upper's text. -/
def upT (u : Upper) : Str := fin1 u.puts [] u.gone
theorem putB_mode {e : Entry} (h : putB e = true) : 0 ≤ e.mode ∧ e.mode ≤ 7 := by
  unfold putB entB inB at h
  grind
theorem putL_len (e : Entry) (h : putB e = true) : (putL e).length ≤ 20 + 20 * wE e := by
  have := lineT_len e.dir e.mode e.data e.path (by have := (putB_mode h).2; omega)
  unfold putL wE
  omega
theorem goneL_len (g : List Str) : (goneL g).length ≤ 20 + 20 * wP g := by
  have := pt_len g
  unfold goneL
  simp only [List.length_append, List.length_cons, List.length_nil]
  omega

end Go.PVx
/- Uppers: the reference's text. -/
namespace Go.PVx
open Go.PV Go.Proofs
theorem sUpperWrite.put (e : Entry) (h : OE e) (l : List Entry) (gs : List (List D)) (k : Nat) (hk : k < l.length) (he : l[k] = e) (hl : l.length ≤ 9223372036854775807) (acc : Str) :
    sUpperWrite.L9 (mkS acc) (k : Int) gs (l.map eE) = sUpperWrite.P13 (mkS acc) (k : Int) (!putB e) gs (l.map eE) (eSs e.path) e.what e.dir e.mode (mkS e.data) := by
  have h1 := sl3EntryOk_ok e h
  have hd := h.path.1
  have hd2 := h.data
  obtain ⟨p, w, d, m, s⟩ := e
  unfold sS at hd2
  simp only at h1 hd hd2
  rw [sUpperWrite.s9]
  unfold putB
  by_cases hw : w = 2
  · subst hw
    by_cases hp : p = []
    · subst hp
      simp (disch := omega) only [pvS, pvT, pvC, pvL, pvR, pvN, entry_at hk, he, List.map_nil, sl1In_ok]
      cases d <;> cases hs : (s == []) <;> simp [hs]
    · have : 0 < p.length := List.length_pos_iff.2 hp
      have hp' : (p == []) = false := by simpa using hp
      simp (disch := omega) only [pvS, pvT, pvC, pvL, pvR, pvN, entry_at hk, he, h1, hp']
      generalize entB ⟨p, 2, d, m, s⟩ = bb
      cases bb <;> simp only [pvL]
  · have hw' : (w == 2) = false := by simpa using hw
    simp (disch := omega) only [pvS, pvT, pvC, pvL, pvR, pvN, entry_at hk, he, hw']
theorem sUpperWrite.l9 (u : Upper) (h : OU u) (hw : wU u ≤ 1048576) : ∀ k, k ≤ u.puts.length → ∀ acc : Str, acc.length + 20 * wL wE (u.puts.drop k) ≤ 100000000 →
    (sUpperWrite.L9 (mkS acc) (k : Int) (u.gone.map ePa) (u.puts.map eE)).bind sUpperWrite.A9 = rS (fin2 acc (u.puts.drop k)) := by
  have hl := h.puts.1
  refine up u.puts.length ?_ fun k hk ih acc hacc => ?_
  · intro acc hacc
    rw [sUpperWrite.s9]
    simp (disch := omega) only [pvS, pvT, pvC, pvL, pvR, pvN, sUpperWrite.a9x9, List.drop_length, fin2]
    by_cases h4 : acc.length ≤ 4000
    · rw [if_pos h4]; simp (disch := omega) only [pvL, pvN]
    · rw [if_neg h4]; simp (disch := omega) only [pvL, pvN, pvC]
  · have hd := drop_cons u.puts k hk
    rw [hd] at hacc ⊢
    simp only [wL] at hacc
    have hE := h.puts.2 _ (List.getElem_mem hk)
    have hwE := wL_at wE hk
    unfold wU at hw
    rw [sUpperWrite.put _ hE u.puts _ k hk rfl hl acc, sUpperWrite.p13]
    generalize u.puts[k] = e at *
    cases hp : putB e with
    | false => simp (disch := omega) only [pvC, pvL, fin2, hp, sUpperWrite.a9q9, if_false, Bool.false_eq_true]
    | true =>
      have h5 := putL_len e hp
      have h6 := putB_mode hp
      have hwe : wE e = wP e.path + e.data.length := rfl
      have ih' := ih (acc ++ putL e) (by rw [List.length_append]; omega)
      have h3 := sl3Name_ok e.path (by omega)
      have h4 := sl1Line_n_ok e.dir e.mode e.data e.path (by omega) (by omega) (by omega) (by omega)
      unfold putL at h5 ih'
      simp (disch := omega) only [pvS, pvC, pvL, pvN, sUpperWrite.p14, h3, h4, fin2, hp, if_true, putL, ih']
theorem sUpperWrite.l3 (u : Upper) (h : OU u) (hw : wU u ≤ 1048576) : ∀ k, k ≤ u.gone.length → ∀ acc : Str, acc.length + 20 * wL wP (u.gone.drop k) + 20 * wL wE u.puts ≤ 100000000 →
    (sUpperWrite.L3 (mkS acc) (k : Int) (u.gone.map ePa) (u.puts.map eE)).bind sUpperWrite.A3 = rS (fin1 u.puts acc (u.gone.drop k)) := by
  have hl := h.gone.1
  refine up u.gone.length ?_ fun k hk ih acc hacc => ?_
  · intro acc hacc
    rw [sUpperWrite.s3]
    have := sUpperWrite.l9 u h hw 0 (by omega) acc (by rw [List.drop_length] at hacc; simp only [wL] at hacc; rw [List.drop_zero]; omega)
    rw [List.drop_zero] at this
    simp (disch := omega) only [pvS, pvT, pvC, pvL, pvR, pvN, sUpperWrite.a3x3, List.drop_length, fin1]
    exact this
  · have hd := drop_cons u.gone k hk
    rw [hd] at hacc ⊢
    simp only [wL] at hacc
    have hE := h.gone.2 _ (List.getElem_mem hk)
    have hwE := wL_at wP hk
    unfold wU at hw
    have h1 := sl2PathOk_ok _ hE
    have h3 := sl3Name_ok u.gone[k] (by omega)
    have h5 := goneL_len u.gone[k]
    have hpt := pt_len u.gone[k]
    rw [sUpperWrite.s3]
    simp (disch := omega) only [pvS, pvT, pvC, pvL, pvR, pvN, paths_at hk, h1, h3]
    generalize u.gone[k] = g at *
    cases hp : pathB 1 g with
    | false => simp (disch := omega) only [pvC, pvL, fin1, hp, sUpperWrite.a3q3, if_false, Bool.false_eq_true]
    | true =>
      have ih' := ih (acc ++ goneL g) (by rw [List.length_append]; omega)
      have e : acc ++ [104, 105, 100, 101, 32] ++ pt g ++ [10] = acc ++ goneL g := by simp [goneL]
      simp (disch := omega) only [pvS, pvC, pvL, pvN, fin1, hp, if_true, e, ih']
theorem sUpperWrite_ok (u : Upper) (h : OU u) (hw : wU u ≤ 1048576) : sUpperWrite [vU u] [] = rS (upT u) := by
  have := sUpperWrite.l3 u h hw 0 (by omega) [] (by unfold wU at hw; rw [List.drop_zero]; simp only [List.length_nil]; omega)
  rw [List.drop_zero] at this
  rw [sUpperWrite.e]
  exact this

end Go.PVx
/- Uppers: the program's text; the law. -/
namespace Go.PVx
open Go.PV Go.Proofs
/-! ### the program's side -/
theorem bwrite (a s : Str) (h : a.length + s.length ≤ 140737488355328) : strings_Builder_WriteString [.one (.p true 0 [] 0), vS s] [⟨.bld 52 5, [.v (.string (mkS a)), .h], [.deep, .deep]⟩] =
    some ⟨[.v (.int .i64 s.length), .d], [⟨.bld 52 5, [.v (.string (mkS (a ++ s))), .h], [.deep, .deep]⟩]⟩ := by
  rw [strings_Builder_WriteString.ext]
  unfold extBWrite
  simp (disch := omega) only [pvC, pvL, pvN]
theorem blen (a : Str) : strings_Builder_Len [.one (.p true 0 [] 0)] [⟨.bld 52 5, [.v (.string (mkS a)), .h], [.deep, .deep]⟩] =
    some ⟨[.v (.int .i64 a.length)], [⟨.bld 52 5, [.v (.string (mkS a)), .h], [.deep, .deep]⟩]⟩ := by
  rw [strings_Builder_Len.ext]
  unfold extBLen
  simp (disch := omega) only [pvC, pvL, pvN]
theorem bstring (a : Str) : strings_Builder_String [.one (.p true 0 [] 0)] [⟨.bld 52 5, [.v (.string (mkS a)), .h], [.deep, .deep]⟩] =
    some ⟨[.v (.string (mkS a))], [⟨.bld 52 5, [.v (.string (mkS a)), .h], [.deep, .deep]⟩]⟩ := by
  rw [strings_Builder_String.ext]
  unfold extBString
  simp (disch := omega) only [pvC, pvL, pvN]
theorem iUpperWrite.put (e : Entry) (h : OE e) (l : List Entry) (k : Nat) (hk : k < l.length) (he : l[k] = e) (hl : l.length ≤ 9223372036854775807) (acc : Str) :
    iUpperWrite.L10 (l.map eE) (l.length : Int) (k : Int) (mkS acc) = iUpperWrite.P14 (l.map eE) (l.length : Int) (k : Int) (!putB e) (mkS acc) (eSs e.path) e.what e.dir e.mode (mkS e.data) := by
  have h1 := ientryOk_ok e h
  have hd := h.path.1
  have hd2 := h.data
  obtain ⟨p, w, d, m, s⟩ := e
  unfold sS at hd2
  simp only at h1 hd hd2
  rw [iUpperWrite.s10]
  unfold putB
  by_cases hp : p = []
  · subst hp
    have h1' : ientryOk [.g [.s [], .v (.int .i64 w), .v (.bool d), .v (.int .i64 m), .v (.string (mkS s))]] [] = rB (entB ⟨[], w, d, m, s⟩) := h1
    have h2 : w = 2 → entB ⟨[], w, d, m, s⟩ = false := fun hw => by
      subst hw
      unfold entB
      simp [pathB_nil1]
    simp (disch := omega) only [pvS, pvT, pvC, pvL, pvR, pvN, entry_at hk, he, List.map_nil, imodeOk_ok, iUpperWrite.p13, h1']
    by_cases hw : w = 2
    · subst hw
      have h2 := h2 rfl
      have e22 : ((2 : Int) == 2) = true := by simp
      have e23 : ((2 : Int) != 2) = false := by simp
      have hn : (([] : List Str) == []) = true := by simp
      simp only [h2, e22, e23, hn]
      generalize inB m 0 7 = y
      cases d
      · simp only [pvL]
      · cases hs : (s == []) <;> cases y <;> simp only [pvL]
    · have hw' : (w == 2) = false := by simpa using hw
      have hw2 : (w != 2) = true := by simpa using hw
      simp (disch := omega) only [pvC, pvL, pvN, hw', hw2]
      generalize entB ⟨[], w, d, m, s⟩ = bb
      cases bb <;> simp only [pvL]
  · have : 0 < p.length := List.length_pos_iff.2 hp
    have hp' : (p == []) = false := by simpa using hp
    simp (disch := omega) only [pvS, pvT, pvC, pvL, pvR, pvN, entry_at hk, he, h1, hp', iUpperWrite.p13]
    by_cases hw : w = 2
    · subst hw
      generalize entB ⟨p, 2, d, m, s⟩ = bb
      have e22 : ((2 : Int) != 2) = false := by simp
      cases bb <;> simp only [pvL, e22]
    · have hw' : (w == 2) = false := by simpa using hw
      have hw2 : (w != 2) = true := by simpa using hw
      simp only [hw', hw2]
      generalize entB ⟨p, w, d, m, s⟩ = bb
      cases bb <;> simp only [pvL]
theorem iUpperWrite.l10 (u : Upper) (h : OU u) (hw : wU u ≤ 1048576) : ∀ k, k ≤ u.puts.length → ∀ acc : Str, acc.length + 20 * wL wE (u.puts.drop k) ≤ 100000000 →
    (iUpperWrite.L10 (u.puts.map eE) (u.puts.length : Int) (k : Int) (mkS acc)).bind iUpperWrite.A10 = rS (fin2 acc (u.puts.drop k)) := by
  have hl := h.puts.1
  refine up u.puts.length ?_ fun k hk ih acc hacc => ?_
  · intro acc hacc
    rw [iUpperWrite.s10]
    simp (disch := omega) only [pvS, pvT, pvC, pvL, pvR, pvN, pvO, iUpperWrite.a10x10, List.drop_length, fin2, blen, bstring]
    by_cases h4 : acc.length ≤ 4000
    · rw [if_pos h4]; simp (disch := omega) only [pvL, pvN, pvC]
    · rw [if_neg h4]; simp (disch := omega) only [pvL, pvN, pvC]
  · have hd := drop_cons u.puts k hk
    rw [hd] at hacc ⊢
    simp only [wL] at hacc
    have hE := h.puts.2 _ (List.getElem_mem hk)
    have hwE := wL_at wE hk
    unfold wU at hw
    rw [iUpperWrite.put _ hE u.puts k hk rfl hl acc, iUpperWrite.p14]
    generalize u.puts[k] = e at *
    cases hp : putB e with
    | false => simp (disch := omega) only [pvC, pvL, fin2, hp, iUpperWrite.a10q10, if_false, Bool.false_eq_true]
    | true =>
      have h5 := putL_len e hp
      have h6 := putB_mode hp
      have hwe : wE e = wP e.path + e.data.length := rfl
      have ih' := ih (acc ++ putL e) (by rw [List.length_append]; omega)
      have h4 := iTree_line_n_ok e.dir e.mode e.data e.path (by omega) (by omega) (by omega) (by omega)
      unfold putL at h5 ih'
      have h7 := bwrite acc (lineT e.dir e.mode e.data e.path) (by omega)
      simp (disch := omega) only [pvS, pvC, pvL, pvN, pvO, iUpperWrite.p15, h4, h7, fin2, hp, if_true, putL, ih']
theorem iUpperWrite.l3 (u : Upper) (h : OU u) (hw : wU u ≤ 1048576) : ∀ k, k ≤ u.gone.length → ∀ acc : Str, acc.length + 20 * wL wP (u.gone.drop k) + 20 * wL wE u.puts ≤ 100000000 →
    (iUpperWrite.L3 (u.gone.map ePa) (u.gone.length : Int) (k : Int) (u.gone.map ePa) (u.puts.map eE) (mkS acc)).bind iUpperWrite.A3 = rS (fin1 u.puts acc (u.gone.drop k)) := by
  have hl := h.gone.1
  refine up u.gone.length ?_ fun k hk ih acc hacc => ?_
  · intro acc hacc
    rw [iUpperWrite.s3]
    have := iUpperWrite.l10 u h hw 0 (by omega) acc (by rw [List.drop_length] at hacc; simp only [wL] at hacc; rw [List.drop_zero]; omega)
    rw [List.drop_zero] at this
    simp (disch := omega) only [pvS, pvT, pvC, pvL, pvR, pvN, iUpperWrite.a3x3, List.drop_length, fin1]
    exact this
  · have hd := drop_cons u.gone k hk
    rw [hd] at hacc ⊢
    simp only [wL] at hacc
    have hE := h.gone.2 _ (List.getElem_mem hk)
    have hwE := wL_at wP hk
    unfold wU at hw
    have h1 := inamesOk_ok _ hE 1
    have h3 := ipathText_ok u.gone[k] (by omega)
    have h5 := goneL_len u.gone[k]
    have hpt := pt_len u.gone[k]
    rw [iUpperWrite.s3]
    simp (disch := omega) only [pvS, pvT, pvC, pvL, pvR, pvN, paths_at hk, h1, h3]
    generalize u.gone[k] = g at *
    cases hp : pathB 1 g with
    | false => simp (disch := omega) only [pvC, pvL, fin1, hp, iUpperWrite.a3q3, if_false, Bool.false_eq_true]
    | true =>
      have ih' := ih (acc ++ goneL g) (by rw [List.length_append]; omega)
      have e : [104, 105, 100, 101, 32] ++ pt g ++ [10] = goneL g := rfl
      have h7 := bwrite acc (goneL g) (by omega)
      simp (disch := omega) only [pvS, pvC, pvL, pvN, pvO, fin1, hp, if_true, e, h7, ih']
theorem iUpperWrite_ok (u : Upper) (h : OU u) (hw : wU u ≤ 1048576) : iUpperWrite [vU u] [] = rS (upT u) := by
  have := iUpperWrite.l3 u h hw 0 (by omega) [] (by unfold wU at hw; rw [List.drop_zero]; simp only [List.length_nil]; omega)
  rw [List.drop_zero] at this
  rw [iUpperWrite.e]
  simp only [List.length_map]
  exact this

/-- The law. -/
theorem wFnExactUpperWrite_ok (u : Upper) (h : OU u) : wFnExactUpperWrite [vU u] [] = rB true := by
  have hL : (Lim : Int) = 1048576 := rfl
  rw [wFnExactUpperWrite.e, wszUpper_ok u h 1048576 (by omega) (by omega)]
  by_cases hw : wU u ≤ 1048576
  · rw [szR_pos (by omega)]
    have h1 := wtoUpper_ok u hw
    have h2 := sUpperWrite_ok u h hw
    have h3 := iUpperWrite_ok u h hw
    have h4 := weqUpper_refl u hw
    have h5 : (upT u == upT u) = true := by simp
    simp (disch := omega) only [pvS, pvT, pvC, pvL, pvN, h1, h2, h3, wFnExactUpperWrite.p8, h5, h4]
  · rw [szR_neg (by omega)]
    rfl
end Go.PVx
