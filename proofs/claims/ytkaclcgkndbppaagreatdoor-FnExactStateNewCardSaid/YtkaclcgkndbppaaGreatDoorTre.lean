/- A part of the proof: PvG, PvT1, PvP1, PvP2, PvP3, PvT2, PvT4, PvT5, PvT6, PvT7, PvT8, PvT9, PvTA, PvTB. -/
import Derived.Test.YtkaclcgkndbppaaGreatDoorDat
import Derived.Test.YtkaclcgkndbppaaGreatDoorTy
import Derived.Test.YtkaclcgkndbppaaGreatDoorDau
set_option linter.unusedSimpArgs false
set_option linter.unusedVariables false
namespace Go.PVx
open Go.PV Go.Proofs
theorem zm6 {α : Type} (f : α → List D) (m : List α) (x y : List D) (r : List (List D)) : (m.map f ++ x :: r).set m.length y = m.map f ++ y :: r := by
 rw [List.set_append_right _ _ (by simp), List.length_map, Nat.sub_self, List.set_cons_zero]
noncomputable def mks {α : Type} (c : α → Nat) (mk : Int → α → α) : Int → List α → List α
 | _, [] => []
 | k, a :: l => mk k a :: mks c mk (k + c a) l
@[simp] theorem zoZ {α : Type} (c : α → Nat) (mk : Int → α → α) : ∀ (l : List α) (k : Int), (mks c mk k l).length = l.length
 | [], _ => rfl
 | _ :: l, k => by simp [mks, zoZ c mk l]
theorem zm7 {α X : Type} (e : α → List D) (c : α → Nat) (mk : Int → α → α) (p : α → Prop) (L : Int → Int → List (List D) → Option X) (R : Int → List (List D) → Option X)
 (hs : ∀ (m l : List α) (a : α) (k : Int), p a → 0 ≤ k → k + c a ≤ Top → m.length + l.length + 1 ≤ 1048576 →
   L k m.length (m.map e ++ e a :: l.map e) = L (k + c a) ((m.length + 1 : Nat) : Int) (m.map e ++ e (mk k a) :: l.map e))
 (he : ∀ (m : List α) (k : Int), L k m.length (m.map e) = R k (m.map e)) :
 ∀ (l m : List α) (k : Int), (∀ a ∈ l, p a) → 0 ≤ k → k + (sumW c l : Nat) ≤ Top → m.length + l.length ≤ 1048576 →
  L k m.length (m.map e ++ l.map e) = R (k + (sumW c l : Nat)) ((m ++ mks c mk k l).map e)
 | [], m, k, _, h0, h1, hl => by simp [mks, sumW, he]
 | a :: l, m, k, hp, h0, h1, hl => by
  simp only [sumW] at h1
  simp only [List.length_cons] at hl
  have := zm7 e c mk p L R hs he l (m ++ [mk k a]) (k + c a) (fun b hb => hp b (by simp [hb])) (by omega) (by push_cast at h1 ⊢; omega) (by simp only [List.length_append, List.length_cons, List.length_nil]; omega)
  simp only [List.map_cons, mks, sumW]
  rw [hs m l a k (hp a (by simp)) h0 (by push_cast at h1; omega) (by omega)]
  rw [show m ++ mk k a :: mks c mk (k + c a) l = m ++ [mk k a] ++ mks c mk (k + c a) l from by simp]
  rw [show k + ((c a + sumW c l : Nat) : Int) = k + c a + (sumW c l : Nat) by push_cast; omega, ← this]
  simp
theorem zm8 {α X : Type} (e : α → List D) (c : α → Nat) (mk : Int → α → α) (p : α → Prop) (L : List (List D) → Int → Int → Option X) (R : Int → Option X)
 (hs : ∀ (m l : List α) (a : α) (k : Int), p a → 0 ≤ k → k + c a ≤ Top → m.length + l.length + 1 ≤ 1048576 →
   L (m.map e ++ e (mk k a) :: l.map e) k m.length = L (m.map e ++ e (mk k a) :: l.map e) (k + c a) ((m.length + 1 : Nat) : Int))
 (he : ∀ (m : List α) (k : Int), L (m.map e) k m.length = R k) :
 ∀ (l m : List α) (k : Int), (∀ a ∈ l, p a) → 0 ≤ k → k + (sumW c l : Nat) ≤ Top → m.length + l.length ≤ 1048576 →
  L (m.map e ++ (mks c mk k l).map e) k m.length = R (k + (sumW c l : Nat))
 | [], m, k, _, h0, h1, hl => by simp [mks, sumW, he]
 | a :: l, m, k, hp, h0, h1, hl => by
  simp only [sumW] at h1
  simp only [List.length_cons] at hl
  have := zm8 e c mk p L R hs he l (m ++ [mk k a]) (k + c a) (fun b hb => hp b (by simp [hb])) (by omega) (by push_cast at h1 ⊢; omega) (by simp only [List.length_append, List.length_cons, List.length_nil]; omega)
  simp only [List.map_cons, mks, sumW]
  rw [hs m (mks c mk (k + c a) l) a k (hp a (by simp)) h0 (by push_cast at h1; omega) (by simp; omega)]
  rw [show k + ((c a + sumW c l : Nat) : Int) = k + c a + (sumW c l : Nat) by push_cast; omega, ← this]
  simp
end Go.PVx
namespace Go.PVx
open Go.PV Go.Proofs
mutual
def cT : Tree → Nat
 | ⟨_, _, _, ns, ks⟩ => 3 + ns.length + cTs ks
def cTs : List Tree → Nat
 | [] => 0
 | t :: ts => cT t + cTs ts
end
theorem zm9 : ∀ l : List Tree, cTs l = sumW cT l
 | [] => rfl
 | t :: ts => by rw [cTs, zm9 ts, sumW]
theorem cT_eq (t : Tree) : cT t = 3 + t.names.length + sumW cT t.kids := by
 obtain ⟨d, m, s, ns, ks⟩ := t
 rw [cT, zm9]
theorem cT_le (t : Tree) : cT t ≤ 3 * (1 + wT t) := by
 induction t using Tree.ind with
 | h d m s ns ks ih =>
  rw [cT_eq, wT_eq]
  have h1 : ns.length ≤ wP ns := zcV _ _
  have h2 : ∀ l : List Tree, (∀ x ∈ l, cT x ≤ 3 * (1 + wT x)) → sumW cT l ≤ 3 * wL wT l := by
   intro l hl
   induction l with
   | nil => simp [sumW]
   | cons x l ihl =>
    have := hl x (by simp)
    have := ihl (fun y hy => hl y (by simp [hy]))
    simp only [sumW, wL]; omega
  have := h2 ks ih
  simp only
  omega
mutual
noncomputable def mT : Tree → Int → Tree
 | ⟨_, _, _, ns, ks⟩, k => ⟨k.tmod 3 == 0, k + 1, mt (k + 2), mP (k + 3) ns, mTs ks (k + 3 + ns.length)⟩
noncomputable def mTs : List Tree → Int → List Tree
 | [], _ => []
 | t :: ts, k => mT t k :: mTs ts (k + cT t)
end
theorem mT_eq (t : Tree) (k : Int) : mT t k = ⟨k.tmod 3 == 0, k + 1, mt (k + 2), mP (k + 3) t.names, mTs t.kids (k + 3 + t.names.length)⟩ := by
 obtain ⟨d, m, s, ns, ks⟩ := t
 rw [mT]
theorem zj8 : ∀ (l : List Tree) (k : Int), mTs l k = mks cT (fun k t => mT t k) k l
 | [], _ => by rw [mTs]; rfl
 | t :: ts, k => by rw [mTs, zj8 ts]; rfl
theorem zh8 (l : List Tree) (hl0 : l.length ≤ 1048576)
 (hX : ∀ a ∈ l, ∀ k : Int, 0 ≤ k → k + (sumW cT a.kids : Nat) ≤ Top → zap [.one (.r 0 [] 0), vI k] [gV (a.kids.map eT)] = rM (k + (sumW cT a.kids : Nat)) ((mTs a.kids k).map eT))
 (k : Int) (h0 : 0 ≤ k) (h1 : k + (sumW cT l : Nat) ≤ Top) :
 zap [.one (.r 0 [] 0), vI k] [gV (l.map eT)] = rM (k + (sumW cT l : Nat)) ((mTs l k).map eT) := by
 have hT : Top = 1000000000000 := rfl
 rw [zap.e, zj8]
 have key := zm7 eT cT (fun k t => mT t k) (fun a => ∀ k : Int, 0 ≤ k → k + (sumW cT a.kids : Nat) ≤ Top → zap [.one (.r 0 [] 0), vI k] [gV (a.kids.map eT)] = rM (k + (sumW cT a.kids : Nat)) ((mTs a.kids k).map eT))
  (fun k j r => (zap.L2 k j r).bind zap.A2) (fun k r => rM k r) ?_ ?_ l [] k hX h0 h1 (by simpa using hl0)
 · simpa using key
 · intro m l a k ha h0 h1 hl
   have hcn := cT_eq a
   have ht := zcK (k + 2) (by omega) (by omega)
   have hS := zcR a.names (k + 3) (by omega) (by omega)
   have hR := ha (k + 3 + a.names.length) (by omega) (by omega)
   have e1 : k + 1 + 1 = k + 2 := by omega
   have e2 : k + 2 + 1 = k + 3 := by omega
   have e3 : k + 3 + a.names.length + (sumW cT a.kids : Nat) = k + (cT a : Nat) := by omega
   rw [e3] at hR
   rw [zap.s2]
   simp (disch := omega) only [pvS, pvT, pvC, pvL, pvN, pvR, pvO, Nat.sub_self, zm6, ht, hS, hR, e1, e2, List.set_cons_zero, List.set_cons_succ, List.take_succ_cons, List.take_zero, List.drop_succ_cons, List.drop_zero, List.cons_append, List.nil_append, zap.p9, mT_eq]
 · intro m k
   rw [zap.s2]
   simp (disch := omega) only [pvL, pvN, zap.a2x2]
theorem zjk (t : Tree) : wT t ≤ 1048576 → ∀ k : Int, 0 ≤ k → k + (sumW cT t.kids : Nat) ≤ Top →
 zap [.one (.r 0 [] 0), vI k] [gV (t.kids.map eT)] = rM (k + (sumW cT t.kids : Nat)) ((mTs t.kids k).map eT) := by
 induction t using Tree.ind with
 | h d m s ns ks ih =>
  intro hw k h0 h1
  rw [wT_eq] at hw
  have h2 : ks.length ≤ wL wT ks := zcV _ _
  simp only at hw h1 ⊢
  refine zh8 ks (by omega) (fun a ha k h0 h1 => ih a ha ?_ k h0 h1) k h0 h1
  have := zd4 wT ks a ha
  omega
theorem zfB (t : Tree) (hw : wT t ≤ 1048576) (k : Int) (h0 : 0 ≤ k) (h1 : k + (cT t : Nat) ≤ Top) :
 zbM [.g [.v (.bool t.dir), .v (.int .i64 t.mode), .v (.string (mkS t.data)), .r 0 [] 0, .r 0 [] 1], vI k] [⟨.virt, [.s (eSs t.names), .s (t.kids.map eT)], [.deep, .deep]⟩] =
  some ⟨[.v (.int .i64 (k + t.names.length + (sumW cT t.kids : Nat)))], [⟨.virt, [.s (eSs (mP k t.names)), .s ((mTs t.kids (k + t.names.length)).map eT)], [.deep, .deep]⟩]⟩ := by
 have hT : Top = 1000000000000 := rfl
 rw [cT_eq] at h1
 have hS := zcR t.names k (by omega) (by omega)
 have hR := zjk t hw (k + t.names.length) (by omega) (by omega)
 rw [zbM.e]
 simp (disch := omega) only [pvS, pvT, pvC, pvL, pvN, pvR, pvO, hS, hR]
theorem zh9 (l : List Tree) (hl0 : l.length ≤ 1048576)
 (hX : ∀ a ∈ l, ∀ k : Int, 0 ≤ k → k + (sumW cT a.kids : Nat) ≤ Top → zah [.one (.s ((mTs a.kids k).map eT)), vI k] [] = rI (k + (sumW cT a.kids : Nat)))
 (k : Int) (h0 : 0 ≤ k) (h1 : k + (sumW cT l : Nat) ≤ Top) :
 zah [.one (.s ((mTs l k).map eT)), vI k] [] = rI (k + (sumW cT l : Nat)) := by
 have hT : Top = 1000000000000 := rfl
 rw [zah.e, zj8]
 have key := zm8 eT cT (fun k t => mT t k) (fun a => ∀ k : Int, 0 ≤ k → k + (sumW cT a.kids : Nat) ≤ Top → zah [.one (.s ((mTs a.kids k).map eT)), vI k] [] = rI (k + (sumW cT a.kids : Nat)))
  (fun r k j => (zah.L2 r k j).bind zah.A2) (fun k => rI k) ?_ ?_ l [] k hX h0 h1 (by simpa using hl0)
 · simpa using key
 · intro m l a k ha h0 h1 hl
   have hcn := cT_eq a
   have ht := zcK (k + 2) (by omega) (by omega)
   have hS := zcS a.names (k + 3) (by omega) (by omega)
   have hR := ha (k + 3 + a.names.length) (by omega) (by omega)
   have e1 : k + 1 + 1 = k + 2 := by omega
   have e2 : k + 2 + 1 = k + 3 := by omega
   have e3 : k + 3 + a.names.length + (sumW cT a.kids : Nat) = k + (cT a : Nat) := by omega
   rw [e3] at hR
   rw [zah.s2]
   simp (disch := omega) only [pvS, pvT, pvC, pvL, pvN, pvR, pvO, Nat.sub_self, ht, hS, hR, e1, e2, zah.p10, zah.p17, mT_eq, beq_self_eq_true]
 · intro m k
   rw [zah.s2]
   simp (disch := omega) only [pvL, pvN, zah.a2x2]
theorem zjl (t : Tree) : wT t ≤ 1048576 → ∀ k : Int, 0 ≤ k → k + (sumW cT t.kids : Nat) ≤ Top →
 zah [.one (.s ((mTs t.kids k).map eT)), vI k] [] = rI (k + (sumW cT t.kids : Nat)) := by
 induction t using Tree.ind with
 | h d m s ns ks ih =>
  intro hw k h0 h1
  rw [wT_eq] at hw
  have h2 : ks.length ≤ wL wT ks := zcV _ _
  simp only at hw h1 ⊢
  refine zh9 ks (by omega) (fun a ha k h0 h1 => ih a ha ?_ k h0 h1) k h0 h1
  have := zd4 wT ks a ha
  omega
theorem zjm (t : Tree) (hw : wT t ≤ 1048576) (k : Int) (h0 : 0 ≤ k) (h1 : k + (cT t : Nat) ≤ Top) (d : Bool) (md : Int) (s : Str) :
 zb3 [.g [.v (.bool d), .v (.int .i64 md), .v (.string (mkS s)), .s (eSs (mP k t.names)), .s ((mTs t.kids (k + t.names.length)).map eT)], vI k] [] = rI (k + t.names.length + (sumW cT t.kids : Nat)) := by
 have hT : Top = 1000000000000 := rfl
 rw [cT_eq] at h1
 have hS := zcS t.names k (by omega) (by omega)
 have hR := zjl t hw (k + t.names.length) (by omega) (by omega)
 rw [zb3.e]
 simp (disch := omega) only [pvS, pvT, pvC, pvL, pvN, pvR, pvO, hS, hR]
theorem zna {a b : Nat} {x : Int} : (((a : Int) ≤ x) ∧ szR (a + b) x = szR b (x - a) ∧ szR a x = x - a) ∨ (x < a ∧ szR (a + b) x = -1 ∧ szR a x = -1) := by
 by_cases h : (a : Int) ≤ x
 · exact .inl ⟨h, zgD h, zhZ h⟩
 · exact .inr ⟨by omega, zeX h, zgC h⟩
theorem zo0 (a : Nat) (x : Int) : ((a : Int) ≤ x ∧ szR a x = x - a) ∨ (x < a ∧ szR a x = -1) := by
 by_cases h : (a : Int) ≤ x
 · exact .inl ⟨h, zhZ h⟩
 · exact .inr ⟨by omega, zgC h⟩
theorem zls (t : Tree) : oT t → ∀ x : Int, 0 ≤ x → x ≤ Lim → zbA [vT t, vI x] [] = rI (szR (wT t) x) := by
 induction t using Tree.ind with
 | h a b c ns ks ih =>
  intro ho x h0 h1
  have hL : (Lim : Int) = 1048576 := rfl
  have hd := zoW ho
  have hn := zhX ho
  have hk := zd6 ho
  unfold sS at hd
  simp only at hd hn hk
  have neg : ((-1 : Int) < 0) = True := by simp
  rw [zbA.e, wT_eq, Nat.add_assoc]
  rcases zna (a := c.length) (b := wP ns + wL wT ks) (x := x) with ⟨c1, c2, c3⟩ | ⟨c1, c2, c3⟩
  · rw [c2]
    have h2 := zh0 ns hn (x - c.length) (by omega) (by omega)
    rcases zna (a := wP ns) (b := wL wT ks) (x := x - c.length) with ⟨d1, d2, d3⟩ | ⟨d1, d2, d3⟩
    · rw [d2]
      rw [d3] at h2
      have h3 := zj4 ks hk.1 (fun t ht x h0 h1 => ih t ht (hk.2 t ht) x h0 h1) (x - c.length - wP ns) (by omega) (by omega)
      rcases zo0 (wL wT ks) (x - c.length - wP ns) with ⟨e1, e2⟩ | ⟨e1, e2⟩
      · rw [e2] at h3 ⊢
        simp (disch := omega) only [pvS, pvT, pvC, pvL, pvN, pvR, h2, h3, zbA.p8]
      · rw [e2] at h3 ⊢
        simp (disch := omega) only [pvS, pvT, pvC, pvL, pvN, pvR, h2, h3, zbA.p8]
    · rw [d2]
      rw [d3] at h2
      simp (disch := omega) only [pvS, pvT, pvC, pvL, pvN, pvR, h2]
  · rw [c2]
    simp (disch := omega) only [pvS, pvT, pvC, pvL, pvN, pvR]
theorem zfC (t : Tree) : wT t ≤ 1048576 → zbz [vT t, vT t] [] = rB true := by
 induction t using Tree.ind with
 | h a b c ns ks ih =>
  intro hw
  rw [wT_eq] at hw
  have h2 : ks.length ≤ wL wT ks := zcV _ _
  have h3 := zdg ns
  simp only at hw
  have e1 := zb8 ns (by omega)
  have e2 := zj6 ks (by omega) fun a ha => ih a ha (by have := zd4 wT ks a ha; omega)
  have b1 : (!(a == a)) = false := by cases a <;> rfl
  have b3 : (c == c) = true := by simp
  rw [zbz.e]
  simp (disch := omega) only [pvS, pvT, pvC, pvL, pvN, pvR, e1, e2, zbz.p9, b1, b3]
end Go.PVx
namespace Go.PVx
open Go.PV
theorem znb (a b : UInt8) (l m : Str) : Op.bytesLess (a :: l) (b :: m) = (decide (a < b) || (a == b && Op.bytesLess l m)) := rfl
theorem zhu : ∀ a b c : Str, Op.bytesLess a b = true → Op.bytesLess b c = true → Op.bytesLess a c = true
 | [], [], c, h, _ => by simp [Op.bytesLess] at h
 | _ :: _, [], c, h, _ => by simp [Op.bytesLess] at h
 | [], b :: bs, [], _, h => by simp [Op.bytesLess] at h
 | [], b :: bs, c :: cs, _, _ => by simp [Op.bytesLess]
 | a :: xs, b :: bs, [], _, h => by simp [Op.bytesLess] at h
 | a :: xs, b :: bs, c :: cs, h1, h2 => by
  rw [znb] at h1 h2 ⊢
  simp only [Bool.or_eq_true, decide_eq_true_eq, Bool.and_eq_true, beq_iff_eq, UInt8.lt_iff_toNat_lt] at h1 h2 ⊢
  rcases h1 with h1 | ⟨rfl, h1⟩
  · rcases h2 with h2 | ⟨rfl, h2⟩
    · exact .inl (by omega)
    · exact .inl h1
  · rcases h2 with h2 | ⟨rfl, h2⟩
    · exact .inl h2
    · exact .inr ⟨rfl, zhu _ _ _ h1 h2⟩
def Asc (l : List Str) : Prop := l.Pairwise fun a b => Op.bytesLess a b = true
theorem zhv : ∀ (l : List Str) (p : Option Str), zdf p l = true → Asc l ∧ ∀ y, p = some y → ∀ x ∈ l, Op.bytesLess y x = true
 | [], _, _ => ⟨List.Pairwise.nil, by simp⟩
 | a :: l, p, h => by
  simp only [zdf, Bool.and_eq_true] at h
  obtain ⟨h1, h2⟩ := zhv l (some a) h.2
  refine ⟨List.Pairwise.cons (fun x hx => h2 a rfl x hx) h1, fun y hy x hx => ?_⟩
  subst hy
  have h3 : Op.bytesLess y a = true := h.1.2
  rcases List.mem_cons.1 hx with rfl | hx
  · exact h3
  · exact zhu _ _ _ h3 (h2 a rfl x hx)
mutual
def sub (p : List Str) : Tree → List (List Str × Tree)
 | ⟨d, m, s, ns, ks⟩ => (p, ⟨d, m, s, ns, ks⟩) :: subZ p ns ks
def subZ (p : List Str) : List Str → List Tree → List (List Str × Tree)
 | n :: ns, k :: ks => sub (p ++ [n]) k ++ subZ p ns ks
 | [], _ => []
 | _ :: _, [] => []
end
theorem zjn (p : List Str) (t : Tree) : sub p t = (p, t) :: subZ p t.names t.kids := by
 obtain ⟨d, m, s, ns, ks⟩ := t
 rw [sub]
def pre (a : List Str) (x : List Str × Tree) : List Str × Tree := (a ++ x.1, x.2)
def leaf (t : Tree) : Tree := ⟨t.dir, t.mode, t.data, [], []⟩
def ixN : List Str → Str → Option Nat
 | [], _ => none
 | a :: l, n => if a = n then some 0 else (ixN l n).map (· + 1)
def putAt (ins : Tree → Str → Tree → Tree) (x : Tree) : Tree → List Str → Option Tree
 | _, [] => none
 | t, [n] => some (ins t n x)
 | t, n :: m :: q => match ixN t.names n with
  | none => none
  | some k => match t.kids[k]? with
   | none => none
   | some kd => (putAt ins x kd (m :: q)).map fun z => ⟨t.dir, t.mode, t.data, t.names, t.kids.set k z⟩
def build (ins : Tree → Str → Tree → Tree) : Tree → List (List Str × Tree) → Option Tree
 | t, [] => some t
 | t, e :: l => (putAt ins (leaf e.2) t e.1).bind fun z => build ins z l
theorem zlt {d : Int} {t : Tree} (h : zbh d t = true) : Asc t.names := by
 rw [zdP] at h
 simp only [plainB, Bool.and_eq_true] at h
 have h1 := h.1.1.2
 cases hd : t.dir with
 | true =>
  rw [hd] at h1
  simp only [cond_true, Bool.and_eq_true] at h1
  exact (zhv _ _ h1.1).1
 | false =>
  rw [hd] at h1
  simp only [cond_false, Bool.and_eq_true, decide_eq_true_eq, List.length_eq_zero_iff] at h1
  rw [h1.2]
  exact List.Pairwise.nil
end Go.PVx
namespace Go.PVx
open Go.PV
def entX (x : List Str × Tree) : Entry := ⟨x.1, 2, x.2.dir, x.2.mode, x.2.data⟩
def showT (t : Tree) : Str := ((sub [] t).map fun x => putL (entX x)).flatten
theorem zhw : ∀ {l : List Str} {p : Option Str}, zdf p l = true → ∀ x ∈ l, nameB x = true
 | [], _, _ => by simp
 | a :: l, p, h => fun x hx => by
  simp only [zdf, Bool.and_eq_true] at h
  rcases List.mem_cons.1 hx with rfl | hx
  · exact h.1.1
  · exact zhw h.2 x hx
structure PlainOk (t : Tree) : Prop where
 m0 : 0 ≤ t.mode
 m7 : t.mode ≤ 7
 len : t.names.length = t.kids.length
 nm : ∀ x ∈ t.names, nameB x = true
 asc : Asc t.names
 file : t.dir = false → t.data.length ≤ 24 ∧ t.names = []
 dat : t.dir = true → t.data = []
theorem zdX {d : Int} {t : Tree} (h : zbh d t = true) : PlainOk t ∧ d ≤ 4 := by
 have ha := zlt h
 rw [zdP] at h
 simp only [plainB, inB, Bool.and_eq_true, decide_eq_true_eq] at h
 obtain ⟨⟨⟨⟨⟨h1, h2⟩, h3⟩, h4⟩, h5⟩, _⟩ := h
 cases hd : t.dir with
 | true =>
  rw [hd] at h4
  simp only [cond_true, Bool.and_eq_true, decide_eq_true_eq] at h4
  exact ⟨⟨h1, h2, h3, fun x hx => zhw h4.1 x hx, ha, fun h => by rw [hd] at h; exact absurd h (by simp), fun _ => h4.2⟩, h5⟩
 | false =>
  rw [hd] at h4
  simp only [cond_false, Bool.and_eq_true, decide_eq_true_eq, List.length_eq_zero_iff] at h4
  exact ⟨⟨h1, h2, h3, fun x hx => by rw [h4.2] at hx; simp at hx, ha, fun _ => h4, fun h => by rw [hd] at h; exact absurd h (by simp)⟩, h5⟩
theorem sub_ok (t : Tree) : ∀ (d : Int) (p : List Str), zbh d t = true → (p.length : Int) = d → (∀ x ∈ p, nameB x = true) →
 ∀ x ∈ sub p t, ∃ e : Int, zbh e x.2 = true ∧ (x.1.length : Int) = e ∧ ∀ y ∈ x.1, nameB y = true := by
 induction t using Tree.ind with
 | h dd m s ns ks ih =>
  intro d p h hp hn x hx
  rw [zjn, List.mem_cons] at hx
  rcases hx with rfl | hx
  · exact ⟨d, h, hp, hn⟩
  · have hk : ∀ k ∈ ks, zbh (d + 1) k = true := fun k hk => zbR h hk
    have hnm := (zdX h).1.nm
    simp only at hx hnm
    clear h
    revert hx hnm hk ih
    induction ns generalizing ks with
    | nil => intro _ hx _ _; simp [subZ] at hx
    | cons n ns ihn =>
     intro ih hx hk hnm
     cases ks with
     | nil => simp [subZ] at hx
     | cons k ks =>
      simp only [subZ, List.mem_append] at hx
      rcases hx with hx | hx
      · refine ih k (by simp) (d + 1) (p ++ [n]) (hk k (by simp)) (by simp; omega) (fun y hy => ?_) x hx
        rcases List.mem_append.1 hy with hy | hy
        · exact hn y hy
        · have : y = n := by simpa using hy
          subst this; exact hnm y (by simp)
      · exact ihn ks (fun k hk => ih k (by simp [hk])) hx (fun k h => hk k (by simp [h])) (fun y hy => hnm y (by simp [hy]))
theorem zd8 {t : Tree} (h : treeB t = true) : cnt t ≤ 30 := by
 unfold treeB at h
 simp only [Bool.and_eq_true, decide_eq_true_eq] at h
 exact h.2
theorem zj9 (t : Tree) : ∀ d p, zbh d t = true → (sub p t).length = 1 + cnt t := by
 induction t using Tree.ind with
 | h dd m s ns ks ih =>
  intro d p h
  rw [zjn, zgz]
  have hl := zbB h
  have hk : ∀ k ∈ ks, zbh (d + 1) k = true := fun k hk => zbR h hk
  simp only [List.length_cons] at hl ⊢
  have key : ∀ (ns : List Str) (ks : List Tree), ns.length = ks.length → (∀ k ∈ ks, ∀ p, (sub p k).length = 1 + cnt k) → (subZ p ns ks).length = wL cnt ks := by
   intro ns
   induction ns with
   | nil => intro ks h _; cases ks with
    | nil => simp [subZ, wL]
    | cons => simp at h
   | cons n ns ihn =>
    intro ks h hk
    cases ks with
    | nil => simp at h
    | cons k ks =>
     simp only [subZ, List.length_append, wL, hk k (by simp), ihn ks (by simpa using h) fun x hx => hk x (by simp [hx])]
  have := key ns ks hl fun k hk' p => ih k hk' (d + 1) p (hk k hk')
  omega
end Go.PVx
namespace Go.PVx
open Go.PV
noncomputable instance : DecidableEq Row := fun _ _ => Classical.propDecidable _
def idS : Int → Str → Int
 | h, [] => h
 | h, b :: s => idS ((131 * h + (b.toNat : Int)) % 1000000007) s
def idT (t : Tree) : Int := idS 7 (showT t)
def rowX (x : List Str × Tree) : Row := ⟨x.1, x.2.dir, x.2.mode, x.2.data, idT x.2⟩
def tabT (t : Tree) : List Row := (sub [] t).map rowX
theorem zo1 {t : Tree} (h : treeB t = true) : (tabT t).length = 1 + cnt t := by
 unfold tabT
 rw [List.length_map, zj9 t 0 [] (zcn h)]
end Go.PVx
namespace Go.PVx
open Go.PV Go.Proofs
theorem bwrite (a s : Str) (h : a.length + s.length ≤ 140737488355328) : zba [.one (.p true 0 [] 0), vS s] [⟨.bld 170 5, [.v (.string (mkS a)), .h], [.deep, .deep]⟩] =
 some ⟨[.v (.int .i64 s.length), .d], [⟨.bld 170 5, [.v (.string (mkS (a ++ s))), .h], [.deep, .deep]⟩]⟩ := by
 rw [zba.ext]
 unfold zd5
 simp (disch := omega) only [pvC, pvL, pvN]
theorem zo2 (a : Str) : zbi [.one (.p true 0 [] 0)] [⟨.bld 170 5, [.v (.string (mkS a)), .h], [.deep, .deep]⟩] =
 some ⟨[.v (.string (mkS a))], [⟨.bld 170 5, [.v (.string (mkS a)), .h], [.deep, .deep]⟩]⟩ := by
 rw [zbi.ext]
 unfold zdN
 simp (disch := omega) only [pvC, pvL, pvN]
theorem zhx (d : Bool) (m : Int) (s : Str) (p : List Str) (x y : List (List D)) (h0 : 0 ≤ m) (h1 : m ≤ 1000000) (hp : wP p ≤ 1048576) (hs : s.length ≤ 1048576) :
 zcG [vS (pt p), .g [.v (.bool d), .v (.int .i64 m), .v (.string (mkS s)), .s x, .s y]] [] = rS (lineT d m s p) := by
 have e1 := zkT p
 have e2 := zeC m h1
 have e3 := zgK s
 have e4 := zmY s hs
 rw [zcG.e]
 unfold lineT
 cases d <;> simp (disch := omega) only [pvS, pvT, pvC, pvL, pvR, pvN, zlr, e4]
theorem zia (d : Bool) (m : Int) (s : Str) (p : List Str) (x y : List (List D)) (h0 : 0 ≤ m) (h1 : m ≤ 1000000) (hp : wP p ≤ 1048576) (hs : s.length ≤ 1048576) :
 zbK [.g [.v (.bool d), .v (.int .i64 m), .v (.string (mkS s)), .s x, .s y], vP p] [] = rS (lineT d m s p) := by
 have e1 := zkT p
 have e2 := zeC m h1
 have e3 := zgK s
 have e4 := zjh s hs
 have e5 := zje p hp
 have e6 := zgE m.toNat (by omega)
 rw [show ((m.toNat : Nat) : Int) = m by omega] at e6
 rw [zbK.e]
 unfold lineT
 cases d <;> simp (disch := omega) only [pvS, pvT, pvC, pvL, pvR, pvN, e4, e5, e6]
def linX (x : List Str × Tree) : Str := putL (entX x)
theorem zo3 (p : List Str) (t : Tree) : linX (p, t) = lineT t.dir t.mode t.data p := rfl
def showP (p : List Str) (t : Tree) : Str := ((sub p t).map linX).flatten
def showZ (p : List Str) (ns : List Str) (ks : List Tree) : Str := ((subZ p ns ks).map linX).flatten
theorem zka (t : Tree) : showT t = showP [] t := rfl
theorem zeh (p : List Str) (t : Tree) : showP p t = lineT t.dir t.mode t.data p ++ showZ p t.names t.kids := by
 unfold showP showZ
 rw [zjn, List.map_cons, List.flatten_cons, zo3]
theorem zfq (p : List Str) {ns : List Str} {ks : List Tree} {k : Nat} (h1 : k < ns.length) (h2 : k < ks.length) :
 showZ p (ns.drop k) (ks.drop k) = showP (p ++ [ns[k]]) ks[k] ++ showZ p (ns.drop (k + 1)) (ks.drop (k + 1)) := by
 unfold showP showZ
 rw [zbe ns k h1, zbe ks k h2, subZ, List.map_append, List.flatten_append]
theorem zgL (p : List Str) (ks : List Tree) : showZ p [] ks = [] := by
 unfold showZ
 cases ks <;> simp [subZ]
theorem zgM (p : List Str) (n : Str) : wP (p ++ [n]) = wP p + (1 + n.length) := by
 unfold wP
 rw [zi3]
 simp [wL]
theorem wP_at {p : List Str} {k : Nat} (h : k < p.length) : 1 + p[k].length ≤ wP p := wL_at List.length h
theorem zeY (t : Tree) : ∀ (p : List Str) (d : Int), zbh d t = true → wP p + wT t ≤ 2097152 → (showP p t).length ≤ (1 + cnt t) * 8000000 := by
 induction t using Tree.ind with
 | h a b c ns ks ih =>
  intro p d hp hw
  have hm := (zdX hp).1.m7
  have hn := zbB hp
  have hk := fun k (h : k ∈ ks) => zbR hp (k := k) h
  have hl := zm4 a b c p (by simp only at hm; omega)
  rw [wT_eq] at hw
  rw [zeh, zgz]
  simp only [List.length_append] at hn hw ⊢
  have key : ∀ k, k ≤ ns.length → (showZ p (ns.drop k) (ks.drop k)).length ≤ wL cnt (ks.drop k) * 8000000 := by
   refine up ns.length ?_ fun k hk1 ihk => ?_
   · rw [List.drop_length, zgL]; simp
   · have hk2 : k < ks.length := by omega
     have h1 := wP_at hk1
     have h2 := wL_at wT hk2
     have h3 := ih ks[k] (List.getElem_mem hk2) (p ++ [ns[k]]) (d + 1) (hk _ (List.getElem_mem hk2)) (by rw [zgM]; omega)
     rw [zfq p hk1 hk2, List.length_append, zhS cnt hk2]
     omega
  have h0 := key 0 (by omega)
  simp only [List.drop_zero] at h0
  omega
abbrev oBd (a : Str) : PV.Obj := ⟨.bld 170 5, [.v (.string (mkS a)), .h], [.deep, .deep]⟩
theorem zgN (p : List Str) (d : Bool) (m : Int) (s : Str) (x y : List (List D)) (acc : Str) (h0 : 0 ≤ m) (h1 : m ≤ 1000000) (hp : wP p ≤ 1048576) (hs : s.length ≤ 1048576) (ha : acc.length + (lineT d m s p).length ≤ 140737488355328) :
 za0 [vP p, .g [.v (.bool d), .v (.int .i64 m), .v (.string (mkS s)), .s x, .s y], .one (.bx [.p true 0 [] 0] 0)] [oBd acc] = some ⟨[], [oBd (acc ++ lineT d m s p)]⟩ := by
 have e1 := zia d m s p x y h0 h1 hp hs
 have e2 := bwrite acc (lineT d m s p) ha
 rw [za0.e]
 simp (disch := omega) only [pvS, pvC, pvL, pvR, pvN, pvO, e1, e2]
theorem zeZ (t : Tree) : ∀ (p : List Str) (d : Int) (acc : Str), zbh d t = true → oT t → wP p + wT t ≤ 1048576 → acc.length + (showP p t).length ≤ 100000000000000 →
 zaK [vT t, vP p, .f za0.id [.bx [.p true 0 [] 0] 0]] [oBd acc] = some ⟨[], [oBd (acc ++ showP p t)]⟩ := by
 induction t using Tree.ind with
 | h a b c ns ks ih =>
  intro p d acc hp ho hw hacc
  have hm0 := (zdX hp).1.m0
  have hm := (zdX hp).1.m7
  have hn := zbB hp
  have hk := fun k (h : k ∈ ks) => zbR hp (k := k) h
  have hok := zd6 ho
  rw [wT_eq] at hw
  rw [zeh] at hacc ⊢
  simp only [List.length_append] at hm0 hm hn hw hacc hok ⊢
  have hkl := hok.1
  have hpl := zdg p
  have h1 := zgN p a b c (eSs ns) (ks.map eT) acc (by omega) (by omega) (by omega) (by omega) (by omega)
  have hl : ∀ k, k ≤ ns.length → ∀ acc : Str, acc.length + (showZ p (ns.drop k) (ks.drop k)).length ≤ 100000000000000 →
   (iTree_each_show.L3 (eSs p) (eSs ns) ns.length (k : Int) (mkS acc) a b (mkS c) (eSs ns) (ks.map eT)).bind iTree_each_show.A3 = some ⟨[], [oBd (acc ++ showZ p (ns.drop k) (ks.drop k))]⟩ := by
   refine up ns.length ?_ fun k hk1 ihk acc hacc => ?_
   · intro acc _
     rw [iTree_each_show.s3, List.drop_length, zgL]
     simp (disch := omega) only [pvL, pvN, iTree_each_show.a3x3]
   · have hk2 : k < ks.length := by omega
     rw [zfq p hk1 hk2] at hacc ⊢
     simp only [List.length_append] at hacc
     have hwk := wL_at wT hk2
     have hwn := wP_at hk1
     have h2 := zeV p ns[k] (by omega)
     have h3 := ih ks[k] (List.getElem_mem hk2) (p ++ [ns[k]]) (d + 1) acc (hk _ (List.getElem_mem hk2)) (sL_at hok hk2) (by rw [zgM]; omega) (by omega)
     have h4 := ihk (acc ++ showP (p ++ [ns[k]]) ks[k]) (by simp only [List.length_append]; omega)
     rw [List.append_assoc] at h4
     rw [iTree_each_show.s3, ← h4]
     simp (disch := omega) only [pvS, pvT, pvC, pvL, pvR, pvN, pvO, h2, h3]
  have h0 := hl 0 (by omega) (acc ++ lineT a b c p) (by simp only [List.drop_zero, List.length_append]; omega)
  simp only [List.drop_zero] at h0
  rw [List.append_assoc] at h0
  rw [iTree_each_show.e, ← h0]
  simp (disch := omega) only [pvS, pvC, pvL, pvR, pvN, pvO, h1]
theorem zib (t : Tree) (d : Int) (hp : zbh d t = true) (ho : oT t) (hw : wT t ≤ 1048576) : zbL [vT t] [] = rS (showT t) := by
 have hl := zeY t [] d hp (by have : wP [] = 0 := rfl; omega)
 have hc := zep t
 have h1 := zeZ t [] d [] hp ho (by have : wP [] = 0 := rfl; omega) (by simp only [List.length_nil]; omega)
 have h2 := zo2 (showP [] t)
 rw [List.nil_append] at h1
 have h1' : zaK [vT t, AV.one (A1.s []), .f za0.id [.bx [.p true 0 [] 0] 0]] [oBd []] = _ := h1
 rw [zbL.e, zka]
 simp (disch := omega) only [pvS, pvC, pvL, pvR, pvN, pvO, h1', h2]
def ptS (p : List Str) : Str := Lib.joinTail [47] p
theorem znc {p : List Str} (h : p ≠ []) : ptS p = pt p := by unfold pt ptS; rw [if_neg h]
theorem zn7 (p : List Str) (n : Str) : ptS p ++ [47] ++ n = pt (p ++ [n]) := by
 rw [← znc (by simp)]
 unfold ptS
 simp [Lib.joinTail]
theorem zo4 (p : List Str) : (ptS p).length ≤ 1 + wP p := by
 by_cases h : p = []
 · subst h; simp [ptS, Lib.joinTail]
 · rw [znc h]; exact zkT p
theorem zlu (t : Tree) : ∀ (p : List Str) (d : Int), zbh d t = true → oT t → wP p + wT t ≤ 1048576 → zbb [vS (ptS p), vT t] [] = rS (showZ p t.names t.kids) := by
 induction t using Tree.ind with
 | h a b c ns ks ih =>
  intro p d hp ho hw
  have hpo := (zdX hp).1
  have hn := zbB hp
  have hk := fun k (h : k ∈ ks) => zbR hp (k := k) h
  have hok := zd6 ho
  have hlen := zeY _ p d hp (by omega)
  have hcc := zep ⟨a, b, c, ns, ks⟩
  rw [zeh] at hlen
  have hw' := hw
  rw [wT_eq] at hw'
  simp only [List.length_append] at hn hw' hok hlen ⊢
  have hkl := hok.1
  have hpl := zo4 p
  have hl : ∀ k, k ≤ ns.length → ∀ acc : Str, acc.length + (showZ p (ns.drop k) (ks.drop k)).length ≤ 60000000000000 →
   (zbb.L3 (mkS (ptS p)) (mkS acc) (k : Int) a b (mkS c) (eSs ns) (ks.map eT)).bind zbb.A3 = rS (acc ++ showZ p (ns.drop k) (ks.drop k)) := by
   refine up ns.length ?_ fun k hk1 ihk acc hacc => ?_
   · intro acc _
     rw [zbb.s3, List.drop_length, zgL, List.append_nil]
     simp (disch := omega) only [pvL, pvN, zbb.a3x3]
   · have hk2 : k < ks.length := by omega
     have hkm := hk _ (List.getElem_mem hk2)
     have hko := sL_at hok hk2
     rw [zfq p hk1 hk2, zeh] at hacc ⊢
     simp only [List.length_append] at hacc
     have hwk := wL_at wT hk2
     have hwn := wP_at hk1
     have hwp := zgM p ns[k]
     have hm := (zdX hkm).1
     have hwt := wT_eq ks[k]
     have h2 := zhx ks[k].dir ks[k].mode ks[k].data (p ++ [ns[k]]) (eSs ks[k].names) (ks[k].kids.map eT) hm.m0 (by have := hm.m7; omega) (by omega) (by omega)
     have h3 := ih ks[k] (List.getElem_mem hk2) (p ++ [ns[k]]) (d + 1) hkm hko (by omega)
     rw [znc (by simp)] at h3
     have h4 := ihk (acc ++ lineT ks[k].dir ks[k].mode ks[k].data (p ++ [ns[k]]) ++ showZ (p ++ [ns[k]]) ks[k].names ks[k].kids) (by simp only [List.length_append]; omega)
     have e1 : acc ++ (lineT ks[k].dir ks[k].mode ks[k].data (p ++ [ns[k]]) ++ showZ (p ++ [ns[k]]) ks[k].names ks[k].kids ++ showZ p (ns.drop (k + 1)) (ks.drop (k + 1))) =
      acc ++ lineT ks[k].dir ks[k].mode ks[k].data (p ++ [ns[k]]) ++ showZ (p ++ [ns[k]]) ks[k].names ks[k].kids ++ showZ p (ns.drop (k + 1)) (ks.drop (k + 1)) := by simp
     have e2 := zn7 p ns[k]
     have e3 : ByteArray.mk #[47] = mkS [47] := rfl
     rw [zbb.s3, e1, ← h4, e3]
     simp (disch := omega) only [pvS, pvT, pvC, pvL, pvR, pvN, e2, h2, h3]
  have h0 := hl 0 (by omega) [] (by simp only [List.drop_zero, List.length_nil]; omega)
  simp only [List.drop_zero, List.nil_append] at h0
  rw [zbb.e]
  exact h0
end Go.PVx
namespace Go.PVx
open Go.PV
def plc (l : List Str) (n : Str) : Nat := (l.takeWhile fun m => Op.bytesLess m n).length
end Go.PVx
namespace Go.PVx
open Go.PV Go.Proofs
theorem half (a b : Nat) (h : a + b ≤ 2000000000) : IntKind.i64.wrap ((IntKind.u64.wrap (IntKind.i64.wrap ((a : Int) + (b : Int)))).fdiv (2 ^ min (Int.toNat 1) IntKind.u64.bits)) = (((a + b) / 2 : Nat) : Int) := by
 have e1 : IntKind.i64.wrap ((a : Int) + (b : Int)) = ((a + b : Nat) : Int) := by rw [Sx.wrap64] <;> omega
 have e2 : IntKind.u64.wrap ((a + b : Nat) : Int) = ((a + b : Nat) : Int) := by
  rw [IntKind.wrap_u64]; omega
 have e3 : (2 : Int) ^ min (Int.toNat 1) IntKind.u64.bits = 2 := rfl
 rw [e1, e2, e3, Int.fdiv_eq_ediv_of_nonneg _ (by omega), Sx.wrap64] <;> omega
end Go.PVx
namespace Go.PVx
open Go.PV Go.Proofs
end Go.PVx
namespace Go.PVx
open Go.PV Go.Proofs
abbrev rT (t : Tree) : Option Res := some ⟨[.v (.bool t.dir), .v (.int .i64 t.mode), .v (.string (mkS t.data)), .o .deep (eSs t.names), .o .deep (t.kids.map eT)], []⟩
theorem zgY (t : Tree) : wT t ≤ 1048576 → zaB [vT t] [] = rT t := by
 induction t using Tree.ind with
 | h d m s ns ks ih =>
  intro hw
  have hwt := wT_eq ⟨d, m, s, ns, ks⟩
  simp only at hwt
  have hl1 := zcV wT ks
  have hl2 := zdg ns
  have r1 : zaF 1 (eSs ns) = true := Sx.rowsLen_map 1 eS (fun _ => rfl) ns
  have r2 : zaT false (eSs ns) = true := Sx.rowsCell_map false eS (fun _ => rfl) ns
  have hl : ∀ k, k ≤ ks.length → (zaB.L3 (ks.map eT) ks.length (k : Int) d m (mkS s) (eSs ns) (ks.map eT) false 0 (mkS []) [] [] ((ks.take k).map eT)).bind zaB.A3 = rT ⟨d, m, s, ns, ks⟩ := by
   refine up ks.length ?_ fun k hk ihk => ?_
   · rw [zaB.s3, List.take_length]
     simp (disch := omega) only [pvS, pvT, pvC, pvL, pvR, pvN, zaB.a3x3, r1, r2]
   · have hk1 := wL_at wT hk
     have h1 := ih ks[k] (List.getElem_mem hk) (by omega)
     have r3 : zaF 5 ((ks.take k).map eT) = true := Sx.rowsLen_map 5 eT Sx.eT_len _
     have e : (ks.take k).map eT ++ [eT ks[k]] = (ks.take (k + 1)).map eT := by
      rw [List.take_add_one, List.getElem?_eq_getElem hk, List.map_append]; rfl
     have e2 : ((ks.take k).map eT).length = k := by simp; omega
     rw [← ihk, ← e, zaB.s3]
     rw [eT_eq ks[k]]
     simp (disch := omega) only [pvS, pvT, pvC, pvL, pvR, pvN, h1, r3, e2]
  have h0 := hl 0 (by omega)
  rw [zaB.e]
  simp (disch := omega) only [pvS, pvT, pvC, pvL, pvR, pvN]
  exact h0
end Go.PVx
namespace Go.PVx
open Go.PV Go.Proofs
theorem oT_of : ∀ t : Tree, wT t ≤ 1048576 → oT t := fun t => by
 induction t using Tree.ind with
 | h d m s ns ks ih =>
  intro hw
  rw [wT_eq] at hw
  simp only at hw
  have h1 := zcV wT ks
  rw [oT_eq]
  refine ⟨by unfold sS; simp only; omega, oP_of (by simp only; omega), ⟨by simp only; omega, fun k hk => ih k hk (by have := zd4 wT ks k hk; omega)⟩⟩
end Go.PVx
namespace Go.PVx
open Go.PV Go.Proofs
end Go.PVx
namespace Go.PVx
open Go.PV Go.Proofs
end Go.PVx
namespace Go.PVx
open Go.PV Go.Proofs
theorem zkU {l : List Str} (h : ∀ x ∈ l, nameB x = true) : wP l ≤ 6 * l.length := by
 unfold wP
 induction l with
 | nil => simp [wL]
 | cons a l ih =>
  have h1 := h a (by simp)
  have h2 := ih fun x hx => h x (by simp [hx])
  unfold nameB inB at h1
  simp only [Bool.and_eq_true, decide_eq_true_eq] at h1
  simp only [wL, List.length_cons]
  omega
theorem zo5 (t : Tree) : ∀ d, zbh d t = true → wT t ≤ 24 + 31 * cnt t := by
 induction t using Tree.ind with
 | h dd m s ns ks ih =>
  intro d h
  have hp := (zdX h).1
  have hl := zbB h
  have hk := fun k (hm : k ∈ ks) => ih k hm (d + 1) (zbR h (k := k) hm)
  have h1 := hp.len
  have h2 := zkU hp.nm
  have h3 := hp.file
  have h4 := hp.dat
  rw [wT_eq, zgz]
  simp only at h1 h2 h3 h4 hl ⊢
  have h5 : s.length ≤ 24 := by
   cases hd : dd with
   | true => rw [h4 hd]; simp
   | false => exact (h3 hd).1
  have key : ∀ l : List Tree, (∀ k ∈ l, wT k ≤ 24 + 31 * cnt k) → wL wT l + 6 * l.length ≤ 31 * wL cnt l := by
   intro l
   induction l with
   | nil => simp [wL]
   | cons a l ihl =>
    intro h
    have := h a (by simp)
    have := ihl fun k hk => h k (by simp [hk])
    simp only [wL, List.length_cons]
    omega
  have := key ks hk
  omega
theorem zo6 {t : Tree} (h : treeB t = true) : wT t ≤ 1000 := by
 have := zo5 t 0 (zcn h)
 have := zd8 h
 omega
end Go.PVx
