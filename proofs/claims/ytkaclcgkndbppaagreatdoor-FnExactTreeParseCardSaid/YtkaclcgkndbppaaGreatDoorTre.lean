/- A part of the proof: PvG, PvT1, PvP1, PvP2, PvT2, PvT4, PvT5, PvT6, PvT7, PvT8, PvT9, PvTA, PvTB, PvInZ. -/
import Derived.Test.YtkaclcgkndbppaaGreatDoorDat
import Derived.Test.YtkaclcgkndbppaaGreatDoorTy
import Derived.Test.YtkaclcgkndbppaaGreatDoorDau
import Derived.Test.YtkaclcgkndbppaaGreatDoorProg
import Derived.Test.YtkaclcgkndbppaaGreatDoorIns
import Derived.KernelRfl
set_option linter.unusedSimpArgs false
set_option linter.unusedVariables false
namespace Go.PVx
open Go.PV Go.Proofs
theorem zpW {α : Type} (f : α → List D) (m : List α) (x y : List D) (r : List (List D)) : (m.map f ++ x :: r).set m.length y = m.map f ++ y :: r := by
 rw [List.set_append_right _ _ (by simp), List.length_map, Nat.sub_self, List.set_cons_zero]
noncomputable def mks {α : Type} (c : α → Nat) (mk : Int → α → α) : Int → List α → List α
 | _, [] => []
 | k, a :: l => mk k a :: mks c mk (k + c a) l
@[simp] theorem zpX {α : Type} (c : α → Nat) (mk : Int → α → α) : ∀ (l : List α) (k : Int), (mks c mk k l).length = l.length
 | [], _ => rfl
 | _ :: l, k => by simp [mks, zpX c mk l]
theorem zo9 {α X : Type} (e : α → List D) (c : α → Nat) (mk : Int → α → α) (p : α → Prop) (L : Int → Int → List (List D) → Option X) (R : Int → List (List D) → Option X)
 (hs : ∀ (m l : List α) (a : α) (k : Int), p a → 0 ≤ k → k + c a ≤ Top → m.length + l.length + 1 ≤ 1048576 →
   L k m.length (m.map e ++ e a :: l.map e) = L (k + c a) ((m.length + 1 : Nat) : Int) (m.map e ++ e (mk k a) :: l.map e))
 (he : ∀ (m : List α) (k : Int), L k m.length (m.map e) = R k (m.map e)) :
 ∀ (l m : List α) (k : Int), (∀ a ∈ l, p a) → 0 ≤ k → k + (sumW c l : Nat) ≤ Top → m.length + l.length ≤ 1048576 →
  L k m.length (m.map e ++ l.map e) = R (k + (sumW c l : Nat)) ((m ++ mks c mk k l).map e)
 | [], m, k, _, h0, h1, hl => by simp [mks, sumW, he]
 | a :: l, m, k, hp, h0, h1, hl => by
  simp only [sumW] at h1
  simp only [List.length_cons] at hl
  have := zo9 e c mk p L R hs he l (m ++ [mk k a]) (k + c a) (fun b hb => hp b (by simp [hb])) (by omega) (by push_cast at h1 ⊢; omega) (by simp only [List.length_append, List.length_cons, List.length_nil]; omega)
  simp only [List.map_cons, mks, sumW]
  rw [hs m l a k (hp a (by simp)) h0 (by push_cast at h1; omega) (by omega)]
  rw [show m ++ mk k a :: mks c mk (k + c a) l = m ++ [mk k a] ++ mks c mk (k + c a) l from by simp]
  rw [show k + ((c a + sumW c l : Nat) : Int) = k + c a + (sumW c l : Nat) by push_cast; omega, ← this]
  simp
theorem zpa {α X : Type} (e : α → List D) (c : α → Nat) (mk : Int → α → α) (p : α → Prop) (L : List (List D) → Int → Int → Option X) (R : Int → Option X)
 (hs : ∀ (m l : List α) (a : α) (k : Int), p a → 0 ≤ k → k + c a ≤ Top → m.length + l.length + 1 ≤ 1048576 →
   L (m.map e ++ e (mk k a) :: l.map e) k m.length = L (m.map e ++ e (mk k a) :: l.map e) (k + c a) ((m.length + 1 : Nat) : Int))
 (he : ∀ (m : List α) (k : Int), L (m.map e) k m.length = R k) :
 ∀ (l m : List α) (k : Int), (∀ a ∈ l, p a) → 0 ≤ k → k + (sumW c l : Nat) ≤ Top → m.length + l.length ≤ 1048576 →
  L (m.map e ++ (mks c mk k l).map e) k m.length = R (k + (sumW c l : Nat))
 | [], m, k, _, h0, h1, hl => by simp [mks, sumW, he]
 | a :: l, m, k, hp, h0, h1, hl => by
  simp only [sumW] at h1
  simp only [List.length_cons] at hl
  have := zpa e c mk p L R hs he l (m ++ [mk k a]) (k + c a) (fun b hb => hp b (by simp [hb])) (by omega) (by push_cast at h1 ⊢; omega) (by simp only [List.length_append, List.length_cons, List.length_nil]; omega)
  simp only [List.map_cons, mks, sumW]
  rw [hs m (mks c mk (k + c a) l) a k (hp a (by simp)) h0 (by push_cast at h1; omega) (by simp; omega)]
  rw [show k + ((c a + sumW c l : Nat) : Int) = k + c a + (sumW c l : Nat) by push_cast; omega, ← this]
  simp
end Go.PVx
namespace Go.PVx
open Go.PV Go.Proofs
mutual
def cT : Tree → Nat
 | ⟨_, _, _, ns, ks⟩ => 3 + ns.length + cTs ks
def cTs : List Tree → Nat
 | [] => 0
 | t :: ts => cT t + cTs ts
end
theorem znB : ∀ l : List Tree, cTs l = sumW cT l
 | [] => rfl
 | t :: ts => by rw [cTs, znB ts, sumW]
theorem cT_eq (t : Tree) : cT t = 3 + t.names.length + sumW cT t.kids := by
 obtain ⟨d, m, s, ns, ks⟩ := t
 rw [cT, znB]
theorem cT_le (t : Tree) : cT t ≤ 3 * (1 + wT t) := by
 induction t using Tree.ind with
 | h d m s ns ks ih =>
  rw [cT_eq, wT_eq]
  have h1 : ns.length ≤ wP ns := zcU _ _
  have h2 : ∀ l : List Tree, (∀ x ∈ l, cT x ≤ 3 * (1 + wT x)) → sumW cT l ≤ 3 * wL wT l := by
   intro l hl
   induction l with
   | nil => simp [sumW]
   | cons x l ihl =>
    have := hl x (by simp)
    have := ihl (fun y hy => hl y (by simp [hy]))
    simp only [sumW, wL]; omega
  have := h2 ks ih
  simp only
  omega
mutual
noncomputable def mT : Tree → Int → Tree
 | ⟨_, _, _, ns, ks⟩, k => ⟨k.tmod 3 == 0, k + 1, mt (k + 2), mP (k + 3) ns, mTs ks (k + 3 + ns.length)⟩
noncomputable def mTs : List Tree → Int → List Tree
 | [], _ => []
 | t :: ts, k => mT t k :: mTs ts (k + cT t)
end
theorem mT_eq (t : Tree) (k : Int) : mT t k = ⟨k.tmod 3 == 0, k + 1, mt (k + 2), mP (k + 3) t.names, mTs t.kids (k + 3 + t.names.length)⟩ := by
 obtain ⟨d, m, s, ns, ks⟩ := t
 rw [mT]
theorem zku : ∀ (l : List Tree) (k : Int), mTs l k = mks cT (fun k t => mT t k) k l
 | [], _ => by rw [mTs]; rfl
 | t :: ts, k => by rw [mTs, zku ts]; rfl
theorem zik (l : List Tree) (hl0 : l.length ≤ 1048576)
 (hX : ∀ a ∈ l, ∀ k : Int, 0 ≤ k → k + (sumW cT a.kids : Nat) ≤ Top → zao [.one (.r 0 [] 0), vI k] [gV (a.kids.map eT)] = rM (k + (sumW cT a.kids : Nat)) ((mTs a.kids k).map eT))
 (k : Int) (h0 : 0 ≤ k) (h1 : k + (sumW cT l : Nat) ≤ Top) :
 zao [.one (.r 0 [] 0), vI k] [gV (l.map eT)] = rM (k + (sumW cT l : Nat)) ((mTs l k).map eT) := by
 have hT : Top = 1000000000000 := rfl
 rw [zao.e, zku]
 have key := zo9 eT cT (fun k t => mT t k) (fun a => ∀ k : Int, 0 ≤ k → k + (sumW cT a.kids : Nat) ≤ Top → zao [.one (.r 0 [] 0), vI k] [gV (a.kids.map eT)] = rM (k + (sumW cT a.kids : Nat)) ((mTs a.kids k).map eT))
  (fun k j r => (zao.L2 k j r).bind zao.A2) (fun k r => rM k r) ?_ ?_ l [] k hX h0 h1 (by simpa using hl0)
 · simpa using key
 · intro m l a k ha h0 h1 hl
   have hcn := cT_eq a
   have ht := zdn (k + 2) (by omega) (by omega)
   have hS := zd0 a.names (k + 3) (by omega) (by omega)
   have hR := ha (k + 3 + a.names.length) (by omega) (by omega)
   have e1 : k + 1 + 1 = k + 2 := by omega
   have e2 : k + 2 + 1 = k + 3 := by omega
   have e3 : k + 3 + a.names.length + (sumW cT a.kids : Nat) = k + (cT a : Nat) := by omega
   rw [e3] at hR
   rw [zao.s2]
   simp (disch := omega) only [pvS, pvT, pvC, pvL, pvN, pvR, pvO, Nat.sub_self, zpW, ht, hS, hR, e1, e2, List.set_cons_zero, List.set_cons_succ, List.take_succ_cons, List.take_zero, List.drop_succ_cons, List.drop_zero, List.cons_append, List.nil_append, zao.p9, mT_eq]
 · intro m k
   rw [zao.s2]
   simp (disch := omega) only [pvL, pvN, zao.a2x2]
theorem zjD (t : Tree) : wT t ≤ 1048576 → ∀ k : Int, 0 ≤ k → k + (sumW cT t.kids : Nat) ≤ Top →
 zao [.one (.r 0 [] 0), vI k] [gV (t.kids.map eT)] = rM (k + (sumW cT t.kids : Nat)) ((mTs t.kids k).map eT) := by
 induction t using Tree.ind with
 | h d m s ns ks ih =>
  intro hw k h0 h1
  rw [wT_eq] at hw
  have h2 : ks.length ≤ wL wT ks := zcU _ _
  simp only at hw h1 ⊢
  refine zik ks (by omega) (fun a ha k h0 h1 => ih a ha ?_ k h0 h1) k h0 h1
  have := zeQ wT ks a ha
  omega
theorem zjE (t : Tree) (hw : wT t ≤ 1048576) (k : Int) (h0 : 0 ≤ k) (h1 : k + (cT t : Nat) ≤ Top) :
 zbL [.g [.v (.bool t.dir), .v (.int .i64 t.mode), .v (.string (mkS t.data)), .r 0 [] 0, .r 0 [] 1], vI k] [⟨.virt, [.s (eSs t.names), .s (t.kids.map eT)], [.deep, .deep]⟩] =
  some ⟨[.v (.int .i64 (k + t.names.length + (sumW cT t.kids : Nat)))], [⟨.virt, [.s (eSs (mP k t.names)), .s ((mTs t.kids (k + t.names.length)).map eT)], [.deep, .deep]⟩]⟩ := by
 have hT : Top = 1000000000000 := rfl
 rw [cT_eq] at h1
 have hS := zd0 t.names k (by omega) (by omega)
 have hR := zjD t hw (k + t.names.length) (by omega) (by omega)
 rw [zbL.e]
 simp (disch := omega) only [pvS, pvT, pvC, pvL, pvN, pvR, pvO, hS, hR]
theorem zil (l : List Tree) (hl0 : l.length ≤ 1048576)
 (hX : ∀ a ∈ l, ∀ k : Int, 0 ≤ k → k + (sumW cT a.kids : Nat) ≤ Top → zaj [.one (.s ((mTs a.kids k).map eT)), vI k] [] = rI (k + (sumW cT a.kids : Nat)))
 (k : Int) (h0 : 0 ≤ k) (h1 : k + (sumW cT l : Nat) ≤ Top) :
 zaj [.one (.s ((mTs l k).map eT)), vI k] [] = rI (k + (sumW cT l : Nat)) := by
 have hT : Top = 1000000000000 := rfl
 rw [zaj.e, zku]
 have key := zpa eT cT (fun k t => mT t k) (fun a => ∀ k : Int, 0 ≤ k → k + (sumW cT a.kids : Nat) ≤ Top → zaj [.one (.s ((mTs a.kids k).map eT)), vI k] [] = rI (k + (sumW cT a.kids : Nat)))
  (fun r k j => (zaj.L2 r k j).bind zaj.A2) (fun k => rI k) ?_ ?_ l [] k hX h0 h1 (by simpa using hl0)
 · simpa using key
 · intro m l a k ha h0 h1 hl
   have hcn := cT_eq a
   have ht := zdn (k + 2) (by omega) (by omega)
   have hS := zd1 a.names (k + 3) (by omega) (by omega)
   have hR := ha (k + 3 + a.names.length) (by omega) (by omega)
   have e1 : k + 1 + 1 = k + 2 := by omega
   have e2 : k + 2 + 1 = k + 3 := by omega
   have e3 : k + 3 + a.names.length + (sumW cT a.kids : Nat) = k + (cT a : Nat) := by omega
   rw [e3] at hR
   rw [zaj.s2]
   simp (disch := omega) only [pvS, pvT, pvC, pvL, pvN, pvR, pvO, Nat.sub_self, ht, hS, hR, e1, e2, zaj.p10, zaj.p17, mT_eq, beq_self_eq_true]
 · intro m k
   rw [zaj.s2]
   simp (disch := omega) only [pvL, pvN, zaj.a2x2]
theorem zjF (t : Tree) : wT t ≤ 1048576 → ∀ k : Int, 0 ≤ k → k + (sumW cT t.kids : Nat) ≤ Top →
 zaj [.one (.s ((mTs t.kids k).map eT)), vI k] [] = rI (k + (sumW cT t.kids : Nat)) := by
 induction t using Tree.ind with
 | h d m s ns ks ih =>
  intro hw k h0 h1
  rw [wT_eq] at hw
  have h2 : ks.length ≤ wL wT ks := zcU _ _
  simp only at hw h1 ⊢
  refine zil ks (by omega) (fun a ha k h0 h1 => ih a ha ?_ k h0 h1) k h0 h1
  have := zeQ wT ks a ha
  omega
theorem zjG (t : Tree) (hw : wT t ≤ 1048576) (k : Int) (h0 : 0 ≤ k) (h1 : k + (cT t : Nat) ≤ Top) (d : Bool) (md : Int) (s : Str) :
 zbv [.g [.v (.bool d), .v (.int .i64 md), .v (.string (mkS s)), .s (eSs (mP k t.names)), .s ((mTs t.kids (k + t.names.length)).map eT)], vI k] [] = rI (k + t.names.length + (sumW cT t.kids : Nat)) := by
 have hT : Top = 1000000000000 := rfl
 rw [cT_eq] at h1
 have hS := zd1 t.names k (by omega) (by omega)
 have hR := zjF t hw (k + t.names.length) (by omega) (by omega)
 rw [zbv.e]
 simp (disch := omega) only [pvS, pvT, pvC, pvL, pvN, pvR, pvO, hS, hR]
theorem zjH (t : Tree) : wT t ≤ 1048576 → zbk [vT t, vT t] [] = rB true := by
 induction t using Tree.ind with
 | h a b c ns ks ih =>
  intro hw
  rw [wT_eq] at hw
  have h2 : ks.length ≤ wL wT ks := zcU _ _
  have h3 := zeU ns
  simp only at hw
  have e1 := zgH ns (by omega)
  have e2 := zko ks (by omega) fun a ha => ih a ha (by have := zeQ wT ks a ha; omega)
  have b1 : (!(a == a)) = false := by cases a <;> rfl
  have b3 : (c == c) = true := by simp
  rw [zbk.e]
  simp (disch := omega) only [pvS, pvT, pvC, pvL, pvN, pvR, e1, e2, zbk.p9, b1, b3]
end Go.PVx
namespace Go.PVx
open Go.PV
theorem zjI (a b : UInt8) (l m : Str) : Op.bytesLess (a :: l) (b :: m) = (decide (a < b) || (a == b && Op.bytesLess l m)) := rfl
theorem zfv : ∀ a b c : Str, Op.bytesLess a b = true → Op.bytesLess b c = true → Op.bytesLess a c = true
 | [], [], c, h, _ => by simp [Op.bytesLess] at h
 | _ :: _, [], c, h, _ => by simp [Op.bytesLess] at h
 | [], b :: bs, [], _, h => by simp [Op.bytesLess] at h
 | [], b :: bs, c :: cs, _, _ => by simp [Op.bytesLess]
 | a :: xs, b :: bs, [], _, h => by simp [Op.bytesLess] at h
 | a :: xs, b :: bs, c :: cs, h1, h2 => by
  rw [zjI] at h1 h2 ⊢
  simp only [Bool.or_eq_true, decide_eq_true_eq, Bool.and_eq_true, beq_iff_eq, UInt8.lt_iff_toNat_lt] at h1 h2 ⊢
  rcases h1 with h1 | ⟨rfl, h1⟩
  · rcases h2 with h2 | ⟨rfl, h2⟩
    · exact .inl (by omega)
    · exact .inl h1
  · rcases h2 with h2 | ⟨rfl, h2⟩
    · exact .inl h2
    · exact .inr ⟨rfl, zfv _ _ _ h1 h2⟩
theorem zpY {a b : Str} (h : Op.bytesLess a b = true) : a ≠ b := fun e => by
 subst e; rw [zoy] at h; exact absurd h (by simp)
theorem zlc : ∀ a b : Str, Op.bytesLess a b = false → a ≠ b → Op.bytesLess b a = true
 | [], [], _, h => absurd rfl h
 | [], b :: bs, h, _ => by simp [Op.bytesLess] at h
 | a :: xs, [], _, _ => by simp [Op.bytesLess]
 | a :: xs, b :: bs, h, hne => by
  rw [zjI] at h ⊢
  simp only [Bool.or_eq_false_iff, decide_eq_false_iff_not, UInt8.lt_iff_toNat_lt, Bool.and_eq_false_iff, Bool.or_eq_true, decide_eq_true_eq, Bool.and_eq_true, beq_iff_eq] at h ⊢
  by_cases e : a = b
  · subst e
    right
    have h2 : Op.bytesLess xs bs = false := by rcases h.2 with h2 | h2; exact absurd h2 (by simp); exact h2
    exact ⟨rfl, zlc xs bs h2 fun e => hne (by rw [e])⟩
  · left
    have : a.toNat ≠ b.toNat := fun h => e (UInt8.toNat_inj.1 h)
    omega
def Asc (l : List Str) : Prop := l.Pairwise fun a b => Op.bytesLess a b = true
theorem zhH : ∀ (l : List Str) (p : Option Str), zcV p l = true → Asc l ∧ ∀ y, p = some y → ∀ x ∈ l, Op.bytesLess y x = true
 | [], _, _ => ⟨List.Pairwise.nil, by simp⟩
 | a :: l, p, h => by
  simp only [zcV, Bool.and_eq_true] at h
  obtain ⟨h1, h2⟩ := zhH l (some a) h.2
  refine ⟨List.Pairwise.cons (fun x hx => h2 a rfl x hx) h1, fun y hy x hx => ?_⟩
  subst hy
  have h3 : Op.bytesLess y a = true := h.1.2
  rcases List.mem_cons.1 hx with rfl | hx
  · exact h3
  · exact zfv _ _ _ h3 (h2 a rfl x hx)
mutual
def sub (p : List Str) : Tree → List (List Str × Tree)
 | ⟨d, m, s, ns, ks⟩ => (p, ⟨d, m, s, ns, ks⟩) :: subZ p ns ks
def subZ (p : List Str) : List Str → List Tree → List (List Str × Tree)
 | n :: ns, k :: ks => sub (p ++ [n]) k ++ subZ p ns ks
 | [], _ => []
 | _ :: _, [] => []
end
theorem zcb (p : List Str) (t : Tree) : sub p t = (p, t) :: subZ p t.names t.kids := by
 obtain ⟨d, m, s, ns, ks⟩ := t
 rw [sub]
def pre (a : List Str) (x : List Str × Tree) : List Str × Tree := (a ++ x.1, x.2)
theorem zld (a p : List Str) : ∀ (ns : List Str) (ks : List Tree), (∀ k ∈ ks, ∀ p, sub (a ++ p) k = (sub p k).map (pre a)) → subZ (a ++ p) ns ks = (subZ p ns ks).map (pre a)
 | [], ks, _ => by simp [subZ]
 | _ :: _, [], _ => by simp [subZ]
 | n :: ns, k :: ks, h => by
  simp only [subZ, List.map_append]
  rw [List.append_assoc, h k (by simp), zld a p ns ks fun x hx => h x (by simp [hx])]
theorem zpZ (a : List Str) (t : Tree) : ∀ p, sub (a ++ p) t = (sub p t).map (pre a) := by
 induction t using Tree.ind with
 | h d m s ns ks ih =>
  intro p
  rw [zcb, zcb, List.map_cons, zld a p ns ks ih]
  rfl
theorem zp0 (n : Str) (t : Tree) : sub [n] t = (sub [] t).map (pre [n]) := by
 have := zpZ [n] t []
 simpa using this
theorem zgO (p : List Str) : ∀ (ns : List Str) (ks : List Tree), (∀ k ∈ ks, ∀ p, ∀ x ∈ sub p k, ∃ q, x.1 = p ++ q) → ∀ x ∈ subZ p ns ks, ∃ n q, x.1 = p ++ n :: q
 | [], ks, _, x, hx => by simp [subZ] at hx
 | _ :: _, [], _, x, hx => by simp [subZ] at hx
 | n :: ns, k :: ks, h, x, hx => by
  simp only [subZ, List.mem_append] at hx
  rcases hx with hx | hx
  · obtain ⟨q, hq⟩ := h k (by simp) _ x hx
    exact ⟨n, q, by rw [hq]; simp⟩
  · exact zgO p ns ks (fun y hy => h y (by simp [hy])) x hx
theorem zoF (t : Tree) : ∀ p, ∀ x ∈ sub p t, ∃ q, x.1 = p ++ q := by
 induction t using Tree.ind with
 | h d m s ns ks ih =>
  intro p x hx
  rw [zcb, List.mem_cons] at hx
  rcases hx with rfl | hx
  · exact ⟨[], by simp⟩
  · obtain ⟨n, q, h⟩ := zgO p ns ks ih x hx
    exact ⟨_, h⟩
theorem zcZ {t : Tree} {x : List Str × Tree} (hx : x ∈ (sub [] t).tail) : x.1 ≠ [] := by
 rw [zcb] at hx
 obtain ⟨n, q, h⟩ := zgO [] t.names t.kids (fun k _ => zoF k) x hx
 rw [h]
 simp
def leaf (t : Tree) : Tree := ⟨t.dir, t.mode, t.data, [], []⟩
def ixN : List Str → Str → Option Nat
 | [], _ => none
 | a :: l, n => if a = n then some 0 else (ixN l n).map (· + 1)
theorem zoG (A : List Str) (n : Str) (h : n ∉ A) : ixN (A ++ [n]) n = some A.length := by
 induction A with
 | nil => simp [ixN]
 | cons a A ih =>
  have h1 : a ≠ n := fun e => h (by simp [e])
  have h2 := ih fun e => h (by simp [e])
  simp only [List.cons_append, ixN, if_neg h1, h2]
  rfl
theorem zeY : ∀ {l : List Str} {n : Str} {k : Nat}, ixN l n = some k → ∃ h : k < l.length, l[k] = n
 | [], n, k, h => by simp [ixN] at h
 | a :: l, n, k, h => by
  simp only [ixN] at h
  split at h
  · rename_i e
    obtain rfl := Option.some.inj h
    exact ⟨by simp, e⟩
  · simp only [Option.map_eq_some_iff] at h
    obtain ⟨j, h1, rfl⟩ := h
    obtain ⟨h2, h3⟩ := zeY h1
    exact ⟨by simpa using h2, by simpa using h3⟩
def putAt (ins : Tree → Str → Tree → Tree) (x : Tree) : Tree → List Str → Option Tree
 | _, [] => none
 | t, [n] => some (ins t n x)
 | t, n :: m :: q => match ixN t.names n with
  | none => none
  | some k => match t.kids[k]? with
   | none => none
   | some kd => (putAt ins x kd (m :: q)).map fun z => ⟨t.dir, t.mode, t.data, t.names, t.kids.set k z⟩
def build (ins : Tree → Str → Tree → Tree) : Tree → List (List Str × Tree) → Option Tree
 | t, [] => some t
 | t, e :: l => (putAt ins (leaf e.2) t e.1).bind fun z => build ins z l
theorem zfI (ins : Tree → Str → Tree → Tree) : ∀ (a b : List (List Str × Tree)) (t : Tree), build ins t (a ++ b) = (build ins t a).bind fun z => build ins z b
 | [], b, t => rfl
 | e :: a, b, t => by
  simp only [List.cons_append, build]
  cases putAt ins (leaf e.2) t e.1 with
  | none => rfl
  | some z => exact zfI ins a b z
def InsOk (ins : Tree → Str → Tree → Tree) : Prop := ∀ t n x, t.names.length = t.kids.length → (∀ m ∈ t.names, Op.bytesLess m n = true) → ins t n x = ⟨t.dir, t.mode, t.data, t.names ++ [n], t.kids ++ [x]⟩
theorem zlT (ins : Tree → Str → Tree → Tree) (x : Tree) (d : Bool) (m : Int) (s : Str) (A : List Str) (B : List Tree) (n : Str) (K : Tree) (h : A.length = B.length) (hn : n ∉ A) (q : List Str) (hq : q ≠ []) :
 putAt ins x ⟨d, m, s, A ++ [n], B ++ [K]⟩ (n :: q) = (putAt ins x K q).map fun z => ⟨d, m, s, A ++ [n], B ++ [z]⟩ := by
 cases q with
 | nil => exact absurd rfl hq
 | cons a q =>
  simp only [putAt, zoG A n hn, h, List.getElem?_concat_length]
  have : ∀ z : Tree, (B ++ [K]).set B.length z = B ++ [z] := fun z => by simp
  simp only [this]
theorem zhI (ins : Tree → Str → Tree → Tree) (d : Bool) (m : Int) (s : Str) (A : List Str) (B : List Tree) (n : Str) (h : A.length = B.length) (hn : n ∉ A) :
 ∀ (l : List (List Str × Tree)) (K : Tree), (∀ x ∈ l, x.1 ≠ []) → build ins ⟨d, m, s, A ++ [n], B ++ [K]⟩ (l.map (pre [n])) = (build ins K l).map fun z => ⟨d, m, s, A ++ [n], B ++ [z]⟩
 | [], K, _ => rfl
 | e :: l, K, hl => by
  simp only [List.map_cons, build]
  have e1 : (pre [n] e).1 = n :: e.1 := rfl
  have e2 : (pre [n] e).2 = e.2 := rfl
  rw [e1, e2, zlT ins _ d m s A B n K h hn e.1 (hl e (by simp))]
  cases putAt ins (leaf e.2) K e.1 with
  | none => rfl
  | some z => exact zhI ins d m s A B n h hn l z fun x hx => hl x (by simp [hx])
theorem zle (ins : Tree → Str → Tree → Tree) (hi : InsOk ins) (d : Bool) (m : Int) (s : Str) : ∀ (ns : List Str) (ks : List Tree) (A : List Str) (B : List Tree), A.length = B.length → ns.length = ks.length → Asc (A ++ ns) →
 (∀ k ∈ ks, build ins (leaf k) (sub [] k).tail = some k) → build ins ⟨d, m, s, A, B⟩ (subZ [] ns ks) = some ⟨d, m, s, A ++ ns, B ++ ks⟩
 | [], [], A, B, _, _, _, _ => by simp [subZ, build]
 | [], _ :: _, A, B, _, h, _, _ => by simp at h
 | _ :: _, [], A, B, _, h, _, _ => by simp at h
 | n :: ns, k :: ks, A, B, hAB, hl, ha, hk => by
  simp only [subZ, List.nil_append]
  have hlt : ∀ m ∈ A, Op.bytesLess m n = true := fun m hm => (List.pairwise_append.1 ha).2.2 m hm n (by simp)
  have hn : n ∉ A := fun hm => zpY (hlt n hm) rfl
  rw [zp0, zcb, List.map_cons, List.cons_append, build]
  have e1 : (pre [n] ([], k)).1 = [n] := rfl
  have e2 : (pre [n] ([], k)).2 = k := rfl
  rw [e1, e2, putAt, hi _ n _ hAB hlt, Option.bind_some, zfI]
  have h1 := zhI ins d m s A B n hAB hn (sub [] k).tail (leaf k) fun x hx => zcZ hx
  rw [zcb, List.tail_cons] at h1
  have h2 := hk k (by simp)
  rw [zcb, List.tail_cons] at h2
  simp only
  rw [h1, h2, Option.map_some, Option.bind_some, zle ins hi d m s ns ks (A ++ [n]) (B ++ [k]) (by simp [hAB]) (by simpa using hl) (by simpa using ha) (fun x hx => hk x (by simp [hx]))]
  simp
theorem zhJ {d : Int} {t : Tree} (h : zbl d t = true) : Asc t.names := by
 rw [zdG] at h
 simp only [plainB, Bool.and_eq_true] at h
 have h1 := h.1.1.2
 cases hd : t.dir with
 | true =>
  rw [hd] at h1
  simp only [cond_true, Bool.and_eq_true] at h1
  exact (zhH _ _ h1.1).1
 | false =>
  rw [hd] at h1
  simp only [cond_false, Bool.and_eq_true, decide_eq_true_eq, List.length_eq_zero_iff] at h1
  rw [h1.2]
  exact List.Pairwise.nil
theorem znC (ins : Tree → Str → Tree → Tree) (hi : InsOk ins) (t : Tree) : ∀ d, zbl d t = true → build ins (leaf t) (sub [] t).tail = some t := by
 induction t using Tree.ind with
 | h dd m s ns ks ih =>
  intro d h
  rw [zcb, List.tail_cons]
  have := zle ins hi dd m s ns ks [] [] rfl (zcq h) (by simpa using zhJ h) fun k hk => ih k hk (d + 1) (zcH h hk)
  simpa [leaf] using this
end Go.PVx
namespace Go.PVx
open Go.PV
def entX (x : List Str × Tree) : Entry := ⟨x.1, 2, x.2.dir, x.2.mode, x.2.data⟩
def showT (t : Tree) : Str := ((sub [] t).map fun x => putL (entX x)).flatten
theorem zhK : ∀ {l : List Str} {p : Option Str}, zcV p l = true → ∀ x ∈ l, nameB x = true
 | [], _, _ => by simp
 | a :: l, p, h => fun x hx => by
  simp only [zcV, Bool.and_eq_true] at h
  rcases List.mem_cons.1 hx with rfl | hx
  · exact h.1.1
  · exact zhK h.2 x hx
structure PlainOk (t : Tree) : Prop where
 m0 : 0 ≤ t.mode
 m7 : t.mode ≤ 7
 len : t.names.length = t.kids.length
 nm : ∀ x ∈ t.names, nameB x = true
 asc : Asc t.names
 file : t.dir = false → t.data.length ≤ 24 ∧ t.names = []
 dat : t.dir = true → t.data = []
theorem zdT {d : Int} {t : Tree} (h : zbl d t = true) : PlainOk t ∧ d ≤ 4 := by
 have ha := zhJ h
 rw [zdG] at h
 simp only [plainB, inB, Bool.and_eq_true, decide_eq_true_eq] at h
 obtain ⟨⟨⟨⟨⟨h1, h2⟩, h3⟩, h4⟩, h5⟩, _⟩ := h
 cases hd : t.dir with
 | true =>
  rw [hd] at h4
  simp only [cond_true, Bool.and_eq_true, decide_eq_true_eq] at h4
  exact ⟨⟨h1, h2, h3, fun x hx => zhK h4.1 x hx, ha, fun h => by rw [hd] at h; exact absurd h (by simp), fun _ => h4.2⟩, h5⟩
 | false =>
  rw [hd] at h4
  simp only [cond_false, Bool.and_eq_true, decide_eq_true_eq, List.length_eq_zero_iff] at h4
  exact ⟨⟨h1, h2, h3, fun x hx => by rw [h4.2] at hx; simp at hx, ha, fun _ => h4, fun h => by rw [hd] at h; exact absurd h (by simp)⟩, h5⟩
theorem sub_ok (t : Tree) : ∀ (d : Int) (p : List Str), zbl d t = true → (p.length : Int) = d → (∀ x ∈ p, nameB x = true) →
 ∀ x ∈ sub p t, ∃ e : Int, zbl e x.2 = true ∧ (x.1.length : Int) = e ∧ ∀ y ∈ x.1, nameB y = true := by
 induction t using Tree.ind with
 | h dd m s ns ks ih =>
  intro d p h hp hn x hx
  rw [zcb, List.mem_cons] at hx
  rcases hx with rfl | hx
  · exact ⟨d, h, hp, hn⟩
  · have hk : ∀ k ∈ ks, zbl (d + 1) k = true := fun k hk => zcH h hk
    have hnm := (zdT h).1.nm
    simp only at hx hnm
    clear h
    revert hx hnm hk ih
    induction ns generalizing ks with
    | nil => intro _ hx _ _; simp [subZ] at hx
    | cons n ns ihn =>
     intro ih hx hk hnm
     cases ks with
     | nil => simp [subZ] at hx
     | cons k ks =>
      simp only [subZ, List.mem_append] at hx
      rcases hx with hx | hx
      · refine ih k (by simp) (d + 1) (p ++ [n]) (hk k (by simp)) (by simp; omega) (fun y hy => ?_) x hx
        rcases List.mem_append.1 hy with hy | hy
        · exact hn y hy
        · have : y = n := by simpa using hy
          subst this; exact hnm y (by simp)
      · exact ihn ks (fun k hk => ih k (by simp [hk])) hx (fun k h => hk k (by simp [h])) (fun y hy => hnm y (by simp [hy]))
theorem zgP {t : Tree} (h : treeB t = true) : t.dir = true := by
 unfold treeB at h
 simp only [Bool.and_eq_true] at h
 exact h.1.1
theorem zgQ {t : Tree} (h : treeB t = true) : cnt t ≤ 30 := by
 unfold treeB at h
 simp only [Bool.and_eq_true, decide_eq_true_eq] at h
 exact h.2
theorem zkv {t : Tree} (h : treeB t = true) : ∀ x ∈ sub [] t, putB (entX x) = true := by
 intro x hx
 have hp := zb3 h
 obtain ⟨e, h1, h2, h3⟩ := sub_ok t 0 [] hp rfl (by simp) x hx
 obtain ⟨h4, h5⟩ := zdT h1
 have hroot : x.1 = [] → x.2.dir = true := fun h0 => by
  rw [zcb, List.mem_cons] at hx
  rcases hx with rfl | hx
  · exact zgP h
  · exact absurd h0 (zcZ (t := t) (by rw [zcb]; exact hx))
 have hlen : x.1 ≠ [] → 1 ≤ x.1.length := fun h0 => by
  cases hq : x.1 with
  | nil => exact absurd hq h0
  | cons => simp
 obtain ⟨p, y⟩ := x
 have hm0 := h4.m0
 have hm7 := h4.m7
 have hf := h4.file
 have hd := h4.dat
 unfold putB entX entB kindB inB pathB inB
 simp only at hroot hlen h2 h3 hm0 hm7 hf hd ⊢
 by_cases h0 : p = []
 · have hy := hroot h0
   subst h0
   simp only [hy, hd hy, beq_self_eq_true, cond_true, Bool.true_and, decide_eq_true hm0, decide_eq_true hm7, Bool.and_self]
 · have h0' : (p == ([] : List Str)) = false := by simpa using h0
   have hl := hlen h0
   have ha : p.all nameB = true := List.all_eq_true.2 h3
   simp only [h0', cond_false, ha]
   cases hy : y.dir with
   | true => have := hd hy; simp [hy, this]; omega
   | false => have := hf hy; simp [hy]; omega
theorem znD (t : Tree) : ∀ d p, zbl d t = true → (sub p t).length = 1 + cnt t := by
 induction t using Tree.ind with
 | h dd m s ns ks ih =>
  intro d p h
  rw [zcb, zhx]
  have hl := zcq h
  have hk : ∀ k ∈ ks, zbl (d + 1) k = true := fun k hk => zcH h hk
  simp only [List.length_cons] at hl ⊢
  have key : ∀ (ns : List Str) (ks : List Tree), ns.length = ks.length → (∀ k ∈ ks, ∀ p, (sub p k).length = 1 + cnt k) → (subZ p ns ks).length = wL cnt ks := by
   intro ns
   induction ns with
   | nil => intro ks h _; cases ks with
    | nil => simp [subZ, wL]
    | cons => simp at h
   | cons n ns ihn =>
    intro ks h hk
    cases ks with
    | nil => simp at h
    | cons k ks =>
     simp only [subZ, List.length_append, wL, hk k (by simp), ihn ks (by simpa using h) fun x hx => hk x (by simp [hx])]
  have := key ns ks hl fun k hk' p => ih k hk' (d + 1) p (hk k hk')
  omega
theorem zoH (t : Tree) : showT t ≠ [] := by
 unfold showT
 rw [zcb]
 simp only [List.map_cons, List.flatten_cons]
 unfold putL lineT
 cases (entX ([], t)).dir <;> simp
theorem zhL {t : Tree} (h : treeB t = true) : zbo (showT t) = (sub [] t).map fun x => pl (entX x) := by
 have e : showT t = (((sub [] t).map fun x => pl (entX x)).map fun x => x ++ [10]).flatten := by
  unfold showT
  rw [List.map_map]
  congr 1
  exact List.map_congr_left fun x _ => zpU (entX x)
 unfold zbo
 rw [e, zhA 10, List.dropLast_concat]
 intro x hx
 obtain ⟨y, hy, rfl⟩ := List.mem_map.1 hx
 have hb := zkv h y hy
 generalize entX y = a at *
 obtain ⟨h1, h2, h3, h4, h5, h6⟩ := zd3 hb
 have hp := ptno h4 10 (by decide) fun x hx => (zii hx).1
 have hd := zlb a.data 10 (by decide)
 have hm := (zo7 a.mode.toNat).1
 unfold pl
 cases a.dir with
 | true =>
  simp only [cond_true, List.map_cons, List.map_nil, List.flatten_cons, List.flatten_nil, List.mem_append, List.mem_cons, List.not_mem_nil, or_false, not_or]
  exact ⟨⟨by decide, by decide, by decide⟩, ⟨by decide, hp⟩, by decide, hm⟩
 | false =>
  simp only [cond_false, List.map_cons, List.map_nil, List.flatten_cons, List.flatten_nil, List.mem_append, List.mem_cons, List.not_mem_nil, or_false, not_or]
  exact ⟨⟨by decide, by decide, by decide, by decide⟩, ⟨by decide, hp⟩, ⟨by decide, hm⟩, by decide, hd⟩
def insI (t : Tree) (n : Str) (x : Tree) : Tree :=
 let k := (t.names.takeWhile fun m => Op.bytesLess m n).length
 if t.names[k]? = some n then ⟨t.dir, t.mode, t.data, t.names, t.kids.set k x⟩ else ⟨t.dir, t.mode, t.data, t.names.take k ++ n :: t.names.drop k, t.kids.take k ++ x :: t.kids.drop k⟩
theorem zeZ {α : Type} {p : α → Bool} : ∀ l : List α, (∀ x ∈ l, p x = true) → l.takeWhile p = l
 | [], _ => rfl
 | a :: l, h => by rw [List.takeWhile_cons, h a (by simp)]; simp only [if_true]; rw [zeZ l fun x hx => h x (by simp [hx])]
theorem zp1 : InsOk insI := fun t n x hl hlt => by
 have h1 : t.names.takeWhile (fun m => Op.bytesLess m n) = t.names := zeZ _ hlt
 unfold insI
 simp only [h1]
 rw [if_neg (by simp), List.take_length, List.drop_length, hl, List.take_length, List.drop_length]
def insS (t : Tree) (n : Str) (x : Tree) : Tree := ⟨t.dir, t.mode, t.data, t.names ++ [n], t.kids ++ [x]⟩
theorem zp2 : InsOk insS := fun t n x _ _ => rfl
def entT (e : Entry) : Tree := ⟨e.dir, e.mode, e.data, [], []⟩
def putsI : Tree → Nat → List Str → Option Tree
 | t, _, [] => some t
 | t, k, l :: ls => if (putI l).path = [] ∨ 30 < k then none else (putAt insI (entT (putI l)) t (putI l).path).bind fun z => putsI z (k + 1) ls
def TI (s : Str) : Option Tree :=
 match zbo s with
 | [] => none
 | l :: ls => (putsI (entT (putI l)) 1 ls).bind fun t => if treeB t = true ∧ showT t = s then some t else none
theorem zhM : ∀ (l : List (List Str × Tree)) (t : Tree) (k : Nat), (∀ x ∈ l, putB (entX x) = true ∧ x.1 ≠ []) → k + l.length ≤ 31 →
 putsI t k (l.map fun x => pl (entX x)) = build insI t l
 | [], t, k, _, _ => rfl
 | x :: l, t, k, h, hk => by
  have hx := h x (by simp)
  simp only [List.map_cons, putsI, znz hx.1, build]
  simp only [List.length_cons] at hk
  rw [if_neg (by rw [not_or]; exact ⟨hx.2, by omega⟩)]
  show (putAt insI (leaf x.2) t x.1).bind _ = _
  congr 1
  funext z
  exact zhM l z (k + 1) (fun y hy => h y (by simp [hy])) (by omega)
theorem zp3 {t : Tree} (h : treeB t = true) : TI (showT t) = some t := by
 unfold TI
 rw [zhL h, zcb, List.map_cons]
 have hx := zkv h
 have hl := znD t 0 [] (zb3 h)
 have hc := zgQ h
 rw [zcb] at hx hl
 simp only
 rw [znz (hx _ (by simp)), zhM]
 · have h2 := znC insI zp1 t 0 (zb3 h)
   rw [zcb, List.tail_cons] at h2
   show (build insI (leaf t) _).bind _ = _
   rw [h2, Option.bind_some, if_pos ⟨h, rfl⟩]
 · intro y hy
   refine ⟨hx y (by simp [hy]), zcZ (t := t) (by rw [zcb]; exact hy)⟩
 · simp only [List.length_cons] at hl; omega
theorem zp4 {s : Str} {t : Tree} (h : TI s = some t) : treeB t = true ∧ showT t = s := by
 unfold TI at h
 split at h
 · exact absurd h (by simp)
 · simp only [Option.bind_eq_some_iff] at h
   obtain ⟨z, _, h⟩ := h
   split at h
   · rename_i hc
     obtain rfl := Option.some.inj h
     exact hc
   · exact absurd h (by simp)
def partT (l : Str) : Option Tree := (partS (cutAt 32 l)).map fun x => ⟨x.1, x.2.1, x.2.2, [], []⟩
def pathW (l : Str) : List Str := (cutAt 47 ((cutAt 32 l).getD 1 [])).drop 1
def putsS : Tree → Nat → List Str → Option Tree
 | t, _, [] => some t
 | t, k, l :: ls => if 30 < k then some t else match partT l with
  | none => none
  | some x => if (pathW l).length < 1 then none else (putAt insS x t (pathW l)).bind fun z => putsS z (k + 1) ls
def TS0 : List Str → Option Tree
 | [] => some ⟨false, 0, [], [], []⟩
 | l :: ls => (partT l).bind fun t => putsS t 1 ls
def TS (s : Str) : Option Tree := (TS0 (zbo s)).bind fun t => if treeB t = true ∧ showT t = s then some t else none
theorem znE {s : Str} {t : Tree} (h : TS s = some t) : treeB t = true ∧ showT t = s := by
 unfold TS at h
 simp only [Option.bind_eq_some_iff] at h
 obtain ⟨z, _, h⟩ := h
 split at h
 · rename_i hc
   obtain rfl := Option.some.inj h
   exact hc
 · exact absurd h (by simp)
theorem zlf {x : List Str × Tree} (h : putB (entX x) = true) : partT (pl (entX x)) = some (leaf x.2) := by
 obtain ⟨h1, h2, h3, h4, h5, h6⟩ := zd3 h
 have hb := zkt (entX x).data
 unfold partT
 rw [zny h]
 unfold zhF leaf
 obtain ⟨q, ⟨d, m, s, ns, ks⟩⟩ := x
 simp only [entX] at h1 h2 h3 h4 h5 h6 hb ⊢
 have hdec : dec m.toNat = [UInt8.ofNat (48 + m.toNat)] := zeW (by omega)
 have hn : (UInt8.ofNat (48 + m.toNat)).toNat = 48 + m.toNat := by
  simp
  omega
 have e1 : ((48 + m.toNat : Nat) : Int) - 48 = m := by omega
 cases d with
 | true =>
  have h2 := h2 rfl
  subst h2
  have : partS [[100, 105, 114], pt q, dec m.toNat] = some (true, m, []) := by
   unfold partS
   rw [hdec]
   simp [hn, e1]
   omega
  simp [this]
 | false =>
  have : partS [[102, 105, 108, 101], pt q, dec m.toNat, dataT s] = some (false, m, s) := by
   unfold partS
   rw [hdec]
   simp [hn, e1, hb]
   omega
  simp [this]
theorem zoI {e : Entry} (h : putB e = true) (h0 : e.path ≠ []) : pathW (pl e) = e.path := by
 obtain ⟨_, _, _, h4, _, _⟩ := zd3 h
 have h1 := zfr e.path h0 fun x hx => (zii ((zfs (h4 h0)).2 x hx)).2.2
 have h2 : pt e.path = Lib.joinTail [47] e.path := by unfold pt; rw [if_neg h0]
 have h3 : cutAt 47 (pt e.path) = [] :: e.path := by rw [h2]; exact h1
 have h5 : (zhF e).getD 1 [] = pt e.path := by
  unfold zhF
  split <;> rfl
 unfold pathW
 rw [zny h, h5, h3, List.drop_succ_cons, List.drop_zero]
theorem zhN : ∀ (l : List (List Str × Tree)) (t : Tree) (k : Nat), (∀ x ∈ l, putB (entX x) = true ∧ x.1 ≠ []) → k + l.length ≤ 31 →
 putsS t k (l.map fun x => pl (entX x)) = build insS t l
 | [], t, k, _, _ => rfl
 | x :: l, t, k, h, hk => by
  have hx := h x (by simp)
  have hp : pathW (pl (entX x)) = x.1 := zoI hx.1 hx.2
  simp only [List.length_cons] at hk
  have hlen : ¬ x.1.length < 1 := fun h => hx.2 (List.length_eq_zero_iff.1 (by omega))
  simp only [List.map_cons, putsS, zlf hx.1, hp, build]
  rw [if_neg (by omega), if_neg hlen]
  congr 1
  funext z
  exact zhN l z (k + 1) (fun y hy => h y (by simp [hy])) (by omega)
theorem zp5 {t : Tree} (h : treeB t = true) : TS (showT t) = some t := by
 unfold TS
 rw [zhL h, zcb, List.map_cons]
 have hx := zkv h
 have hl := znD t 0 [] (zb3 h)
 have hc := zgQ h
 rw [zcb] at hx hl
 simp only [TS0]
 rw [zlf (hx _ (by simp)), Option.bind_some, zhN]
 · have h2 := znC insS zp2 t 0 (zb3 h)
   rw [zcb, List.tail_cons] at h2
   rw [h2, Option.bind_some, if_pos ⟨h, rfl⟩]
 · intro y hy
   refine ⟨hx y (by simp [hy]), zcZ (t := t) (by rw [zcb]; exact hy)⟩
 · simp only [List.length_cons] at hl; omega
theorem TI_TS (s : Str) : TI s = TS s := by
 cases h : TI s with
 | some t =>
  obtain ⟨h1, h2⟩ := zp4 h
  rw [← h2, zp5 h1]
 | none =>
  cases h3 : TS s with
  | none => rfl
  | some t =>
   obtain ⟨h1, h2⟩ := znE h3
   rw [← h2, zp3 h1] at h
   exact absurd h (by simp)
end Go.PVx
namespace Go.PVx
open Go.PV Go.Proofs
theorem bwrite (a s : Str) (h : a.length + s.length ≤ 140737488355328) : zaV [.one (.p true 0 [] 0), vS s] [⟨.bld 170 5, [.v (.string (mkS a)), .h], [.deep, .deep]⟩] =
 some ⟨[.v (.int .i64 s.length), .d], [⟨.bld 170 5, [.v (.string (mkS (a ++ s))), .h], [.deep, .deep]⟩]⟩ := by
 rw [zaV.ext]
 unfold zdY
 simp (disch := omega) only [pvC, pvL, pvN]
theorem zp6 (a : Str) : za6 [.one (.p true 0 [] 0)] [⟨.bld 170 5, [.v (.string (mkS a)), .h], [.deep, .deep]⟩] =
 some ⟨[.v (.string (mkS a))], [⟨.bld 170 5, [.v (.string (mkS a)), .h], [.deep, .deep]⟩]⟩ := by
 rw [za6.ext]
 unfold zdE
 simp (disch := omega) only [pvC, pvL, pvN]
theorem zhO (d : Bool) (m : Int) (s : Str) (p : List Str) (x y : List (List D)) (h0 : 0 ≤ m) (h1 : m ≤ 1000000) (hp : wP p ≤ 1048576) (hs : s.length ≤ 1048576) :
 zcl [vS (pt p), .g [.v (.bool d), .v (.int .i64 m), .v (.string (mkS s)), .s x, .s y]] [] = rS (lineT d m s p) := by
 have e1 := zk9 p
 have e2 := zex m h1
 have e3 := zgL s
 have e4 := znl s hs
 rw [zcl.e]
 unfold lineT
 cases d <;> simp (disch := omega) only [pvS, pvT, pvC, pvL, pvR, pvN, zlP, e4]
theorem zim (d : Bool) (m : Int) (s : Str) (p : List Str) (x y : List (List D)) (h0 : 0 ≤ m) (h1 : m ≤ 1000000) (hp : wP p ≤ 1048576) (hs : s.length ≤ 1048576) :
 zbs [.g [.v (.bool d), .v (.int .i64 m), .v (.string (mkS s)), .s x, .s y], vP p] [] = rS (lineT d m s p) := by
 have e1 := zk9 p
 have e2 := zex m h1
 have e3 := zgL s
 have e4 := zju s hs
 have e5 := zjs p hp
 have e6 := zgI m.toNat (by omega)
 rw [show ((m.toNat : Nat) : Int) = m by omega] at e6
 rw [zbs.e]
 unfold lineT
 cases d <;> simp (disch := omega) only [pvS, pvT, pvC, pvL, pvR, pvN, e4, e5, e6]
def linX (x : List Str × Tree) : Str := putL (entX x)
theorem zp7 (p : List Str) (t : Tree) : linX (p, t) = lineT t.dir t.mode t.data p := rfl
def showP (p : List Str) (t : Tree) : Str := ((sub p t).map linX).flatten
def showZ (p : List Str) (ns : List Str) (ks : List Tree) : Str := ((subZ p ns ks).map linX).flatten
theorem znF (t : Tree) : showT t = showP [] t := rfl
theorem zef (p : List Str) (t : Tree) : showP p t = lineT t.dir t.mode t.data p ++ showZ p t.names t.kids := by
 unfold showP showZ
 rw [zcb, List.map_cons, List.flatten_cons, zp7]
theorem zfw (p : List Str) {ns : List Str} {ks : List Tree} {k : Nat} (h1 : k < ns.length) (h2 : k < ks.length) :
 showZ p (ns.drop k) (ks.drop k) = showP (p ++ [ns[k]]) ks[k] ++ showZ p (ns.drop (k + 1)) (ks.drop (k + 1)) := by
 unfold showP showZ
 rw [zbf ns k h1, zbf ks k h2, subZ, List.map_append, List.flatten_append]
theorem zgR (p : List Str) (ks : List Tree) : showZ p [] ks = [] := by
 unfold showZ
 cases ks <;> simp [subZ]
theorem zkw (p : List Str) (n : Str) : wP (p ++ [n]) = wP p + (1 + n.length) := by
 unfold wP
 rw [zdD]
 simp [wL]
theorem wP_at {p : List Str} {k : Nat} (h : k < p.length) : 1 + p[k].length ≤ wP p := wL_at List.length h
theorem zgS (t : Tree) : ∀ (p : List Str) (d : Int), zbl d t = true → wP p + wT t ≤ 2097152 → (showP p t).length ≤ (1 + cnt t) * 8000000 := by
 induction t using Tree.ind with
 | h a b c ns ks ih =>
  intro p d hp hw
  have hm := (zdT hp).1.m7
  have hn := zcq hp
  have hk := fun k (h : k ∈ ks) => zcH hp (k := k) h
  have hl := zno a b c p (by simp only at hm; omega)
  rw [wT_eq] at hw
  rw [zef, zhx]
  simp only [List.length_append] at hn hw ⊢
  have key : ∀ k, k ≤ ns.length → (showZ p (ns.drop k) (ks.drop k)).length ≤ wL cnt (ks.drop k) * 8000000 := by
   refine up ns.length ?_ fun k hk1 ihk => ?_
   · rw [List.drop_length, zgR]; simp
   · have hk2 : k < ks.length := by omega
     have h1 := wP_at hk1
     have h2 := wL_at wT hk2
     have h3 := ih ks[k] (List.getElem_mem hk2) (p ++ [ns[k]]) (d + 1) (hk _ (List.getElem_mem hk2)) (by rw [zkw]; omega)
     rw [zfw p hk1 hk2, List.length_append, zfn cnt hk2]
     omega
  have h0 := key 0 (by omega)
  simp only [List.drop_zero] at h0
  omega
abbrev oBd (a : Str) : PV.Obj := ⟨.bld 170 5, [.v (.string (mkS a)), .h], [.deep, .deep]⟩
theorem zgT (p : List Str) (d : Bool) (m : Int) (s : Str) (x y : List (List D)) (acc : Str) (h0 : 0 ≤ m) (h1 : m ≤ 1000000) (hp : wP p ≤ 1048576) (hs : s.length ≤ 1048576) (ha : acc.length + (lineT d m s p).length ≤ 140737488355328) :
 zaJ [vP p, .g [.v (.bool d), .v (.int .i64 m), .v (.string (mkS s)), .s x, .s y], .one (.bx [.p true 0 [] 0] 0)] [oBd acc] = some ⟨[], [oBd (acc ++ lineT d m s p)]⟩ := by
 have e1 := zim d m s p x y h0 h1 hp hs
 have e2 := bwrite acc (lineT d m s p) ha
 rw [zaJ.e]
 simp (disch := omega) only [pvS, pvC, pvL, pvR, pvN, pvO, e1, e2]
theorem ze0 (t : Tree) : ∀ (p : List Str) (d : Int) (acc : Str), zbl d t = true → oT t → wP p + wT t ≤ 1048576 → acc.length + (showP p t).length ≤ 100000000000000 →
 za9 [vT t, vP p, .f zaJ.id [.bx [.p true 0 [] 0] 0]] [oBd acc] = some ⟨[], [oBd (acc ++ showP p t)]⟩ := by
 induction t using Tree.ind with
 | h a b c ns ks ih =>
  intro p d acc hp ho hw hacc
  have hm0 := (zdT hp).1.m0
  have hm := (zdT hp).1.m7
  have hn := zcq hp
  have hk := fun k (h : k ∈ ks) => zcH hp (k := k) h
  have hok := zie ho
  rw [wT_eq] at hw
  rw [zef] at hacc ⊢
  simp only [List.length_append] at hm0 hm hn hw hacc hok ⊢
  have hkl := hok.1
  have hpl := zeU p
  have h1 := zgT p a b c (eSs ns) (ks.map eT) acc (by omega) (by omega) (by omega) (by omega) (by omega)
  have hl : ∀ k, k ≤ ns.length → ∀ acc : Str, acc.length + (showZ p (ns.drop k) (ks.drop k)).length ≤ 100000000000000 →
   (iTree_each_show.L3 (eSs p) (eSs ns) ns.length (k : Int) (mkS acc) a b (mkS c) (eSs ns) (ks.map eT)).bind iTree_each_show.A3 = some ⟨[], [oBd (acc ++ showZ p (ns.drop k) (ks.drop k))]⟩ := by
   refine up ns.length ?_ fun k hk1 ihk acc hacc => ?_
   · intro acc _
     rw [iTree_each_show.s3, List.drop_length, zgR]
     simp (disch := omega) only [pvL, pvN, iTree_each_show.a3x3]
   · have hk2 : k < ks.length := by omega
     rw [zfw p hk1 hk2] at hacc ⊢
     simp only [List.length_append] at hacc
     have hwk := wL_at wT hk2
     have hwn := wP_at hk1
     have h2 := zng p ns[k] (by omega)
     have h3 := ih ks[k] (List.getElem_mem hk2) (p ++ [ns[k]]) (d + 1) acc (hk _ (List.getElem_mem hk2)) (sL_at hok hk2) (by rw [zkw]; omega) (by omega)
     have h4 := ihk (acc ++ showP (p ++ [ns[k]]) ks[k]) (by simp only [List.length_append]; omega)
     rw [List.append_assoc] at h4
     rw [iTree_each_show.s3, ← h4]
     simp (disch := omega) only [pvS, pvT, pvC, pvL, pvR, pvN, pvO, h2, h3]
  have h0 := hl 0 (by omega) (acc ++ lineT a b c p) (by simp only [List.drop_zero, List.length_append]; omega)
  simp only [List.drop_zero] at h0
  rw [List.append_assoc] at h0
  rw [iTree_each_show.e, ← h0]
  simp (disch := omega) only [pvS, pvC, pvL, pvR, pvN, pvO, h1]
theorem zin (t : Tree) (d : Int) (hp : zbl d t = true) (ho : oT t) (hw : wT t ≤ 1048576) : zbt [vT t] [] = rS (showT t) := by
 have hl := zgS t [] d hp (by have : wP [] = 0 := rfl; omega)
 have hc := zjr t
 have h1 := ze0 t [] d [] hp ho (by have : wP [] = 0 := rfl; omega) (by simp only [List.length_nil]; omega)
 have h2 := zp6 (showP [] t)
 rw [List.nil_append] at h1
 have h1' : za9 [vT t, AV.one (A1.s []), .f zaJ.id [.bx [.p true 0 [] 0] 0]] [oBd []] = _ := h1
 rw [zbt.e, znF]
 simp (disch := omega) only [pvS, pvC, pvL, pvR, pvN, pvO, h1', h2]
def ze1 (t : Tree) : Str := bif treeB t then showT t else []
theorem zjJ (t : Tree) (ho : oT t) (hw : wT t ≤ 1048576) : zbN [vT t] [] = rS (ze1 t) := by
 have h1 := zlN t ho hw
 rw [zbN.e]
 unfold ze1
 cases hb : treeB t with
 | false =>
  rw [hb] at h1
  simp (disch := omega) only [pvS, pvC, pvL, pvR, pvN, pvO, h1]
 | true =>
  rw [hb] at h1
  have h2 := zin t 0 (zb3 hb) ho hw
  simp (disch := omega) only [pvS, pvC, pvL, pvR, pvN, pvO, h1, h2]
def ptS (p : List Str) : Str := Lib.joinTail [47] p
theorem znG {p : List Str} (h : p ≠ []) : ptS p = pt p := by unfold pt ptS; rw [if_neg h]
theorem zoJ (p : List Str) (n : Str) : ptS p ++ [47] ++ n = pt (p ++ [n]) := by
 rw [← znG (by simp)]
 unfold ptS
 simp [Lib.joinTail]
theorem zp8 (p : List Str) : (ptS p).length ≤ 1 + wP p := by
 by_cases h : p = []
 · subst h; simp [ptS, Lib.joinTail]
 · rw [znG h]; exact zk9 p
theorem zlU (t : Tree) : ∀ (p : List Str) (d : Int), zbl d t = true → oT t → wP p + wT t ≤ 1048576 → zaW [vS (ptS p), vT t] [] = rS (showZ p t.names t.kids) := by
 induction t using Tree.ind with
 | h a b c ns ks ih =>
  intro p d hp ho hw
  have hpo := (zdT hp).1
  have hn := zcq hp
  have hk := fun k (h : k ∈ ks) => zcH hp (k := k) h
  have hok := zie ho
  have hlen := zgS _ p d hp (by omega)
  have hcc := zjr ⟨a, b, c, ns, ks⟩
  rw [zef] at hlen
  have hw' := hw
  rw [wT_eq] at hw'
  simp only [List.length_append] at hn hw' hok hlen ⊢
  have hkl := hok.1
  have hpl := zp8 p
  have hl : ∀ k, k ≤ ns.length → ∀ acc : Str, acc.length + (showZ p (ns.drop k) (ks.drop k)).length ≤ 60000000000000 →
   (zaW.L3 (mkS (ptS p)) (mkS acc) (k : Int) a b (mkS c) (eSs ns) (ks.map eT)).bind zaW.A3 = rS (acc ++ showZ p (ns.drop k) (ks.drop k)) := by
   refine up ns.length ?_ fun k hk1 ihk acc hacc => ?_
   · intro acc _
     rw [zaW.s3, List.drop_length, zgR, List.append_nil]
     simp (disch := omega) only [pvL, pvN, zaW.a3x3]
   · have hk2 : k < ks.length := by omega
     have hkm := hk _ (List.getElem_mem hk2)
     have hko := sL_at hok hk2
     rw [zfw p hk1 hk2, zef] at hacc ⊢
     simp only [List.length_append] at hacc
     have hwk := wL_at wT hk2
     have hwn := wP_at hk1
     have hwp := zkw p ns[k]
     have hm := (zdT hkm).1
     have hwt := wT_eq ks[k]
     have h2 := zhO ks[k].dir ks[k].mode ks[k].data (p ++ [ns[k]]) (eSs ks[k].names) (ks[k].kids.map eT) hm.m0 (by have := hm.m7; omega) (by omega) (by omega)
     have h3 := ih ks[k] (List.getElem_mem hk2) (p ++ [ns[k]]) (d + 1) hkm hko (by omega)
     rw [znG (by simp)] at h3
     have h4 := ihk (acc ++ lineT ks[k].dir ks[k].mode ks[k].data (p ++ [ns[k]]) ++ showZ (p ++ [ns[k]]) ks[k].names ks[k].kids) (by simp only [List.length_append]; omega)
     have e1 : acc ++ (lineT ks[k].dir ks[k].mode ks[k].data (p ++ [ns[k]]) ++ showZ (p ++ [ns[k]]) ks[k].names ks[k].kids ++ showZ p (ns.drop (k + 1)) (ks.drop (k + 1))) =
      acc ++ lineT ks[k].dir ks[k].mode ks[k].data (p ++ [ns[k]]) ++ showZ (p ++ [ns[k]]) ks[k].names ks[k].kids ++ showZ p (ns.drop (k + 1)) (ks.drop (k + 1)) := by simp
     have e2 := zoJ p ns[k]
     have e3 : ByteArray.mk #[47] = mkS [47] := rfl
     rw [zaW.s3, e1, ← h4, e3]
     simp (disch := omega) only [pvS, pvT, pvC, pvL, pvR, pvN, e2, h2, h3]
  have h0 := hl 0 (by omega) [] (by simp only [List.drop_zero, List.length_nil]; omega)
  simp only [List.drop_zero, List.nil_append] at h0
  rw [zaW.e]
  exact h0
theorem zjK (t : Tree) (ho : oT t) (hw : wT t ≤ 1048576) : zbx [vT t] [] = rS (ze1 t) := by
 have h1 := zfq t ho hw
 rw [zbx.e]
 unfold ze1
 cases hb : treeB t with
 | false =>
  rw [hb] at h1
  simp (disch := omega) only [pvS, pvC, pvL, pvR, pvN, pvO, h1]
 | true =>
  rw [hb] at h1
  have hp := zb3 hb
  have hm := (zdT hp).1
  have hwt := wT_eq t
  have hw0 : wP [] = 0 := rfl
  have h2 := zhO t.dir t.mode t.data [] (eSs t.names) (t.kids.map eT) hm.m0 (by have := hm.m7; omega) (by omega) (by omega)
  have h3 := zlU t [] 0 hp ho (by omega)
  have hl := zgS t [] 0 hp (by omega)
  have hc := zjr t
  rw [zef] at hl
  simp only [List.length_append] at hl
  have e1 : pt [] = [47] := rfl
  have e2 : ptS [] = [] := rfl
  rw [e1] at h2
  rw [e2] at h3
  rw [znF, zef]
  simp (disch := omega) only [pvS, pvC, pvL, pvR, pvN, pvO, h1, h2, h3]
end Go.PVx
namespace Go.PVx
open Go.PV
inductive OkT : Tree → Prop
 | mk (t : Tree) : Asc t.names → t.names.length = t.kids.length → (∀ k ∈ t.kids, OkT k) → OkT t
theorem OkT.asc {t : Tree} (h : OkT t) : Asc t.names := by cases h; assumption
theorem OkT.len {t : Tree} (h : OkT t) : t.names.length = t.kids.length := by cases h; assumption
theorem OkT.kid {t : Tree} (h : OkT t) : ∀ k ∈ t.kids, OkT k := by cases h; assumption
theorem OkT.leaf (d : Bool) (m : Int) (s : Str) : OkT ⟨d, m, s, [], []⟩ := ⟨_, List.Pairwise.nil, rfl, fun k hk => by simp at hk⟩
def plc (l : List Str) (n : Str) : Nat := (l.takeWhile fun m => Op.bytesLess m n).length
theorem ze2 (n : Str) : ∀ l : List Str, Asc l → plc l n ≤ l.length ∧ ∀ j (h : j < l.length), Op.bytesLess l[j] n = decide (j < plc l n)
 | [], _ => ⟨by simp [plc], fun j h => by simp at h⟩
 | a :: l, ha => by
  have ha' := List.pairwise_cons.1 ha
  obtain ⟨h1, h2⟩ := ze2 n l ha'.2
  cases hb : Op.bytesLess a n with
  | true =>
   have e : plc (a :: l) n = plc l n + 1 := by unfold plc; rw [List.takeWhile_cons, hb]; rfl
   rw [e]
   refine ⟨by simp only [List.length_cons]; omega, fun j h => ?_⟩
   cases j with
   | zero => simp [hb]
   | succ j =>
    have := h2 j (by simpa using h)
    simp only [List.getElem_cons_succ, this]
    congr 1
    simp
  | false =>
   have e : plc (a :: l) n = 0 := by unfold plc; rw [List.takeWhile_cons, hb]; rfl
   rw [e]
   refine ⟨by omega, fun j h => ?_⟩
   cases j with
   | zero => simp [hb]
   | succ j =>
    have hj : j < l.length := by simpa using h
    simp only [List.getElem_cons_succ, Nat.not_lt_zero, decide_false]
    cases hc : Op.bytesLess l[j] n with
    | false => rfl
    | true =>
     rw [zfv _ _ _ (ha'.1 _ (List.getElem_mem hj)) hc] at hb
     exact absurd hb (by simp)
theorem zkx (t : Tree) (n : Str) (x : Tree) : insI t n x = if t.names[plc t.names n]? = some n then ⟨t.dir, t.mode, t.data, t.names, t.kids.set (plc t.names n) x⟩
 else ⟨t.dir, t.mode, t.data, t.names.take (plc t.names n) ++ n :: t.names.drop (plc t.names n), t.kids.take (plc t.names n) ++ x :: t.kids.drop (plc t.names n)⟩ := rfl
theorem zoK {t x : Tree} {n : Str} (h : OkT t) (hx : OkT x) : OkT (insI t n x) := by
 have hl := h.len
 have ha := h.asc
 have hk := h.kid
 obtain ⟨h1, h2⟩ := ze2 n t.names ha
 rw [zkx]
 generalize plc t.names n = K at *
 split
 · refine ⟨_, ha, by simpa using hl, fun k hm => ?_⟩
   rcases List.mem_or_eq_of_mem_set hm with hm | rfl
   · exact hk k hm
   · exact hx
 · rename_i hne
   refine ⟨_, ?_, by simp; omega, fun k hm => ?_⟩
   · show Asc (t.names.take K ++ n :: t.names.drop K)
     have ha2 : Asc (t.names.take K ++ t.names.drop K) := by rw [List.take_append_drop]; exact ha
     obtain ⟨p1, p2, p3⟩ := List.pairwise_append.1 ha2
     have q1 : ∀ y ∈ t.names.take K, Op.bytesLess y n = true := fun y hy => by
      obtain ⟨i, hi, rfl⟩ := List.mem_iff_getElem.1 hy
      have hi' : i < K ∧ i < t.names.length := by simp at hi; omega
      rw [List.getElem_take, h2 i hi'.2]
      exact decide_eq_true hi'.1
     have q2 : ∀ y ∈ t.names.drop K, Op.bytesLess n y = true := fun y hy => by
      obtain ⟨i, hi, rfl⟩ := List.mem_iff_getElem.1 hy
      have hi' : K + i < t.names.length := by simp at hi; omega
      rw [List.getElem_drop]
      have h3 := h2 (K + i) hi'
      rw [decide_eq_false (by omega)] at h3
      refine zlc _ _ h3 fun e => ?_
      cases i with
      | zero => exact hne (by rw [List.getElem?_eq_getElem (by omega)]; simp only [Nat.add_zero] at e; rw [e])
      | succ i =>
       have hK : K < t.names.length := by omega
       have h4 := List.pairwise_iff_getElem.1 ha K (K + (i + 1)) hK hi' (by omega)
       rw [e] at h4
       rw [h2 K hK] at h4
       exact absurd (of_decide_eq_true h4) (by omega)
     exact List.pairwise_append.2 ⟨p1, List.pairwise_cons.2 ⟨q2, p2⟩, fun y hy z hz => by
      rcases List.mem_cons.1 hz with rfl | hz
      · exact q1 y hy
      · exact p3 y hy z hz⟩
   · rcases List.mem_append.1 hm with hm | hm
     · exact hk k (List.mem_of_mem_take hm)
     · rcases List.mem_cons.1 hm with rfl | hm
       · exact hx
       · exact hk k (List.mem_of_mem_drop hm)
theorem zlg {α : Type} (w : α → Nat) : ∀ (l : List α) (k : Nat) (h : k < l.length) (a : α), wL w (l.set k a) + w l[k] = wL w l + w a
 | x :: l, 0, h, a => by simp only [List.set_cons_zero, wL, List.getElem_cons_zero]; omega
 | x :: l, k + 1, h, a => by
  have := zlg w l k (by simpa using h) a
  simp only [List.set_cons_succ, wL, List.getElem_cons_succ]; omega
theorem wL_ins {α : Type} (w : α → Nat) (l : List α) (k : Nat) (a : α) : wL w (l.take k ++ a :: l.drop k) = wL w l + (1 + w a) := by
 have h : wL w (l.take k ++ l.drop k) = wL w l := by rw [List.take_append_drop]
 rw [zdD] at h ⊢
 simp only [wL]; omega
theorem insI_w (t x : Tree) (n : Str) (hl : t.names.length = t.kids.length) : wT (insI t n x) ≤ wT t + (2 + n.length + wT x) := by
 rw [zkx]
 generalize plc t.names n = K at *
 split
 · rename_i h
   have hK : K < t.kids.length := by have := (List.getElem?_eq_some_iff.1 h).1; omega
   have := zlg wT t.kids K hK x
   rw [wT_eq t, wT_eq]
   simp only
   omega
 · rw [wT_eq t, wT_eq]
   simp only [wP, wL_ins]
   omega
def locT : Tree → List Str → Option (PV.Path × Tree)
 | t, [] => some ([], t)
 | t, n :: q => match ixN t.names n with
  | none => none
  | some k => match t.kids[k]? with
   | none => none
   | some kd => (locT kd q).map fun y => ((4, k) :: y.1, y.2)
def setP : Tree → List Str → Tree → Tree
 | _, [], z => z
 | t, n :: q, z => match ixN t.names n with
  | none => t
  | some k => match t.kids[k]? with
   | none => t
   | some kd => ⟨t.dir, t.mode, t.data, t.names, t.kids.set k (setP kd q z)⟩
theorem zdb {t : Tree} {n : Str} {q : List Str} {y : PV.Path × Tree} (h : locT t (n :: q) = some y) : ∃ k kd y', ixN t.names n = some k ∧ t.kids[k]? = some kd ∧ locT kd q = some y' ∧ y = ((4, k) :: y'.1, y'.2) := by
 unfold locT at h
 cases hk : ixN t.names n with
 | none => rw [hk] at h; exact absurd h (by simp)
 | some k =>
  rw [hk] at h
  cases hd : t.kids[k]? with
  | none => simp only [hd] at h; exact absurd h (by simp)
  | some kd =>
   simp only [hd, Option.map_eq_some_iff] at h
   obtain ⟨y', h1, h2⟩ := h
   exact ⟨k, kd, y', rfl, hd, h1, h2.symm⟩
theorem zgU (ins : Tree → Str → Tree → Tree) (x : Tree) (n : Str) : ∀ (q : List Str) (t : Tree), putAt ins x t (q ++ [n]) = (locT t q).map fun y => setP t q (ins y.2 n x)
 | [], t => rfl
 | m :: q, t => by
  have ih := zgU ins x n q
  obtain ⟨a, b, hq⟩ : ∃ a b, q ++ [n] = a :: b := by cases q <;> simp
  rw [List.cons_append, hq]
  unfold putAt locT setP
  cases ixN t.names m with
  | none => rfl
  | some k =>
   simp only
   cases t.kids[k]? with
   | none => rfl
   | some kd =>
    simp only
    rw [← hq, ih kd]
    cases locT kd q <;> rfl
theorem zky : ∀ (q : List Str) (t : Tree) (y : PV.Path × Tree), locT t q = some y → OkT t → OkT y.2
 | [], t, y, h, ho => by cases h; exact ho
 | n :: q, t, y, h, ho => by
  obtain ⟨k, kd, y', h1, h2, h3, rfl⟩ := zdb h
  exact zky q kd y' h3 (ho.kid kd (List.mem_of_getElem? h2))
theorem znH (z : Tree) (hz : OkT z) : ∀ (q : List Str) (t : Tree) (y : PV.Path × Tree), locT t q = some y → OkT t → OkT (setP t q z)
 | [], t, y, h, ho => hz
 | n :: q, t, y, h, ho => by
  obtain ⟨k, kd, y', h1, h2, h3, rfl⟩ := zdb h
  unfold setP
  rw [h1]
  simp only [h2]
  refine ⟨_, ho.asc, by simpa using ho.len, fun x hx => ?_⟩
  rcases List.mem_or_eq_of_mem_set hx with hx | rfl
  · exact ho.kid x hx
  · exact znH z hz q kd y' h3 (ho.kid kd (List.mem_of_getElem? h2))
theorem set_w (z : Tree) : ∀ (q : List Str) (t : Tree) (y : PV.Path × Tree), locT t q = some y → wT (setP t q z) + wT y.2 = wT t + wT z
 | [], t, y, h => by cases h; exact Nat.add_comm _ _
 | n :: q, t, y, h => by
  obtain ⟨k, kd, y', h1, h2, h3, rfl⟩ := zdb h
  have ih := set_w z q kd y' h3
  obtain ⟨hk, rfl⟩ := List.getElem?_eq_some_iff.1 h2
  have hs := zlg wT t.kids k hk (setP t.kids[k] q z)
  unfold setP
  rw [h1]
  simp only [h2]
  rw [wT_eq t, wT_eq]
  simp only
  omega
theorem znI (z : Tree) : ∀ (q : List Str) (t : Tree) (y : PV.Path × Tree), locT t q = some y → zah (eT t) y.1 = eT y.2 ∧ zar (eT t) y.1 (eT z) = eT (setP t q z)
 | [], t, y, h => by cases h; exact ⟨rfl, rfl⟩
 | n :: q, t, y, h => by
  obtain ⟨k, kd, y', h1, h2, h3, rfl⟩ := zdb h
  obtain ⟨i1, i2⟩ := znI z q kd y' h3
  obtain ⟨hk, rfl⟩ := List.getElem?_eq_some_iff.1 h2
  have e1 : ((eT t).getD 4 .h).es = t.kids.map eT := by rw [eT_eq]; rfl
  have e2 : (t.kids.map eT).getD k [] = eT t.kids[k] := by rw [List.getD_eq_getElem?_getD, List.getElem?_map, h2]; rfl
  constructor
  · simp only [zah, e1, e2, i1]
  · unfold setP
    rw [h1]
    simp only [h2, zar, e1, e2, i2]
    rw [eT_eq t, eT_eq ⟨_, _, _, _, _⟩, List.map_set]
    rfl
theorem zoL {t : Tree} {q : List Str} {k : Nat} {p : PV.Path} {a : Nat} {c : Tree} (h : locT t q = some ((a, k) :: p, c)) (z : Tree) :
 a = 4 ∧ k < t.kids.length ∧ zah ((t.kids.map eT).getD k []) p = eT c ∧ (t.kids.map eT).set k (zar ((t.kids.map eT).getD k []) p (eT z)) = (setP t q z).kids.map eT ∧
 (setP t q z).dir = t.dir ∧ (setP t q z).mode = t.mode ∧ (setP t q z).data = t.data ∧ (setP t q z).names = t.names := by
 cases q with
 | nil => simp [locT] at h
 | cons n q =>
  obtain ⟨k', kd, y', h1, h2, h3, h4⟩ := zdb h
  have h5 : (a, k) = (4, k') ∧ p = y'.1 ∧ c = y'.2 := by simpa [and_assoc] using h4
  obtain ⟨h6, rfl, rfl⟩ := h5
  obtain ⟨rfl, rfl⟩ := Prod.mk.inj h6
  obtain ⟨i1, i2⟩ := znI z q kd y' h3
  obtain ⟨hk, rfl⟩ := List.getElem?_eq_some_iff.1 h2
  have e2 : (t.kids.map eT).getD k [] = eT t.kids[k] := by rw [List.getD_eq_getElem?_getD, List.getElem?_map, h2]; rfl
  have e3 : setP t (n :: q) z = ⟨t.dir, t.mode, t.data, t.names, t.kids.set k (setP t.kids[k] q z)⟩ := by
   conv => lhs; unfold setP
   rw [h1]
   simp only [h2]
  rw [e2, e3, i1, i2]
  exact ⟨rfl, hk, rfl, by simp only [List.map_set], rfl, rfl, rfl, rfl⟩
theorem zp9 {t : Tree} {q : List Str} {c : Tree} (h : locT t q = some ([], c)) (z : Tree) : c = t ∧ setP t q z = z := by
 cases q with
 | nil => cases h; exact ⟨rfl, rfl⟩
 | cons n q =>
  obtain ⟨k', kd, y', h1, h2, h3, h4⟩ := zdb h
  simp at h4
theorem zoM {t x z : Tree} {q : List Str} (h : putAt insI x t q = some z) (ho : OkT t) (hx : OkT x) : OkT z ∧ wT z ≤ wT t + (2 + (q.getLastD []).length + wT x) := by
 rcases List.eq_nil_or_concat q with rfl | ⟨q, n, rfl⟩
 · simp [putAt] at h
 · rw [List.concat_eq_append] at h ⊢
   rw [zgU] at h
   simp only [Option.map_eq_some_iff] at h
   obtain ⟨y, h1, rfl⟩ := h
   have hy := zky q t y h1 ho
   have h2 := set_w (insI y.2 n x) q t y h1
   have h3 := insI_w y.2 x n hy.len
   refine ⟨znH _ (zoK hy hx) q t y h1 ho, ?_⟩
   simp only [List.getLastD_eq_getLast?, List.getLast?_append, List.getLast?_singleton]
   simp only [Option.or, Option.getD_some]
   omega
end Go.PVx
namespace Go.PVx
open Go.PV Go.Proofs
theorem zpb : ∀ (l : List Str) (n : Str) (k : Nat), k ≤ l.length → ixN (l.drop k) n = (if h : k < l.length then if l[k] = n then some 0 else (ixN (l.drop (k + 1)) n).map (· + 1) else none) := by
 intro l n k hk
 by_cases h : k < l.length
 · rw [dif_pos h, zbf l k h]; rfl
 · rw [dif_neg h, List.drop_eq_nil_of_le (by omega)]; rfl
theorem zgV (p : List Str) (n : Str) (hp : p.length ≤ 1048576) : zab [vP p, vS n] [] = rI (match ixN p n with | some k => (k : Int) | none => -1) := by
 have hl : ∀ k, k ≤ p.length → (zab.L2 (eSs p) (mkS n) p.length (k : Int)).bind zab.A2 = rI (match ixN (p.drop k) n with | some j => ((k + j : Nat) : Int) | none => -1) := by
  refine up p.length ?_ fun k hk ih => ?_
  · rw [zab.s2, List.drop_length]
    simp (disch := omega) only [pvS, pvL, pvN, zab.a2x2]
    rfl
  · rw [zab.s2, zpb p n k (by omega), dif_pos hk]
    by_cases he : p[k] = n
    · have hb : (n == p[k]) = true := by simp [he]
      rw [if_pos he]
      simp (disch := omega) only [pvS, pvT, pvC, pvL, pvR, pvN, hb, zab.a2q2]
      rfl
    · have hb : (n == p[k]) = false := by simpa using fun e => he e.symm
      rw [if_neg he]
      simp (disch := omega) only [pvS, pvT, pvC, pvL, pvR, pvN, hb]
      rw [ih]
      cases ixN (p.drop (k + 1)) n with
      | none => rfl
      | some j =>
       have e : k + 1 + j = k + (j + 1) := by omega
       simp only [Option.map_some, e]
 have h0 := hl 0 (by omega)
 rw [List.drop_zero] at h0
 rw [zab.e]
 simp (disch := omega) only [pvS, pvT, pvC, pvL, pvR, pvN]
 refine h0.trans ?_
 cases ixN p n <;> simp
abbrev oR (t : Tree) : PV.Obj := ⟨.ro, [.v (.bool t.dir), .v (.int .i64 t.mode), .v (.string (mkS t.data)), .s (eSs t.names), .s (t.kids.map eT)], [.sh, .sh, .sh, .sh, .sh]⟩
abbrev oB5 (t : Tree) : PV.Obj := ⟨.box, [.v (.bool t.dir), .v (.int .i64 t.mode), .v (.string (mkS t.data)), .s (eSs t.names), .s (t.kids.map eT)], [.deep, .deep, .deep, .deep, .deep]⟩
theorem zfJ (t : Tree) (n : Str) (ho : OkT t) (hw : wT t ≤ 1048576) : zaN [.one (.p true 0 [] 0), vS n] [oR t] =
 some ⟨[match ixN t.names n with | some k => .p true 0 [(4, k)] 0 | none => .p false 0 [] 0], [oR t]⟩ := by
 have hl := ho.len
 have hw' := wT_eq t
 have hpl := zeU t.names
 have h1 := zgV t.names n (by omega)
 rw [zaN.e]
 cases hk : ixN t.names n with
 | none =>
  rw [hk] at h1
  simp (disch := omega) only [pvS, pvT, pvC, pvL, pvR, pvN, pvO, h1, zaN.p3]
 | some k =>
  rw [hk] at h1
  obtain ⟨hk1, _⟩ := zeY hk
  have hk2 : k < t.kids.length := by omega
  simp (disch := omega) only [pvS, pvT, pvC, pvL, pvR, pvN, pvO, h1, zaN.p3, zaN.p4]
theorem zkz (n : Nat) (b : Bool) (k : Nat) (p : PV.Path) : R1.fits (.ptr n) (.p b n ((4, k) :: p) 0) = true := by simp [R1.fits]
theorem zfT (n : Nat) (b : Bool) : R1.fits (.ptr n) (.p b n [] 0) = true := by simp [R1.fits]
theorem rowGet_append : ∀ (row : List D) (p q : PV.Path), zah row (p ++ q) = zah (zah row p) q
 | _, [], _ => rfl
 | row, (c, e) :: p, q => by
  simp only [List.cons_append, zah]
  exact rowGet_append _ p q
theorem zlV {r : List D} {c : Tree} {p : PV.Path} (h : zah r p = eT c) {j : Nat} (hj : j < c.kids.length) : zah r (p ++ [(4, j)]) = eT c.kids[j] := by
 rw [rowGet_append, h, eT_eq c]
 simp only [zah]
 show (c.kids.map eT).getD j [] = _
 rw [List.getD_eq_getElem?_getD, List.getElem?_map, List.getElem?_eq_getElem hj]
 rfl
theorem zlh {c : Tree} {j : Nat} (hj : j < c.kids.length) : wT c.kids[j] ≤ wT c := by
 have := wL_at wT hj
 have := wT_eq c
 omega
theorem zgW (b : Bool) (n : Nat) (p : PV.Path) (c : Nat) : (TC.p b n p c).path = p := rfl
theorem ok_p (b : Bool) (n : Nat) (p : PV.Path) (c : Nat) : (TC.p b n p c).ok = b := rfl
def rAt (t : Tree) : Option (PV.Path × Tree) → Option Res
 | some y => some ⟨[.p true 0 y.1 0], [oR t]⟩
 | none => some ⟨[.p false 0 [] 0], [oR t]⟩
theorem zai.l2c (t : Tree) (q : List Str) (hq : q.length ≤ 1048576) : ∀ k, k ≤ q.length → ∀ (c : Tree) (a : Nat) (p : PV.Path), OkT c → wT c ≤ 1048576 → zah ((t.kids.map eT).getD a []) p = eT c →
 (zai.L2c true a p (eSs q) q.length (k : Int) t.dir t.mode (mkS t.data) (eSs t.names) (t.kids.map eT)).bind zai.A2 = rAt t ((locT c (q.drop k)).map fun y => ((4, a) :: (p ++ y.1), y.2)) := by
 refine up q.length ?_ fun k hk ih c a p ho hw hr => ?_
 · intro c a p ho hw hr
   rw [zai.s2c, List.drop_length]
   simp (disch := omega) only [pvS, pvL, pvN, zai.a2x2c, locT, Option.map_some, List.append_nil]
   rfl
 · rw [zai.s2c, zbf q k hk]
   have h1 := zfJ c q[k] ho hw
   simp (disch := omega) only [pvS, pvT, pvC, pvL, pvR, pvN, hr, List.map_cons, List.map_nil]
   unfold locT
   cases hk1 : ixN c.names q[k] with
   | none =>
    rw [hk1] at h1
    simp (disch := omega) only [pvS, pvT, pvC, pvL, pvR, pvN, pvO, h1, zfT, zgW, ok_p, List.isEmpty_nil, zai.p5b, zai.a2q2b]
    rfl
   | some j =>
    rw [hk1] at h1
    obtain ⟨hj1, _⟩ := zeY hk1
    have hj2 : j < c.kids.length := by have := ho.len; omega
    have hd : c.kids[j]? = some c.kids[j] := List.getElem?_eq_getElem hj2
    simp (disch := omega) only [pvS, pvT, pvC, pvL, pvR, pvN, pvO, h1, hd, zkz, zgW, ok_p, List.isEmpty_cons, List.headD_cons, List.tail_cons, zai.p5b]
    rw [ih c.kids[j] a (p ++ [(4, j)]) (ho.kid _ (List.getElem_mem hj2)) (by have := zlh hj2; omega) (zlV hr hj2)]
    cases locT c.kids[j] (q.drop (k + 1)) with
    | none => rfl
    | some y => simp only [Option.map_some, List.append_assoc, List.cons_append, List.nil_append]
theorem zkA (t : Tree) (q : List Str) (hq : q.length ≤ 1048576) (ho : OkT t) (hw : wT t ≤ 1048576) : zai [.one (.p true 0 [] 0), vP q] [oR t] = rAt t (locT t q) := by
 rw [zai.e]
 cases q with
 | nil =>
  simp (disch := omega) only [pvS, pvT, pvC, pvL, pvR, pvN, pvO]
  rw [zai.s2]
  simp (disch := omega) only [pvS, pvT, pvC, pvL, pvR, pvN, pvO, zai.a2x2]
  rfl
 | cons n q =>
  have h1 := zfJ t n ho hw
  have hq' : q.length + 1 ≤ 1048576 := by simpa using hq
  have hl2 := zai.l2c t (n :: q) hq 1 (by simp)
  have e : (eSs (n :: q)).length = q.length + 1 := by simp [eSs]
  have e0 : (eSs (n :: q)).getD 0 [] = [.v (.string (mkS n))] := rfl
  rw [zai.s2]
  unfold locT
  cases hk1 : ixN t.names n with
  | none =>
   rw [hk1] at h1
   simp (disch := omega) only [pvS, pvT, pvC, pvL, pvR, pvN, pvO, e, e0, h1, zfT, zgW, ok_p, List.isEmpty_nil, zai.p5, zai.a2q2]
   rfl
  | some j =>
   rw [hk1] at h1
   obtain ⟨hj1, _⟩ := zeY hk1
   have hj2 : j < t.kids.length := by have := ho.len; omega
   have hd : t.kids[j]? = some t.kids[j] := List.getElem?_eq_getElem hj2
   have h2 := hl2 t.kids[j] j [] (ho.kid _ (List.getElem_mem hj2)) (by have := zlh hj2; omega) (by rw [List.getD_eq_getElem?_getD, List.getElem?_map, hd]; rfl)
   simp (disch := omega) only [pvS, pvT, pvC, pvL, pvR, pvN, pvO, e, e0, h1, hd, zkz, zgW, ok_p, List.isEmpty_cons, List.headD_cons, List.tail_cons, zai.p5b]
   exact h2
theorem half (a b : Nat) (h : a + b ≤ 2000000000) : IntKind.i64.wrap ((IntKind.u64.wrap (IntKind.i64.wrap ((a : Int) + (b : Int)))).fdiv (2 ^ min (Int.toNat 1) IntKind.u64.bits)) = (((a + b) / 2 : Nat) : Int) := by
 have e1 : IntKind.i64.wrap ((a : Int) + (b : Int)) = ((a + b : Nat) : Int) := by rw [Sx.wrap64] <;> omega
 have e2 : IntKind.u64.wrap ((a + b : Nat) : Int) = ((a + b : Nat) : Int) := by
  rw [IntKind.wrap_u64]; omega
 have e3 : (2 : Int) ^ min (Int.toNat 1) IntKind.u64.bits = 2 := rfl
 rw [e1, e2, e3, Int.fdiv_eq_ediv_of_nonneg _ (by omega), Sx.wrap64] <;> omega
theorem zkB (a b : Str) : zaX [vS a, vS b] [] = rB (Op.bytesLess a b) := by
 have h1 := zfH a
 have h2 := zfH b
 rw [zaX.e]
 simp (disch := omega) only [pvS, pvC, pvL, pvR, pvN, h1, h2]
theorem zgX (a : Str) : zaF [vS a] [] = rB false := by
 rw [zaF.e]
 simp only [beq_self_eq_true, Bool.not_true]
end Go.PVx
namespace Go.PVx
open Go.PV Go.Proofs
theorem binS.l3 (p : List Str) (n : Str) (hp : p.length ≤ 1048576) (ha : Asc p) : ∀ m lo hi : Nat, hi - lo ≤ m → lo ≤ plc p n → plc p n ≤ hi → hi ≤ p.length →
 zaa.L3 (eSs p) (mkS n) p.length (lo : Int) (hi : Int) = some (zaa.x3 (eSs p) (mkS n) p.length (plc p n : Int)) := by
 obtain ⟨_, h2⟩ := ze2 n p ha
 intro m
 induction m with
 | zero =>
  intro lo hi h0 h3 h4 h5
  have e : lo = hi := by omega
  have e' : plc p n = hi := by omega
  subst e
  rw [zaa.s3, e']
  simp (disch := omega) only [pvS, pvL, pvN]
 | succ m ih =>
  intro lo hi h0 h3 h4 h5
  rcases Nat.eq_or_lt_of_le (Nat.le_trans h3 h4) with e | hlt
  · have e' : plc p n = hi := by omega
    subst e
    rw [zaa.s3, e']
    simp (disch := omega) only [pvS, pvL, pvN]
  · have hm := half lo hi (by omega)
    have hmid : (lo + hi) / 2 < p.length := by omega
    have hc := zkB p[(lo + hi) / 2] n
    have hb := h2 ((lo + hi) / 2) hmid
    rw [zaa.s3]
    have i1 := ih ((lo + hi) / 2 + 1) hi (by omega)
    have i2 := ih lo ((lo + hi) / 2) (by omega)
    have hlo : lo ≤ (lo + hi) / 2 := by omega
    have hhi : (lo + hi) / 2 < hi := by omega
    simp only [hm]
    generalize (lo + hi) / 2 = c at *
    by_cases hk : c < plc p n
    · rw [decide_eq_true hk] at hb
      have i1 := i1 (by omega) (by omega) (by omega)
      simp (disch := omega) only [pvS, pvT, pvC, pvL, pvR, pvN, hc, hb]
      exact i1
    · rw [decide_eq_false hk] at hb
      have i2 := i2 (by omega) (by omega) (by omega)
      simp (disch := omega) only [pvS, pvT, pvC, pvL, pvR, pvN, hc, hb]
      exact i2
theorem zqa (p : List Str) (n : Str) (hp : p.length ≤ 1048576) (ha : Asc p) : zaa [vP p, vS n] [] = some ⟨[.v (.int .i64 (plc p n)), .v (.bool (decide (p[plc p n]? = some n)))], []⟩ := by
 obtain ⟨h1, _⟩ := ze2 n p ha
 have h3 := binS.l3 p n hp ha p.length 0 p.length (by omega) (by omega) h1 (by omega)
 rw [zaa.e]
 simp (disch := omega) only [pvS, pvT, pvC, pvL, pvR, pvN] at h3 ⊢
 simp (disch := omega) only [pvS, pvT, pvC, pvL, pvR, pvN, h3, zaa.a3x3]
 generalize plc p n = K at *
 rcases Nat.eq_or_lt_of_le h1 with e | hlt
 · subst e
   rw [List.getElem?_eq_none (by omega)]
   simp (disch := omega) only [pvS, pvT, pvC, pvL, pvR, pvN]
   rfl
 · have hz := zgX p[K]
   rw [List.getElem?_eq_getElem hlt]
   by_cases he : p[K] = n
   · have hb : (p[K] == n) = true := by simp [he]
     rw [he] at hb ⊢
     simp (disch := omega) only [pvS, pvT, pvC, pvL, pvR, pvN, he, hb]
   · have hb : (p[K] == n) = false := by simp [he]
     have hb2 : decide (some p[K] = some n) = false := decide_eq_false fun h => he (Option.some.inj h)
     simp (disch := omega) only [pvS, pvT, pvC, pvL, pvR, pvN, hb, hz, hb2]
theorem zoN (p : List Str) (n : Str) (k : Nat) (hk : k ≤ p.length) (hp : p.length ≤ 1048576) : zaU [.one (.r 0 [] 0), vI k, .one (.r 1 [] 0)] [⟨.virt, [.s (eSs p)], [.deep]⟩, ⟨.virt, [.s [[.v (.string (mkS n))]]], [.deep]⟩] =
 some ⟨[.o .deep (eSs (p.take k ++ n :: p.drop k))], [⟨.virt, [.h], [.deep]⟩, ⟨.virt, [.h], [.deep]⟩]⟩ := by
 rw [zaU.ext]
 unfold zco
 have r1 : zaA 1 (eSs p) = true := Sx.rowsLen_map 1 eS (fun _ => rfl) p
 have r2 : zaE true (eSs p) = true := Sx.rowsCell_map true eS (fun _ => rfl) p
 have r3 : [D.v (Value.string (mkS n))].all (cellD true) = true := rfl
 simp (disch := omega) only [pvS, pvC, pvL, pvR, pvN, Int.toNat_natCast, r1, r2, r3]
 simp [eSs, eS]
theorem zoO (p : List Tree) (x : Tree) (k : Nat) (hk : k ≤ p.length) (hp : p.length ≤ 1048576) : za1 [.one (.r 0 [] 0), vI k, .one (.r 1 [] 0)]
 [⟨.virt, [.s (p.map eT)], [.deep]⟩, ⟨.virt, [.s [[.v (.bool x.dir), .v (.int .i64 x.mode), .v (.string (mkS x.data)), .s (eSs x.names), .s (x.kids.map eT)]]], [.deep]⟩] =
 some ⟨[.o .deep ((p.take k ++ x :: p.drop k).map eT)], [⟨.virt, [.h], [.deep]⟩, ⟨.virt, [.h], [.deep]⟩]⟩ := by
 rw [za1.ext]
 unfold zco
 have r1 : zaA 5 (p.map eT) = true := Sx.rowsLen_map 5 eT Sx.eT_len p
 have r2 : zaE true (p.map eT) = true := Sx.rowsCell_map true eT (fun a => by rw [eT_eq]; rfl) p
 have r3 : [D.v (Value.bool x.dir), D.v (Value.int IntKind.i64 x.mode), D.v (Value.string (mkS x.data)), D.s (eSs x.names), D.s (x.kids.map eT)].all (cellD true) = true := rfl
 simp (disch := omega) only [pvS, pvC, pvL, pvR, pvN, Int.toNat_natCast, r1, r2, r3]
 rw [List.map_append, List.map_cons, eT_eq x, List.append_assoc]
 rfl
theorem zio (t : Tree) (n : Str) (x : Tree) (ho : OkT t) (hw : wT t ≤ 1048576) :
 zbw [.one (.p true 0 [] 0), vS n, .g [.v (.bool x.dir), .v (.int .i64 x.mode), .v (.string (mkS x.data)), .r 1 [] 0, .r 1 [] 1]] [oB5 t, ⟨.virt, [.s (eSs x.names), .s (x.kids.map eT)], [.deep, .deep]⟩] = some ⟨[], [oB5 (insI t n x), ⟨.virt, [.h, .h], [.deep, .deep]⟩]⟩ := by
 have hl := ho.len
 have hwt := wT_eq t
 have hpl := zeU t.names
 obtain ⟨hK, _⟩ := ze2 n t.names ho.asc
 have h1 := zqa t.names n (by omega) ho.asc
 have h2 := zoN t.names n (plc t.names n) hK (by omega)
 have h3 := zoO t.kids x (plc t.names n) (by omega) (by omega)
 rw [iTree_putg.e, zkx]
 by_cases he : t.names[plc t.names n]? = some n
 · rw [if_pos he]
   rw [decide_eq_true he] at h1
   have hk : plc t.names n < t.kids.length := by have := (List.getElem?_eq_some_iff.1 he).1; omega
   generalize plc t.names n = K at *
   simp (disch := omega) only [pvS, pvT, pvC, pvL, pvR, pvN, pvO, h1, oB5, List.map_set, List.drop_succ_cons, List.drop_nil]
 · rw [if_neg he]
   rw [decide_eq_false he] at h1
   generalize plc t.names n = K at *
   simp (disch := omega) only [pvS, pvT, pvC, pvL, pvR, pvN, pvO, h1, h2, h3, iTree_putg.p5]
end Go.PVx
namespace Go.PVx
open Go.PV Go.Proofs
abbrev rT (t : Tree) : Option Res := some ⟨[.v (.bool t.dir), .v (.int .i64 t.mode), .v (.string (mkS t.data)), .o .deep (eSs t.names), .o .deep (t.kids.map eT)], []⟩
theorem zg6 (t : Tree) : wT t ≤ 1048576 → zau [vT t] [] = rT t := by
 induction t using Tree.ind with
 | h d m s ns ks ih =>
  intro hw
  have hwt := wT_eq ⟨d, m, s, ns, ks⟩
  simp only at hwt
  have hl1 := zcU wT ks
  have hl2 := zeU ns
  have r1 : zaA 1 (eSs ns) = true := Sx.rowsLen_map 1 eS (fun _ => rfl) ns
  have r2 : zaE false (eSs ns) = true := Sx.rowsCell_map false eS (fun _ => rfl) ns
  have hl : ∀ k, k ≤ ks.length → (zau.L3 (ks.map eT) ks.length (k : Int) d m (mkS s) (eSs ns) (ks.map eT) false 0 (mkS []) [] [] ((ks.take k).map eT)).bind zau.A3 = rT ⟨d, m, s, ns, ks⟩ := by
   refine up ks.length ?_ fun k hk ihk => ?_
   · rw [zau.s3, List.take_length]
     simp (disch := omega) only [pvS, pvT, pvC, pvL, pvR, pvN, zau.a3x3, r1, r2]
   · have hk1 := wL_at wT hk
     have h1 := ih ks[k] (List.getElem_mem hk) (by omega)
     have r3 : zaA 5 ((ks.take k).map eT) = true := Sx.rowsLen_map 5 eT Sx.eT_len _
     have e : (ks.take k).map eT ++ [eT ks[k]] = (ks.take (k + 1)).map eT := by
      rw [List.take_add_one, List.getElem?_eq_getElem hk, List.map_append]; rfl
     have e2 : ((ks.take k).map eT).length = k := by simp; omega
     rw [← ihk, ← e, zau.s3]
     rw [eT_eq ks[k]]
     simp (disch := omega) only [pvS, pvT, pvC, pvL, pvR, pvN, h1, r3, e2]
  have h0 := hl 0 (by omega)
  rw [zau.e]
  simp (disch := omega) only [pvS, pvT, pvC, pvL, pvR, pvN]
  exact h0
theorem zlW (t : Tree) (n : Str) (hp : t.names.length ≤ 1048576) : zaO [vT t, vS n] [] = rI (match ixN t.names n with | some k => (k : Int) | none => -1) := by
 have hl : ∀ k, k ≤ t.names.length → (zaO.L2 (mkS n) (k : Int) t.dir t.mode (mkS t.data) (eSs t.names) (t.kids.map eT)).bind zaO.A2 = rI (match ixN (t.names.drop k) n with | some j => ((k + j : Nat) : Int) | none => -1) := by
  refine up t.names.length ?_ fun k hk ih => ?_
  · rw [zaO.s2, List.drop_length]
    simp (disch := omega) only [pvS, pvL, pvN, zaO.a2x2]
    rfl
  · rw [zaO.s2, zpb t.names n k (by omega), dif_pos hk]
    by_cases he : t.names[k] = n
    · have hb : (t.names[k] == n) = true := by simp [he]
      rw [if_pos he]
      simp (disch := omega) only [pvS, pvT, pvC, pvL, pvR, pvN, hb, zaO.a2q2]
      rfl
    · have hb : (t.names[k] == n) = false := by simpa using he
      rw [if_neg he]
      simp (disch := omega) only [pvS, pvT, pvC, pvL, pvR, pvN, hb]
      rw [ih]
      cases ixN (t.names.drop (k + 1)) n with
      | none => rfl
      | some j =>
       have e : k + 1 + j = k + (j + 1) := by omega
       simp only [Option.map_some, e]
 have h0 := hl 0 (by omega)
 rw [List.drop_zero] at h0
 rw [zaO.e]
 refine h0.trans ?_
 cases ixN t.names n <;> simp
inductive OkL : Tree → Prop
 | mk (t : Tree) : t.names.length = t.kids.length → (∀ k ∈ t.kids, OkL k) → OkL t
theorem OkL.len {t : Tree} (h : OkL t) : t.names.length = t.kids.length := by cases h; assumption
theorem OkL.kid {t : Tree} (h : OkL t) : ∀ k ∈ t.kids, OkL k := by cases h; assumption
theorem OkL.leaf (d : Bool) (m : Int) (s : Str) : OkL ⟨d, m, s, [], []⟩ := ⟨_, rfl, fun k hk => by simp at hk⟩
theorem zjL (x : Tree) (hx : OkL x) : ∀ (q : List Str) (t z : Tree), putAt insS x t q = some z → OkL t → OkL z ∧ wT z = wT t + (2 + (q.getLastD []).length + wT x)
 | [], t, z, h, _ => by simp [putAt] at h
 | [n], t, z, h, ho => by
  simp only [putAt, Option.some.injEq] at h
  subst h
  refine ⟨⟨_, by simp [insS, ho.len], fun k hk => ?_⟩, ?_⟩
  · simp only [insS, List.mem_append, List.mem_singleton] at hk
    rcases hk with hk | rfl
    · exact ho.kid k hk
    · exact hx
  · rw [wT_eq t, wT_eq]
    simp only [insS, wP, zdD, wL, List.getLastD_cons, List.getLastD_nil]
    omega
 | n :: m :: q, t, z, h, ho => by
  unfold putAt at h
  cases hk : ixN t.names n with
  | none => rw [hk] at h; exact absurd h (by simp)
  | some k =>
   rw [hk] at h
   cases hd : t.kids[k]? with
   | none => simp only [hd] at h; exact absurd h (by simp)
   | some kd =>
    simp only [hd, Option.map_eq_some_iff] at h
    obtain ⟨y, h1, rfl⟩ := h
    have hm := List.mem_of_getElem? hd
    obtain ⟨i1, i2⟩ := zjL x hx (m :: q) kd y h1 (ho.kid kd hm)
    obtain ⟨hkl, rfl⟩ := List.getElem?_eq_some_iff.1 hd
    have hs := zlg wT t.kids k hkl y
    refine ⟨⟨_, by simpa using ho.len, fun a ha => ?_⟩, ?_⟩
    · rcases List.mem_or_eq_of_mem_set ha with ha | rfl
      · exact ho.kid a ha
      · exact i1
    · have e : (n :: m :: q).getLastD [] = (m :: q).getLastD [] := rfl
      rw [e, wT_eq t, wT_eq]
      simp only
      omega
abbrev rPut (u : Tree) (b : Bool) : Option Res := some ⟨[.v (.bool u.dir), .v (.int .i64 u.mode), .v (.string (mkS u.data)), .s (eSs u.names), .s (u.kids.map eT), .v (.bool b)], []⟩
theorem zjM (x : Tree) : ∀ (q : List Str) (t : Tree), q ≠ [] → q.length ≤ 1048576 → OkL t → wT t ≤ 1048576 → ∃ u, zbg [vT t, vP q, vT x] [] = rPut u (putAt insS x t q).isSome ∧ ∀ z, putAt insS x t q = some z → u = z
 | [], _, h, _, _, _ => absurd rfl h
 | [n], t, _, _, ho, hw => by
  have hwt := wT_eq t
  have hl1 := zcU wT t.kids
  have hl2 := zeU t.names
  have r1 : zaA 1 (eSs t.names) = true := Sx.rowsLen_map 1 eS (fun _ => rfl) _
  have r2 : zaE false (eSs t.names) = true := Sx.rowsCell_map false eS (fun _ => rfl) _
  have r3 : zaA 5 (t.kids.map eT) = true := Sx.rowsLen_map 5 eT Sx.eT_len _
  have r4 : zaE true (t.kids.map eT) = true := Sx.rowsCell_map true eT (fun a => by rw [eT_eq]; rfl) _
  refine ⟨insS t n x, ?_, fun z h => by simpa [putAt] using h⟩
  have e1 : (eSs [n]).length = 1 := rfl
  have e2 : (eSs [n]).getD 0 [] = [.v (.string (mkS n))] := rfl
  rw [zbg.e]
  simp (disch := omega) only [pvS, pvT, pvC, pvL, pvR, pvN, r1, r2, r3, r4, zbg.p3, e1, e2, putAt, Option.isSome_some]
  simp only [rPut, insS, eSs, List.map_append, List.map_cons, List.map_nil, eT_eq x]
  rfl
 | n :: m :: q, t, _, hq, ho, hw => by
  have hwt := wT_eq t
  have hl1 := zcU wT t.kids
  have hl2 := zeU t.names
  have r1 : zaA 1 (eSs t.names) = true := Sx.rowsLen_map 1 eS (fun _ => rfl) _
  have r2 : zaE false (eSs t.names) = true := Sx.rowsCell_map false eS (fun _ => rfl) _
  have r3 : zaA 5 (t.kids.map eT) = true := Sx.rowsLen_map 5 eT Sx.eT_len _
  have r4 : zaE true (t.kids.map eT) = true := Sx.rowsCell_map true eT (fun a => by rw [eT_eq]; rfl) _
  have hf := zlW t n (by omega)
  simp only [List.length_cons] at hq
  have e1 : (eSs (n :: m :: q)).length = q.length + 2 := by simp [eSs]
  have e2 : (eSs (n :: m :: q)).getD 0 [] = [.v (.string (mkS n))] := rfl
  have e3 : List.drop 1 (List.take (q.length + 2) (n :: m :: q)) = m :: q := by simp
  have ep : putAt insS x t (n :: m :: q) = match ixN t.names n with
   | none => none
   | some k => match t.kids[k]? with
    | none => none
    | some kd => (putAt insS x kd (m :: q)).map fun z => ⟨t.dir, t.mode, t.data, t.names, t.kids.set k z⟩ := rfl
  rw [ep]
  cases hk : ixN t.names n with
  | none =>
   rw [hk] at hf
   refine ⟨t, ?_, fun z h => by simp at h⟩
   rw [zbg.e]
   simp (disch := omega) only [pvS, pvT, pvC, pvL, pvR, pvN, r1, r2, r3, r4, zbg.p3, zbg.p7, e1, e2, hf, Option.isSome_none]
  | some k =>
   rw [hk] at hf
   obtain ⟨hk1, _⟩ := zeY hk
   have hk2 : k < t.kids.length := by have := ho.len; omega
   have hd : t.kids[k]? = some t.kids[k] := List.getElem?_eq_getElem hk2
   obtain ⟨u, h1, h2⟩ := zjM x (m :: q) t.kids[k] (by simp) (by simp only [List.length_cons]; omega) (ho.kid _ (List.getElem_mem hk2)) (by have := zlh hk2; omega)
   simp only [hd]
   refine ⟨⟨t.dir, t.mode, t.data, t.names, t.kids.set k u⟩, ?_, fun z h => ?_⟩
   · rw [zbg.e]
     simp (disch := omega) only [pvS, pvT, pvC, pvL, pvR, pvN, r1, r2, r3, r4, zbg.p3, zbg.p7, e1, e2, e3, hf, h1, Option.isSome_map, rPut, List.map_set, List.drop_succ_cons, List.drop_nil]
   · simp only [Option.map_eq_some_iff] at h
     obtain ⟨y, h3, rfl⟩ := h
     rw [h2 y h3]
end Go.PVx
namespace Go.PVx
open Go.PV Go.Proofs
theorem ziq (l : Str) (i : Nat) : ((cutAt 32 l ++ [[], [], []]).getD i []).length ≤ l.length := by
 have h := zeX 32 l
 by_cases hi : i < (cutAt 32 l).length
 · rw [List.getD_eq_getElem?_getD, List.getElem?_append_left hi, List.getElem?_eq_getElem hi, Option.getD_some]
   have := wL_at List.length hi
   omega
 · rw [List.getD_eq_getElem?_getD, List.getElem?_append_right (by omega)]
   generalize i - (cutAt 32 l).length = j
   match j with
   | 0 => simp
   | 1 => simp
   | 2 => simp
   | j + 3 => simp
theorem zoP (l : Str) (h : (cutAt 32 l ++ [[], [], []]).getD 1 [] ≠ []) : ((cutAt 32 l ++ [[], [], []]).getD 1 []).length + ((cutAt 32 l ++ [[], [], []]).getD 3 []).length + 1 ≤ l.length := by
 have hw := zeX 32 l
 revert h hw
 generalize cutAt 32 l = W
 match W with
 | [] => simp
 | [a] => simp
 | [a, b] => simp [wL]; omega
 | [a, b, c] => simp [wL]; omega
 | a :: b :: c :: d :: W => simp [wL]; omega
theorem zfK (l : Str) (hl : l.length ≤ 1048576) : za4 [vS l] [] =
 some ⟨[.s (eSs (putI l).path), .v (.bool (putI l).dir), .v (.int .i64 (putI l).mode), .v (.string (mkS (putI l).data)), .o .deep [], .o .deep []], []⟩ := by
 have hs : strings_Split [AV.one (A1.v (Value.string (mkS l))), AV.one (A1.v (Value.string (mkS [32])))] [] = some ⟨[.o .deep (eSs (cutAt 32 l))], []⟩ := zcS l 32 hl
 have hp := zc9 32 l
 have hcl := zcQ 32 l
 have hW : eSs (cutAt 32 l) ++ [[D.v (Value.string (mkS []))], [D.v (Value.string (mkS []))], [D.v (Value.string (mkS []))]] = (cutAt 32 l ++ [[], [], []]).map eS := by simp [eS]
 have hWl : (cutAt 32 l ++ [[], [], []]).length = (cutAt 32 l).length + 3 := by simp
 obtain ⟨W, hWe⟩ : ∃ W, W = cutAt 32 l ++ [[], [], []] := ⟨_, rfl⟩
 have hput : putI l = ⟨pathI (W.getD 1 []), 2, W.getD 0 [] == [100, 105, 114], atoiN (W.getD 2 []), bif W.getD 0 [] == [100, 105, 114] then [] else zcW (W.getD 3 [])⟩ := by rw [hWe]; rfl
 rw [← hWe] at hW hWl
 have hw : ∀ i, (W.getD i []).length ≤ l.length := fun i => by rw [hWe]; exact ziq l i
 clear hWe
 rw [hput, za4.e]
 have g : ∀ i (h : i < W.length), W.getD i [] = W[i] := fun i h => by rw [List.getD_eq_getElem?_getD, List.getElem?_eq_getElem h, Option.getD_some]
 have h0 := g 0 (by omega); have h1 := g 1 (by omega); have h2 := g 2 (by omega); have h3 := g 3 (by omega)
 have l1 := hw 1; have l2 := hw 2; have l3 := hw 3
 rw [h1] at l1; rw [h2] at l2; rw [h3] at l3
 have e1 := zjA W[1] (by omega)
 have e2 := zkq W[2] (by omega)
 have e3 := zjB W[3] (by omega)
 have b0 : (mkS [100, 105, 114]).get! 0 = 100 := rfl
 have b1 : (mkS [100, 105, 114]).get! 1 = 105 := rfl
 have b2 : (mkS [100, 105, 114]).get! 2 = 114 := rfl
 simp (disch := omega) only [pvS, pvT, pvC, pvL, pvR, pvN, hs, hW, e1, e2, e3, b0, b1, b2, h0, h1, h2, h3, za4.p5]
 cases hb : (W[0] == [100, 105, 114]) <;> simp (disch := omega) only [pvS, pvT, pvC, pvL, pvR, pvN, e1, e2, e3, h0, h1, h2, h3, za4.p5]
theorem zpc (l : Str) : (putI l).data.length ≤ l.length ∧ ((putI l).path ≠ [] → ((putI l).path.getLastD []).length + (putI l).data.length + 1 ≤ l.length) ∧ (putI l).path.length ≤ l.length + 1 := by
 have h1 := zpS ((cutAt 32 l ++ [[], [], []]).getD 1 [])
 have h2 := ziq l 1
 have h3 := ziq l 3
 have h4 := zhB ((cutAt 32 l ++ [[], [], []]).getD 3 [])
 have h5 : (putI l).data.length ≤ ((cutAt 32 l ++ [[], [], []]).getD 3 []).length := by
  unfold putI
  simp only
  cases ((cutAt 32 l ++ [[], [], []]).getD 0 [] == [100, 105, 114]) <;> simp only [cond_true, cond_false, List.length_nil] <;> omega
 have h6 := zeU (putI l).path
 have e : (putI l).path = pathI ((cutAt 32 l ++ [[], [], []]).getD 1 []) := rfl
 rw [← e] at h1
 refine ⟨by omega, fun hp => ?_, by omega⟩
 by_cases h0 : (cutAt 32 l ++ [[], [], []]).getD 1 [] = []
 · have := h1.2 h0
   have := List.length_pos_iff.2 hp
   omega
 · have h7 := zoP l h0
   have h8 : ((putI l).path.getLastD []).length + 1 ≤ wP (putI l).path := by
    obtain ⟨q, n, hq⟩ := (List.eq_nil_or_concat (putI l).path).resolve_left hp
    rw [hq, List.concat_eq_append]
    unfold wP
    rw [zdD]
    simp [wL]
    omega
   omega
def rTB : Option Tree → Option Res
 | some t => some ⟨[.v (.bool t.dir), .v (.int .i64 t.mode), .v (.string (mkS t.data)), .o .deep (eSs t.names), .o .deep (t.kids.map eT), .v (.bool true)], []⟩
 | none => some ⟨[.v (.bool false), .v (.int .i64 0), .v (.string (mkS [])), .o .deep [], .o .deep [], .v (.bool false)], []⟩
theorem oT_of : ∀ t : Tree, wT t ≤ 1048576 → oT t := fun t => by
 induction t using Tree.ind with
 | h d m s ns ks ih =>
  intro hw
  rw [wT_eq] at hw
  simp only at hw
  have h1 := zcU wT ks
  rw [oT_eq]
  refine ⟨by unfold sS; simp only; omega, oP_of (by simp only; omega), ⟨by simp only; omega, fun k hk => ih k hk (by have := zeQ wT ks k hk; omega)⟩⟩
theorem zad.fin (s : Str) (t : Tree) (hw : wT t ≤ 1048576) : zad.A3 (zad.x3 (mkS s) false 0 (mkS []) [] [] t.dir t.mode (mkS t.data) (eSs t.names) (t.kids.map eT)) =
 rTB (if treeB t = true ∧ showT t = s then some t else none) := by
 have h1 := zjJ t (oT_of t hw) hw
 have h2 := zg6 t hw
 have hne := zoH t
 rw [zad.a3x3]
 by_cases hs : s = []
 · have hb : (s == []) = true := by simp [hs]
   rw [if_neg (fun h => hne (h.2.trans hs))]
   simp (disch := omega) only [pvS, pvT, pvC, pvL, pvR, pvN, hb, zad.p17]
   rfl
 · have hb : (s == []) = false := by simpa using hs
   simp (disch := omega) only [pvS, pvT, pvC, pvL, pvR, pvN, hb, h1]
   by_cases hc : treeB t = true ∧ showT t = s
   · have e : (ze1 t == s) = true := by unfold ze1; rw [hc.1, hc.2]; simp
     rw [if_pos hc]
     simp (disch := omega) only [pvS, pvT, pvC, pvL, pvR, pvN, e, zad.p17, zad.p18, h2]
     rfl
   · have e : (ze1 t == s) = false := by
      rw [beq_eq_false_iff_ne]
      intro h
      unfold ze1 at h
      cases hb : treeB t with
      | true => rw [hb] at h; exact hc ⟨hb, h⟩
      | false => rw [hb] at h; exact hs h.symm
     rw [if_neg hc]
     simp (disch := omega) only [pvS, pvT, pvC, pvL, pvR, pvN, e, zad.p17]
     rfl
end Go.PVx
namespace Go.PVx
open Go.PV Go.Proofs
theorem zoQ (q : List Str) (n : Str) : (eSs (q ++ [n])).getD q.length [] = [.v (.string (mkS n))] := by
 unfold eSs
 rw [List.map_append, List.getD_eq_getElem?_getD, List.getElem?_append_right (by simp)]
 simp [eS]
theorem loc_w : ∀ (q : List Str) (t : Tree) (y : PV.Path × Tree), locT t q = some y → wT y.2 ≤ wT t
 | [], t, y, h => by cases h; exact Nat.le_refl _
 | n :: q, t, y, h => by
  obtain ⟨k, kd, y', h1, h2, h3, rfl⟩ := zdb h
  obtain ⟨hk, rfl⟩ := List.getElem?_eq_some_iff.1 h2
  have := loc_w q _ y' h3
  have := zlh hk
  simp only
  omega
theorem zad.l3 (s : Str) (ls : List Str) (hls : ls.length ≤ 1048576) : ∀ k, k ≤ ls.length → 1 ≤ k → ∀ t : Tree, OkT t → wT t + wL List.length (ls.drop k) ≤ 1048576 →
 (zad.L3 (mkS s) (eSs ls) ls.length (k : Int) false 0 (mkS []) [] [] t.dir t.mode (mkS t.data) (eSs t.names) (t.kids.map eT)).bind zad.A3 =
 rTB ((putsI t k (ls.drop k)).bind fun z => if treeB z = true ∧ showT z = s then some z else none) := by
 refine up ls.length ?_ fun k hk ih => ?_
 · intro h1 t ho hw
   rw [List.drop_length] at hw ⊢
   simp only [wL] at hw
   have hf := zad.fin s t (by omega)
   rw [zad.s3]
   simp (disch := omega) only [pvS, pvL, pvN]
   rw [hf]
   rfl
 · intro h1 t ho hw
   rw [zfn List.length hk] at hw
   rw [zbf ls k hk]
   have ih' := ih (by omega)
   have hpart := zfK ls[k] (by omega)
   obtain ⟨w1, w2, w3⟩ := zpc ls[k]
   unfold putsI
   have eE : entT (putI ls[k]) = ⟨(putI ls[k]).dir, (putI ls[k]).mode, (putI ls[k]).data, [], []⟩ := rfl
   rw [eE]
   generalize putI ls[k] = e at *
   obtain ⟨p, wh, d, m, dat⟩ := e
   simp only at *
   rw [zad.s3]
   rcases List.eq_nil_or_concat p with rfl | ⟨q, n, rfl⟩
   · rw [if_pos (Or.inl rfl)]
     simp (disch := omega) only [pvS, pvT, pvC, pvL, pvR, pvN, hpart, zad.p9, zad.a3q3]
     rfl
   · rw [List.concat_eq_append] at *
     have hne : q ++ [n] ≠ [] := by simp
     have w2 := w2 hne
     simp only [List.length_append, List.length_cons, List.length_nil] at w3
     by_cases h30 : 30 < k
     · rw [if_pos (Or.inr h30)]
       simp (disch := omega) only [pvS, pvT, pvC, pvL, pvR, pvN, hpart, zad.p9, zad.a3q3, List.length_append, List.length_cons, List.length_nil]
       rfl
     · rw [if_neg (by rw [not_or]; exact ⟨hne, h30⟩)]
       have hat := zkA t q (by omega) ho (by omega)
       have e0 : ((q.length + 1 : Nat) : Int) - 1 = (q.length : Int) := by omega
       have e1 : List.take q.length (q ++ [n]) = q := by simp
       have e2 := zoQ q n
       have hpu := fun z (h : putAt insI ⟨d, m, dat, [], []⟩ t (q ++ [n]) = some z) => zoM h ho (OkT.leaf d m dat)
       simp (disch := omega) only [pvS, pvT, pvC, pvL, pvR, pvN, hpart, zad.p9, zad.p10, List.length_append, List.length_cons, List.length_nil, e0, e1, Int.toNat_natCast]
       rw [zgU] at hpu ⊢
       cases hloc : locT t q with
       | none =>
        rw [hloc] at hat
        simp only [rAt] at hat
        simp (disch := omega) only [pvS, pvT, pvC, pvL, pvR, pvN, pvO, hat, zfT, zgW, ok_p, List.isEmpty_nil, zad.p12, zad.a3q3]
        rfl
       | some y =>
        obtain ⟨π, c⟩ := y
        have hco := zky q t _ hloc ho
        have hcw := loc_w q t _ hloc
        rw [hloc] at hat hpu
        simp only [rAt] at hat
        obtain ⟨hz, hzw⟩ := hpu _ rfl
        simp only at hco hcw hz hzw
        have hwl : wT ⟨d, m, dat, [], []⟩ = dat.length := by rw [wT_eq]; simp [wP, wL]
        rw [hwl] at hzw
        have hput : zbw [.one (.p true 0 [] 0), vS n, .g [.v (.bool d), .v (.int .i64 m), .v (.string (mkS dat)), .r 1 [] 0, .r 1 [] 1]] [oB5 c, ⟨.virt, [.s [], .s []], [.deep, .deep]⟩] =
         some ⟨[], [oB5 (insI c n ⟨d, m, dat, [], []⟩), ⟨.virt, [.h, .h], [.deep, .deep]⟩]⟩ := zio c n ⟨d, m, dat, [], []⟩ hco (by omega)
        have ih2 := ih' _ hz (by omega)
        simp only [Option.map_some, Option.bind_some]
        refine Eq.trans ?_ ih2
        cases π with
        | nil =>
         obtain ⟨rfl, hs⟩ := zp9 hloc (insI c n ⟨d, m, dat, [], []⟩)
         rw [hs]
         simp (disch := omega) only [pvS, pvT, pvC, pvL, pvR, pvN, pvO, hat, zfT, zgW, ok_p, List.isEmpty_nil, zad.p12, e2, hput]
        | cons b π =>
         obtain ⟨a, j⟩ := b
         obtain ⟨rfl, hj, g1, g2, g3, g4, g5, g6⟩ := zoL hloc (insI c n ⟨d, m, dat, [], []⟩)
         rw [g3, g4, g5, g6]
         rw [eT_eq (insI c n _)] at g2
         simp (disch := omega) only [pvS, pvC, pvL, pvR, pvN, pvO, hat, zkz, zgW, ok_p, List.isEmpty_cons, List.headD_cons, List.tail_cons]
         rw [zad.p12b]
         generalize (t.kids.map eT).getD j [] = R at *
         simp (disch := omega) only [pvS, pvT, pvC, pvL, pvR, pvN, pvO, e2, g1, hput, List.map_cons, List.map_nil, List.isEmpty_cons]
         rw [← g2]
         rfl
theorem zir (s : Str) (hs : s.length ≤ 1048576) : zad [vS s] [] = rTB (TI s) := by
 have h1 := zkp s hs
 have hw := zij s
 have hn := zcU List.length (zbo s)
 have e : (cutAt 10 s).dropLast = zbo s := rfl
 rw [e] at h1
 rw [zad.e]
 unfold TI
 cases hl : zbo s with
 | nil =>
  rw [hl] at h1
  have hf := zad.fin s ⟨false, 0, [], [], []⟩ (by rw [wT_eq]; simp [wP, wL])
  rw [if_neg (fun h => by have := zgP h.1; simp at this)] at hf
  simp (disch := omega) only [pvS, pvT, pvC, pvL, pvR, pvN, h1]
  rw [zad.s3]
  simp (disch := omega) only [pvS, pvT, pvC, pvL, pvR, pvN]
  exact hf
 | cons l ls =>
  rw [hl] at h1 hw hn
  have hpart := zfK l (by simp only [wL] at hw; omega)
  obtain ⟨w1, _, _⟩ := zpc l
  have hwl : wT (entT (putI l)) = (putI l).data.length := by rw [wT_eq]; simp [entT, wP, wL]
  simp only [wL, List.length_cons] at hw hn
  have h2 := zad.l3 s (l :: ls) (by simp only [List.length_cons]; omega) 1 (by simp) (by omega) (entT (putI l)) (OkT.leaf _ _ _) (by rw [hwl]; simp only [List.drop_succ_cons, List.drop_zero]; omega)
  have e1 : (eSs (l :: ls)).getD 0 [] = [.v (.string (mkS l))] := rfl
  have e2 : (eSs (l :: ls)).length = ls.length + 1 := by simp [eSs]
  simp (disch := omega) only [pvS, pvT, pvC, pvL, pvR, pvN, h1, e2]
  rw [zad.s3]
  simp (disch := omega) only [pvS, pvT, pvC, pvL, pvR, pvN, h1, e1, e2, hpart, List.length_cons]
  exact h2
end Go.PVx
namespace Go.PVx
open Go.PV Go.Proofs
theorem zhP : ∀ (s x : Str), zdo s = some x → x.length ≤ s.length
 | [], x, h => by simp [zdo] at h; simp [← h]
 | [a], x, h => by simp [zdo] at h <;> simp [← h]
 | a :: b :: s, x, h => by
  unfold zdo at h
  split at h
  · simp only [Option.map_eq_some_iff] at h
    obtain ⟨y, h1, rfl⟩ := h
    have := zhP s y h1
    simp only [List.length_cons]
    omega
  · exact absurd h (by simp)
theorem zgY {W : List Str} (h : (partR W).2 = true) : 3 ≤ W.length := by
 by_cases hb : badP W
 · rw [zda hb] at h; exact absurd h (by simp)
 · unfold badP at hb
   simp only [not_or, Decidable.not_not] at hb
   have := hb.2.1
   split at this <;> omega
theorem zhQ (W : List Str) : (partR W).1.2.2.length ≤ (W.getD 3 []).length := by
 by_cases hb : badP W
 · rw [zda hb]; simp
 · rw [zfu hb]
   split
   · simp
   · simp only
     cases hy : zdH (W.getD 3 []) with
     | none => simp
     | some x =>
      simp only [Option.getD_some]
      unfold zdH at hy
      split at hy
      · cases hy; simp
      · split at hy
        · exact absurd hy (by simp)
        · exact zhP _ _ hy
theorem zqb (l : Str) (h : pathW l ≠ []) (h3 : 3 ≤ (cutAt 32 l).length) : ((pathW l).getLastD []).length + ((cutAt 32 l).getD 3 []).length + 1 ≤ l.length ∧ (pathW l).length ≤ l.length := by
 have hw := zeX 32 l
 have hv := zeX 47 ((cutAt 32 l).getD 1 [])
 unfold pathW at h ⊢
 have h2 : ((cutAt 32 l).getD 1 []).length + ((cutAt 32 l).getD 3 []).length + 2 ≤ l.length := by
  revert hw h3
  generalize cutAt 32 l = W
  match W with
  | [] => simp
  | [a] => simp
  | [a, b] => simp
  | [a, b, c] => simp [wL]; omega
  | a :: b :: c :: d :: W => simp [wL]; omega
 generalize cutAt 47 ((cutAt 32 l).getD 1 []) = V at *
 cases V with
 | nil => simp at h
 | cons v V =>
  simp only [List.drop_succ_cons, List.drop_zero, wL] at h hv ⊢
  obtain ⟨q, n, hq⟩ := (List.eq_nil_or_concat V).resolve_left h
  have hl := zcU List.length V
  have h8 : (V.getLastD []).length + 1 ≤ wL List.length V := by
   rw [hq, List.concat_eq_append, zdD]
   simp [wL]
   omega
  omega
def rTS : Option Tree → Option Res
 | some t => some ⟨[.v (.bool t.dir), .v (.int .i64 t.mode), .v (.string (mkS t.data)), .s (eSs t.names), .s (t.kids.map eT), .v (.bool true)], []⟩
 | none => some ⟨[.v (.bool false), .v (.int .i64 0), .v (.string (mkS [])), .s [], .s [], .v (.bool false)], []⟩
theorem zac.fin (s : Str) (t : Tree) (hw : wT t ≤ 1048576) : zac.A4 (zac.x4b (mkS s) false 0 (mkS []) [] [] t.dir t.mode (mkS t.data) (eSs t.names) (t.kids.map eT)) =
 rTS (if treeB t = true ∧ showT t = s then some t else none) := by
 have h0 := zfq t (oT_of t hw) hw
 have h1 := zjK t (oT_of t hw) hw
 rw [zac.a4x4b]
 unfold ze1 at h1
 cases hb : treeB t with
 | false =>
  rw [hb] at h0
  rw [if_neg (fun h => by simp at h)]
  simp (disch := omega) only [pvS, pvT, pvC, pvL, pvR, pvN, h0, zac.p19b]
  rfl
 | true =>
  rw [hb] at h0 h1
  by_cases hc : showT t = s
  · have e : (showT t == s) = true := by simp [hc]
    rw [if_pos ⟨rfl, hc⟩]
    simp (disch := omega) only [pvS, pvT, pvC, pvL, pvR, pvN, h0, h1, e, zac.p19b]
    rfl
  · have e : (showT t == s) = false := by simp [hc]
    rw [if_neg (fun h => hc h.2)]
    simp (disch := omega) only [pvS, pvT, pvC, pvL, pvR, pvN, h0, h1, e, zac.p19b]
    rfl
theorem cut10' (l : Str) (h : l.length ≤ 1048576) : za0 [AV.one (A1.v (Value.string (mkS l))), AV.one (A1.v (Value.int .u8 10))] [] = some ⟨[.o .deep (eSs (cutAt 10 l))], []⟩ := zd2 l 10 h
theorem zkC (l : Str) : partT l = bif (partR (cutAt 32 l)).2 then some ⟨(partR (cutAt 32 l)).1.1, (partR (cutAt 32 l)).1.2.1, (partR (cutAt 32 l)).1.2.2, [], []⟩ else none := by
 unfold partT
 rw [zpV]
 cases (partR (cutAt 32 l)).2 <;> rfl
theorem zoR (s : Str) (LS : List Str) (hls : LS.length ≤ 1048577) (k : Nat) (hk : k < LS.length) (h1 : 1 ≤ k) (hl : LS[k].length ≤ 1048576) (t : Tree) (ho : OkL t) (hw : wT t ≤ 1048576) :
 (zac.P6b (mkS s) (k : Int) false 0 (mkS []) [] [] (eSs LS) t.dir t.mode (mkS t.data) (eSs t.names) (t.kids.map eT)).bind zac.A4 =
 (match (partT LS[k]).bind fun x => if (pathW LS[k]).length < 1 then none else putAt insS x t (pathW LS[k]) with
 | none => rTS none
 | some z => (zac.L4b (mkS s) ((k + 1 : Nat) : Int) false 0 (mkS []) [] [] (eSs LS) z.dir z.mode (mkS z.data) (eSs z.names) (z.kids.map eT)).bind zac.A4) := by
 have hc := cut32' LS[k] hl
 have hwl := zeX 32 LS[k]
 have hcl := zcQ 32 LS[k]
 have hcp := zc9 32 LS[k]
 have hwm : ∀ x ∈ cutAt 32 LS[k], x.length ≤ 1048576 := fun x hx => by have := zeQ List.length _ x hx; omega
 have hp := zhG (cutAt 32 LS[k]) hcp (by omega) hwm
 rw [zkC]
 unfold rPart at hp
 have hlen := @zgY (cutAt 32 LS[k])
 rw [zac.p6b]
 have hpw : pathW LS[k] = (cutAt 47 ((cutAt 32 LS[k]).getD 1 [])).drop 1 := rfl
 rw [hpw]
 generalize cutAt 32 LS[k] = W at *
 generalize partR W = P at *
 obtain ⟨⟨d, m, dat⟩, ok⟩ := P
 simp only at hp hlen ⊢
 cases ok with
 | false =>
  simp (disch := omega) only [pvS, pvT, pvC, pvL, pvR, pvN, hc, hp, zac.a4q4b, Option.bind_none]
  rfl
 | true =>
  have hlen := hlen rfl
  have g1 : W.getD 1 [] = W[1] := by rw [List.getD_eq_getElem?_getD, List.getElem?_eq_getElem (by omega), Option.getD_some]
  have hm1 := hwm W[1] (List.getElem_mem _)
  have hc2 := cut47' W[1] hm1
  have hv := zcQ 47 W[1]
  have hvp := zc9 47 W[1]
  rw [g1]
  simp (disch := omega) only [pvS, pvT, pvC, pvL, pvR, pvN, hc, hp, hc2, zac.p13b, Option.bind_some]
  generalize cutAt 47 W[1] = V at *
  by_cases h2 : V.length < 2
  · rw [if_pos (by omega)]
    simp (disch := omega) only [pvS, pvT, pvC, pvL, pvR, pvN, zac.a4q4b]
    rfl
  · rw [if_neg (by omega)]
    obtain ⟨u, hu1, hu2⟩ := zjM ⟨d, m, dat, [], []⟩ (V.drop 1) t (fun h => by have := congrArg List.length h; simp at this; omega) (by rw [List.length_drop]; omega) ho hw
    have hu3 : zbg [vT t, AV.one (A1.s ((V.drop 1).map eS)), .g [.v (.bool d), .v (.int .i64 m), .v (.string (mkS dat)), .s [], .s []]] [] = _ := hu1
    cases hz : putAt insS ⟨d, m, dat, [], []⟩ t (V.drop 1) with
    | none =>
     rw [hz] at hu3
     simp (disch := omega) only [pvS, pvT, pvC, pvL, pvR, pvN, hu3, rPut, Option.isSome_none, zac.a4q4b]
     rfl
    | some z =>
     rw [hz] at hu3
     obtain rfl := hu2 z hz
     simp (disch := omega) only [pvS, pvT, pvC, pvL, pvR, pvN, hu3, rPut, Option.isSome_some]
theorem zac.l4b (s : Str) (hs : s.length ≤ 1048576) : ∀ k, k ≤ (zbo s).length → 1 ≤ k → ∀ t : Tree, OkL t → wT t + wL List.length ((zbo s).drop k) ≤ 1048576 →
 (zac.L4b (mkS s) (k : Int) false 0 (mkS []) [] [] (eSs (cutAt 10 s)) t.dir t.mode (mkS t.data) (eSs t.names) (t.kids.map eT)).bind zac.A4 =
 rTS ((putsS t k ((zbo s).drop k)).bind fun z => if treeB z = true ∧ showT z = s then some z else none) := by
 have hL := zij s
 have hLl := zcU List.length (zbo s)
 have hcl := zcQ 10 s
 have hcp := zc9 10 s
 have hln : (zbo s).length = (cutAt 10 s).length - 1 := by unfold zbo; rw [List.length_dropLast]
 refine up (zbo s).length ?_ fun k hk ih => ?_
 · intro h1 t ho hw
   rw [List.drop_length] at hw ⊢
   simp only [wL] at hw
   have hf := zac.fin s t (by omega)
   rw [zac.s4b]
   simp (disch := omega) only [pvS, pvL, pvN]
   rw [hf]
   rfl
 · intro h1 t ho hw
   have hdr := zfn List.length hk
   rw [hdr] at hw
   rw [zbf (zbo s) k hk]
   unfold putsS
   have hk2 : k < (cutAt 10 s).length := by omega
   have hge : (cutAt 10 s)[k] = (zbo s)[k] := (List.getElem_dropLast (show k < (cutAt 10 s).dropLast.length from hk)).symm
   rw [zac.s4b]
   by_cases h30 : 30 < k
   · have hf := zac.fin s t (by omega)
     rw [if_pos h30]
     simp (disch := omega) only [pvS, pvL, pvN]
     exact hf
   · have hline := zoR s (cutAt 10 s) (by omega) k hk2 h1 (by rw [hge]; omega) t ho (by omega)
     rw [hge] at hline
     rw [if_neg h30]
     simp (disch := omega) only [pvS, pvL, pvN]
     rw [hline]
     have hpl : ∀ x, partT (zbo s)[k] = some x → OkL x ∧ wT x ≤ (((cutAt 32 (zbo s)[k]).getD 3 []).length) ∧ 3 ≤ (cutAt 32 (zbo s)[k]).length := fun x hx => by
      rw [zkC] at hx
      have g1 := @zgY (cutAt 32 (zbo s)[k])
      have g2 := zhQ (cutAt 32 (zbo s)[k])
      cases hb : (partR (cutAt 32 (zbo s)[k])).2 with
      | false => rw [hb] at hx; exact absurd hx (by simp)
      | true =>
       rw [hb] at hx
       simp only [cond_true, Option.some.injEq] at hx
       subst hx
       refine ⟨OkL.leaf _ _ _, ?_, g1 hb⟩
       rw [wT_eq]
       simp only [wP, wL]
       omega
     cases hx : partT (zbo s)[k] with
     | none => simp only [Option.bind_none]
     | some x =>
      obtain ⟨hxo, hxw, hx3⟩ := hpl x hx
      simp only [Option.bind_some]
      by_cases hp : (pathW (zbo s)[k]).length < 1
      · rw [if_pos hp, if_pos hp]; rfl
      · rw [if_neg hp, if_neg hp]
        cases hz : putAt insS x t (pathW (zbo s)[k]) with
        | none => rfl
        | some z =>
         obtain ⟨z1, z2⟩ := zjL x hxo _ t z hz ho
         obtain ⟨w1, w2⟩ := zqb (zbo s)[k] (fun h => by rw [h] at hp; exact hp (by simp)) hx3
         simp only [Option.bind_some]
         exact ih (by omega) z z1 (by omega)
theorem zis (s : Str) (hs : s.length ≤ 1048576) : zac [vS s] [] = rTS (TS s) := by
 have hL := zij s
 have hcl := zcQ 10 s
 have hcp := zc9 10 s
 have hln : (zbo s).length = (cutAt 10 s).length - 1 := by unfold zbo; rw [List.length_dropLast]
 have h10 := cut10' s hs
 rw [zac.e]
 simp (disch := omega) only [pvS, pvT, pvC, pvL, pvR, pvN, h10]
 rw [zac.s4]
 unfold TS
 have hl4 := zac.l4b s hs 1
 cases hl : zbo s with
 | nil =>
  rw [hl] at hln
  simp only [List.length_nil] at hln
  have h0 := zfq ⟨false, 0, [], [], []⟩ (oT_of _ (by rw [wT_eq]; simp [wP, wL])) (by rw [wT_eq]; simp [wP, wL])
  have hb : treeB ⟨false, 0, [], [], []⟩ = false := by cases h : treeB ⟨false, 0, [], [], []⟩ with
   | false => rfl
   | true => have := zgP h; simp at this
  rw [hb] at h0
  have h0' : zbV [.g [.v (.bool false), .v (.int .i64 0), .v (.string (mkS [])), .s [], .s []]] [] = rB false := h0
  simp (disch := omega) only [pvS, pvT, pvC, pvL, pvR, pvN, zac.a4x4, h0', zac.p19]
  simp only [TS0, Option.bind_some, hb]
  rfl
 | cons l ls =>
  rw [hl] at hln hL hl4
  simp only [List.length_cons, wL] at hln hL
  have hge : (cutAt 10 s)[0] = l := by
   have h1 : (zbo s)[0]? = some l := by rw [hl]; rfl
   have h2 : (cutAt 10 s).dropLast[0]? = some l := h1
   rw [List.getElem?_dropLast] at h2
   split at h2
   · rw [List.getElem?_eq_getElem (by omega)] at h2
     exact Option.some.inj h2
   · exact absurd h2 (by simp)
  have hc := cut32' l (by omega)
  have hwl := zeX 32 l
  have hcl2 := zcQ 32 l
  have hcp2 := zc9 32 l
  have hwm : ∀ x ∈ cutAt 32 l, x.length ≤ 1048576 := fun x hx => by have := zeQ List.length _ x hx; omega
  have hp := zhG (cutAt 32 l) hcp2 (by omega) hwm
  unfold rPart at hp
  have g1 := @zgY (cutAt 32 l)
  have g2 := zhQ (cutAt 32 l)
  have hw3 : ((cutAt 32 l).getD 3 []).length ≤ l.length := by
   by_cases h3 : 3 < (cutAt 32 l).length
   · have := wL_at List.length h3
     rw [List.getD_eq_getElem?_getD, List.getElem?_eq_getElem h3, Option.getD_some]
     omega
   · rw [List.getD_eq_getElem?_getD, List.getElem?_eq_none (by omega)]; simp
  simp only [TS0]
  rw [zkC]
  generalize cutAt 32 l = W at *
  generalize partR W = P at *
  obtain ⟨⟨d, m, dat⟩, ok⟩ := P
  simp only at hp g1 g2 ⊢
  simp (disch := omega) only [pvS, pvT, pvC, pvL, pvR, pvN]
  rw [zac.p6]
  cases ok with
  | false =>
   simp (disch := omega) only [pvS, pvT, pvC, pvL, pvR, pvN, hge, hc, hp, zac.a4q4]
   rfl
  | true =>
   have hwl : wT ⟨d, m, dat, [], []⟩ = dat.length := by rw [wT_eq]; simp [wP, wL]
   have h2 := hl4 (by simp) (by omega) ⟨d, m, dat, [], []⟩ (OkL.leaf _ _ _) (by rw [hwl]; simp only [List.drop_succ_cons, List.drop_zero]; omega)
   simp (disch := omega) only [pvS, pvT, pvC, pvL, pvR, pvN, hge, hc, hp]
   exact h2
end Go.PVx
namespace Go.PVx
open Go.PV Go.Proofs
theorem zoS {l : List Str} (h : ∀ x ∈ l, nameB x = true) : wP l ≤ 6 * l.length := by
 unfold wP
 induction l with
 | nil => simp [wL]
 | cons a l ih =>
  have h1 := h a (by simp)
  have h2 := ih fun x hx => h x (by simp [hx])
  unfold nameB inB at h1
  simp only [Bool.and_eq_true, decide_eq_true_eq] at h1
  simp only [wL, List.length_cons]
  omega
theorem zqc (t : Tree) : ∀ d, zbl d t = true → wT t ≤ 24 + 31 * cnt t := by
 induction t using Tree.ind with
 | h dd m s ns ks ih =>
  intro d h
  have hp := (zdT h).1
  have hl := zcq h
  have hk := fun k (hm : k ∈ ks) => ih k hm (d + 1) (zcH h (k := k) hm)
  have h1 := hp.len
  have h2 := zoS hp.nm
  have h3 := hp.file
  have h4 := hp.dat
  rw [wT_eq, zhx]
  simp only at h1 h2 h3 h4 hl ⊢
  have h5 : s.length ≤ 24 := by
   cases hd : dd with
   | true => rw [h4 hd]; simp
   | false => exact (h3 hd).1
  have key : ∀ l : List Tree, (∀ k ∈ l, wT k ≤ 24 + 31 * cnt k) → wL wT l + 6 * l.length ≤ 31 * wL cnt l := by
   intro l
   induction l with
   | nil => simp [wL]
   | cons a l ihl =>
    intro h
    have := h a (by simp)
    have := ihl fun k hk => h k (by simp [hk])
    simp only [wL, List.length_cons]
    omega
  have := key ks hk
  omega
theorem zqd {t : Tree} (h : treeB t = true) : wT t ≤ 1000 := by
 have := zqc t 0 (zb3 h)
 have := zgQ h
 omega
theorem zeh (s : Str) : zag [vS s] [] = rB true := by
 rw [zag.e]
 by_cases hs : s.length ≤ 1048576
 · have h1 := zis s hs
   have h2 := zir s hs
   rw [TI_TS] at h2
   have hw : wT ((TS s).getD ⟨false, 0, [], [], []⟩) ≤ 1000 := by
    cases h : TS s with
    | none => rw [wT_eq]; simp [wP, wL]
    | some u => exact zqd (znE h).1
   have e1 : rTS (TS s) = some ⟨[.v (.bool ((TS s).getD ⟨false, 0, [], [], []⟩).dir), .v (.int .i64 ((TS s).getD ⟨false, 0, [], [], []⟩).mode), .v (.string (mkS ((TS s).getD ⟨false, 0, [], [], []⟩).data)),
    .s (eSs ((TS s).getD ⟨false, 0, [], [], []⟩).names), .s (((TS s).getD ⟨false, 0, [], [], []⟩).kids.map eT), .v (.bool (TS s).isSome)], []⟩ := by
    cases TS s <;> rfl
   have e2 : rTB (TS s) = some ⟨[.v (.bool ((TS s).getD ⟨false, 0, [], [], []⟩).dir), .v (.int .i64 ((TS s).getD ⟨false, 0, [], [], []⟩).mode), .v (.string (mkS ((TS s).getD ⟨false, 0, [], [], []⟩).data)),
    .o .deep (eSs ((TS s).getD ⟨false, 0, [], [], []⟩).names), .o .deep (((TS s).getD ⟨false, 0, [], [], []⟩).kids.map eT), .v (.bool (TS s).isSome)], []⟩ := by
    cases TS s <;> rfl
   rw [e1] at h1
   rw [e2] at h2
   generalize (TS s).getD ⟨false, 0, [], [], []⟩ = t at *
   generalize (TS s).isSome = b at *
   clear e1 e2
   have hT : Top = 1000000000000 := rfl
   have hc := cT_le t
   have h3 := zjH t (by omega)
   have h4 := zjE t (by omega) 1 (by omega) (by omega)
   have h5 := zjG t (by omega) 1 (by omega) (by omega) t.dir t.mode t.data
   have b1 : ((!b) == b) = false := by cases b <;> rfl
   have b2 : (!(b == b)) = false := by cases b <;> rfl
   generalize mTs t.kids (1 + t.names.length) = ks at *
   simp (disch := omega) only [pvS, pvT, pvC, pvL, pvR, pvN, pvO, h1, h2, h3, h4, h5, zag.p6, zag.p7, zag.p16, zag.p17, zag.p18, b1, b2]
 · simp (disch := omega) only [pvS, pvT, pvC, pvL, pvR, pvN]
end Go.PVx
namespace Go.PVx
open Go.PV Go.Proofs Go.Shelf
def zqe : Ren := ⟨fun | 22 => 131 | 29 => 183 | 30 => 184 | n => n, fun | 24 => 23 | 9 => 9 | 3 => 3 | 4 => 4 | 0 => 0 | n => n, fun n => n⟩
def zqf : Ren := ⟨fun | 22 => 132 | 29 => 185 | 30 => 186 | n => n, fun | 24 => 35 | 9 => 37 | 3 => 3 | 4 => 4 | 0 => 0 | n => n, fun n => n⟩
theorem zqg : InsAt Tryz.prog zqe "slices.Insert[[]string,string]" Tryz.f183 1 16 (.string ⟨#[]⟩) := {
 mixed := by kernel_rfl
 f22 := Tryz.func131.trans (congrArg some (by kernel_rfl))
 f29 := Tryz.func183
 on := by kernel_rfl
 ob := by kernel_rfl
 ox := by kernel_rfl
 of_ := by kernel_rfl
 t0 := Tryz.underlying0
 a0 := Tryz.isAgg0
 z0 := Tryz.sizeOf0
 v0 := Tryz.zeroValue0
 t3 := Tryz.underlying3
 a3 := Tryz.isAgg3
 z3 := Tryz.sizeOf3
 v3 := Tryz.zeroValue3
 t4 := Tryz.underlying4
 a4 := Tryz.isAgg4
 z4 := Tryz.sizeOf4
 v4 := Tryz.zeroValue4
 z9 := Tryz.sizeOf9
 t24 := Tryz.underlying23
 a24 := Tryz.isAgg23
 z24 := Tryz.sizeOf23
 v24 := Tryz.zeroValue23
 i9 := by kernel_rfl
 zk := by kernel_rfl
 k0 := by decide }
theorem zqh : InsAt Tryz.prog zqf "slices.Insert[[]loop.example/changetrail/impl.Tree,loop.example/changetrail/impl.Tree]" Tryz.f185 5 80 (.agg #[.bool false, .int .i64 0, .string ⟨#[]⟩, .slice none 0 0, .slice none 0 0]) := {
 mixed := by kernel_rfl
 f22 := Tryz.func132.trans (congrArg some (by kernel_rfl))
 f29 := Tryz.func185
 on := by kernel_rfl
 ob := by kernel_rfl
 ox := by kernel_rfl
 of_ := by kernel_rfl
 t0 := Tryz.underlying0
 a0 := Tryz.isAgg0
 z0 := Tryz.sizeOf0
 v0 := Tryz.zeroValue0
 t3 := Tryz.underlying3
 a3 := Tryz.isAgg3
 z3 := Tryz.sizeOf3
 v3 := Tryz.zeroValue3
 t4 := Tryz.underlying4
 a4 := Tryz.isAgg4
 z4 := Tryz.sizeOf4
 v4 := Tryz.zeroValue4
 z9 := Tryz.sizeOf37
 t24 := Tryz.underlying35
 a24 := Tryz.isAgg35
 z24 := Tryz.sizeOf35
 v24 := Tryz.zeroValue35
 i9 := by kernel_rfl
 zk := by kernel_rfl
 k0 := by decide }
end Go.PVx
