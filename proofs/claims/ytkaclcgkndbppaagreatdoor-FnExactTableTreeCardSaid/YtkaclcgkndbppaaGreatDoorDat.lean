/- A part of the proof: PvU1, PvU2, PvU3, PvU4, PvL0, PvL1, PvV1, PvV2, PvV3, PvV4, PvM1, PvM2. -/
import Derived.Test.YtkaclcgkndbppaaGreatDoorRes
import Derived.Test.YtkaclcgkndbppaaGreatDoorTy
import Derived.Test.YtkaclcgkndbppaaGreatDoorExt
set_option linter.unusedSimpArgs false
set_option linter.unusedVariables false
namespace Go.PVx
open Go.PV Go.Proofs
def inB (a b c : Int) : Bool := decide (b ≤ a) && decide (a ≤ c)
theorem zh4 (a b c : Int) : sl1In [vI a, vI b, vI c] [] = rB (inB a b c) := by
 rw [sl1In.e]; unfold inB; by_cases h : b ≤ a <;> simp [h]
theorem zd9 (a b c : Int) : zb3 [vI a, vI b, vI c] [] = rB (inB a b c) := by
 rw [zb3.e]; unfold inB; by_cases h : b ≤ a <;> simp [h]
theorem zlD (a : Int) : zcO [vI a] [] = rB (inB a 0 7) := by
 rw [zcO.e, zd9]; simp
def okc (b : UInt8) : Bool := (decide (97 ≤ (b.toNat : Int)) && decide ((b.toNat : Int) ≤ 122)) || (decide (48 ≤ (b.toNat : Int)) && decide ((b.toNat : Int) ≤ 57))
def nameB (s : Str) : Bool := s.all okc && inB s.length 1 5
theorem zan.l2 (s : Str) (hs : sS s) : ∀ k, k ≤ s.length → zan.L2 (mkS s) (k : Int) = some (bif (s.drop k).all okc then zan.x2 (mkS s) else zan.q2 (mkS s) false) := by
 unfold sS at hs
 refine up s.length ?_ fun k hk ih => ?_
 · rw [zan.s2]; simp
 · rw [zan.s2, zaQ s k hk, List.all_cons]
   simp only [Int.toNat_natCast, zdU s k hk, zan.p5, zbv k (by omega), ih, okc]
   by_cases h1 : 97 ≤ (s[k].toNat : Int) <;> by_cases h2 : (s[k].toNat : Int) ≤ 122 <;> by_cases h3 : 48 ≤ (s[k].toNat : Int) <;> by_cases h4 : (s[k].toNat : Int) ≤ 57 <;> simp [h1, h2, h3, h4, hk]
theorem zfx (s : Str) (hs : sS s) : zan [vS s] [] = rB (nameB s) := by
 have h := zan.l2 s hs 0 (by omega)
 rw [zan.e, show (0 : Int) = ((0 : Nat) : Int) from rfl, h]
 unfold nameB
 cases h : s.all okc <;> simp [h, zan.a2q2, zan.a2x2, zh4]
theorem zaK.l2 (s : Str) (hs : sS s) : ∀ k, k ≤ s.length → zaK.L2 (mkS s) s.length (k : Int) = some (bif (s.drop k).all okc then zaK.x2 (mkS s) else zaK.q2 (mkS s) false) := by
 unfold sS at hs
 refine up s.length ?_ fun k hk ih => ?_
 · rw [zaK.s2]; simp
 · rw [zaK.s2, zaQ s k hk, List.all_cons]
   simp only [Int.toNat_natCast, zdU s k hk, zaK.p5, zbv k (by omega), ih, okc]
   have e1 : decide ((s[k].toNat : Int) < 97) = !decide (97 ≤ (s[k].toNat : Int)) := by by_cases h : 97 ≤ (s[k].toNat : Int) <;> simp [h] <;> omega
   have e2 : decide ((s[k].toNat : Int) > 122) = !decide ((s[k].toNat : Int) ≤ 122) := by by_cases h : (s[k].toNat : Int) ≤ 122 <;> simp [h] <;> omega
   have e3 : decide ((s[k].toNat : Int) < 48) = !decide (48 ≤ (s[k].toNat : Int)) := by by_cases h : 48 ≤ (s[k].toNat : Int) <;> simp [h] <;> omega
   have e4 : decide ((s[k].toNat : Int) > 57) = !decide ((s[k].toNat : Int) ≤ 57) := by by_cases h : (s[k].toNat : Int) ≤ 57 <;> simp [h] <;> omega
   simp only [e1, e2, e3, e4]
   cases decide (97 ≤ (s[k].toNat : Int)) <;> cases decide ((s[k].toNat : Int) ≤ 122) <;> cases decide (48 ≤ (s[k].toNat : Int)) <;> cases decide ((s[k].toNat : Int) ≤ 57) <;> simp [hk]
theorem zlE (s : Str) (hs : sS s) : zaK [vS s] [] = rB (nameB s) := by
 have h := zaK.l2 s hs 0 (by omega)
 rw [zaK.e, zdN, show (0 : Int) = ((0 : Nat) : Int) from rfl, h]
 unfold nameB
 cases h : s.all okc <;> simp [h, zaK.a2q2, zaK.a2x2, zd9]
def pathB (least : Int) (p : List Str) : Bool := p.all nameB && inB p.length least 4
theorem zaz.l2 (p : List Str) (hp : oP p) : ∀ k, k ≤ p.length → zaz.L2 (eSs p) (k : Int) = some (bif (p.drop k).all nameB then zaz.x2 (eSs p) else zaz.q2 (eSs p) false) := by
 have hl := hp.1
 refine up p.length ?_ fun k hk ih => ?_
 · rw [zaz.s2]; simp
 · rw [zaz.s2, zaQ p k hk, List.all_cons]
   simp only [Int.toNat_natCast, zb6 eS p k hk, zbv k (by omega), ih]
   have h := zfx p[k] (sL_at hp hk)
   cases hn : nameB p[k] <;> rw [hn] at h <;> simp [hk, eS, h]
theorem zfy (p : List Str) (hp : oP p) : zaz [vP p] [] = rB (pathB 1 p) := by
 have h := zaz.l2 p hp 0 (by omega)
 rw [zaz.e, show (0 : Int) = ((0 : Nat) : Int) from rfl, h]
 unfold pathB
 cases h : p.all nameB <;> simp [h, zaz.a2q2, zaz.a2x2, zh4]
theorem zaD.l4 (a b : List Str) (ha : a.length ≤ 9223372036854775807) (hab : b.length ≤ a.length) : ∀ k, k ≤ b.length → zaD.L4 (eSs a) (eSs b) (k : Int) =
 some (bif decide (b.drop k = (a.take b.length).drop k) then zaD.x4 else zaD.q4 false) := by
 refine up b.length ?_ fun k hk ih => ?_
 · rw [zaD.s4]; simp [hab]
 · rw [zaD.s4]
   have hk2 : k < a.length := by omega
   have hk3 : k < (a.take b.length).length := by simp; omega
   rw [zaQ b k hk, zaQ _ k hk3]
   simp only [Int.toNat_natCast, zb6 eS a k hk2, zb6 eS b k hk, zbv k (by omega), ih, List.getElem_take]
   by_cases he : a[k] = b[k]
   · simp [-List.getElem_cons_drop, hk, hk2, eS, he]
   · simp [-List.getElem_cons_drop, hk, hk2, eS, beq_eq_false_iff_ne.2 he, show ¬ b[k] = a[k] from fun h => he h.symm]
def isPre (b a : List Str) : Bool := b.isPrefixOf a
theorem zhx (a b : List Str) (h : b.length ≤ a.length) : decide (b = a.take b.length) = isPre b a := by
 unfold isPre
 rw [Bool.eq_iff_iff, decide_eq_true_iff, List.isPrefixOf_iff_prefix, List.prefix_iff_eq_take]
theorem zjj (a b : List Str) (ha : a.length ≤ 9223372036854775807) : zaD [vP a, vP b] [] = rB (isPre b a) := by
 rw [zaD.e]
 by_cases h : a.length < b.length
 · have h2 : isPre b a = false := by
    unfold isPre
    rw [Bool.eq_false_iff, ne_eq, List.isPrefixOf_iff_prefix]
    intro hp; have := hp.length_le; omega
   simp [h, h2]
 · have hl := zaD.l4 a b ha (by omega) 0 (by omega)
   simp only [List.drop_zero] at hl
   rw [zhx a b (by omega)] at hl
   simp only [List.length_map]
   rw [show (0 : Int) = ((0 : Nat) : Int) from rfl, hl]
   cases hp : isPre b a <;> simp [h, zaD.a4q4, zaD.a4x4]
theorem zna (a b : List Str) (h : a.length = b.length) : isPre b a = decide (a = b) := by
 rw [← zhx a b (by omega), Bool.eq_iff_iff, decide_eq_true_iff, decide_eq_true_iff, ← h, List.take_length]
 exact ⟨Eq.symm, Eq.symm⟩
theorem zj7 (a b : List Str) (ha : a.length ≤ 9223372036854775807) : zce [vP a, vP b] [] = rB (decide (a = b)) := by
 rw [zce.e]
 by_cases h : a.length = b.length
 · simp [h, zjj a b ha, zna a b h]
 · have : a ≠ b := fun he => h (by rw [he])
   have h' : ((a.length : Int) == (b.length : Int)) = false := by rw [beq_eq_false_iff_ne]; omega
   simp [h', this, bne]
theorem zad.l4 (a b : List Str) (ha : a.length ≤ 9223372036854775807) (hab : a.length = b.length) : ∀ k, k ≤ a.length → zad.L4 (eSs a) (eSs b) a.length (k : Int) =
 some (bif decide (a.drop k = b.drop k) then zad.x4 else zad.q4 false) := by
 refine up a.length ?_ fun k hk ih => ?_
 · rw [zad.s4]; simp [hab]
 · rw [zad.s4]
   have hk2 : k < b.length := by omega
   rw [zaQ b k hk2, zaQ a k hk]
   simp only [Int.toNat_natCast, zb6 eS b k hk2, zb6 eS a k hk, zbv k (by omega), ih]
   by_cases he : a[k] = b[k]
   · simp [-List.getElem_cons_drop, hk, hk2, eS, he]
   · simp [-List.getElem_cons_drop, hk, hk2, eS, beq_eq_false_iff_ne.2 he, he]
theorem zgD (a b : List Str) (ha : a.length ≤ 9223372036854775807) : zad [vP a, vP b] [] = rB (decide (a = b)) := by
 rw [zad.e]
 by_cases h : a.length = b.length
 · have hl := zad.l4 a b ha h 0 (by omega)
   simp only [List.drop_zero] at hl
   simp only [List.length_map]
   rw [show (0 : Int) = ((0 : Nat) : Int) from rfl, hl]
   by_cases hp : a = b <;> simp [h, hp, zad.a4q4, zad.a4x4]
 · have : a ≠ b := fun he => h (by rw [he])
   have h' : ((a.length : Int) == (b.length : Int)) = false := by rw [beq_eq_false_iff_ne]; omega
   simp [h', this, bne]
def lessP : List Str → List Str → Bool
 | _, [] => false
 | [], _ :: _ => true
 | x :: a, y :: b => bif x == y then lessP a b else Op.bytesLess x y
theorem zfz (a : Str) : za1 [vS a] [] = rB false := by
 rw [za1.e]; simp
theorem zov : ∀ a : Str, Op.bytesLess a a = false := by
 intro a
 induction a with
 | nil => rfl
 | cons x a ih => simp [Op.bytesLess, ih]
end Go.PVx
namespace Go.PVx
open Go.PV Go.Proofs
theorem zgE {ks : List Tree} {k : Nat} (h : k < ks.length) :
 (ks.map eT).getD k [] = [.v (.bool ks[k].dir), .v (.int .i64 ks[k].mode), .v (.string (mkS ks[k].data)), .s (eSs ks[k].names), .s (ks[k].kids.map eT)] := by
 rw [zb6 eT ks k h, eT_eq]
theorem zk0 {t : Tree} (h : oT t) : oP t.names := ((oT_eq t).1 h).2.1
theorem zh5 {t : Tree} (h : oT t) : sL oT t.kids := ((oT_eq t).1 h).2.2
def zc1 : Option Str → List Str → Bool
 | _, [] => true
 | p, x :: l => nameB x && (match p with | none => true | some y => Op.bytesLess y x) && zc1 (some x) l
def zej (l : List Str) : Nat → Option Str
 | 0 => none
 | k + 1 => l[k]?
def plainB (t : Tree) : Bool := inB t.mode 0 7 && decide (t.names.length = t.kids.length) && (bif t.dir then zc1 none t.names && decide (t.data = []) else decide (t.data.length ≤ 24) && decide (t.names.length = 0))
mutual
def zbj : Int → Tree → Bool
 | d, ⟨a, b, c, e, ks⟩ => plainB ⟨a, b, c, e, ks⟩ && decide (d ≤ 4) && zh6 (d + 1) ks
def zh6 : Int → List Tree → Bool
 | _, [] => true
 | d, t :: ts => zbj d t && zh6 d ts
end
theorem zgF (d : Int) : ∀ l : List Tree, zh6 d l = l.all (zbj d)
 | [] => rfl
 | t :: ts => by rw [zh6, zgF d ts]; rfl
theorem zdH (d : Int) (t : Tree) : zbj d t = (plainB t && decide (d ≤ 4) && t.kids.all (zbj (d + 1))) := by
 obtain ⟨a, b, c, e, ks⟩ := t
 rw [zbj, zgF]
mutual
def cnt : Tree → Nat
 | ⟨_, _, _, _, ks⟩ => cnts ks
def cnts : List Tree → Nat
 | [] => 0
 | t :: ts => 1 + cnt t + cnts ts
end
theorem znb : ∀ l : List Tree, cnts l = wL cnt l
 | [] => rfl
 | t :: ts => by rw [cnts, znb ts]; rfl
theorem zhy (t : Tree) : cnt t = wL cnt t.kids := by
 obtain ⟨a, b, c, e, ks⟩ := t
 rw [cnt, znb]
theorem wL_le {α : Type} (v w : α → Nat) : ∀ l : List α, (∀ x ∈ l, v x ≤ w x) → wL v l ≤ wL w l
 | [], _ => Nat.le_refl _
 | x :: l, h => by
  have h1 := h x (by simp)
  have h2 := wL_le v w l fun y hy => h y (List.mem_cons_of_mem _ hy)
  simp only [wL]; omega
theorem zfA (t : Tree) : cnt t ≤ wT t := by
 induction t using Tree.ind with
 | h d m s ns ks ih =>
  rw [zhy, wT_eq]
  have := wL_le cnt wT ks ih
  simp only at this ⊢
  omega
def treeB (t : Tree) : Bool := t.dir && zbj 0 t && decide (cnt t ≤ 30)
theorem zow (s : Str) : s.isEmpty = decide (s = []) := by cases s <;> rfl
theorem zeO {l : List Str} {k : Nat} (h : k < l.length) : zej l (k + 1) = some l[k] := by simp [zej, h]
theorem zam.l6 (t : Tree) (hn : oP t.names) : ∀ k, k ≤ t.names.length → zam.L6 (k : Int) t.dir t.mode (mkS t.data) (eSs t.names) (t.kids.map eT) =
 some (bif zc1 (zej t.names k) (t.names.drop k) then zam.x6 t.dir t.mode (mkS t.data) (eSs t.names) (t.kids.map eT) else zam.q6 false t.dir t.mode (mkS t.data) (eSs t.names) (t.kids.map eT)) := by
 have hl := hn.1
 refine up t.names.length ?_ fun k hk ih => ?_
 · rw [zam.s6]; simp [zc1]
 · rw [zam.s6, zaQ t.names k hk]
   have h := zfx t.names[k] (sL_at hn hk)
   have ih' : zam.L6 (IntKind.i64.wrap ((k : Int) + 1)) t.dir t.mode (mkS t.data) (eSs t.names) (t.kids.map eT) = some (bif zc1 (some t.names[k]) (t.names.drop (k + 1)) then zam.x6 t.dir t.mode (mkS t.data) (eSs t.names) (t.kids.map eT) else zam.q6 false t.dir t.mode (mkS t.data) (eSs t.names) (t.kids.map eT)) := by
    rw [zbv k (by omega), ih, zeO hk]
   simp only [Int.toNat_natCast, zb6 eS t.names k hk, zam.p9, ih', zc1]
   cases hnb : nameB t.names[k] with
   | false => rw [hnb] at h; simp [hk, eS, h]
   | true =>
    rw [hnb] at h
    by_cases hk0 : k = 0
    · have e0 : decide ((k : Int) > 0) = false := by simp; omega
      have hpv0 : zej t.names k = none := by rw [hk0]; rfl
      simp only [e0, hpv0]
      simp [-List.getElem_cons_drop, hk, eS, h]
    · obtain ⟨j, hjk⟩ : ∃ j, k = j + 1 := ⟨k - 1, by omega⟩
      have hj : j < t.names.length := by omega
      have hw : IntKind.i64.wrap ((k : Int) - 1) = (j : Int) := by rw [zi7 k (by omega) (by omega), hjk]; rfl
      have hpv : zej t.names k = some t.names[j] := by rw [hjk]; exact zeO hj
      have e1 : decide ((k : Int) > 0) = true := by simp; omega
      simp only [hw, Int.toNat_natCast, zb6 eS t.names j hj, hpv, e1]
      cases hb : Op.bytesLess t.names[j] t.names[k] <;> simp [-List.getElem_cons_drop, hk, hj, eS, h, hb]
theorem zj8 (t : Tree) (ho : oT t) : zam [vT t] [] = rB (plainB t) := by
 rw [zam.e, zh4]
 unfold plainB
 cases h1 : inB t.mode 0 7 with
 | false => simp [zam.p2]
 | true =>
  by_cases h2 : t.names.length = t.kids.length
  · have h2' : ((t.names.length : Int) != (t.kids.length : Int)) = false := by rw [h2]; simp
    cases h3 : t.dir with
    | false =>
     simp only [Option.bind_some, List.length_map, h2', zam.p2, zam.p3, zdN]
     by_cases h4 : t.data.length ≤ 24
     · have h4' : ((t.data.length : Int) ≤ 24) := by omega
       by_cases h5 : t.names.length = 0
       · simp [h4, h4', h5, ← h2]
       · have h5' : ((t.names.length : Int) == 0) = false := by rw [beq_eq_false_iff_ne]; omega
         simp [h4, h4', h5, h5', ← h2]
     · have h4' : ¬ ((t.data.length : Int) ≤ 24) := by omega
       simp [h4, h4', ← h2]
    | true =>
     have hl := zam.l6 t (zk0 ho) 0 (by omega)
     simp only [List.drop_zero, zej, h3] at hl
     have hl : zam.L6 0 true t.mode (mkS t.data) (eSs t.names) (t.kids.map eT) = _ := hl
     simp only [List.length_map, h2', Option.bind_some, zag, List.getD_cons_zero, zj3]
     cases h6 : zc1 none t.names <;> rw [h6] at hl <;> simp [zam.p2, zam.p3, hl, zam.a6q6, zam.a6x6, h2, zow]
  · have h2' : ((t.names.length : Int) != (t.kids.length : Int)) = true := by simp [bne]; omega
    simp [h2, h2', zam.p2, zam.p3]
theorem zj9 (t : Tree) : oT t → ∀ d : Int, 0 ≤ d → d ≤ 5 → zas [vT t, vI d] [] = rB (zbj d t) := by
 induction t using Tree.ind with
 | h a b c ns ks ih =>
  intro ho d h0 h5
  rw [zas.e, zj8 _ ho, zdH]
  cases h1 : plainB ⟨a, b, c, ns, ks⟩ with
  | false => simp [zas.p2]
  | true =>
   by_cases h2 : d ≤ 4
   · have hk := zh5 ho
     have hkl := hk.1
     have hl : ∀ k, k ≤ ks.length → zas.L4 d (k : Int) a b (mkS c) (eSs ns) (ks.map eT) = some (bif (ks.drop k).all (zbj (d + 1)) then zas.x4 else zas.q4 false) := by
      refine up ks.length ?_ fun k hk2 ihk => ?_
      · rw [zas.s4]; simp
      · rw [zas.s4, zaQ ks k hk2, List.all_cons]
        have hr := ih ks[k] (List.getElem_mem hk2) (sL_at hk hk2) (d + 1) (by omega) (by omega)
        simp only [Int.toNat_natCast, zgE hk2, zbv k (by simp only at hkl; omega), ihk, zcL (d + 1) (by omega)]
        cases hp : zbj (d + 1) ks[k] <;> rw [hp] at hr <;> simp [-List.getElem_cons_drop, hk2, hr]
     have h2' : ¬ d > 4 := by omega
     have hl0 : zas.L4 d 0 a b (mkS c) (eSs ns) (ks.map eT) = _ := hl 0 (by omega)
     simp only [List.drop_zero] at hl0
     cases hp : ks.all (zbj (d + 1)) <;> rw [hp] at hl0 <;> simp [hl0, zas.a4q4, zas.a4x4, h2, h2', hp, zas.p2, zas.p3]
   · have h2' : d > 4 := by omega
     simp [h2, h2', zas.p2]
def sumC : List Tree → Int
 | [] => 0
 | t :: l => (cnt t : Int) + sumC l
theorem znc : ∀ l : List Tree, sumC l = (wL cnt l : Int) - l.length
 | [] => rfl
 | t :: l => by simp only [sumC, wL, List.length_cons, znc l]; omega
theorem zka (t : Tree) : wT t ≤ 1048576 → zaU [vT t] [] = rI (cnt t) := by
 induction t using Tree.ind with
 | h a b c ns ks ih =>
  intro hw
  rw [zaU.e, zhy]
  rw [wT_eq] at hw
  simp only at hw ⊢
  have hlen := zb2 wT ks
  have hl : ∀ k, k ≤ ks.length → ∀ x : Int, 0 ≤ x → x + wL wT (ks.drop k) ≤ 4194304 → zaU.L3 x (k : Int) a b (mkS c) (eSs ns) (ks.map eT) = some (zaU.x3 (x + sumC (ks.drop k))) := by
   refine up ks.length ?_ fun k hk ihk x hn1 hn2 => ?_
   · intro x _ _; rw [zaU.s3]; simp [sumC]
   · rw [zaU.s3]
     have h1 := zfg wT hk
     have h3 := wL_at wT hk
     have h4 := zfA ks[k]
     have hr := ih ks[k] (List.getElem_mem hk) (by omega)
     have e1 : IntKind.i64.wrap (x + (cnt ks[k] : Int)) = x + (cnt ks[k] : Int) := zcL _ (by omega)
     have := ihk (x + (cnt ks[k] : Int)) (by omega) (by omega)
     have e2 : x + (cnt ks[k] : Int) + sumC (ks.drop (k + 1)) = x + sumC (ks.drop k) := by rw [zaQ ks k hk]; simp only [sumC]; omega
     rw [e2] at this
     push_cast at this
     simp only [Int.toNat_natCast, zgE hk, zbv k (by omega)]
     simp [hk, hr, e1, this]
  have h0 : zaU.L3 (ks.length : Int) 0 a b (mkS c) (eSs ns) (ks.map eT) = _ := hl 0 (by omega) ks.length (by omega) (by rw [List.drop_zero]; omega)
  simp only [List.length_map]
  rw [h0, List.drop_zero, znc]
  simp only [Option.bind_some, zaU.a3x3]
  rw [show ((ks.length : Int) + ((wL cnt ks : Int) - ks.length)) = wL cnt ks from by omega]
theorem zlF (t : Tree) (ho : oT t) (hw : wT t ≤ 1048576) : zcN [vT t] [] = rB (treeB t) := by
 rw [zcN.e, zj9 t ho 0 (by omega) (by omega), zka t hw]
 unfold treeB
 have h3 : decide ((cnt t : Int) ≤ 30) = decide (cnt t ≤ 30) := decide_eq_decide.2 (by omega)
 cases h1 : t.dir <;> cases h2 : zbj 0 t <;> simp [h3]
theorem zg3 (t : Tree) : oT t → ∀ d : Int, 0 ≤ d → d ≤ 5 → zai [vT t, vI d] [] = rB (zbj d t) := by
 induction t using Tree.ind with
 | h a b c ns ks ih =>
  intro ho d h0 h5
  rw [zai.e, zlD, zdH]
  unfold plainB
  simp only
  cases h1 : inB b 0 7 with
  | false => simp [zai.p2]
  | true =>
   by_cases hd : d ≤ 4
   · have hd' : ¬ d > 4 := by omega
     by_cases h2 : ns.length = ks.length
     · have h2' : ((ns.length : Int) != (ks.length : Int)) = false := by rw [h2]; simp
       cases a with
       | false =>
        simp only [Option.bind_some, List.length_map, h2', zai.p2, zai.p3, zdN]
        by_cases h4 : c.length ≤ 24
        · have h4' : ((c.length : Int) ≤ 24) := by omega
          by_cases h5 : ns.length = 0
          · have : ks = [] := List.eq_nil_of_length_eq_zero (by omega)
            simp [h4, h4', h5, hd, hd', this]
          · have h5' : ((ns.length : Int) == 0) = false := by rw [beq_eq_false_iff_ne]; omega
            simp [h4, h4', h5', h5, hd, hd', ← h2]
        · have h4' : ¬ ((c.length : Int) ≤ 24) := by omega
          simp [h4, h4', hd, hd', ← h2]
       | true =>
        have hk := zh5 ho
        have hn := zk0 ho
        have hkl := hk.1
        simp only at hkl hn
        have hl : ∀ k, k ≤ ns.length → zai.L8 d (eSs ns) ns.length (k : Int) true b (mkS c) (eSs ns) (ks.map eT) =
         some (bif zc1 (zej ns k) (ns.drop k) && (ks.drop k).all (zbj (d + 1)) then zai.x8 else zai.q8 false) := by
         refine up ns.length ?_ fun k hk1 ihk => ?_
         · rw [zai.s8, show ks.drop ns.length = [] from List.drop_eq_nil_of_le (by omega)]; simp [zc1]
         · have hk2 : k < ks.length := by omega
           rw [zai.s8, zaQ ns k hk1, zaQ ks k hk2, List.all_cons]
           have h := zlE ns[k] (sL_at hn hk1)
           have hr := ih ks[k] (List.getElem_mem hk2) (sL_at hk hk2) (d + 1) (by omega) (by omega)
           have ih' : zai.L8 d (eSs ns) ns.length (IntKind.i64.wrap ((k : Int) + 1)) true b (mkS c) (eSs ns) (ks.map eT) = some (bif zc1 (some ns[k]) (ns.drop (k + 1)) && (ks.drop (k + 1)).all (zbj (d + 1)) then zai.x8 else zai.q8 false) := by
            rw [zbv k (by omega), ihk, zeO hk1]
           simp only [Int.toNat_natCast, zb6 eS ns k hk1, zgE hk2, zai.p11, ih', zc1, zcL (d + 1) (by omega)]
           cases hnb : nameB ns[k] with
           | false => rw [hnb] at h; simp [hk1, eS, h]
           | true =>
            rw [hnb] at h
            by_cases hk0 : k = 0
            · have e0 : decide ((k : Int) > 0) = false := by simp; omega
              have hpv0 : zej ns k = none := by rw [hk0]; rfl
              simp only [e0, hpv0]
              cases hp : zbj (d + 1) ks[k] <;> rw [hp] at hr <;> simp [-List.getElem_cons_drop, hk1, hk2, eS, h, hr]
            · obtain ⟨j, hjk⟩ : ∃ j, k = j + 1 := ⟨k - 1, by omega⟩
              have hj : j < ns.length := by omega
              have hw : IntKind.i64.wrap ((k : Int) - 1) = (j : Int) := by rw [zi7 k (by omega) (by omega), hjk]; rfl
              have hpv : zej ns k = some ns[j] := by rw [hjk]; exact zeO hj
              have e1 : decide ((k : Int) > 0) = true := by simp; omega
              simp only [hw, Int.toNat_natCast, zb6 eS ns j hj, hpv, e1]
              cases hb : Op.bytesLess ns[j] ns[k] with
              | false => simp [-List.getElem_cons_drop, hk1, hj, eS, h, hb]
              | true => cases hp : zbj (d + 1) ks[k] <;> rw [hp] at hr <;> simp [-List.getElem_cons_drop, hk1, hk2, hj, eS, h, hb, hr]
        have hl0 : zai.L8 d (eSs ns) ns.length 0 true b (mkS c) (eSs ns) (ks.map eT) = _ := hl 0 (by omega)
        simp only [List.drop_zero, zej] at hl0
        have h2d : decide (ns.length = ks.length) = true := by simp [h2]
        by_cases h7 : c = []
        · subst h7
          cases h6 : zc1 none ns <;> cases h8 : ks.all (zbj (d + 1)) <;> rw [h6, h8] at hl0 <;>
           simp [zai.p2, zai.p3, hl0, zai.a8q8, zai.a8x8, h2d, h2', hd, hd', h6, h8]
        · have h7' : (c == []) = false := by simpa using h7
          simp [zai.p2, zai.p3, h2, h2', hd, hd', h7, h7']
     · have h2' : ((ns.length : Int) != (ks.length : Int)) = true := by simp [bne]; omega
       simp [h2, h2', hd, hd', zai.p2]
   · have hd' : d > 4 := by omega
     simp [hd, hd', zai.p2]
theorem zg4 (t : Tree) : wT t ≤ 1048576 → zax [vT t] [] = rI ((cnt t : Int) + 1) := by
 induction t using Tree.ind with
 | h a b c ns ks ih =>
  intro hw
  rw [zax.e, zhy]
  rw [wT_eq] at hw
  simp only at hw ⊢
  have hlen := zb2 wT ks
  have hl : ∀ k, k ≤ ks.length → ∀ x : Int, 0 ≤ x → x + wL wT (ks.drop k) ≤ 4194304 → zax.L3 x (ks.map eT) ks.length (k : Int) = some (zax.x3 (x + wL cnt (ks.drop k))) := by
   refine up ks.length ?_ fun k hk ihk x hn1 hn2 => ?_
   · intro x _ _; rw [zax.s3]; simp [wL]
   · rw [zax.s3]
     have h1 := zfg wT hk
     have h2 := zfg cnt hk
     have h3 := wL_at wT hk
     have h4 := zfA ks[k]
     have hr := ih ks[k] (List.getElem_mem hk) (by omega)
     have e1 : IntKind.i64.wrap (x + ((cnt ks[k] : Int) + 1)) = x + ((cnt ks[k] : Int) + 1) := zcL _ (by omega)
     have := ihk (x + ((cnt ks[k] : Int) + 1)) (by omega) (by omega)
     have e2 : x + ((cnt ks[k] : Int) + 1) + (wL cnt (ks.drop (k + 1)) : Int) = x + wL cnt (ks.drop k) := by omega
     rw [e2] at this
     push_cast at this
     simp only [Int.toNat_natCast, zgE hk, zbv k (by omega)]
     simp [hk, hr, e1, this]
  have h0 : zax.L3 1 (ks.map eT) ks.length 0 = _ := hl 0 (by omega) 1 (by omega) (by rw [List.drop_zero]; omega)
  simp only [List.length_map]
  rw [h0, List.drop_zero]
  simp only [Option.bind_some, zax.a3x3]
  rw [Int.add_comm]
theorem zlG (t : Tree) (ho : oT t) (hw : wT t ≤ 1048576) : zcM [vT t] [] = rB (treeB t) := by
 rw [zcM.e, zg3 t ho 0 (by omega) (by omega), zg4 t hw]
 unfold treeB
 have h3 : decide ((cnt t : Int) + 1 ≤ 31) = decide (cnt t ≤ 30) := decide_eq_decide.2 (by omega)
 cases h1 : t.dir <;> cases h2 : zbj 0 t <;> simp [h3]
end Go.PVx
namespace Go.PVx
open Go.PV Go.Proofs
def zoS (nx : Int) : List NodeOf → List NodeOf → Bool
 | _, [] => true
 | pre, x :: l => inB x.id 1 (IntKind.i64.wrap (nx - 1)) && (pathB 1 x.path && ((match pre.getLast? with | none => true | some y => lessP y.path x.path) && (pre.all (fun y => !(y.id == x.id)) && zoS nx (pre ++ [x]) l)))
def okB (n : Nodes) : Bool := inB n.next 1 10000 && decide (n.list.length ≤ 30) && zoS n.next [] n.list
end Go.PVx
namespace Go.PVx
open Go.PV Go.Proofs
theorem rowsLen_map {α : Type} (f : α → List D) (n : Nat) (h : ∀ x, (f x).length = n) (l : List α) : zaB n (l.map f) = true := by
 simp [zaB, h]
@[simp] theorem zhz (l : List Str) : zaB 1 (eSs l) = true := rowsLen_map eS 1 (fun _ => rfl) l
@[simp] theorem zpB (l : List (List Str)) : zaB 1 (l.map ePa) = true := rowsLen_map ePa 1 (fun _ => rfl) l
@[simp] theorem zp3 (l : List NodeOf) : zaB 2 (l.map eN) = true := rowsLen_map eN 2 (fun _ => rfl) l
@[simp] theorem zgG (b : Bool) (l : List Str) : zaG b (eSs l) = true := by simp [zaG, eS, cellD, zcF]
@[simp] theorem zoT (l : List (List Str)) : zaG true (l.map ePa) = true := by simp [zaG, ePa, cellD]
theorem znd (l : List Str) (s : Str) : eSs l ++ [[D.v (.string (mkS s))]] = eSs (l ++ [s]) := by simp [eS]
theorem zlH (p : List Str) (n : Str) (hp : p.length ≤ 4194304) : zcP [vP p, vS n] [] = rSh (eSs (p ++ [n])) := by
 rw [zcP.e]
 have e1 : decide ((0 + p.length) * 17 ≤ 70368744177664) = true := by simp; omega
 have e2 : decide ((p.length + 1) * 17 ≤ 70368744177664) = true := by simp; omega
 simp only [zhz, zgG, List.length_map, e1, e2, Bool.and_self, cond_true, znd]
theorem zjk (p : List Str) (n : Str) (hp : p.length ≤ 4194304) : zde [vP p, vS n] [] = rO (eSs (p ++ [n])) := by
 rw [zde.e]
 have e1 : decide ((0 + p.length) * 17 ≤ 70368744177664) = true := by simp; omega
 have e2 : decide ((p.length + 1) * 17 ≤ 70368744177664) = true := by simp; omega
 simp only [zhz, zgG, List.length_map, e1, e2, Bool.and_self, cond_true, znd]
theorem zbW {d : Int} {t : Tree} (h : zbj d t = true) : t.names.length = t.kids.length := by
 rw [zdH] at h
 simp only [plainB, Bool.and_eq_true, decide_eq_true_eq] at h
 exact h.1.1.1.2
theorem zcf {d : Int} {t : Tree} (h : zbj d t = true) {k : Tree} (hk : k ∈ t.kids) : zbj (d + 1) k = true := by
 rw [zdH] at h
 simp only [Bool.and_eq_true, List.all_eq_true] at h
 exact h.2 k hk
theorem zcb {t : Tree} (h : treeB t = true) : zbj 0 t = true := by
 simp only [treeB, Bool.and_eq_true] at h; exact h.1.2
end Go.PVx
namespace Go.PVx
open Go.PV Go.Proofs
def szR (w : Nat) (x : Int) : Int := bif decide ((w : Int) ≤ x) then x - w else -1
theorem zh7 {w : Nat} {x : Int} (h : (w : Int) ≤ x) : szR w x = x - w := by simp [szR, h]
theorem zfj {w : Nat} {x : Int} (h : ¬ (w : Int) ≤ x) : szR w x = -1 := by simp [szR, h]
def sumW {α : Type} (w : α → Nat) : List α → Nat
 | [] => 0
 | x :: l => w x + sumW w l
theorem zne {α : Type} (w : α → Nat) : ∀ l : List α, wL w l = l.length + sumW w l
 | [] => rfl
 | x :: l => by simp only [wL, sumW, List.length_cons, zne w l]; omega
theorem zh8 {a b : Nat} {x : Int} (h : (a : Int) ≤ x) : szR (a + b) x = szR b (x - a) := by
 unfold szR
 by_cases h2 : (b : Int) ≤ x - a
 · have h3 : ((a + b : Nat) : Int) ≤ x := by omega
   simp only [h2, h3, decide_true, cond_true]; omega
 · have h3 : ¬ ((a + b : Nat) : Int) ≤ x := by omega
   simp only [h2, h3, decide_false, cond_false]
theorem zfN {a b : Nat} {x : Int} (h : ¬ (a : Int) ≤ x) : szR (a + b) x = -1 := zfj (by omega)
theorem zk1 {l : List Str} {k : Nat} (h : k < l.length) : (eSs l).getD k [] = [.v (.string (mkS l[k]))] := by
 rw [zb6 eS l k h]; rfl
theorem zat.l5 (l : List Str) (ho : oP l) : ∀ k, k ≤ l.length → ∀ x : Int, 0 ≤ x → x ≤ Lim → (zat.L5 (eSs l) x (k : Int)).bind zat.A5 = rI (szR (sumW List.length (l.drop k)) x) := by
 have hl := ho.1
 have hL : (Lim : Int) = 1048576 := rfl
 refine up l.length ?_ fun k hk ih x h0 h1 => ?_
 · intro x h0 h1; rw [zat.s5]; simp [sumW, szR, zat.a5x5, h0]
 · rw [zat.s5, zaQ l k hk]
   have hsz := sL_at ho hk
   unfold sS at hsz
   have hw : IntKind.i64.wrap (x - (l[k].length : Int)) = x - (l[k].length : Int) := zcL _ (by omega)
   simp only [Int.toNat_natCast, zk1 hk, zbv k (by omega), sumW, List.getD_cons_zero, str_v, zdN, hw]
   by_cases hx : (l[k].length : Int) ≤ x
   · have hn : ¬ x - (l[k].length : Int) < 0 := by omega
     have := ih (x - (l[k].length : Int)) (by omega) (by omega)
     push_cast at this
     rw [zh8 hx, ← this]
     simp [-List.getElem_cons_drop, hk, hn]
   · have hn : x - (l[k].length : Int) < 0 := by omega
     rw [zfN hx]
     simp [-List.getElem_cons_drop, hk, hn, zat.a5q5]
theorem zh9 (l : List Str) (ho : oP l) (x : Int) (h0 : 0 ≤ x) (h1 : x ≤ Lim) : zat [vP l, vI x] [] = rI (szR (wP l) x) := by
 have hl := ho.1
 have hL : (Lim : Int) = 1048576 := rfl
 have hw : IntKind.i64.wrap (x - (l.length : Int)) = x - (l.length : Int) := zcL _ (by omega)
 rw [zat.e]
 unfold wP
 simp only [List.length_map, hw, zne]
 by_cases hx : (l.length : Int) ≤ x
 · have hn : ¬ x - (l.length : Int) < 0 := by omega
   have := zat.l5 l ho 0 (by omega) (x - (l.length : Int)) (by omega) (by omega)
   rw [List.drop_zero] at this
   rw [zh8 hx, ← this]
   simp [hn]
 · have hn : x - (l.length : Int) < 0 := by omega
   rw [zfN hx]
   simp [hn]
theorem zia (l : List Str) (hl : l.length ≤ 1048576) : zaI [vP l] [] = rO (eSs l) := by
 have key : ∀ k, k ≤ l.length → (zaI.L3 (eSs l) (k : Int) ((l.take k).map eS ++ List.replicate (l.length - k) [D.v (Value.string (mkS []))])).bind zaI.A3 = rO (eSs l) := by
  refine up l.length ?_ fun k hk ih => ?_
  · rw [zaI.s3, zkY]; simp [zaI.a3x3]
  · rw [zaI.s3]
    have h1 := zkW eS l [D.v (Value.string (mkS []))] k hk
    have h2 := zkV eS l [D.v (Value.string (mkS []))] k (by omega)
    have h3 := zkX eS l [D.v (Value.string (mkS []))] k hk
    rw [← ih]
    simp only [Int.toNat_natCast, zk1 hk, zbv k (by omega), h1, h2, List.getD_cons_zero, str_v]
    have h3' : List.set ((l.take k).map eS ++ List.replicate (l.length - k) [D.v (Value.string (mkS []))]) k (D.v (Value.string (mkS l[k])) :: List.drop 1 [D.v (Value.string (mkS []))]) = _ := h3
    rw [h3']
    have hb1 : decide ((k : Int) < ((eSs l).length : Int)) = true := by simp; omega
    have hb2 : decide (0 ≤ (k : Int)) = true := by simp
    have hb3 : decide ((k : Int) < (l.length : Int)) = true := by simp; omega
    simp only [hb1, hb2, hb3]
    rfl
 rw [zaI.e]
 have hc : (decide (((eSs l).length : Int) * ((↑16 : Int) + 1) ≤ 2 ^ 46) && true && true) = true := by simp; omega
 rw [hc, cond_true]
 have h0 := key 0 (by omega)
 rw [zi8] at h0
 simp only [List.length_map, Int.toNat_natCast]
 exact h0
theorem zdW (l : List Str) (hl : l.length ≤ 9223372036854775807) : zaA [vP l, vP l] [] = rB true := by
 have key : ∀ k, k ≤ l.length → zaA.L4 (eSs l) (eSs l) (k : Int) = some zaA.x4 := by
  refine up l.length ?_ fun k hk ih => ?_
  · rw [zaA.s4]; simp
  · rw [zaA.s4]
    simp only [Int.toNat_natCast, zk1 hk, zbv k (by omega), ih]
    simp [hk]
 have h0 : zaA.L4 (eSs l) (eSs l) 0 = _ := key 0 (by omega)
 rw [zaA.e, h0]
 simp [zaA.a4x4]
end Go.PVx
namespace Go.PVx
open Go.PV Go.Proofs
theorem zkb (l : List Tree) (hl : l.length ≤ 9223372036854775807) (hX : ∀ a ∈ l, zbr [vT a, vT a] [] = rB true) : zaR [.one (.s (l.map eT)), .one (.s (l.map eT))] [] = rB true := by
 have key : ∀ k, k ≤ l.length → zaR.L4 (l.map eT) (l.map eT) (k : Int) = some zaR.x4 := by
  refine up l.length ?_ fun k hk ih => ?_
  · rw [zaR.s4]; simp
  · rw [zaR.s4]
    have h := hX l[k] (List.getElem_mem hk)
    simp only [Int.toNat_natCast, zgE hk, zbv k (by omega), ih]
    simp [hk, h]
 have h0 : zaR.L4 (l.map eT) (l.map eT) 0 = _ := key 0 (by omega)
 rw [zaR.e, h0]
 simp [zaR.a4x4]
theorem zck (p : List Str) : p.length ≤ wP p := zb2 _ p
end Go.PVx
namespace Go.PVx
open Go.PV Go.Proofs
abbrev dec (n : Nat) : Str := Lib.decDigits n
theorem znf (n : Nat) (h : n ≤ 1000000) : (dec n).length ≤ 7 := by
 unfold dec
 rw [Lib.decDigits_length]
 by_cases h0 : n = 0
 · subst h0; rw [Lib.nDigits_small (by omega)]; omega
 · have : ∀ (k m : Nat), m < 10 ^ (k + 1) → Lib.nDigits m ≤ k + 1 := by
    intro k
    induction k with
    | zero => intro m hm; rw [Lib.nDigits_small (by simpa using hm)]; omega
    | succ k ih =>
     intro m hm
     by_cases h10 : m < 10
     · rw [Lib.nDigits_small h10]; omega
     · rw [Lib.nDigits_big h10]
       have := ih (m / 10) (by rw [Nat.pow_succ] at hm; omega)
       omega
   exact this 6 n (by omega)
theorem zhA (d : Nat) (h : d < 10) : strOf [[D.v (Value.int IntKind.u8 (IntKind.u8.wrap (IntKind.i64.wrap (48 + (d : Int)))))]] = mkS [UInt8.ofNat (48 + d)] := by
 rw [zcL _ (by omega), IntKind.wrap_u8]
 have : (48 + (d : Int)) % 256 = ((48 + d : Nat) : Int) := by omega
 rw [this]
 rfl
theorem zng : ∀ (n : Nat), n ≤ 1000000 → zcX [vI n] [] = rS (dec n) := by
 intro n
 induction n using Nat.strongRecOn with
 | _ n ih =>
  intro h
  rw [zcX.e]
  have h1 : decide ((n : Int) < -9223372036854775807) = false := decide_eq_false (by omega)
  have h2 : decide ((n : Int) < 0) = false := by simp
  rw [h1, h2]
  simp only [cond_false]
  unfold dec
  rw [Lib.decDigits]
  by_cases h10 : n < 10
  · have h3 : decide ((n : Int) < 10) = true := by simp; omega
    rw [h3, dif_pos h10, cond_true, zhA n h10]
  · have h3 : decide ((n : Int) < 10) = false := by simp; omega
    have hq : (n : Int).tdiv 10 = ((n / 10 : Nat) : Int) := by rw [Int.tdiv_eq_ediv_of_nonneg (by omega)]; omega
    have hr : (n : Int).tmod 10 = ((n % 10 : Nat) : Int) := by rw [Int.tmod_eq_emod_of_nonneg (by omega)]; omega
    have hw : IntKind.i64.wrap ((n / 10 : Nat) : Int) = ((n / 10 : Nat) : Int) := zcL _ (by omega)
    have hi := ih (n / 10) (by omega) (by omega)
    have hl := znf (n / 10) (by omega)
    unfold dec at hi hl
    have e1 : (Lib.decDigits (n / 10)).length ≤ 70368744177663 := by omega
    rw [h3, dif_neg h10, cond_false, hq, hw, hi, hr, zhA (n % 10) (by omega)]
    simp [e1]
theorem zgH (n : Nat) (h : n ≤ 1000000) : strconv_Itoa [vI n] [] = rS (dec n) := by
 rw [strconv_Itoa.ext]
 have h1 : decide (-9223372036854775808 ≤ (n : Int)) = true := decide_eq_true (by omega)
 have h2 : decide ((n : Int) ≤ 9223372036854775807) = true := decide_eq_true (by omega)
 simp only [zgy, h1, h2, Bool.and_self, cond_true, Lib.itoa_nonneg]
 rfl
def pt (p : List Str) : Str := if p = [] then [47] else Lib.joinTail [47] p
theorem zdX (p : List Str) : (Lib.joinTail [47] p).length = wP p := by
 unfold wP
 induction p with
 | nil => rfl
 | cons x p ih =>
  have : Lib.joinTail [47] (x :: p) = [47] ++ x ++ Lib.joinTail [47] p := by simp [Lib.joinTail]
  rw [this]
  simp only [List.length_append, List.length_cons, List.length_nil, ih, wL]
theorem zk2 (p : List Str) : (pt p).length ≤ 1 + wP p := by
 unfold pt
 split
 · simp
 · rw [zdX]; omega
theorem zgI : ∀ p : List Str, zes (eSs p) = some (p.map mkS)
 | [] => rfl
 | x :: p => by
  have := zgI p
  simp only [List.map_cons, zes, this]
  rfl
theorem zgJ (p : List Str) (hp : wP p ≤ 1048576) (h0 : p ≠ []) : strings_Join [vP p, vS [47]] [] = rS (Lib.join p [47]) := by
 rw [strings_Join.ext]
 have hm : (p.map mkS).map (fun x => x.data.toList) = p := by simp [List.map_map, Function.comp_def]
 have hlen : (Lib.join p [47]).length ≤ wP p := by
  cases p with
  | nil => exact absurd rfl h0
  | cons x r =>
   have hj := zdX r
   rw [Lib.join_cons, List.length_append, hj]
   unfold wP
   simp only [wL]; omega
 have hpl := zck p
 have e1 : decide ((p.map mkS).length ≤ 140737488355328) = true := by simp; omega
 have e2 : decide ((Lib.join p [47]).length ≤ 140737488355328) = true := by simp; omega
 have hx : joinD (p.map mkS) (mkS [47]) = mkS (Lib.join p [47]) := by
  unfold joinD
  rw [hm]
  rfl
 show zfh [.one (.s (eSs p)), .one (.v (.string (mkS [47])))] [] = _
 simp only [zfh, zgI, e1, hm]
 have hs : (mkS [47]).data.toList = [47] := rfl
 rw [hs, e2]
 simp only [Bool.and_self, cond_true, hx]
theorem zjl (p : List Str) (hp : wP p ≤ 1048576) : zbQ [vP p] [] = rS (pt p) := by
 rw [zbQ.e]
 cases p with
 | nil => rfl
 | cons x r =>
  have h1 := zgJ (x :: r) hp (by simp)
  have h2 : (Lib.join (x :: r) [47]).length ≤ 1048576 := by
   have hj := zdX r
   unfold wP at hp hj
   rw [Lib.join_cons, List.length_append, hj]
   simp only [wL] at hp; omega
  have e1 : decide (1 + (Lib.join (x :: r) [47]).length ≤ 70368744177664) = true := by simp; omega
  have h3 : ((((eSs (x :: r)).length : Nat) : Int) == 0) = false := by simp; omega
  have h4 : (ByteArray.mk #[47]) = mkS [47] := rfl
  rw [h3, cond_false, h4, h1]
  have h5 : pt (x :: r) = 47 :: Lib.join (x :: r) [47] := by
   unfold pt
   rw [if_neg (by simp), Lib.join_cons]
   simp [Lib.joinTail]
  rw [h5]
  simp [e1]
end Go.PVx
namespace Go.PVx
open Go.PV Go.Proofs
def line (a : NodeOf) : Str := dec a.id.toNat ++ [32] ++ pt a.path ++ [10]
def head5 (n : Nodes) : Str := [110, 101, 120, 116, 32] ++ dec n.next.toNat ++ [10]
def znh (n : Nodes) : Str := bif okB n then head5 n ++ (n.list.map line).flatten else []
end Go.PVx
namespace Go.PVx
open Go.PV Go.Proofs
def hexD : Str := [48, 49, 50, 51, 52, 53, 54, 55, 56, 57, 97, 98, 99, 100, 101, 102]
theorem zni : (ByteArray.mk #[48, 49, 50, 51, 52, 53, 54, 55, 56, 57, 97, 98, 99, 100, 101, 102]) = mkS hexD := rfl
def dig (n : Nat) : UInt8 := hexD.getD n 0
def hexB (b : UInt8) : Str := [dig (b.toNat / 16), dig (b.toNat % 16)]
def hexS (s : Str) : Str := (s.map hexB).flatten
def dataT (s : Str) : Str := if s = [] then [45] else hexS s
theorem zpC : ∀ i : Fin 16, (hexD.take (i.val + 1)).drop i.val = [dig i.val] := by decide
theorem zoU {i : Nat} (h : i < 16) : (hexD.take (i + 1)).drop i = [dig i] := zpC ⟨i, h⟩
theorem zfO : ∀ s : Str, (hexS s).length = 2 * s.length
 | [] => rfl
 | b :: s => by
  have : hexS (b :: s) = hexB b ++ hexS s := by simp [hexS]
  rw [this, List.length_append, zfO s]
  simp only [hexB, List.length_cons, List.length_nil]; omega
theorem zjm (s : Str) (k : Nat) (h : k < s.length) : hexS (s.take (k + 1)) = hexS (s.take k) ++ hexB s[k] := by
 unfold hexS
 rw [zm0 s k h]
 simp only [List.map_append, List.flatten_append, List.map_cons, List.map_nil, List.flatten_cons, List.flatten_nil, List.append_nil]
theorem nib (b : UInt8) : (IntKind.u8.wrap ((b.toNat : Int).tdiv 16)) = ((b.toNat / 16 : Nat) : Int) ∧ IntKind.u8.wrap (((b.toNat / 16 : Nat) : Int) + 1) = ((b.toNat / 16 + 1 : Nat) : Int) ∧
 (b.toNat : Int).tmod 16 = ((b.toNat % 16 : Nat) : Int) ∧ IntKind.u8.wrap (((b.toNat % 16 : Nat) : Int) + 1) = ((b.toNat % 16 + 1 : Nat) : Int) ∧ b.toNat / 16 < 16 ∧ b.toNat % 16 < 16 := by
 have hb : b.toNat < 256 := b.toNat_lt
 refine ⟨?_, ?_, ?_, ?_, by omega, by omega⟩
 · rw [IntKind.wrap_u8, Int.tdiv_eq_ediv_of_nonneg (by omega)]; omega
 · rw [IntKind.wrap_u8]; omega
 · rw [Int.tmod_eq_emod_of_nonneg (by omega)]; omega
 · rw [IntKind.wrap_u8]; omega
theorem znj (s : Str) (hs : s.length ≤ 1048576) : zbl [vS s] [] = rS (dataT s) := by
 have key : ∀ k, k ≤ s.length → zbl.L3 (mkS s) (mkS (hexS (s.take k))) (k : Int) = some (zbl.x3 (mkS (hexS s))) := by
  refine up s.length ?_ fun k hk ih => ?_
  · rw [zbl.s3]; simp
  · obtain ⟨n1, n2, n3, n4, n5, n6⟩ := nib s[k]
    have hl := zfO (s.take k)
    rw [List.length_take] at hl
    rw [zjm s k hk] at ih
    have e0 : decide ((k : Int) < (s.length : Int)) = true := by simp; omega
    have e1 : decide ((0 : Int) ≤ (k : Int)) = true := by simp
    have e2 : decide (((s[k].toNat / 16 : Nat) : Int) ≤ ((s[k].toNat / 16 + 1 : Nat) : Int)) = true := decide_eq_true (by omega)
    have e3 : decide (((s[k].toNat / 16 + 1 : Nat) : Int) ≤ ((hexD.length : Nat) : Int)) = true := decide_eq_true (by show _ ≤ ((16 : Nat) : Int); omega)
    have e4 : decide (((s[k].toNat % 16 : Nat) : Int) ≤ ((s[k].toNat % 16 + 1 : Nat) : Int)) = true := decide_eq_true (by omega)
    have e5 : decide (((s[k].toNat % 16 + 1 : Nat) : Int) ≤ ((hexD.length : Nat) : Int)) = true := decide_eq_true (by show _ ≤ ((16 : Nat) : Int); omega)
    have e6 : decide ((hexS (s.take k)).length + 1 ≤ 70368744177664) = true := decide_eq_true (by omega)
    have e7 : decide ((hexS (s.take k)).length + 1 + 1 ≤ 70368744177664) = true := decide_eq_true (by omega)
    have hx : hexS (s.take k) ++ [dig (s[k].toNat / 16)] ++ [dig (s[k].toNat % 16)] = hexS (s.take k) ++ hexB s[k] := by simp [hexB]
    rw [zbl.s3]
    simp only [Int.toNat_natCast, zdU s k hk, zni, zdN, n1, n2, n3, n4, zgv, zoU n5, zoU n6, zhs, List.length_append, List.length_cons, List.length_nil, Nat.zero_add, zbv k (by omega), e0, e1, e2, e3, e4, e5, e6, e7, hx, ih]
    rfl
 have h0 : zbl.L3 (mkS s) (mkS (hexS (s.take 0))) 0 = _ := key 0 (by omega)
 have h1 : (ByteArray.mk #[]) = mkS (hexS (s.take 0)) := rfl
 rw [zbl.e, h1, h0, Option.bind_some, zbl.a3x3, zfe]
 unfold dataT
 cases s with
 | nil => rfl
 | cons b s =>
  have : hexS (b :: s) = dig (b.toNat / 16) :: dig (b.toNat % 16) :: hexS s := by simp [hexS, hexB]
  rw [this]
  rfl
def zcE (b : UInt8) : List D := [.v (.int .u8 (b.toNat : Int))]
theorem zkc (l : Str) : strOf (l.map zcE) = mkS l := by
 have key : ∀ (l : Str) (acc : Str), ((l.map zcE).map fun r => (r.getD 0 .h).int).foldl (fun r n => r.push (UInt8.ofNat n.toNat)) (mkS acc) = mkS (acc ++ l) := by
  intro l
  induction l with
  | nil => intro acc; simp
  | cons b l ih =>
   intro acc
   have hp : (mkS acc).push b = mkS (acc ++ [b]) := by
    show ByteArray.mk (acc.toArray.push b) = ByteArray.mk (acc ++ [b]).toArray
    rw [List.push_toArray]
   have hb : UInt8.ofNat (b.toNat : Int).toNat = b := by simp
   simp only [List.map_cons, List.foldl_cons, zcE, List.getD_cons_zero, int_v]
   rw [hb, hp]
   have := ih (acc ++ [b])
   simp only [zcE, List.append_assoc, List.cons_append, List.nil_append] at this
   exact this
 exact key l []
theorem zjn (l : Str) : zfT (l.map zcE) = true := by
 simp [zfT, zcE]
theorem zib (l : Str) : zaB 1 (l.map zcE) = true := rowsLen_map zcE 1 (fun _ => rfl) l
theorem znk (s : Str) (hs : s.length ≤ 1048576) : zbm [vS s] [] = rS (hexS s) := by
 have key : ∀ k, k ≤ s.length → zbm.L3 (mkS s) (k : Int) ((hexS (s.take k)).map zcE) = some (zbm.x3 ((hexS s).map zcE)) := by
  refine up s.length ?_ fun k hk ih => ?_
  · rw [zbm.s3]; simp
  · obtain ⟨n1, n2, n3, n4, n5, n6⟩ := nib s[k]
    have hl := zfO (s.take k)
    rw [List.length_take] at hl
    rw [zjm s k hk] at ih
    have e0 : decide ((k : Int) < (s.length : Int)) = true := by simp; omega
    have e1 : decide ((0 : Int) ≤ (k : Int)) = true := by simp
    have e2 : decide (((s[k].toNat / 16 : Nat) : Int) < ((hexD.length : Nat) : Int)) = true := decide_eq_true (by show _ < ((16 : Nat) : Int); omega)
    have e3 : decide (((s[k].toNat % 16 : Nat) : Int) < ((hexD.length : Nat) : Int)) = true := decide_eq_true (by show _ < ((16 : Nat) : Int); omega)
    have e6 : decide ((((hexS (s.take k)).map zcE).length + 2) * 2 ≤ 70368744177664) = true := decide_eq_true (by rw [List.length_map]; omega)
    have hx : (hexS (s.take k)).map zcE ++ [[D.v (Value.int IntKind.u8 ((dig (s[k].toNat / 16)).toNat : Int))], [D.v (Value.int IntKind.u8 ((dig (s[k].toNat % 16)).toNat : Int))]] = (hexS (s.take k) ++ hexB s[k]).map zcE := by
     simp [hexB, zcE]
    have d1 : zbc (mkS hexD) (s[k].toNat / 16) = ((dig (s[k].toNat / 16)).toNat : Int) := zff _ _
    have d2 : zbc (mkS hexD) (s[k].toNat % 16) = ((dig (s[k].toNat % 16)).toNat : Int) := zff _ _
    rw [zbm.s3]
    simp only [Int.toNat_natCast, zdU s k hk, zni, zdN, n1, n3, zbv k (by omega), e0, e1, e2, e3, e6, zib, d1, d2, hx, ih]
    rfl
 have h0 : zbm.L3 (mkS s) 0 [] = _ := key 0 (by omega)
 rw [zbm.e, h0, Option.bind_some, zbm.a3x3, zjn, zkc]
 rfl
theorem zjo (s : Str) (hs : s.length ≤ 1048576) : zbV [vS s] [] = rS (dataT s) := by
 rw [zbV.e, znk s hs, zfe]
 unfold dataT
 cases s with
 | nil => rfl
 | cons b s => simp
end Go.PVx
namespace Go.PVx
open Go.PV Go.Proofs
end Go.PVx
namespace Go.PVx
open Go.PV Go.Proofs
abbrev Top : Int := 1000000000000
theorem znl (n : Int) : (strOf [[D.v (Value.int IntKind.u8 n)]]).size = 1 := rfl
theorem zaC.l4 : ∀ (n : Nat) (k : Int) (b : ByteArray), 0 ≤ k → k ≤ 1000000000000 → k < 10 ^ n → b.size + n ≤ 40 → ∃ b' : ByteArray, zaC.L4 k b = some (zaC.x4 b') ∧ b'.size ≤ 40
 | 0, k, b, h0, ht, h1, h3 => by
  have : k = 0 := by simp at h1; omega
  subst this
  refine ⟨b, ?_, by omega⟩
  rw [zaC.s4]
  simp
 | n + 1, k, b, h0, ht, h1, h3 => by
  rw [zaC.s4]
  by_cases hk : k > 0
  · have hd : k.tdiv 10 = k / 10 := Int.tdiv_eq_ediv_of_nonneg h0
    have hp : (10 : Int) ^ (n + 1) = 10 ^ n * 10 := Int.pow_succ _ _
    have hq : k / 10 < 10 ^ n := by omega
    have hw : IntKind.i64.wrap (k / 10) = k / 10 := zcL _ (by omega)
    have hsz : (strOf [[D.v (Value.int IntKind.u8 (IntKind.u8.wrap (IntKind.i64.wrap (48 + k.tmod 10))))]] ++ b).size = 1 + b.size := by
     rw [ByteArray.size_append, znl]
    obtain ⟨b', h4, h5⟩ := zaC.l4 n (k / 10) (strOf [[D.v (Value.int IntKind.u8 (IntKind.u8.wrap (IntKind.i64.wrap (48 + k.tmod 10))))]] ++ b) (by omega) (by omega) hq (by rw [hsz]; omega)
    refine ⟨b', ?_, h5⟩
    rw [hd, hw, h4]
    have h6 : decide (1 + b.size ≤ 70368744177664) = true := by simp; omega
    rw [h6]
    simp [hk]
  · have : k = 0 := by omega
    subst this
    exact ⟨b, by simp, by omega⟩
theorem zjp (k : Int) (h0 : 0 ≤ k) (h1 : k ≤ Top) : ∃ s : Str, zaC [vI k] [] = rS s := by
 rw [zaC.e]
 by_cases hk : k ≤ 0
 · exact ⟨[109, 48], by simp only [hk, decide_true, cond_true]; rfl⟩
 · have hT : Top = 1000000000000 := rfl
   obtain ⟨b', h4, h5⟩ := zaC.l4 20 k { data := #[] } (by omega) (by omega) (by omega) (by decide)
   refine ⟨(ByteArray.mk #[109] ++ b').data.toList, ?_⟩
   rw [h4]
   have h6 : decide (1 + b'.size ≤ 70368744177664) = true := by simp; omega
   simp only [hk, decide_false, cond_false, Option.bind_some, zaC.a4x4, h6, cond_true]
   rfl
noncomputable def mt (k : Int) : Str := by
 classical
 exact if h : ∃ s : Str, zaC [vI k] [] = rS s then h.choose else []
theorem zcY (k : Int) (h0 : 0 ≤ k) (h1 : k ≤ Top) : zaC [vI k] [] = rS (mt k) := by
 have h := zjp k h0 h1
 unfold mt
 rw [dif_pos h]
 exact h.choose_spec
noncomputable def mP (k : Int) : List Str → List Str
 | [] => []
 | _ :: l => mt k :: mP (k + 1) l
@[simp] theorem zoV : ∀ (l : List Str) (k : Int), (mP k l).length = l.length
 | [], _ => rfl
 | _ :: l, k => by simp [mP, zoV l]
theorem mP_at : ∀ (l : List Str) (k : Int) (i : Nat) (h : i < (mP k l).length), (mP k l)[i] = mt (k + i)
 | [], _, i, h => by simp [mP] at h
 | x :: l, k, 0, h => by simp [mP]
 | x :: l, k, i + 1, h => by
  simp only [mP, List.getElem_cons_succ]
  rw [mP_at l (k + 1) i (by simpa [mP] using h)]
  congr 1; push_cast; omega
abbrev gV (es : List (List D)) : PV.Obj := { kind := Kind.virt, row := [D.s es], fl := [Own.deep] }
abbrev rM (k : Int) (es : List (List D)) : Option Res := some ⟨[.v (.int .i64 k)], [gV es]⟩
theorem zdf (l : List Str) (k : Int) (h0 : 0 ≤ k) (h1 : k + l.length ≤ Top) :
 zap [.one (.r 0 [] 0), vI k] [gV (eSs l)] = rM (k + l.length) (eSs (mP k l)) := by
 have hT : Top = 1000000000000 := rfl
 have key : ∀ j, j ≤ l.length → ∀ m : List Str, m.length = j → (zap.L2 (k + j) (j : Int) (m.map eS ++ (l.drop j).map eS)).bind zap.A2 = rM (k + l.length) (eSs (m ++ mP (k + j) (l.drop j))) := by
  refine up l.length ?_ fun j hj ih m hm => ?_
  · intro m hm
    rw [zap.s2]
    simp [hm, zap.a2x2, mP]
  · have hg := zoi eS eS l m j hj hm
    have hl := zoj eS eS l m j (by omega) hm
    have hs := zok eS eS l m j hj hm (mt (k + j))
    have ht := zcY (k + j) (by omega) (by omega)
    have hw : IntKind.i64.wrap (k + j + 1) = k + j + 1 := zcL _ (by omega)
    have := ih (m ++ [mt (k + j)]) (by simp [hm])
    rw [zap.s2]
    simp only [Int.toNat_natCast, hg, hl, hw, zbv j (by omega)]
    have hs' : List.set (m.map eS ++ (l.drop j).map eS) j (D.v (Value.string (mkS (mt (k + j)))) :: List.drop 1 (eS l[j])) = _ := hs
    push_cast at this
    rw [show k + ((j : Int) + 1) = k + j + 1 from by omega] at this
    have hd : mP (k + j) (l.drop j) = mt (k + j) :: mP (k + j + 1) (l.drop (j + 1)) := by rw [zaQ l j hj, mP]
    rw [hd]
    rw [show m ++ mt (k + j) :: mP (k + j + 1) (l.drop (j + 1)) = m ++ [mt (k + j)] ++ mP (k + j + 1) (l.drop (j + 1)) from by simp, ← this]
    have h2 : decide ((j : Int) < (l.length : Int)) = true := by simp; omega
    have h3 : decide ((0 : Int) ≤ (j : Int)) = true := by simp
    have h4 : (eS l[j]).length = 1 := rfl
    simp only [h2, h3, h4, ht, Option.bind_some]
    have h5 : (zag [R1.str] [TC.v (Value.string (mkS (mt (k + j))))]) = true := rfl
    simp only [h5, Bool.and_true, decide_true, Bool.and_self, cond_true, Nat.le_refl, List.getD_cons_zero, zm1, hs']
    push_cast
    rfl
 rw [zap.e]
 have := key 0 (by omega) [] rfl
 simpa using this
theorem zdY (l : List Str) (k : Int) (h0 : 0 ≤ k) (h1 : k + l.length ≤ Top) : zao [vP (mP k l), vI k] [] = rI (k + l.length) := by
 have hT : Top = 1000000000000 := rfl
 have hlen := zoV l k
 have key : ∀ j, j ≤ l.length → (zao.L2 (eSs (mP k l)) (k + j) (j : Int)).bind zao.A2 = rI (k + l.length) := by
  refine up l.length ?_ fun j hj ih => ?_
  · rw [zao.s2]
    simp [zao.a2x2]
  · have hj' : j < (mP k l).length := by omega
    have ht := zcY (k + j) (by omega) (by omega)
    have hw : IntKind.i64.wrap (k + j + 1) = k + j + 1 := zcL _ (by omega)
    push_cast at ih
    rw [show k + ((j : Int) + 1) = k + j + 1 from by omega] at ih
    rw [zao.s2]
    simp only [Int.toNat_natCast, zk1 hj', mP_at l k j hj', zbv j (by omega), hw, ht, Option.bind_some]
    rw [← ih]
    simp [hj]
 rw [zao.e]
 have := key 0 (by omega)
 simpa using this
end Go.PVx
namespace Go.PVx
open Go.PV Go.Proofs
def cN (a : NodeOf) : Nat := 1 + a.path.length
noncomputable def mN (k : Int) (a : NodeOf) : NodeOf := ⟨k, mP (k + 1) a.path⟩
noncomputable def mNs (k : Int) : List NodeOf → List NodeOf
 | [] => []
 | a :: l => mN k a :: mNs (k + cN a) l
@[simp] theorem zpD : ∀ (l : List NodeOf) (k : Int), (mNs k l).length = l.length
 | [], _ => rfl
 | _ :: l, k => by simp [mNs, zpD l]
theorem eN_len (a : NodeOf) : (eN a).length = 2 := rfl
end Go.PVx
