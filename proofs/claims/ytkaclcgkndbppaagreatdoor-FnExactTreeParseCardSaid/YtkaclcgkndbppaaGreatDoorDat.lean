/- A part of the proof: PvU1, PvU2, PvU3, PvU4, PvL0, PvL1, PvV1, PvV2, PvV3, PvV4, PvM1, PvM2. -/
import Derived.Test.YtkaclcgkndbppaaGreatDoorRes
import Derived.Test.YtkaclcgkndbppaaGreatDoorTy
import Derived.Test.YtkaclcgkndbppaaGreatDoorExt
set_option linter.unusedSimpArgs false
set_option linter.unusedVariables false
namespace Go.PVx
open Go.PV Go.Proofs
def inB (a b c : Int) : Bool := decide (b ≤ a) && decide (a ≤ c)
theorem zk7 (a b c : Int) : sl1In [vI a, vI b, vI c] [] = rB (inB a b c) := by
 rw [sl1In.e]; unfold inB; by_cases h : b ≤ a <;> simp [h]
theorem zhw (a b c : Int) : zck [vI a, vI b, vI c] [] = rB (inB a b c) := by
 rw [zck.e]; unfold inB; by_cases h : b ≤ a <;> simp [h]
theorem zlL (a : Int) : zcG [vI a] [] = rB (inB a 0 7) := by
 rw [zcG.e, zhw]; simp
def okc (b : UInt8) : Bool := (decide (97 ≤ (b.toNat : Int)) && decide ((b.toNat : Int) ≤ 122)) || (decide (48 ≤ (b.toNat : Int)) && decide ((b.toNat : Int) ≤ 57))
def nameB (s : Str) : Bool := s.all okc && inB s.length 1 5
theorem zan.l2 (s : Str) (hs : sS s) : ∀ k, k ≤ s.length → zan.L2 (mkS s) (k : Int) = some (bif (s.drop k).all okc then zan.x2 (mkS s) else zan.q2 (mkS s) false) := by
 unfold sS at hs
 refine up s.length ?_ fun k hk ih => ?_
 · rw [zan.s2]; simp
 · rw [zan.s2, zbf s k hk, List.all_cons]
   simp only [Int.toNat_natCast, zdC s k hk, zan.p5, zbY k (by omega), ih, okc]
   by_cases h1 : 97 ≤ (s[k].toNat : Int) <;> by_cases h2 : (s[k].toNat : Int) ≤ 122 <;> by_cases h3 : 48 ≤ (s[k].toNat : Int) <;> by_cases h4 : (s[k].toNat : Int) ≤ 57 <;> simp [h1, h2, h3, h4, hk]
theorem zjq (s : Str) (hs : sS s) : zan [vS s] [] = rB (nameB s) := by
 have h := zan.l2 s hs 0 (by omega)
 rw [zan.e, show (0 : Int) = ((0 : Nat) : Int) from rfl, h]
 unfold nameB
 cases h : s.all okc <;> simp [h, zan.a2q2, zan.a2x2, zk7]
theorem zaD.l2 (s : Str) (hs : sS s) : ∀ k, k ≤ s.length → zaD.L2 (mkS s) s.length (k : Int) = some (bif (s.drop k).all okc then zaD.x2 (mkS s) else zaD.q2 (mkS s) false) := by
 unfold sS at hs
 refine up s.length ?_ fun k hk ih => ?_
 · rw [zaD.s2]; simp
 · rw [zaD.s2, zbf s k hk, List.all_cons]
   simp only [Int.toNat_natCast, zdC s k hk, zaD.p5, zbY k (by omega), ih, okc]
   have e1 : decide ((s[k].toNat : Int) < 97) = !decide (97 ≤ (s[k].toNat : Int)) := by by_cases h : 97 ≤ (s[k].toNat : Int) <;> simp [h] <;> omega
   have e2 : decide ((s[k].toNat : Int) > 122) = !decide ((s[k].toNat : Int) ≤ 122) := by by_cases h : (s[k].toNat : Int) ≤ 122 <;> simp [h] <;> omega
   have e3 : decide ((s[k].toNat : Int) < 48) = !decide (48 ≤ (s[k].toNat : Int)) := by by_cases h : 48 ≤ (s[k].toNat : Int) <;> simp [h] <;> omega
   have e4 : decide ((s[k].toNat : Int) > 57) = !decide ((s[k].toNat : Int) ≤ 57) := by by_cases h : (s[k].toNat : Int) ≤ 57 <;> simp [h] <;> omega
   simp only [e1, e2, e3, e4]
   cases decide (97 ≤ (s[k].toNat : Int)) <;> cases decide ((s[k].toNat : Int) ≤ 122) <;> cases decide (48 ≤ (s[k].toNat : Int)) <;> cases decide ((s[k].toNat : Int) ≤ 57) <;> simp [hk]
theorem zlM (s : Str) (hs : sS s) : zaD [vS s] [] = rB (nameB s) := by
 have h := zaD.l2 s hs 0 (by omega)
 rw [zaD.e, zdl, show (0 : Int) = ((0 : Nat) : Int) from rfl, h]
 unfold nameB
 cases h : s.all okc <;> simp [h, zaD.a2q2, zaD.a2x2, zhw]
def pathB (least : Int) (p : List Str) : Bool := p.all nameB && inB p.length least 4
def lessP : List Str → List Str → Bool
 | _, [] => false
 | [], _ :: _ => true
 | x :: a, y :: b => bif x == y then lessP a b else Op.bytesLess x y
theorem zfH (a : Str) : zaP [vS a] [] = rB false := by
 rw [zaP.e]; simp
theorem zoy : ∀ a : Str, Op.bytesLess a a = false := by
 intro a
 induction a with
 | nil => rfl
 | cons x a ih => simp [Op.bytesLess, ih]
end Go.PVx
namespace Go.PVx
open Go.PV Go.Proofs
theorem zgF {ks : List Tree} {k : Nat} (h : k < ks.length) :
 (ks.map eT).getD k [] = [.v (.bool ks[k].dir), .v (.int .i64 ks[k].mode), .v (.string (mkS ks[k].data)), .s (eSs ks[k].names), .s (ks[k].kids.map eT)] := by
 rw [zdO eT ks k h, eT_eq]
theorem zk8 {t : Tree} (h : oT t) : oP t.names := ((oT_eq t).1 h).2.1
theorem zie {t : Tree} (h : oT t) : sL oT t.kids := ((oT_eq t).1 h).2.2
def zcV : Option Str → List Str → Bool
 | _, [] => true
 | p, x :: l => nameB x && (match p with | none => true | some y => Op.bytesLess y x) && zcV (some x) l
def zen (l : List Str) : Nat → Option Str
 | 0 => none
 | k + 1 => l[k]?
def plainB (t : Tree) : Bool := inB t.mode 0 7 && decide (t.names.length = t.kids.length) && (bif t.dir then zcV none t.names && decide (t.data = []) else decide (t.data.length ≤ 24) && decide (t.names.length = 0))
mutual
def zbl : Int → Tree → Bool
 | d, ⟨a, b, c, e, ks⟩ => plainB ⟨a, b, c, e, ks⟩ && decide (d ≤ 4) && zif (d + 1) ks
def zif : Int → List Tree → Bool
 | _, [] => true
 | d, t :: ts => zbl d t && zif d ts
end
theorem zgG (d : Int) : ∀ l : List Tree, zif d l = l.all (zbl d)
 | [] => rfl
 | t :: ts => by rw [zif, zgG d ts]; rfl
theorem zdG (d : Int) (t : Tree) : zbl d t = (plainB t && decide (d ≤ 4) && t.kids.all (zbl (d + 1))) := by
 obtain ⟨a, b, c, e, ks⟩ := t
 rw [zbl, zgG]
mutual
def cnt : Tree → Nat
 | ⟨_, _, _, _, ks⟩ => cnts ks
def cnts : List Tree → Nat
 | [] => 0
 | t :: ts => 1 + cnt t + cnts ts
end
theorem zne : ∀ l : List Tree, cnts l = wL cnt l
 | [] => rfl
 | t :: ts => by rw [cnts, zne ts]; rfl
theorem zhx (t : Tree) : cnt t = wL cnt t.kids := by
 obtain ⟨a, b, c, e, ks⟩ := t
 rw [cnt, zne]
theorem wL_le {α : Type} (v w : α → Nat) : ∀ l : List α, (∀ x ∈ l, v x ≤ w x) → wL v l ≤ wL w l
 | [], _ => Nat.le_refl _
 | x :: l, h => by
  have h1 := h x (by simp)
  have h2 := wL_le v w l fun y hy => h y (List.mem_cons_of_mem _ hy)
  simp only [wL]; omega
theorem zjr (t : Tree) : cnt t ≤ wT t := by
 induction t using Tree.ind with
 | h d m s ns ks ih =>
  rw [zhx, wT_eq]
  have := wL_le cnt wT ks ih
  simp only at this ⊢
  omega
def treeB (t : Tree) : Bool := t.dir && zbl 0 t && decide (cnt t ≤ 30)
theorem zoz (s : Str) : s.isEmpty = decide (s = []) := by cases s <;> rfl
theorem zeT {l : List Str} {k : Nat} (h : k < l.length) : zen l (k + 1) = some l[k] := by simp [zen, h]
theorem zal.l6 (t : Tree) (hn : oP t.names) : ∀ k, k ≤ t.names.length → zal.L6 (k : Int) t.dir t.mode (mkS t.data) (eSs t.names) (t.kids.map eT) =
 some (bif zcV (zen t.names k) (t.names.drop k) then zal.x6 t.dir t.mode (mkS t.data) (eSs t.names) (t.kids.map eT) else zal.q6 false t.dir t.mode (mkS t.data) (eSs t.names) (t.kids.map eT)) := by
 have hl := hn.1
 refine up t.names.length ?_ fun k hk ih => ?_
 · rw [zal.s6]; simp [zcV]
 · rw [zal.s6, zbf t.names k hk]
   have h := zjq t.names[k] (sL_at hn hk)
   have ih' : zal.L6 (IntKind.i64.wrap ((k : Int) + 1)) t.dir t.mode (mkS t.data) (eSs t.names) (t.kids.map eT) = some (bif zcV (some t.names[k]) (t.names.drop (k + 1)) then zal.x6 t.dir t.mode (mkS t.data) (eSs t.names) (t.kids.map eT) else zal.q6 false t.dir t.mode (mkS t.data) (eSs t.names) (t.kids.map eT)) := by
    rw [zbY k (by omega), ih, zeT hk]
   simp only [Int.toNat_natCast, zdO eS t.names k hk, zal.p9, ih', zcV]
   cases hnb : nameB t.names[k] with
   | false => rw [hnb] at h; simp [hk, eS, h]
   | true =>
    rw [hnb] at h
    by_cases hk0 : k = 0
    · have e0 : decide ((k : Int) > 0) = false := by simp; omega
      have hpv0 : zen t.names k = none := by rw [hk0]; rfl
      simp only [e0, hpv0]
      simp [-List.getElem_cons_drop, hk, eS, h]
    · obtain ⟨j, hjk⟩ : ∃ j, k = j + 1 := ⟨k - 1, by omega⟩
      have hj : j < t.names.length := by omega
      have hw : IntKind.i64.wrap ((k : Int) - 1) = (j : Int) := by rw [zjf k (by omega) (by omega), hjk]; rfl
      have hpv : zen t.names k = some t.names[j] := by rw [hjk]; exact zeT hj
      have e1 : decide ((k : Int) > 0) = true := by simp; omega
      simp only [hw, Int.toNat_natCast, zdO eS t.names j hj, hpv, e1]
      cases hb : Op.bytesLess t.names[j] t.names[k] <;> simp [-List.getElem_cons_drop, hk, hj, eS, h, hb]
theorem zkk (t : Tree) (ho : oT t) : zal [vT t] [] = rB (plainB t) := by
 rw [zal.e, zk7]
 unfold plainB
 cases h1 : inB t.mode 0 7 with
 | false => simp [zal.p2]
 | true =>
  by_cases h2 : t.names.length = t.kids.length
  · have h2' : ((t.names.length : Int) != (t.kids.length : Int)) = false := by rw [h2]; simp
    cases h3 : t.dir with
    | false =>
     simp only [Option.bind_some, List.length_map, h2', zal.p2, zal.p3, zdl]
     by_cases h4 : t.data.length ≤ 24
     · have h4' : ((t.data.length : Int) ≤ 24) := by omega
       by_cases h5 : t.names.length = 0
       · simp [h4, h4', h5, ← h2]
       · have h5' : ((t.names.length : Int) == 0) = false := by rw [beq_eq_false_iff_ne]; omega
         simp [h4, h4', h5, h5', ← h2]
     · have h4' : ¬ ((t.data.length : Int) ≤ 24) := by omega
       simp [h4, h4', ← h2]
    | true =>
     have hl := zal.l6 t (zk8 ho) 0 (by omega)
     simp only [List.drop_zero, zen, h3] at hl
     have hl : zal.L6 0 true t.mode (mkS t.data) (eSs t.names) (t.kids.map eT) = _ := hl
     simp only [List.length_map, h2', Option.bind_some, zae, List.getD_cons_zero, zm4]
     cases h6 : zcV none t.names <;> rw [h6] at hl <;> simp [zal.p2, zal.p3, hl, zal.a6q6, zal.a6x6, h2, zoz]
  · have h2' : ((t.names.length : Int) != (t.kids.length : Int)) = true := by simp [bne]; omega
    simp [h2, h2', zal.p2, zal.p3]
theorem zkl (t : Tree) : oT t → ∀ d : Int, 0 ≤ d → d ≤ 5 → zaq [vT t, vI d] [] = rB (zbl d t) := by
 induction t using Tree.ind with
 | h a b c ns ks ih =>
  intro ho d h0 h5
  rw [zaq.e, zkk _ ho, zdG]
  cases h1 : plainB ⟨a, b, c, ns, ks⟩ with
  | false => simp [zaq.p2]
  | true =>
   by_cases h2 : d ≤ 4
   · have hk := zie ho
     have hkl := hk.1
     have hl : ∀ k, k ≤ ks.length → zaq.L4 d (k : Int) a b (mkS c) (eSs ns) (ks.map eT) = some (bif (ks.drop k).all (zbl (d + 1)) then zaq.x4 else zaq.q4 false) := by
      refine up ks.length ?_ fun k hk2 ihk => ?_
      · rw [zaq.s4]; simp
      · rw [zaq.s4, zbf ks k hk2, List.all_cons]
        have hr := ih ks[k] (List.getElem_mem hk2) (sL_at hk hk2) (d + 1) (by omega) (by omega)
        simp only [Int.toNat_natCast, zgF hk2, zbY k (by simp only at hkl; omega), ihk, zc8 (d + 1) (by omega)]
        cases hp : zbl (d + 1) ks[k] <;> rw [hp] at hr <;> simp [-List.getElem_cons_drop, hk2, hr]
     have h2' : ¬ d > 4 := by omega
     have hl0 : zaq.L4 d 0 a b (mkS c) (eSs ns) (ks.map eT) = _ := hl 0 (by omega)
     simp only [List.drop_zero] at hl0
     cases hp : ks.all (zbl (d + 1)) <;> rw [hp] at hl0 <;> simp [hl0, zaq.a4q4, zaq.a4x4, h2, h2', hp, zaq.p2, zaq.p3]
   · have h2' : d > 4 := by omega
     simp [h2, h2', zaq.p2]
def sumC : List Tree → Int
 | [] => 0
 | t :: l => (cnt t : Int) + sumC l
theorem znf : ∀ l : List Tree, sumC l = (wL cnt l : Int) - l.length
 | [] => rfl
 | t :: l => by simp only [sumC, wL, List.length_cons, znf l]; omega
theorem zkm (t : Tree) : wT t ≤ 1048576 → zaK [vT t] [] = rI (cnt t) := by
 induction t using Tree.ind with
 | h a b c ns ks ih =>
  intro hw
  rw [zaK.e, zhx]
  rw [wT_eq] at hw
  simp only at hw ⊢
  have hlen := zcU wT ks
  have hl : ∀ k, k ≤ ks.length → ∀ x : Int, 0 ≤ x → x + wL wT (ks.drop k) ≤ 4194304 → zaK.L3 x (k : Int) a b (mkS c) (eSs ns) (ks.map eT) = some (zaK.x3 (x + sumC (ks.drop k))) := by
   refine up ks.length ?_ fun k hk ihk x hn1 hn2 => ?_
   · intro x _ _; rw [zaK.s3]; simp [sumC]
   · rw [zaK.s3]
     have h1 := zfn wT hk
     have h3 := wL_at wT hk
     have h4 := zjr ks[k]
     have hr := ih ks[k] (List.getElem_mem hk) (by omega)
     have e1 : IntKind.i64.wrap (x + (cnt ks[k] : Int)) = x + (cnt ks[k] : Int) := zc8 _ (by omega)
     have := ihk (x + (cnt ks[k] : Int)) (by omega) (by omega)
     have e2 : x + (cnt ks[k] : Int) + sumC (ks.drop (k + 1)) = x + sumC (ks.drop k) := by rw [zbf ks k hk]; simp only [sumC]; omega
     rw [e2] at this
     push_cast at this
     simp only [Int.toNat_natCast, zgF hk, zbY k (by omega)]
     simp [hk, hr, e1, this]
  have h0 : zaK.L3 (ks.length : Int) 0 a b (mkS c) (eSs ns) (ks.map eT) = _ := hl 0 (by omega) ks.length (by omega) (by rw [List.drop_zero]; omega)
  simp only [List.length_map]
  rw [h0, List.drop_zero, znf]
  simp only [Option.bind_some, zaK.a3x3]
  rw [show ((ks.length : Int) + ((wL cnt ks : Int) - ks.length)) = wL cnt ks from by omega]
theorem zfq (t : Tree) (ho : oT t) (hw : wT t ≤ 1048576) : zbV [vT t] [] = rB (treeB t) := by
 rw [zbV.e, zkl t ho 0 (by omega) (by omega), zkm t hw]
 unfold treeB
 have h3 : decide ((cnt t : Int) ≤ 30) = decide (cnt t ≤ 30) := decide_eq_decide.2 (by omega)
 cases h1 : t.dir <;> cases h2 : zbl 0 t <;> simp [h3]
theorem zg4 (t : Tree) : oT t → ∀ d : Int, 0 ≤ d → d ≤ 5 → zaf [vT t, vI d] [] = rB (zbl d t) := by
 induction t using Tree.ind with
 | h a b c ns ks ih =>
  intro ho d h0 h5
  rw [zaf.e, zlL, zdG]
  unfold plainB
  simp only
  cases h1 : inB b 0 7 with
  | false => simp [zaf.p2]
  | true =>
   by_cases hd : d ≤ 4
   · have hd' : ¬ d > 4 := by omega
     by_cases h2 : ns.length = ks.length
     · have h2' : ((ns.length : Int) != (ks.length : Int)) = false := by rw [h2]; simp
       cases a with
       | false =>
        simp only [Option.bind_some, List.length_map, h2', zaf.p2, zaf.p3, zdl]
        by_cases h4 : c.length ≤ 24
        · have h4' : ((c.length : Int) ≤ 24) := by omega
          by_cases h5 : ns.length = 0
          · have : ks = [] := List.eq_nil_of_length_eq_zero (by omega)
            simp [h4, h4', h5, hd, hd', this]
          · have h5' : ((ns.length : Int) == 0) = false := by rw [beq_eq_false_iff_ne]; omega
            simp [h4, h4', h5', h5, hd, hd', ← h2]
        · have h4' : ¬ ((c.length : Int) ≤ 24) := by omega
          simp [h4, h4', hd, hd', ← h2]
       | true =>
        have hk := zie ho
        have hn := zk8 ho
        have hkl := hk.1
        simp only at hkl hn
        have hl : ∀ k, k ≤ ns.length → zaf.L8 d (eSs ns) ns.length (k : Int) true b (mkS c) (eSs ns) (ks.map eT) =
         some (bif zcV (zen ns k) (ns.drop k) && (ks.drop k).all (zbl (d + 1)) then zaf.x8 else zaf.q8 false) := by
         refine up ns.length ?_ fun k hk1 ihk => ?_
         · rw [zaf.s8, show ks.drop ns.length = [] from List.drop_eq_nil_of_le (by omega)]; simp [zcV]
         · have hk2 : k < ks.length := by omega
           rw [zaf.s8, zbf ns k hk1, zbf ks k hk2, List.all_cons]
           have h := zlM ns[k] (sL_at hn hk1)
           have hr := ih ks[k] (List.getElem_mem hk2) (sL_at hk hk2) (d + 1) (by omega) (by omega)
           have ih' : zaf.L8 d (eSs ns) ns.length (IntKind.i64.wrap ((k : Int) + 1)) true b (mkS c) (eSs ns) (ks.map eT) = some (bif zcV (some ns[k]) (ns.drop (k + 1)) && (ks.drop (k + 1)).all (zbl (d + 1)) then zaf.x8 else zaf.q8 false) := by
            rw [zbY k (by omega), ihk, zeT hk1]
           simp only [Int.toNat_natCast, zdO eS ns k hk1, zgF hk2, zaf.p11, ih', zcV, zc8 (d + 1) (by omega)]
           cases hnb : nameB ns[k] with
           | false => rw [hnb] at h; simp [hk1, eS, h]
           | true =>
            rw [hnb] at h
            by_cases hk0 : k = 0
            · have e0 : decide ((k : Int) > 0) = false := by simp; omega
              have hpv0 : zen ns k = none := by rw [hk0]; rfl
              simp only [e0, hpv0]
              cases hp : zbl (d + 1) ks[k] <;> rw [hp] at hr <;> simp [-List.getElem_cons_drop, hk1, hk2, eS, h, hr]
            · obtain ⟨j, hjk⟩ : ∃ j, k = j + 1 := ⟨k - 1, by omega⟩
              have hj : j < ns.length := by omega
              have hw : IntKind.i64.wrap ((k : Int) - 1) = (j : Int) := by rw [zjf k (by omega) (by omega), hjk]; rfl
              have hpv : zen ns k = some ns[j] := by rw [hjk]; exact zeT hj
              have e1 : decide ((k : Int) > 0) = true := by simp; omega
              simp only [hw, Int.toNat_natCast, zdO eS ns j hj, hpv, e1]
              cases hb : Op.bytesLess ns[j] ns[k] with
              | false => simp [-List.getElem_cons_drop, hk1, hj, eS, h, hb]
              | true => cases hp : zbl (d + 1) ks[k] <;> rw [hp] at hr <;> simp [-List.getElem_cons_drop, hk1, hk2, hj, eS, h, hb, hr]
        have hl0 : zaf.L8 d (eSs ns) ns.length 0 true b (mkS c) (eSs ns) (ks.map eT) = _ := hl 0 (by omega)
        simp only [List.drop_zero, zen] at hl0
        have h2d : decide (ns.length = ks.length) = true := by simp [h2]
        by_cases h7 : c = []
        · subst h7
          cases h6 : zcV none ns <;> cases h8 : ks.all (zbl (d + 1)) <;> rw [h6, h8] at hl0 <;>
           simp [zaf.p2, zaf.p3, hl0, zaf.a8q8, zaf.a8x8, h2d, h2', hd, hd', h6, h8]
        · have h7' : (c == []) = false := by simpa using h7
          simp [zaf.p2, zaf.p3, h2, h2', hd, hd', h7, h7']
     · have h2' : ((ns.length : Int) != (ks.length : Int)) = true := by simp [bne]; omega
       simp [h2, h2', hd, hd', zaf.p2]
   · have hd' : d > 4 := by omega
     simp [hd, hd', zaf.p2]
theorem zg5 (t : Tree) : wT t ≤ 1048576 → zat [vT t] [] = rI ((cnt t : Int) + 1) := by
 induction t using Tree.ind with
 | h a b c ns ks ih =>
  intro hw
  rw [zat.e, zhx]
  rw [wT_eq] at hw
  simp only at hw ⊢
  have hlen := zcU wT ks
  have hl : ∀ k, k ≤ ks.length → ∀ x : Int, 0 ≤ x → x + wL wT (ks.drop k) ≤ 4194304 → zat.L3 x (ks.map eT) ks.length (k : Int) = some (zat.x3 (x + wL cnt (ks.drop k))) := by
   refine up ks.length ?_ fun k hk ihk x hn1 hn2 => ?_
   · intro x _ _; rw [zat.s3]; simp [wL]
   · rw [zat.s3]
     have h1 := zfn wT hk
     have h2 := zfn cnt hk
     have h3 := wL_at wT hk
     have h4 := zjr ks[k]
     have hr := ih ks[k] (List.getElem_mem hk) (by omega)
     have e1 : IntKind.i64.wrap (x + ((cnt ks[k] : Int) + 1)) = x + ((cnt ks[k] : Int) + 1) := zc8 _ (by omega)
     have := ihk (x + ((cnt ks[k] : Int) + 1)) (by omega) (by omega)
     have e2 : x + ((cnt ks[k] : Int) + 1) + (wL cnt (ks.drop (k + 1)) : Int) = x + wL cnt (ks.drop k) := by omega
     rw [e2] at this
     push_cast at this
     simp only [Int.toNat_natCast, zgF hk, zbY k (by omega)]
     simp [hk, hr, e1, this]
  have h0 : zat.L3 1 (ks.map eT) ks.length 0 = _ := hl 0 (by omega) 1 (by omega) (by rw [List.drop_zero]; omega)
  simp only [List.length_map]
  rw [h0, List.drop_zero]
  simp only [Option.bind_some, zat.a3x3]
  rw [Int.add_comm]
theorem zlN (t : Tree) (ho : oT t) (hw : wT t ≤ 1048576) : zcF [vT t] [] = rB (treeB t) := by
 rw [zcF.e, zg4 t ho 0 (by omega) (by omega), zg5 t hw]
 unfold treeB
 have h3 : decide ((cnt t : Int) + 1 ≤ 31) = decide (cnt t ≤ 30) := decide_eq_decide.2 (by omega)
 cases h1 : t.dir <;> cases h2 : zbl 0 t <;> simp [h3]
end Go.PVx
namespace Go.PVx
open Go.PV Go.Proofs
def zo2 (nx : Int) : List NodeOf → List NodeOf → Bool
 | _, [] => true
 | pre, x :: l => inB x.id 1 (IntKind.i64.wrap (nx - 1)) && (pathB 1 x.path && ((match pre.getLast? with | none => true | some y => lessP y.path x.path) && (pre.all (fun y => !(y.id == x.id)) && zo2 nx (pre ++ [x]) l)))
def okB (n : Nodes) : Bool := inB n.next 1 10000 && decide (n.list.length ≤ 30) && zo2 n.next [] n.list
end Go.PVx
namespace Go.PVx
open Go.PV Go.Proofs
theorem rowsLen_map {α : Type} (f : α → List D) (n : Nat) (h : ∀ x, (f x).length = n) (l : List α) : zaA n (l.map f) = true := by
 simp [zaA, h]
@[simp] theorem zlO (l : List Str) : zaA 1 (eSs l) = true := rowsLen_map eS 1 (fun _ => rfl) l
@[simp] theorem zpN (l : List (List Str)) : zaA 1 (l.map ePa) = true := rowsLen_map ePa 1 (fun _ => rfl) l
@[simp] theorem zqk (l : List NodeOf) : zaA 2 (l.map eN) = true := rowsLen_map eN 2 (fun _ => rfl) l
@[simp] theorem zkn (b : Bool) (l : List Str) : zaE b (eSs l) = true := by simp [zaE, eS, cellD, zcz]
@[simp] theorem zo3 (l : List (List Str)) : zaE true (l.map ePa) = true := by simp [zaE, ePa, cellD]
theorem zpO (l : List Str) (s : Str) : eSs l ++ [[D.v (.string (mkS s))]] = eSs (l ++ [s]) := by simp [eS]
theorem zng (p : List Str) (n : Str) (hp : p.length ≤ 4194304) : zdF [vP p, vS n] [] = rO (eSs (p ++ [n])) := by
 rw [zdF.e]
 have e1 : decide ((0 + p.length) * 17 ≤ 70368744177664) = true := by simp; omega
 have e2 : decide ((p.length + 1) * 17 ≤ 70368744177664) = true := by simp; omega
 simp only [zlO, zkn, List.length_map, e1, e2, Bool.and_self, cond_true, zpO]
theorem zcq {d : Int} {t : Tree} (h : zbl d t = true) : t.names.length = t.kids.length := by
 rw [zdG] at h
 simp only [plainB, Bool.and_eq_true, decide_eq_true_eq] at h
 exact h.1.1.1.2
theorem zcH {d : Int} {t : Tree} (h : zbl d t = true) {k : Tree} (hk : k ∈ t.kids) : zbl (d + 1) k = true := by
 rw [zdG] at h
 simp only [Bool.and_eq_true, List.all_eq_true] at h
 exact h.2 k hk
theorem zb3 {t : Tree} (h : treeB t = true) : zbl 0 t = true := by
 simp only [treeB, Bool.and_eq_true] at h; exact h.1.2
end Go.PVx
namespace Go.PVx
open Go.PV Go.Proofs
def sumW {α : Type} (w : α → Nat) : List α → Nat
 | [] => 0
 | x :: l => w x + sumW w l
theorem zo4 {l : List Str} {k : Nat} (h : k < l.length) : (eSs l).getD k [] = [.v (.string (mkS l[k]))] := by
 rw [zdO eS l k h]; rfl
theorem zgH (l : List Str) (hl : l.length ≤ 9223372036854775807) : zax [vP l, vP l] [] = rB true := by
 have key : ∀ k, k ≤ l.length → zax.L4 (eSs l) (eSs l) (k : Int) = some zax.x4 := by
  refine up l.length ?_ fun k hk ih => ?_
  · rw [zax.s4]; simp
  · rw [zax.s4]
    simp only [Int.toNat_natCast, zo4 hk, zbY k (by omega), ih]
    simp [hk]
 have h0 : zax.L4 (eSs l) (eSs l) 0 = _ := key 0 (by omega)
 rw [zax.e, h0]
 simp [zax.a4x4]
end Go.PVx
namespace Go.PVx
open Go.PV Go.Proofs
theorem zko (l : List Tree) (hl : l.length ≤ 9223372036854775807) (hX : ∀ a ∈ l, zbk [vT a, vT a] [] = rB true) : zaI [.one (.s (l.map eT)), .one (.s (l.map eT))] [] = rB true := by
 have key : ∀ k, k ≤ l.length → zaI.L4 (l.map eT) (l.map eT) (k : Int) = some zaI.x4 := by
  refine up l.length ?_ fun k hk ih => ?_
  · rw [zaI.s4]; simp
  · rw [zaI.s4]
    have h := hX l[k] (List.getElem_mem hk)
    simp only [Int.toNat_natCast, zgF hk, zbY k (by omega), ih]
    simp [hk, h]
 have h0 : zaI.L4 (l.map eT) (l.map eT) 0 = _ := key 0 (by omega)
 rw [zaI.e, h0]
 simp [zaI.a4x4]
theorem zeU (p : List Str) : p.length ≤ wP p := zcU _ p
end Go.PVx
namespace Go.PVx
open Go.PV Go.Proofs
abbrev dec (n : Nat) : Str := Lib.decDigits n
theorem znh (n : Nat) (h : n ≤ 1000000) : (dec n).length ≤ 7 := by
 unfold dec
 rw [Lib.decDigits_length]
 by_cases h0 : n = 0
 · subst h0; rw [Lib.nDigits_small (by omega)]; omega
 · have : ∀ (k m : Nat), m < 10 ^ (k + 1) → Lib.nDigits m ≤ k + 1 := by
    intro k
    induction k with
    | zero => intro m hm; rw [Lib.nDigits_small (by simpa using hm)]; omega
    | succ k ih =>
     intro m hm
     by_cases h10 : m < 10
     · rw [Lib.nDigits_small h10]; omega
     · rw [Lib.nDigits_big h10]
       have := ih (m / 10) (by rw [Nat.pow_succ] at hm; omega)
       omega
   exact this 6 n (by omega)
theorem zhy (d : Nat) (h : d < 10) : strOf [[D.v (Value.int IntKind.u8 (IntKind.u8.wrap (IntKind.i64.wrap (48 + (d : Int)))))]] = mkS [UInt8.ofNat (48 + d)] := by
 rw [zc8 _ (by omega), IntKind.wrap_u8]
 have : (48 + (d : Int)) % 256 = ((48 + d : Nat) : Int) := by omega
 rw [this]
 rfl
theorem zni : ∀ (n : Nat), n ≤ 1000000 → zcP [vI n] [] = rS (dec n) := by
 intro n
 induction n using Nat.strongRecOn with
 | _ n ih =>
  intro h
  rw [zcP.e]
  have h1 : decide ((n : Int) < -9223372036854775807) = false := decide_eq_false (by omega)
  have h2 : decide ((n : Int) < 0) = false := by simp
  rw [h1, h2]
  simp only [cond_false]
  unfold dec
  rw [Lib.decDigits]
  by_cases h10 : n < 10
  · have h3 : decide ((n : Int) < 10) = true := by simp; omega
    rw [h3, dif_pos h10, cond_true, zhy n h10]
  · have h3 : decide ((n : Int) < 10) = false := by simp; omega
    have hq : (n : Int).tdiv 10 = ((n / 10 : Nat) : Int) := by rw [Int.tdiv_eq_ediv_of_nonneg (by omega)]; omega
    have hr : (n : Int).tmod 10 = ((n % 10 : Nat) : Int) := by rw [Int.tmod_eq_emod_of_nonneg (by omega)]; omega
    have hw : IntKind.i64.wrap ((n / 10 : Nat) : Int) = ((n / 10 : Nat) : Int) := zc8 _ (by omega)
    have hi := ih (n / 10) (by omega) (by omega)
    have hl := znh (n / 10) (by omega)
    unfold dec at hi hl
    have e1 : (Lib.decDigits (n / 10)).length ≤ 70368744177663 := by omega
    rw [h3, dif_neg h10, cond_false, hq, hw, hi, hr, zhy (n % 10) (by omega)]
    simp [e1]
theorem zgI (n : Nat) (h : n ≤ 1000000) : strconv_Itoa [vI n] [] = rS (dec n) := by
 rw [strconv_Itoa.ext]
 have h1 : decide (-9223372036854775808 ≤ (n : Int)) = true := decide_eq_true (by omega)
 have h2 : decide ((n : Int) ≤ 9223372036854775807) = true := decide_eq_true (by omega)
 simp only [zgz, h1, h2, Bool.and_self, cond_true, Lib.itoa_nonneg]
 rfl
def pt (p : List Str) : Str := if p = [] then [47] else Lib.joinTail [47] p
theorem zdZ (p : List Str) : (Lib.joinTail [47] p).length = wP p := by
 unfold wP
 induction p with
 | nil => rfl
 | cons x p ih =>
  have : Lib.joinTail [47] (x :: p) = [47] ++ x ++ Lib.joinTail [47] p := by simp [Lib.joinTail]
  rw [this]
  simp only [List.length_append, List.length_cons, List.length_nil, ih, wL]
theorem zk9 (p : List Str) : (pt p).length ≤ 1 + wP p := by
 unfold pt
 split
 · simp
 · rw [zdZ]; omega
theorem zgJ : ∀ p : List Str, zew (eSs p) = some (p.map mkS)
 | [] => rfl
 | x :: p => by
  have := zgJ p
  simp only [List.map_cons, zew, this]
  rfl
theorem zgK (p : List Str) (hp : wP p ≤ 1048576) (h0 : p ≠ []) : strings_Join [vP p, vS [47]] [] = rS (Lib.join p [47]) := by
 rw [strings_Join.ext]
 have hm : (p.map mkS).map (fun x => x.data.toList) = p := by simp [List.map_map, Function.comp_def]
 have hlen : (Lib.join p [47]).length ≤ wP p := by
  cases p with
  | nil => exact absurd rfl h0
  | cons x r =>
   have hj := zdZ r
   rw [Lib.join_cons, List.length_append, hj]
   unfold wP
   simp only [wL]; omega
 have hpl := zeU p
 have e1 : decide ((p.map mkS).length ≤ 140737488355328) = true := by simp; omega
 have e2 : decide ((Lib.join p [47]).length ≤ 140737488355328) = true := by simp; omega
 have hx : joinD (p.map mkS) (mkS [47]) = mkS (Lib.join p [47]) := by
  unfold joinD
  rw [hm]
  rfl
 show zfo [.one (.s (eSs p)), .one (.v (.string (mkS [47])))] [] = _
 simp only [zfo, zgJ, e1, hm]
 have hs : (mkS [47]).data.toList = [47] := rfl
 rw [hs, e2]
 simp only [Bool.and_self, cond_true, hx]
theorem zjs (p : List Str) (hp : wP p ≤ 1048576) : zbH [vP p] [] = rS (pt p) := by
 rw [zbH.e]
 cases p with
 | nil => rfl
 | cons x r =>
  have h1 := zgK (x :: r) hp (by simp)
  have h2 : (Lib.join (x :: r) [47]).length ≤ 1048576 := by
   have hj := zdZ r
   unfold wP at hp hj
   rw [Lib.join_cons, List.length_append, hj]
   simp only [wL] at hp; omega
  have e1 : decide (1 + (Lib.join (x :: r) [47]).length ≤ 70368744177664) = true := by simp; omega
  have h3 : ((((eSs (x :: r)).length : Nat) : Int) == 0) = false := by simp; omega
  have h4 : (ByteArray.mk #[47]) = mkS [47] := rfl
  rw [h3, cond_false, h4, h1]
  have h5 : pt (x :: r) = 47 :: Lib.join (x :: r) [47] := by
   unfold pt
   rw [if_neg (by simp), Lib.join_cons]
   simp [Lib.joinTail]
  rw [h5]
  simp [e1]
end Go.PVx
namespace Go.PVx
open Go.PV Go.Proofs
def line (a : NodeOf) : Str := dec a.id.toNat ++ [32] ++ pt a.path ++ [10]
def head5 (n : Nodes) : Str := [110, 101, 120, 116, 32] ++ dec n.next.toNat ++ [10]
def znj (n : Nodes) : Str := bif okB n then head5 n ++ (n.list.map line).flatten else []
theorem zpP (a b c : Int) : inB a b c = true ↔ b ≤ a ∧ a ≤ c := by simp [inB]
end Go.PVx
namespace Go.PVx
open Go.PV Go.Proofs
def hexD : Str := [48, 49, 50, 51, 52, 53, 54, 55, 56, 57, 97, 98, 99, 100, 101, 102]
theorem znk : (ByteArray.mk #[48, 49, 50, 51, 52, 53, 54, 55, 56, 57, 97, 98, 99, 100, 101, 102]) = mkS hexD := rfl
def dig (n : Nat) : UInt8 := hexD.getD n 0
def hexB (b : UInt8) : Str := [dig (b.toNat / 16), dig (b.toNat % 16)]
def hexS (s : Str) : Str := (s.map hexB).flatten
def dataT (s : Str) : Str := if s = [] then [45] else hexS s
theorem zpQ : ∀ i : Fin 16, (hexD.take (i.val + 1)).drop i.val = [dig i.val] := by decide
theorem zo5 {i : Nat} (h : i < 16) : (hexD.take (i + 1)).drop i = [dig i] := zpQ ⟨i, h⟩
theorem zeV : ∀ s : Str, (hexS s).length = 2 * s.length
 | [] => rfl
 | b :: s => by
  have : hexS (b :: s) = hexB b ++ hexS s := by simp [hexS]
  rw [this, List.length_append, zeV s]
  simp only [hexB, List.length_cons, List.length_nil]; omega
theorem zjt (s : Str) (k : Nat) (h : k < s.length) : hexS (s.take (k + 1)) = hexS (s.take k) ++ hexB s[k] := by
 unfold hexS
 rw [zje s k h]
 simp only [List.map_append, List.flatten_append, List.map_cons, List.map_nil, List.flatten_cons, List.flatten_nil, List.append_nil]
theorem nib (b : UInt8) : (IntKind.u8.wrap ((b.toNat : Int).tdiv 16)) = ((b.toNat / 16 : Nat) : Int) ∧ IntKind.u8.wrap (((b.toNat / 16 : Nat) : Int) + 1) = ((b.toNat / 16 + 1 : Nat) : Int) ∧
 (b.toNat : Int).tmod 16 = ((b.toNat % 16 : Nat) : Int) ∧ IntKind.u8.wrap (((b.toNat % 16 : Nat) : Int) + 1) = ((b.toNat % 16 + 1 : Nat) : Int) ∧ b.toNat / 16 < 16 ∧ b.toNat % 16 < 16 := by
 have hb : b.toNat < 256 := b.toNat_lt
 refine ⟨?_, ?_, ?_, ?_, by omega, by omega⟩
 · rw [IntKind.wrap_u8, Int.tdiv_eq_ediv_of_nonneg (by omega)]; omega
 · rw [IntKind.wrap_u8]; omega
 · rw [Int.tmod_eq_emod_of_nonneg (by omega)]; omega
 · rw [IntKind.wrap_u8]; omega
theorem znl (s : Str) (hs : s.length ≤ 1048576) : zba [vS s] [] = rS (dataT s) := by
 have key : ∀ k, k ≤ s.length → zba.L3 (mkS s) (mkS (hexS (s.take k))) (k : Int) = some (zba.x3 (mkS (hexS s))) := by
  refine up s.length ?_ fun k hk ih => ?_
  · rw [zba.s3]; simp
  · obtain ⟨n1, n2, n3, n4, n5, n6⟩ := nib s[k]
    have hl := zeV (s.take k)
    rw [List.length_take] at hl
    rw [zjt s k hk] at ih
    have e0 : decide ((k : Int) < (s.length : Int)) = true := by simp; omega
    have e1 : decide ((0 : Int) ≤ (k : Int)) = true := by simp
    have e2 : decide (((s[k].toNat / 16 : Nat) : Int) ≤ ((s[k].toNat / 16 + 1 : Nat) : Int)) = true := decide_eq_true (by omega)
    have e3 : decide (((s[k].toNat / 16 + 1 : Nat) : Int) ≤ ((hexD.length : Nat) : Int)) = true := decide_eq_true (by show _ ≤ ((16 : Nat) : Int); omega)
    have e4 : decide (((s[k].toNat % 16 : Nat) : Int) ≤ ((s[k].toNat % 16 + 1 : Nat) : Int)) = true := decide_eq_true (by omega)
    have e5 : decide (((s[k].toNat % 16 + 1 : Nat) : Int) ≤ ((hexD.length : Nat) : Int)) = true := decide_eq_true (by show _ ≤ ((16 : Nat) : Int); omega)
    have e6 : decide ((hexS (s.take k)).length + 1 ≤ 70368744177664) = true := decide_eq_true (by omega)
    have e7 : decide ((hexS (s.take k)).length + 1 + 1 ≤ 70368744177664) = true := decide_eq_true (by omega)
    have hx : hexS (s.take k) ++ [dig (s[k].toNat / 16)] ++ [dig (s[k].toNat % 16)] = hexS (s.take k) ++ hexB s[k] := by simp [hexB]
    rw [zba.s3]
    simp only [Int.toNat_natCast, zdC s k hk, znk, zdl, n1, n2, n3, n4, zdN, zo5 n5, zo5 n6, zhs, List.length_append, List.length_cons, List.length_nil, Nat.zero_add, zbY k (by omega), e0, e1, e2, e3, e4, e5, e6, e7, hx, ih]
    rfl
 have h0 : zba.L3 (mkS s) (mkS (hexS (s.take 0))) 0 = _ := key 0 (by omega)
 have h1 : (ByteArray.mk #[]) = mkS (hexS (s.take 0)) := rfl
 rw [zba.e, h1, h0, Option.bind_some, zba.a3x3, zfl]
 unfold dataT
 cases s with
 | nil => rfl
 | cons b s =>
  have : hexS (b :: s) = dig (b.toNat / 16) :: dig (b.toNat % 16) :: hexS s := by simp [hexS, hexB]
  rw [this]
  rfl
def zbQ (b : UInt8) : List D := [.v (.int .u8 (b.toNat : Int))]
theorem zdR (l : Str) : strOf (l.map zbQ) = mkS l := by
 have key : ∀ (l : Str) (acc : Str), ((l.map zbQ).map fun r => (r.getD 0 .h).int).foldl (fun r n => r.push (UInt8.ofNat n.toNat)) (mkS acc) = mkS (acc ++ l) := by
  intro l
  induction l with
  | nil => intro acc; simp
  | cons b l ih =>
   intro acc
   have hp : (mkS acc).push b = mkS (acc ++ [b]) := by
    show ByteArray.mk (acc.toArray.push b) = ByteArray.mk (acc ++ [b]).toArray
    rw [List.push_toArray]
   have hb : UInt8.ofNat (b.toNat : Int).toNat = b := by simp
   simp only [List.map_cons, List.foldl_cons, zbQ, List.getD_cons_zero, int_v]
   rw [hb, hp]
   have := ih (acc ++ [b])
   simp only [zbQ, List.append_assoc, List.cons_append, List.nil_append] at this
   exact this
 exact key l []
theorem zdm (l : Str) : zeA (l.map zbQ) = true := by
 simp [zeA, zbQ]
theorem zdS (l : Str) : zaA 1 (l.map zbQ) = true := rowsLen_map zbQ 1 (fun _ => rfl) l
theorem znm (s : Str) (hs : s.length ≤ 1048576) : zbb [vS s] [] = rS (hexS s) := by
 have key : ∀ k, k ≤ s.length → zbb.L3 (mkS s) (k : Int) ((hexS (s.take k)).map zbQ) = some (zbb.x3 ((hexS s).map zbQ)) := by
  refine up s.length ?_ fun k hk ih => ?_
  · rw [zbb.s3]; simp
  · obtain ⟨n1, n2, n3, n4, n5, n6⟩ := nib s[k]
    have hl := zeV (s.take k)
    rw [List.length_take] at hl
    rw [zjt s k hk] at ih
    have e0 : decide ((k : Int) < (s.length : Int)) = true := by simp; omega
    have e1 : decide ((0 : Int) ≤ (k : Int)) = true := by simp
    have e2 : decide (((s[k].toNat / 16 : Nat) : Int) < ((hexD.length : Nat) : Int)) = true := decide_eq_true (by show _ < ((16 : Nat) : Int); omega)
    have e3 : decide (((s[k].toNat % 16 : Nat) : Int) < ((hexD.length : Nat) : Int)) = true := decide_eq_true (by show _ < ((16 : Nat) : Int); omega)
    have e6 : decide ((((hexS (s.take k)).map zbQ).length + 2) * 2 ≤ 70368744177664) = true := decide_eq_true (by rw [List.length_map]; omega)
    have hx : (hexS (s.take k)).map zbQ ++ [[D.v (Value.int IntKind.u8 ((dig (s[k].toNat / 16)).toNat : Int))], [D.v (Value.int IntKind.u8 ((dig (s[k].toNat % 16)).toNat : Int))]] = (hexS (s.take k) ++ hexB s[k]).map zbQ := by
     simp [hexB, zbQ]
    have d1 : zaS (mkS hexD) (s[k].toNat / 16) = ((dig (s[k].toNat / 16)).toNat : Int) := zfm _ _
    have d2 : zaS (mkS hexD) (s[k].toNat % 16) = ((dig (s[k].toNat % 16)).toNat : Int) := zfm _ _
    rw [zbb.s3]
    simp only [Int.toNat_natCast, zdC s k hk, znk, zdl, n1, n3, zbY k (by omega), e0, e1, e2, e3, e6, zdS, d1, d2, hx, ih]
    rfl
 have h0 : zbb.L3 (mkS s) 0 [] = _ := key 0 (by omega)
 rw [zbb.e, h0, Option.bind_some, zbb.a3x3, zdm, zdR]
 rfl
theorem zju (s : Str) (hs : s.length ≤ 1048576) : zbP [vS s] [] = rS (dataT s) := by
 rw [zbP.e, znm s hs, zfl]
 unfold dataT
 cases s with
 | nil => rfl
 | cons b s => simp
end Go.PVx
namespace Go.PVx
open Go.PV Go.Proofs
end Go.PVx
namespace Go.PVx
open Go.PV Go.Proofs
abbrev Top : Int := 1000000000000
theorem znn (n : Int) : (strOf [[D.v (Value.int IntKind.u8 n)]]).size = 1 := rfl
theorem zay.l4 : ∀ (n : Nat) (k : Int) (b : ByteArray), 0 ≤ k → k ≤ 1000000000000 → k < 10 ^ n → b.size + n ≤ 40 → ∃ b' : ByteArray, zay.L4 k b = some (zay.x4 b') ∧ b'.size ≤ 40
 | 0, k, b, h0, ht, h1, h3 => by
  have : k = 0 := by simp at h1; omega
  subst this
  refine ⟨b, ?_, by omega⟩
  rw [zay.s4]
  simp
 | n + 1, k, b, h0, ht, h1, h3 => by
  rw [zay.s4]
  by_cases hk : k > 0
  · have hd : k.tdiv 10 = k / 10 := Int.tdiv_eq_ediv_of_nonneg h0
    have hp : (10 : Int) ^ (n + 1) = 10 ^ n * 10 := Int.pow_succ _ _
    have hq : k / 10 < 10 ^ n := by omega
    have hw : IntKind.i64.wrap (k / 10) = k / 10 := zc8 _ (by omega)
    have hsz : (strOf [[D.v (Value.int IntKind.u8 (IntKind.u8.wrap (IntKind.i64.wrap (48 + k.tmod 10))))]] ++ b).size = 1 + b.size := by
     rw [ByteArray.size_append, znn]
    obtain ⟨b', h4, h5⟩ := zay.l4 n (k / 10) (strOf [[D.v (Value.int IntKind.u8 (IntKind.u8.wrap (IntKind.i64.wrap (48 + k.tmod 10))))]] ++ b) (by omega) (by omega) hq (by rw [hsz]; omega)
    refine ⟨b', ?_, h5⟩
    rw [hd, hw, h4]
    have h6 : decide (1 + b.size ≤ 70368744177664) = true := by simp; omega
    rw [h6]
    simp [hk]
  · have : k = 0 := by omega
    subst this
    exact ⟨b, by simp, by omega⟩
theorem zjv (k : Int) (h0 : 0 ≤ k) (h1 : k ≤ Top) : ∃ s : Str, zay [vI k] [] = rS s := by
 rw [zay.e]
 by_cases hk : k ≤ 0
 · exact ⟨[109, 48], by simp only [hk, decide_true, cond_true]; rfl⟩
 · have hT : Top = 1000000000000 := rfl
   obtain ⟨b', h4, h5⟩ := zay.l4 20 k { data := #[] } (by omega) (by omega) (by omega) (by decide)
   refine ⟨(ByteArray.mk #[109] ++ b').data.toList, ?_⟩
   rw [h4]
   have h6 : decide (1 + b'.size ≤ 70368744177664) = true := by simp; omega
   simp only [hk, decide_false, cond_false, Option.bind_some, zay.a4x4, h6, cond_true]
   rfl
noncomputable def mt (k : Int) : Str := by
 classical
 exact if h : ∃ s : Str, zay [vI k] [] = rS s then h.choose else []
theorem zdn (k : Int) (h0 : 0 ≤ k) (h1 : k ≤ Top) : zay [vI k] [] = rS (mt k) := by
 have h := zjv k h0 h1
 unfold mt
 rw [dif_pos h]
 exact h.choose_spec
noncomputable def mP (k : Int) : List Str → List Str
 | [] => []
 | _ :: l => mt k :: mP (k + 1) l
@[simp] theorem zo6 : ∀ (l : List Str) (k : Int), (mP k l).length = l.length
 | [], _ => rfl
 | _ :: l, k => by simp [mP, zo6 l]
theorem mP_at : ∀ (l : List Str) (k : Int) (i : Nat) (h : i < (mP k l).length), (mP k l)[i] = mt (k + i)
 | [], _, i, h => by simp [mP] at h
 | x :: l, k, 0, h => by simp [mP]
 | x :: l, k, i + 1, h => by
  simp only [mP, List.getElem_cons_succ]
  rw [mP_at l (k + 1) i (by simpa [mP] using h)]
  congr 1; push_cast; omega
abbrev gV (es : List (List D)) : PV.Obj := { kind := Kind.virt, row := [D.s es], fl := [Own.deep] }
abbrev rM (k : Int) (es : List (List D)) : Option Res := some ⟨[.v (.int .i64 k)], [gV es]⟩
theorem zd0 (l : List Str) (k : Int) (h0 : 0 ≤ k) (h1 : k + l.length ≤ Top) :
 zap [.one (.r 0 [] 0), vI k] [gV (eSs l)] = rM (k + l.length) (eSs (mP k l)) := by
 have hT : Top = 1000000000000 := rfl
 have key : ∀ j, j ≤ l.length → ∀ m : List Str, m.length = j → (zap.L2 (k + j) (j : Int) (m.map eS ++ (l.drop j).map eS)).bind zap.A2 = rM (k + l.length) (eSs (m ++ mP (k + j) (l.drop j))) := by
  refine up l.length ?_ fun j hj ih m hm => ?_
  · intro m hm
    rw [zap.s2]
    simp [hm, zap.a2x2, mP]
  · have hg := zol eS eS l m j hj hm
    have hl := zom eS eS l m j (by omega) hm
    have hs := zon eS eS l m j hj hm (mt (k + j))
    have ht := zdn (k + j) (by omega) (by omega)
    have hw : IntKind.i64.wrap (k + j + 1) = k + j + 1 := zc8 _ (by omega)
    have := ih (m ++ [mt (k + j)]) (by simp [hm])
    rw [zap.s2]
    simp only [Int.toNat_natCast, hg, hl, hw, zbY j (by omega)]
    have hs' : List.set (m.map eS ++ (l.drop j).map eS) j (D.v (Value.string (mkS (mt (k + j)))) :: List.drop 1 (eS l[j])) = _ := hs
    push_cast at this
    rw [show k + ((j : Int) + 1) = k + j + 1 from by omega] at this
    have hd : mP (k + j) (l.drop j) = mt (k + j) :: mP (k + j + 1) (l.drop (j + 1)) := by rw [zbf l j hj, mP]
    rw [hd]
    rw [show m ++ mt (k + j) :: mP (k + j + 1) (l.drop (j + 1)) = m ++ [mt (k + j)] ++ mP (k + j + 1) (l.drop (j + 1)) from by simp, ← this]
    have h2 : decide ((j : Int) < (l.length : Int)) = true := by simp; omega
    have h3 : decide ((0 : Int) ≤ (j : Int)) = true := by simp
    have h4 : (eS l[j]).length = 1 := rfl
    simp only [h2, h3, h4, ht, Option.bind_some]
    have h5 : (zae [R1.str] [TC.v (Value.string (mkS (mt (k + j))))]) = true := rfl
    simp only [h5, Bool.and_true, decide_true, Bool.and_self, cond_true, Nat.le_refl, List.getD_cons_zero, zoY, hs']
    push_cast
    rfl
 rw [zap.e]
 have := key 0 (by omega) [] rfl
 simpa using this
theorem zd1 (l : List Str) (k : Int) (h0 : 0 ≤ k) (h1 : k + l.length ≤ Top) : zam [vP (mP k l), vI k] [] = rI (k + l.length) := by
 have hT : Top = 1000000000000 := rfl
 have hlen := zo6 l k
 have key : ∀ j, j ≤ l.length → (zam.L2 (eSs (mP k l)) (k + j) (j : Int)).bind zam.A2 = rI (k + l.length) := by
  refine up l.length ?_ fun j hj ih => ?_
  · rw [zam.s2]
    simp [zam.a2x2]
  · have hj' : j < (mP k l).length := by omega
    have ht := zdn (k + j) (by omega) (by omega)
    have hw : IntKind.i64.wrap (k + j + 1) = k + j + 1 := zc8 _ (by omega)
    push_cast at ih
    rw [show k + ((j : Int) + 1) = k + j + 1 from by omega] at ih
    rw [zam.s2]
    simp only [Int.toNat_natCast, zo4 hj', mP_at l k j hj', zbY j (by omega), hw, ht, Option.bind_some]
    rw [← ih]
    simp [hj]
 rw [zam.e]
 have := key 0 (by omega)
 simpa using this
end Go.PVx
namespace Go.PVx
open Go.PV Go.Proofs
def cN (a : NodeOf) : Nat := 1 + a.path.length
noncomputable def mN (k : Int) (a : NodeOf) : NodeOf := ⟨k, mP (k + 1) a.path⟩
noncomputable def mNs (k : Int) : List NodeOf → List NodeOf
 | [] => []
 | a :: l => mN k a :: mNs (k + cN a) l
@[simp] theorem zpR : ∀ (l : List NodeOf) (k : Int), (mNs k l).length = l.length
 | [], _ => rfl
 | _ :: l, k => by simp [mNs, zpR l]
theorem eN_len (a : NodeOf) : (eN a).length = 2 := rfl
end Go.PVx
