/- A part of the proof: PvU1, PvU2, PvU3, PvU4, PvL0, PvL1, PvV1, PvV2, PvV3, PvV4, PvM1, PvM2. -/
import Derived.Test.YtkaclcgkndbppaaGreatDoorRes
import Derived.Test.YtkaclcgkndbppaaGreatDoorTy
import Derived.Test.YtkaclcgkndbppaaGreatDoorExt
set_option linter.unusedSimpArgs false
set_option linter.unusedVariables false
namespace Go.PVx
open Go.PV Go.Proofs
def inB (a b c : Int) : Bool := decide (b ≤ a) && decide (a ≤ c)
theorem zkQ (a b c : Int) : sl1In [vI a, vI b, vI c] [] = rB (inB a b c) := by
 rw [sl1In.e]; unfold inB; by_cases h : b ≤ a <;> simp [h]
theorem zhq (a b c : Int) : zcE [vI a, vI b, vI c] [] = rB (inB a b c) := by
 rw [zcE.e]; unfold inB; by_cases h : b ≤ a <;> simp [h]
theorem zlo (a : Int) : zc2 [vI a] [] = rB (inB a 0 7) := by
 rw [zc2.e, zhq]; simp
def okc (b : UInt8) : Bool := (decide (97 ≤ (b.toNat : Int)) && decide ((b.toNat : Int) ≤ 122)) || (decide (48 ≤ (b.toNat : Int)) && decide ((b.toNat : Int) ≤ 57))
def nameB (s : Str) : Bool := s.all okc && inB s.length 1 5
theorem zam.l2 (s : Str) (hs : sS s) : ∀ k, k ≤ s.length → zam.L2 (mkS s) (k : Int) = some (bif (s.drop k).all okc then zam.x2 (mkS s) else zam.q2 (mkS s) false) := by
 unfold sS at hs
 refine up s.length ?_ fun k hk ih => ?_
 · rw [zam.s2]; simp
 · rw [zam.s2, zbe s k hk, List.all_cons]
   simp only [Int.toNat_natCast, zd3 s k hk, zam.p5, zbk k (by omega), ih, okc]
   by_cases h1 : 97 ≤ (s[k].toNat : Int) <;> by_cases h2 : (s[k].toNat : Int) ≤ 122 <;> by_cases h3 : 48 ≤ (s[k].toNat : Int) <;> by_cases h4 : (s[k].toNat : Int) ≤ 57 <;> simp [h1, h2, h3, h4, hk]
theorem zjb (s : Str) (hs : sS s) : zam [vS s] [] = rB (nameB s) := by
 have h := zam.l2 s hs 0 (by omega)
 rw [zam.e, show (0 : Int) = ((0 : Nat) : Int) from rfl, h]
 unfold nameB
 cases h : s.all okc <;> simp [h, zam.a2q2, zam.a2x2, zkQ]
theorem zaP.l2 (s : Str) (hs : sS s) : ∀ k, k ≤ s.length → zaP.L2 (mkS s) s.length (k : Int) = some (bif (s.drop k).all okc then zaP.x2 (mkS s) else zaP.q2 (mkS s) false) := by
 unfold sS at hs
 refine up s.length ?_ fun k hk ih => ?_
 · rw [zaP.s2]; simp
 · rw [zaP.s2, zbe s k hk, List.all_cons]
   simp only [Int.toNat_natCast, zd3 s k hk, zaP.p5, zbk k (by omega), ih, okc]
   have e1 : decide ((s[k].toNat : Int) < 97) = !decide (97 ≤ (s[k].toNat : Int)) := by by_cases h : 97 ≤ (s[k].toNat : Int) <;> simp [h] <;> omega
   have e2 : decide ((s[k].toNat : Int) > 122) = !decide ((s[k].toNat : Int) ≤ 122) := by by_cases h : (s[k].toNat : Int) ≤ 122 <;> simp [h] <;> omega
   have e3 : decide ((s[k].toNat : Int) < 48) = !decide (48 ≤ (s[k].toNat : Int)) := by by_cases h : 48 ≤ (s[k].toNat : Int) <;> simp [h] <;> omega
   have e4 : decide ((s[k].toNat : Int) > 57) = !decide ((s[k].toNat : Int) ≤ 57) := by by_cases h : (s[k].toNat : Int) ≤ 57 <;> simp [h] <;> omega
   simp only [e1, e2, e3, e4]
   cases decide (97 ≤ (s[k].toNat : Int)) <;> cases decide ((s[k].toNat : Int) ≤ 122) <;> cases decide (48 ≤ (s[k].toNat : Int)) <;> cases decide ((s[k].toNat : Int) ≤ 57) <;> simp [hk]
theorem zlp (s : Str) (hs : sS s) : zaP [vS s] [] = rB (nameB s) := by
 have h := zaP.l2 s hs 0 (by omega)
 rw [zaP.e, zdW, show (0 : Int) = ((0 : Nat) : Int) from rfl, h]
 unfold nameB
 cases h : s.all okc <;> simp [h, zaP.a2q2, zaP.a2x2, zhq]
def pathB (least : Int) (p : List Str) : Bool := p.all nameB && inB p.length least 4
def lessP : List Str → List Str → Bool
 | _, [] => false
 | [], _ :: _ => true
 | x :: a, y :: b => bif x == y then lessP a b else Op.bytesLess x y
end Go.PVx
namespace Go.PVx
open Go.PV Go.Proofs
theorem zdC {ks : List Tree} {k : Nat} (h : k < ks.length) :
 (ks.map eT).getD k [] = [.v (.bool ks[k].dir), .v (.int .i64 ks[k].mode), .v (.string (mkS ks[k].data)), .s (eSs ks[k].names), .s (ks[k].kids.map eT)] := by
 rw [zcb eT ks k h, eT_eq]
theorem zoW {t : Tree} (h : oT t) : sS t.data := ((oT_eq t).1 h).1
theorem zhX {t : Tree} (h : oT t) : oP t.names := ((oT_eq t).1 h).2.1
theorem zd6 {t : Tree} (h : oT t) : sL oT t.kids := ((oT_eq t).1 h).2.2
def zdf : Option Str → List Str → Bool
 | _, [] => true
 | p, x :: l => nameB x && (match p with | none => true | some y => Op.bytesLess y x) && zdf (some x) l
def zeo (l : List Str) : Nat → Option Str
 | 0 => none
 | k + 1 => l[k]?
def plainB (t : Tree) : Bool := inB t.mode 0 7 && decide (t.names.length = t.kids.length) && (bif t.dir then zdf none t.names && decide (t.data = []) else decide (t.data.length ≤ 24) && decide (t.names.length = 0))
mutual
def zbh : Int → Tree → Bool
 | d, ⟨a, b, c, e, ks⟩ => plainB ⟨a, b, c, e, ks⟩ && decide (d ≤ 4) && zhY (d + 1) ks
def zhY : Int → List Tree → Bool
 | _, [] => true
 | d, t :: ts => zbh d t && zhY d ts
end
theorem zgy (d : Int) : ∀ l : List Tree, zhY d l = l.all (zbh d)
 | [] => rfl
 | t :: ts => by rw [zhY, zgy d ts]; rfl
theorem zdP (d : Int) (t : Tree) : zbh d t = (plainB t && decide (d ≤ 4) && t.kids.all (zbh (d + 1))) := by
 obtain ⟨a, b, c, e, ks⟩ := t
 rw [zbh, zgy]
mutual
def cnt : Tree → Nat
 | ⟨_, _, _, _, ks⟩ => cnts ks
def cnts : List Tree → Nat
 | [] => 0
 | t :: ts => 1 + cnt t + cnts ts
end
theorem zmQ : ∀ l : List Tree, cnts l = wL cnt l
 | [] => rfl
 | t :: ts => by rw [cnts, zmQ ts]; rfl
theorem zgz (t : Tree) : cnt t = wL cnt t.kids := by
 obtain ⟨a, b, c, e, ks⟩ := t
 rw [cnt, zmQ]
theorem wL_le {α : Type} (v w : α → Nat) : ∀ l : List α, (∀ x ∈ l, v x ≤ w x) → wL v l ≤ wL w l
 | [], _ => Nat.le_refl _
 | x :: l, h => by
  have h1 := h x (by simp)
  have h2 := wL_le v w l fun y hy => h y (List.mem_cons_of_mem _ hy)
  simp only [wL]; omega
theorem zep (t : Tree) : cnt t ≤ wT t := by
 induction t using Tree.ind with
 | h d m s ns ks ih =>
  rw [zgz, wT_eq]
  have := wL_le cnt wT ks ih
  simp only at this ⊢
  omega
def treeB (t : Tree) : Bool := t.dir && zbh 0 t && decide (cnt t ≤ 30)
theorem zn4 (s : Str) : s.isEmpty = decide (s = []) := by cases s <;> rfl
theorem zeU {l : List Str} {k : Nat} (h : k < l.length) : zeo l (k + 1) = some l[k] := by simp [zeo, h]
theorem zai.l6 (t : Tree) (hn : oP t.names) : ∀ k, k ≤ t.names.length → zai.L6 (k : Int) t.dir t.mode (mkS t.data) (eSs t.names) (t.kids.map eT) =
 some (bif zdf (zeo t.names k) (t.names.drop k) then zai.x6 t.dir t.mode (mkS t.data) (eSs t.names) (t.kids.map eT) else zai.q6 false t.dir t.mode (mkS t.data) (eSs t.names) (t.kids.map eT)) := by
 have hl := hn.1
 refine up t.names.length ?_ fun k hk ih => ?_
 · rw [zai.s6]; simp [zdf]
 · rw [zai.s6, zbe t.names k hk]
   have h := zjb t.names[k] (sL_at hn hk)
   have ih' : zai.L6 (IntKind.i64.wrap ((k : Int) + 1)) t.dir t.mode (mkS t.data) (eSs t.names) (t.kids.map eT) = some (bif zdf (some t.names[k]) (t.names.drop (k + 1)) then zai.x6 t.dir t.mode (mkS t.data) (eSs t.names) (t.kids.map eT) else zai.q6 false t.dir t.mode (mkS t.data) (eSs t.names) (t.kids.map eT)) := by
    rw [zbk k (by omega), ih, zeU hk]
   simp only [Int.toNat_natCast, zcb eS t.names k hk, zai.p9, ih', zdf]
   cases hnb : nameB t.names[k] with
   | false => rw [hnb] at h; simp [hk, eS, h]
   | true =>
    rw [hnb] at h
    by_cases hk0 : k = 0
    · have e0 : decide ((k : Int) > 0) = false := by simp; omega
      have hpv0 : zeo t.names k = none := by rw [hk0]; rfl
      simp only [e0, hpv0]
      simp [-List.getElem_cons_drop, hk, eS, h]
    · obtain ⟨j, hjk⟩ : ∃ j, k = j + 1 := ⟨k - 1, by omega⟩
      have hj : j < t.names.length := by omega
      have hw : IntKind.i64.wrap ((k : Int) - 1) = (j : Int) := by rw [zi1 k (by omega) (by omega), hjk]; rfl
      have hpv : zeo t.names k = some t.names[j] := by rw [hjk]; exact zeU hj
      have e1 : decide ((k : Int) > 0) = true := by simp; omega
      simp only [hw, Int.toNat_natCast, zcb eS t.names j hj, hpv, e1]
      cases hb : Op.bytesLess t.names[j] t.names[k] <;> simp [-List.getElem_cons_drop, hk, hj, eS, h, hb]
theorem zj1 (t : Tree) (ho : oT t) : zai [vT t] [] = rB (plainB t) := by
 rw [zai.e, zkQ]
 unfold plainB
 cases h1 : inB t.mode 0 7 with
 | false => simp [zai.p2]
 | true =>
  by_cases h2 : t.names.length = t.kids.length
  · have h2' : ((t.names.length : Int) != (t.kids.length : Int)) = false := by rw [h2]; simp
    cases h3 : t.dir with
    | false =>
     simp only [Option.bind_some, List.length_map, h2', zai.p2, zai.p3, zdW]
     by_cases h4 : t.data.length ≤ 24
     · have h4' : ((t.data.length : Int) ≤ 24) := by omega
       by_cases h5 : t.names.length = 0
       · simp [h4, h4', h5, ← h2]
       · have h5' : ((t.names.length : Int) == 0) = false := by rw [beq_eq_false_iff_ne]; omega
         simp [h4, h4', h5, h5', ← h2]
     · have h4' : ¬ ((t.data.length : Int) ≤ 24) := by omega
       simp [h4, h4', ← h2]
    | true =>
     have hl := zai.l6 t (zhX ho) 0 (by omega)
     simp only [List.drop_zero, zeo, h3] at hl
     have hl : zai.L6 0 true t.mode (mkS t.data) (eSs t.names) (t.kids.map eT) = _ := hl
     simp only [List.length_map, h2', Option.bind_some, zaa, List.getD_cons_zero, zjX]
     cases h6 : zdf none t.names <;> rw [h6] at hl <;> simp [zai.p2, zai.p3, hl, zai.a6q6, zai.a6x6, h2, zn4]
  · have h2' : ((t.names.length : Int) != (t.kids.length : Int)) = true := by simp [bne]; omega
    simp [h2, h2', zai.p2, zai.p3]
theorem zj2 (t : Tree) : oT t → ∀ d : Int, 0 ≤ d → d ≤ 5 → zau [vT t, vI d] [] = rB (zbh d t) := by
 induction t using Tree.ind with
 | h a b c ns ks ih =>
  intro ho d h0 h5
  rw [zau.e, zj1 _ ho, zdP]
  cases h1 : plainB ⟨a, b, c, ns, ks⟩ with
  | false => simp [zau.p2]
  | true =>
   by_cases h2 : d ≤ 4
   · have hk := zd6 ho
     have hkl := hk.1
     have hl : ∀ k, k ≤ ks.length → zau.L4 d (k : Int) a b (mkS c) (eSs ns) (ks.map eT) = some (bif (ks.drop k).all (zbh (d + 1)) then zau.x4 else zau.q4 false) := by
      refine up ks.length ?_ fun k hk2 ihk => ?_
      · rw [zau.s4]; simp
      · rw [zau.s4, zbe ks k hk2, List.all_cons]
        have hr := ih ks[k] (List.getElem_mem hk2) (sL_at hk hk2) (d + 1) (by omega) (by omega)
        simp only [Int.toNat_natCast, zdC hk2, zbk k (by simp only at hkl; omega), ihk, zcD (d + 1) (by omega)]
        cases hp : zbh (d + 1) ks[k] <;> rw [hp] at hr <;> simp [-List.getElem_cons_drop, hk2, hr]
     have h2' : ¬ d > 4 := by omega
     have hl0 : zau.L4 d 0 a b (mkS c) (eSs ns) (ks.map eT) = _ := hl 0 (by omega)
     simp only [List.drop_zero] at hl0
     cases hp : ks.all (zbh (d + 1)) <;> rw [hp] at hl0 <;> simp [hl0, zau.a4q4, zau.a4x4, h2, h2', hp, zau.p2, zau.p3]
   · have h2' : d > 4 := by omega
     simp [h2, h2', zau.p2]
def sumC : List Tree → Int
 | [] => 0
 | t :: l => (cnt t : Int) + sumC l
theorem zmR : ∀ l : List Tree, sumC l = (wL cnt l : Int) - l.length
 | [] => rfl
 | t :: l => by simp only [sumC, wL, List.length_cons, zmR l]; omega
theorem zj3 (t : Tree) : wT t ≤ 1048576 → za2 [vT t] [] = rI (cnt t) := by
 induction t using Tree.ind with
 | h a b c ns ks ih =>
  intro hw
  rw [za2.e, zgz]
  rw [wT_eq] at hw
  simp only at hw ⊢
  have hlen := zcV wT ks
  have hl : ∀ k, k ≤ ks.length → ∀ x : Int, 0 ≤ x → x + wL wT (ks.drop k) ≤ 4194304 → za2.L3 x (k : Int) a b (mkS c) (eSs ns) (ks.map eT) = some (za2.x3 (x + sumC (ks.drop k))) := by
   refine up ks.length ?_ fun k hk ihk x hn1 hn2 => ?_
   · intro x _ _; rw [za2.s3]; simp [sumC]
   · rw [za2.s3]
     have h1 := zhS wT hk
     have h3 := wL_at wT hk
     have h4 := zep ks[k]
     have hr := ih ks[k] (List.getElem_mem hk) (by omega)
     have e1 : IntKind.i64.wrap (x + (cnt ks[k] : Int)) = x + (cnt ks[k] : Int) := zcD _ (by omega)
     have := ihk (x + (cnt ks[k] : Int)) (by omega) (by omega)
     have e2 : x + (cnt ks[k] : Int) + sumC (ks.drop (k + 1)) = x + sumC (ks.drop k) := by rw [zbe ks k hk]; simp only [sumC]; omega
     rw [e2] at this
     push_cast at this
     simp only [Int.toNat_natCast, zdC hk, zbk k (by omega)]
     simp [hk, hr, e1, this]
  have h0 : za2.L3 (ks.length : Int) 0 a b (mkS c) (eSs ns) (ks.map eT) = _ := hl 0 (by omega) ks.length (by omega) (by rw [List.drop_zero]; omega)
  simp only [List.length_map]
  rw [h0, List.drop_zero, zmR]
  simp only [Option.bind_some, za2.a3x3]
  rw [show ((ks.length : Int) + ((wL cnt ks : Int) - ks.length)) = wL cnt ks from by omega]
theorem zfn (t : Tree) (ho : oT t) (hw : wT t ≤ 1048576) : zcl [vT t] [] = rB (treeB t) := by
 rw [zcl.e, zj2 t ho 0 (by omega) (by omega), zj3 t hw]
 unfold treeB
 have h3 : decide ((cnt t : Int) ≤ 30) = decide (cnt t ≤ 30) := decide_eq_decide.2 (by omega)
 cases h1 : t.dir <;> cases h2 : zbh 0 t <;> simp [h3]
theorem zgV (t : Tree) : oT t → ∀ d : Int, 0 ≤ d → d ≤ 5 → zac [vT t, vI d] [] = rB (zbh d t) := by
 induction t using Tree.ind with
 | h a b c ns ks ih =>
  intro ho d h0 h5
  rw [zac.e, zlo, zdP]
  unfold plainB
  simp only
  cases h1 : inB b 0 7 with
  | false => simp [zac.p2]
  | true =>
   by_cases hd : d ≤ 4
   · have hd' : ¬ d > 4 := by omega
     by_cases h2 : ns.length = ks.length
     · have h2' : ((ns.length : Int) != (ks.length : Int)) = false := by rw [h2]; simp
       cases a with
       | false =>
        simp only [Option.bind_some, List.length_map, h2', zac.p2, zac.p3, zdW]
        by_cases h4 : c.length ≤ 24
        · have h4' : ((c.length : Int) ≤ 24) := by omega
          by_cases h5 : ns.length = 0
          · have : ks = [] := List.eq_nil_of_length_eq_zero (by omega)
            simp [h4, h4', h5, hd, hd', this]
          · have h5' : ((ns.length : Int) == 0) = false := by rw [beq_eq_false_iff_ne]; omega
            simp [h4, h4', h5', h5, hd, hd', ← h2]
        · have h4' : ¬ ((c.length : Int) ≤ 24) := by omega
          simp [h4, h4', hd, hd', ← h2]
       | true =>
        have hk := zd6 ho
        have hn := zhX ho
        have hkl := hk.1
        simp only at hkl hn
        have hl : ∀ k, k ≤ ns.length → zac.L8 d (eSs ns) ns.length (k : Int) true b (mkS c) (eSs ns) (ks.map eT) =
         some (bif zdf (zeo ns k) (ns.drop k) && (ks.drop k).all (zbh (d + 1)) then zac.x8 else zac.q8 false) := by
         refine up ns.length ?_ fun k hk1 ihk => ?_
         · rw [zac.s8, show ks.drop ns.length = [] from List.drop_eq_nil_of_le (by omega)]; simp [zdf]
         · have hk2 : k < ks.length := by omega
           rw [zac.s8, zbe ns k hk1, zbe ks k hk2, List.all_cons]
           have h := zlp ns[k] (sL_at hn hk1)
           have hr := ih ks[k] (List.getElem_mem hk2) (sL_at hk hk2) (d + 1) (by omega) (by omega)
           have ih' : zac.L8 d (eSs ns) ns.length (IntKind.i64.wrap ((k : Int) + 1)) true b (mkS c) (eSs ns) (ks.map eT) = some (bif zdf (some ns[k]) (ns.drop (k + 1)) && (ks.drop (k + 1)).all (zbh (d + 1)) then zac.x8 else zac.q8 false) := by
            rw [zbk k (by omega), ihk, zeU hk1]
           simp only [Int.toNat_natCast, zcb eS ns k hk1, zdC hk2, zac.p11, ih', zdf, zcD (d + 1) (by omega)]
           cases hnb : nameB ns[k] with
           | false => rw [hnb] at h; simp [hk1, eS, h]
           | true =>
            rw [hnb] at h
            by_cases hk0 : k = 0
            · have e0 : decide ((k : Int) > 0) = false := by simp; omega
              have hpv0 : zeo ns k = none := by rw [hk0]; rfl
              simp only [e0, hpv0]
              cases hp : zbh (d + 1) ks[k] <;> rw [hp] at hr <;> simp [-List.getElem_cons_drop, hk1, hk2, eS, h, hr]
            · obtain ⟨j, hjk⟩ : ∃ j, k = j + 1 := ⟨k - 1, by omega⟩
              have hj : j < ns.length := by omega
              have hw : IntKind.i64.wrap ((k : Int) - 1) = (j : Int) := by rw [zi1 k (by omega) (by omega), hjk]; rfl
              have hpv : zeo ns k = some ns[j] := by rw [hjk]; exact zeU hj
              have e1 : decide ((k : Int) > 0) = true := by simp; omega
              simp only [hw, Int.toNat_natCast, zcb eS ns j hj, hpv, e1]
              cases hb : Op.bytesLess ns[j] ns[k] with
              | false => simp [-List.getElem_cons_drop, hk1, hj, eS, h, hb]
              | true => cases hp : zbh (d + 1) ks[k] <;> rw [hp] at hr <;> simp [-List.getElem_cons_drop, hk1, hk2, hj, eS, h, hb, hr]
        have hl0 : zac.L8 d (eSs ns) ns.length 0 true b (mkS c) (eSs ns) (ks.map eT) = _ := hl 0 (by omega)
        simp only [List.drop_zero, zeo] at hl0
        have h2d : decide (ns.length = ks.length) = true := by simp [h2]
        by_cases h7 : c = []
        · subst h7
          cases h6 : zdf none ns <;> cases h8 : ks.all (zbh (d + 1)) <;> rw [h6, h8] at hl0 <;>
           simp [zac.p2, zac.p3, hl0, zac.a8q8, zac.a8x8, h2d, h2', hd, hd', h6, h8]
        · have h7' : (c == []) = false := by simpa using h7
          simp [zac.p2, zac.p3, h2, h2', hd, hd', h7, h7']
     · have h2' : ((ns.length : Int) != (ks.length : Int)) = true := by simp [bne]; omega
       simp [h2, h2', hd, hd', zac.p2]
   · have hd' : d > 4 := by omega
     simp [hd, hd', zac.p2]
theorem zgW (t : Tree) : wT t ≤ 1048576 → zaz [vT t] [] = rI ((cnt t : Int) + 1) := by
 induction t using Tree.ind with
 | h a b c ns ks ih =>
  intro hw
  rw [zaz.e, zgz]
  rw [wT_eq] at hw
  simp only at hw ⊢
  have hlen := zcV wT ks
  have hl : ∀ k, k ≤ ks.length → ∀ x : Int, 0 ≤ x → x + wL wT (ks.drop k) ≤ 4194304 → zaz.L3 x (ks.map eT) ks.length (k : Int) = some (zaz.x3 (x + wL cnt (ks.drop k))) := by
   refine up ks.length ?_ fun k hk ihk x hn1 hn2 => ?_
   · intro x _ _; rw [zaz.s3]; simp [wL]
   · rw [zaz.s3]
     have h1 := zhS wT hk
     have h2 := zhS cnt hk
     have h3 := wL_at wT hk
     have h4 := zep ks[k]
     have hr := ih ks[k] (List.getElem_mem hk) (by omega)
     have e1 : IntKind.i64.wrap (x + ((cnt ks[k] : Int) + 1)) = x + ((cnt ks[k] : Int) + 1) := zcD _ (by omega)
     have := ihk (x + ((cnt ks[k] : Int) + 1)) (by omega) (by omega)
     have e2 : x + ((cnt ks[k] : Int) + 1) + (wL cnt (ks.drop (k + 1)) : Int) = x + wL cnt (ks.drop k) := by omega
     rw [e2] at this
     push_cast at this
     simp only [Int.toNat_natCast, zdC hk, zbk k (by omega)]
     simp [hk, hr, e1, this]
  have h0 : zaz.L3 1 (ks.map eT) ks.length 0 = _ := hl 0 (by omega) 1 (by omega) (by rw [List.drop_zero]; omega)
  simp only [List.length_map]
  rw [h0, List.drop_zero]
  simp only [Option.bind_some, zaz.a3x3]
  rw [Int.add_comm]
theorem zhr (t : Tree) (ho : oT t) (hw : wT t ≤ 1048576) : zcF [vT t] [] = rB (treeB t) := by
 rw [zcF.e, zgV t ho 0 (by omega) (by omega), zgW t hw]
 unfold treeB
 have h3 : decide ((cnt t : Int) + 1 ≤ 31) = decide (cnt t ≤ 30) := decide_eq_decide.2 (by omega)
 cases h1 : t.dir <;> cases h2 : zbh 0 t <;> simp [h3]
end Go.PVx
namespace Go.PVx
open Go.PV Go.Proofs
theorem zoX {l : List NodeOf} {k : Nat} (h : k < l.length) : (l.map eN).getD k [] = [.v (.int .i64 l[k].id), .s (eSs l[k].path)] := by
 rw [zcb eN l k h]; rfl
def zoj (nx : Int) : List NodeOf → List NodeOf → Bool
 | _, [] => true
 | pre, x :: l => inB x.id 1 (IntKind.i64.wrap (nx - 1)) && (pathB 1 x.path && ((match pre.getLast? with | none => true | some y => lessP y.path x.path) && (pre.all (fun y => !(y.id == x.id)) && zoj nx (pre ++ [x]) l)))
def okB (n : Nodes) : Bool := inB n.next 1 10000 && decide (n.list.length ≤ 30) && zoj n.next [] n.list
end Go.PVx
namespace Go.PVx
open Go.PV Go.Proofs
theorem rowsLen_map {α : Type} (f : α → List D) (n : Nat) (h : ∀ x, (f x).length = n) (l : List α) : zaF n (l.map f) = true := by
 simp [zaF, h]
@[simp] theorem zfo (l : List Str) : zaF 1 (eSs l) = true := rowsLen_map eS 1 (fun _ => rfl) l
@[simp] theorem zgA (l : List (List Str)) : zaF 1 (l.map ePa) = true := rowsLen_map ePa 1 (fun _ => rfl) l
@[simp] theorem zpc (l : List NodeOf) : zaF 2 (l.map eN) = true := rowsLen_map eN 2 (fun _ => rfl) l
@[simp] theorem zez (b : Bool) (l : List Str) : zaT b (eSs l) = true := by simp [zaT, eS, cellD, zcT]
@[simp] theorem zjc (l : List (List Str)) : zaT true (l.map ePa) = true := by simp [zaT, ePa, cellD]
theorem zmS (l : List Str) (s : Str) : eSs l ++ [[D.v (.string (mkS s))]] = eSs (l ++ [s]) := by simp [eS]
theorem zkR (l : List (List Str)) (p : List Str) : l.map ePa ++ [[D.s (eSs p)]] = (l ++ [p]).map ePa := by simp [ePa]
theorem zhs (p : List Str) (n : Str) (hp : p.length ≤ 4194304) : zcm [vP p, vS n] [] = rSh (eSs (p ++ [n])) := by
 rw [zcm.e]
 have e1 : decide ((0 + p.length) * 17 ≤ 70368744177664) = true := by simp; omega
 have e2 : decide ((p.length + 1) * 17 ≤ 70368744177664) = true := by simp; omega
 simp only [zfo, zez, List.length_map, e1, e2, Bool.and_self, cond_true, zmS]
theorem zeV (p : List Str) (n : Str) (hp : p.length ≤ 4194304) : zcW [vP p, vS n] [] = rO (eSs (p ++ [n])) := by
 rw [zcW.e]
 have e1 : decide ((0 + p.length) * 17 ≤ 70368744177664) = true := by simp; omega
 have e2 : decide ((p.length + 1) * 17 ≤ 70368744177664) = true := by simp; omega
 simp only [zfo, zez, List.length_map, e1, e2, Bool.and_self, cond_true, zmS]
mutual
def zbX (p : List Str) : Tree → List (List Str)
 | ⟨_, _, _, ns, ks⟩ => zb7 p ns ks
def zb7 (p : List Str) : List Str → List Tree → List (List Str)
 | n :: ns, k :: ks => (p ++ [n]) :: (zbX (p ++ [n]) k ++ zb7 p ns ks)
 | [], _ => []
 | _ :: _, [] => []
end
theorem zdq (p : List Str) (t : Tree) : zbX p t = zb7 p t.names t.kids := by
 obtain ⟨a, b, c, ns, ks⟩ := t
 rw [zbX]
theorem zbB {d : Int} {t : Tree} (h : zbh d t = true) : t.names.length = t.kids.length := by
 rw [zdP] at h
 simp only [plainB, Bool.and_eq_true, decide_eq_true_eq] at h
 exact h.1.1.1.2
theorem zbR {d : Int} {t : Tree} (h : zbh d t = true) {k : Tree} (hk : k ∈ t.kids) : zbh (d + 1) k = true := by
 rw [zdP] at h
 simp only [Bool.and_eq_true, List.all_eq_true] at h
 exact h.2 k hk
theorem zeA (p : List Str) {ns : List Str} {ks : List Tree} {k : Nat} (h1 : k < ns.length) (h2 : k < ks.length) :
 zb7 p (ns.drop k) (ks.drop k) = (p ++ [ns[k]]) :: (zbX (p ++ [ns[k]]) ks[k] ++ zb7 p (ns.drop (k + 1)) (ks.drop (k + 1))) := by
 rw [zbe ns k h1, zbe ks k h2, zb7]
theorem zfp (p : List Str) (ns : List Str) (ks : List Tree) (h : ns.length ≤ 0) : zb7 p ns ks = [] := by
 cases ns with
 | nil => rw [zb7]
 | cons => simp at h
theorem zcJ (t : Tree) : ∀ (p : List Str) (d : Int), zbh d t = true → (zbX p t).length = cnt t := by
 induction t using Tree.ind with
 | h a b c ns ks ih =>
  intro p d hp
  have hn := zbB hp
  have hk := fun k (h : k ∈ ks) => zbR hp (k := k) h
  simp only at hn
  rw [zdq, zgz]
  simp only
  clear hp
  induction ks generalizing ns with
  | nil =>
   have : ns = [] := List.eq_nil_of_length_eq_zero hn
   subst this
   simp [zb7, wL]
  | cons k ks ihk =>
   cases ns with
   | nil => simp at hn
   | cons n ns =>
    rw [zb7, List.length_cons, List.length_append, ih k (by simp) _ (d + 1) (hk k (by simp)), ihk ns (fun k h => ih k (List.mem_cons_of_mem _ h)) (by simpa using hn) (fun k h => hk k (List.mem_cons_of_mem _ h)), wL]
    omega
theorem zaj.l3_b (p : List (List D)) (k : Int) (a : Bool) (b : Int) (c : ByteArray) (ns ks acc : List (List D)) :
 (zaj.L3 p k a b c ns ks acc).bind zaj.A3 = (zaj.L3b p k a b c ns ks acc).bind zaj.A3 := by
 rw [zaj.s3, zaj.s3b]
 cases decide (k < (ns.length : Int)) <;> simp only [cond_true, cond_false, Option.bind_some, zaj.a3x3, zaj.a3x3b]
theorem zjd (t : Tree) : ∀ (p : List Str) (d : Int), zbh d t = true → oT t → wT t ≤ 1048576 → p.length + wT t ≤ 2097152 → zaj [vP p, vT t] [] = rSh ((zbX p t).map ePa) := by
 induction t using Tree.ind with
 | h a b c ns ks ih =>
  intro p d hp ho hw hpw
  have hn := zbB hp
  have hk := fun k (h : k ∈ ks) => zbR hp (k := k) h
  have hok := zd6 ho
  have hlen := (zcJ _ p d hp)
  have hcnt := zep ⟨a, b, c, ns, ks⟩
  simp only at hn hok
  have hkl := hok.1
  rw [zdq] at hlen
  rw [zaj.e, zdq]
  simp only at hlen ⊢
  have hw2 := hw
  rw [wT_eq] at hw2 hpw
  simp only at hw2 hpw
  have hl : ∀ k, k ≤ ns.length → ∀ acc : List (List Str), acc.length + (zb7 p (ns.drop k) (ks.drop k)).length ≤ 4194304 →
   (zaj.L3b (eSs p) (k : Int) a b (mkS c) (eSs ns) (ks.map eT) (acc.map ePa)).bind zaj.A3 = rSh ((acc ++ zb7 p (ns.drop k) (ks.drop k)).map ePa) := by
   refine up ns.length ?_ fun k hk1 ihk acc hacc => ?_
   · intro acc _
     rw [zaj.s3b, zfp p _ _ (by simp)]
     simp [zaj.a3x3b]
   · have hk2 : k < ks.length := by omega
     have hz := zeA p hk1 hk2
     rw [hz] at hacc ⊢
     simp only [List.length_cons, List.length_append] at hacc
     have hwk := wL_at wT hk2
     have h1 := zhs p ns[k] (by omega)
     have h2 := ih ks[k] (List.getElem_mem hk2) (p ++ [ns[k]]) (d + 1) (hk _ (List.getElem_mem hk2)) (sL_at hok hk2) (by omega) (by simp only [List.length_append, List.length_cons, List.length_nil]; omega)
     have h3 := ihk (acc ++ [p ++ [ns[k]]] ++ zbX (p ++ [ns[k]]) ks[k]) (by simp only [List.length_append, List.length_cons, List.length_nil]; omega)
     have e1 : decide ((acc.length + 1) * 25 ≤ 70368744177664) = true := by simp; omega
     have e2 : decide ((acc.length + 1 + (zbX (p ++ [ns[k]]) ks[k]).length) * 25 ≤ 70368744177664) = true := by simp; omega
     have hlist : acc ++ (p ++ [ns[k]]) :: (zbX (p ++ [ns[k]]) ks[k] ++ zb7 p (ns.drop (k + 1)) (ks.drop (k + 1))) =
      acc ++ [p ++ [ns[k]]] ++ zbX (p ++ [ns[k]]) ks[k] ++ zb7 p (ns.drop (k + 1)) (ks.drop (k + 1)) := by simp
     rw [hlist, ← h3, zaj.s3b]
     have hb1 : decide ((k : Int) < ((eSs ns).length : Int)) = true := by simp; omega
     have hb2 : decide (0 ≤ (k : Int)) = true := by simp
     have hb3 : decide ((k : Int) < ((ks.map eT).length : Int)) = true := by simp; omega
     simp only [hb1, hb2, hb3, Int.toNat_natCast, zcb eS ns k hk1, zdC hk2, zbk k (by omega), eS]
     simp only [zas, CK.fits, List.zipIdx, List.all_cons, List.all_nil, List.getD_cons_zero, List.getD_cons_succ, List.length_cons, List.length_nil, str_v, zkI, int_v, es_s]
     simp only [h1, h2, Option.bind_some, zaa, List.zipIdx, List.length_cons, List.length_nil, R1.fits, List.all_cons, List.all_nil, List.getD_cons_zero, tes_s, zkR, zgA, zjc, List.length_map, List.length_append, e1, e2, ← List.map_append]
     rfl
  have h0 : (zaj.L3b (eSs p) 0 a b (mkS c) (eSs ns) (ks.map eT) []).bind zaj.A3 = _ := hl 0 (by omega) [] (by simp only [List.drop_zero, List.length_nil]; omega)
  rw [zaj.l3_b, h0]
  simp
abbrev oB (l : List (List Str)) : PV.Obj := { kind := Kind.box, row := [D.s (l.map ePa)], fl := [Own.deep] }
theorem zeW (p : List Str) (t : Tree) (acc : List (List Str)) (hp : p.length ≤ 4194304) (ha : acc.length ≤ 4194304) :
 za8 [vP p, vT t, .one (.p true 0 [] 0)] [oB acc] = some ⟨[], [oB (bif p.isEmpty then acc else acc ++ [p])]⟩ := by
 rw [za8.e]
 have e1 : decide ((0 + p.length) * 17 ≤ 70368744177664) = true := by simp; omega
 have e2 : decide ((acc.length + 1) * 25 ≤ 70368744177664) = true := by simp; omega
 cases p with
 | nil => simp
 | cons x p =>
  have e3 : decide ((((x :: p).length : Nat) : Int) > 0) = true := by rw [decide_eq_true_iff]; simp only [List.length_cons]; omega
  simp only [zfo, zez, List.length_map, e1, e2, e3, Bool.and_self, cond_true, zkR, zgA, List.isEmpty_cons, cond_false]
theorem zgB (a b : List (List Str)) (n : Nat) : zaV [{ ob := oB a, src := Src.box n }] [oB b] = true := by simp
theorem zeB (t : Tree) : ∀ (p : List Str) (d : Int) (acc : List (List Str)), zbh d t = true → oT t → wT t ≤ 1048576 → p.length + wT t ≤ 2097152 → p ≠ [] → acc.length + 1 + cnt t ≤ 2097152 →
 zaK [vT t, vP p, .f za8.id [.p true 0 [] 0]] [oB acc] = some ⟨[], [oB (acc ++ [p] ++ zbX p t)]⟩ := by
 induction t using Tree.ind with
 | h a b c ns ks ih =>
  intro p d acc hp ho hw hpw hp0 hacc0
  have hn := zbB hp
  have hk := fun k (h : k ∈ ks) => zbR hp (k := k) h
  have hok := zd6 ho
  have hlen := (zcJ _ p d hp)
  simp only at hn hok
  have hkl := hok.1
  rw [zdq] at hlen
  have h1 := zeW p ⟨a, b, c, ns, ks⟩ acc (by omega) (by omega)
  have hpe : p.isEmpty = false := by cases p with | nil => exact absurd rfl hp0 | cons => rfl
  rw [hpe] at h1
  rw [iTree_each_paths.e, zdq]
  simp only at hlen h1 ⊢
  have hw2 := hw
  rw [wT_eq] at hw2 hpw
  simp only at hw2 hpw
  have hl : ∀ k, k ≤ ns.length → ∀ acc : List (List Str), acc.length + (zb7 p (ns.drop k) (ks.drop k)).length ≤ 2097152 →
   (iTree_each_paths.L3 (eSs p) (eSs ns) ns.length (k : Int) (acc.map ePa) a b (mkS c) (eSs ns) (ks.map eT)).bind iTree_each_paths.A3 = some ⟨[], [oB (acc ++ zb7 p (ns.drop k) (ks.drop k))]⟩ := by
   refine up ns.length ?_ fun k hk1 ihk acc hacc => ?_
   · intro acc _
     rw [iTree_each_paths.s3, zfp p _ _ (by simp)]
     simp [iTree_each_paths.a3x3]
   · have hk2 : k < ks.length := by omega
     have hz := zeA p hk1 hk2
     rw [hz] at hacc ⊢
     simp only [List.length_cons, List.length_append] at hacc
     have hwk := wL_at wT hk2
     have hpl := zcJ ks[k] (p ++ [ns[k]]) (d + 1) (hk _ (List.getElem_mem hk2))
     have h1 := zeV p ns[k] (by omega)
     have h2 := ih ks[k] (List.getElem_mem hk2) (p ++ [ns[k]]) (d + 1) acc (hk _ (List.getElem_mem hk2)) (sL_at hok hk2) (by omega) (by simp only [List.length_append, List.length_cons, List.length_nil]; omega) (by simp) (by omega)
     have h3 := ihk (acc ++ [p ++ [ns[k]]] ++ zbX (p ++ [ns[k]]) ks[k]) (by simp only [List.length_append, List.length_cons, List.length_nil]; omega)
     have hlist : acc ++ (p ++ [ns[k]]) :: (zbX (p ++ [ns[k]]) ks[k] ++ zb7 p (ns.drop (k + 1)) (ks.drop (k + 1))) =
      acc ++ [p ++ [ns[k]]] ++ zbX (p ++ [ns[k]]) ks[k] ++ zb7 p (ns.drop (k + 1)) (ks.drop (k + 1)) := by simp
     rw [hlist, ← h3, iTree_each_paths.s3]
     have hb1 : decide ((k : Int) < ((eSs ns).length : Int)) = true := by simp; omega
     have hb0 : decide ((k : Int) < (ns.length : Int)) = true := by simp; omega
     have hb2 : decide (0 ≤ (k : Int)) = true := by simp
     have hb3 : decide ((k : Int) < ((ks.map eT).length : Int)) = true := by simp; omega
     simp only [hb0, hb1, hb2, hb3, Int.toNat_natCast, zcb eS ns k hk1, zdC hk2, zbk k (by omega), eS]
     simp only [zas, CK.fits, List.zipIdx, List.all_cons, List.all_nil, List.getD_cons_zero, List.getD_cons_succ, List.length_cons, List.length_nil, str_v, zkI, int_v, es_s]
     simp only [h1, Option.bind_some, zaa, List.zipIdx, List.length_cons, List.length_nil, R1.fits, List.all_cons, List.all_nil, List.getD_cons_zero, tes_o, h2]
     rw [zgB]
     rfl
  have h0 : (iTree_each_paths.L3 (eSs p) (eSs ns) ns.length 0 ((acc ++ [p]).map ePa) a b (mkS c) (eSs ns) (ks.map eT)).bind iTree_each_paths.A3 = _ :=
   hl 0 (by omega) (acc ++ [p]) (by simp only [List.drop_zero, List.length_append, List.length_cons, List.length_nil]; omega)
  rw [h1, Option.bind_some, zgB]
  simp only [cond_false, List.length_map, List.drop_zero] at h0 ⊢
  exact h0
theorem zcn {t : Tree} (h : treeB t = true) : zbh 0 t = true := by
 simp only [treeB, Bool.and_eq_true] at h; exact h.1.2
end Go.PVx
namespace Go.PVx
open Go.PV Go.Proofs
def szR (w : Nat) (x : Int) : Int := bif decide ((w : Int) ≤ x) then x - w else -1
theorem zhZ {w : Nat} {x : Int} (h : (w : Int) ≤ x) : szR w x = x - w := by simp [szR, h]
theorem zgC {w : Nat} {x : Int} (h : ¬ (w : Int) ≤ x) : szR w x = -1 := by simp [szR, h]
def sumW {α : Type} (w : α → Nat) : List α → Nat
 | [] => 0
 | x :: l => w x + sumW w l
theorem zmT {α : Type} (w : α → Nat) : ∀ l : List α, wL w l = l.length + sumW w l
 | [] => rfl
 | x :: l => by simp only [wL, sumW, List.length_cons, zmT w l]; omega
theorem zgD {a b : Nat} {x : Int} (h : (a : Int) ≤ x) : szR (a + b) x = szR b (x - a) := by
 unfold szR
 by_cases h2 : (b : Int) ≤ x - a
 · have h3 : ((a + b : Nat) : Int) ≤ x := by omega
   simp only [h2, h3, decide_true, cond_true]; omega
 · have h3 : ¬ ((a + b : Nat) : Int) ≤ x := by omega
   simp only [h2, h3, decide_false, cond_false]
theorem zeX {a b : Nat} {x : Int} (h : ¬ (a : Int) ≤ x) : szR (a + b) x = -1 := zgC (by omega)
theorem zkS {l : List Str} {k : Nat} (h : k < l.length) : (eSs l).getD k [] = [.v (.string (mkS l[k]))] := by
 rw [zcb eS l k h]; rfl
theorem zaw.l5 (l : List Str) (ho : oP l) : ∀ k, k ≤ l.length → ∀ x : Int, 0 ≤ x → x ≤ Lim → (zaw.L5 (eSs l) x (k : Int)).bind zaw.A5 = rI (szR (sumW List.length (l.drop k)) x) := by
 have hl := ho.1
 have hL : (Lim : Int) = 1048576 := rfl
 refine up l.length ?_ fun k hk ih x h0 h1 => ?_
 · intro x h0 h1; rw [zaw.s5]; simp [sumW, szR, zaw.a5x5, h0]
 · rw [zaw.s5, zbe l k hk]
   have hsz := sL_at ho hk
   unfold sS at hsz
   have hw : IntKind.i64.wrap (x - (l[k].length : Int)) = x - (l[k].length : Int) := zcD _ (by omega)
   simp only [Int.toNat_natCast, zkS hk, zbk k (by omega), sumW, List.getD_cons_zero, str_v, zdW, hw]
   by_cases hx : (l[k].length : Int) ≤ x
   · have hn : ¬ x - (l[k].length : Int) < 0 := by omega
     have := ih (x - (l[k].length : Int)) (by omega) (by omega)
     push_cast at this
     rw [zgD hx, ← this]
     simp [-List.getElem_cons_drop, hk, hn]
   · have hn : x - (l[k].length : Int) < 0 := by omega
     rw [zeX hx]
     simp [-List.getElem_cons_drop, hk, hn, zaw.a5q5]
theorem zh0 (l : List Str) (ho : oP l) (x : Int) (h0 : 0 ≤ x) (h1 : x ≤ Lim) : zaw [vP l, vI x] [] = rI (szR (wP l) x) := by
 have hl := ho.1
 have hL : (Lim : Int) = 1048576 := rfl
 have hw : IntKind.i64.wrap (x - (l.length : Int)) = x - (l.length : Int) := zcD _ (by omega)
 rw [zaw.e]
 unfold wP
 simp only [List.length_map, hw, zmT]
 by_cases hx : (l.length : Int) ≤ x
 · have hn : ¬ x - (l.length : Int) < 0 := by omega
   have := zaw.l5 l ho 0 (by omega) (x - (l.length : Int)) (by omega) (by omega)
   rw [List.drop_zero] at this
   rw [zgD hx, ← this]
   simp [hn]
 · have hn : x - (l.length : Int) < 0 := by omega
   rw [zeX hx]
   simp [hn]
theorem zh1 (l : List Str) (hl : l.length ≤ 1048576) : zaN [vP l] [] = rO (eSs l) := by
 have key : ∀ k, k ≤ l.length → (zaN.L3 (eSs l) (k : Int) ((l.take k).map eS ++ List.replicate (l.length - k) [D.v (Value.string (mkS []))])).bind zaN.A3 = rO (eSs l) := by
  refine up l.length ?_ fun k hk ih => ?_
  · rw [zaN.s3, zkM]; simp [zaN.a3x3]
  · rw [zaN.s3]
    have h1 := zkK eS l [D.v (Value.string (mkS []))] k hk
    have h2 := zkJ eS l [D.v (Value.string (mkS []))] k (by omega)
    have h3 := zkL eS l [D.v (Value.string (mkS []))] k hk
    rw [← ih]
    simp only [Int.toNat_natCast, zkS hk, zbk k (by omega), h1, h2, List.getD_cons_zero, str_v]
    have h3' : List.set ((l.take k).map eS ++ List.replicate (l.length - k) [D.v (Value.string (mkS []))]) k (D.v (Value.string (mkS l[k])) :: List.drop 1 [D.v (Value.string (mkS []))]) = _ := h3
    rw [h3']
    have hb1 : decide ((k : Int) < ((eSs l).length : Int)) = true := by simp; omega
    have hb2 : decide (0 ≤ (k : Int)) = true := by simp
    have hb3 : decide ((k : Int) < (l.length : Int)) = true := by simp; omega
    simp only [hb1, hb2, hb3]
    rfl
 rw [zaN.e]
 have hc : (decide (((eSs l).length : Int) * ((↑16 : Int) + 1) ≤ 2 ^ 46) && true && true) = true := by simp; omega
 rw [hc, cond_true]
 have h0 := key 0 (by omega)
 rw [zi2] at h0
 simp only [List.length_map, Int.toNat_natCast]
 exact h0
theorem zb8 (l : List Str) (hl : l.length ≤ 9223372036854775807) : zao [vP l, vP l] [] = rB true := by
 have key : ∀ k, k ≤ l.length → zao.L4 (eSs l) (eSs l) (k : Int) = some zao.x4 := by
  refine up l.length ?_ fun k hk ih => ?_
  · rw [zao.s4]; simp
  · rw [zao.s4]
    simp only [Int.toNat_natCast, zkS hk, zbk k (by omega), ih]
    simp [hk]
 have h0 : zao.L4 (eSs l) (eSs l) 0 = _ := key 0 (by omega)
 rw [zao.e, h0]
 simp [zao.a4x4]
end Go.PVx
namespace Go.PVx
open Go.PV Go.Proofs
abbrev rTree (t : Tree) : Option Res := some ⟨[.v (.bool t.dir), .v (.int .i64 t.mode), .v (.string (mkS t.data)), .o .deep (eSs t.names), .o .deep (t.kids.map eT)], []⟩
theorem zh2 (l : List NodeOf) (hl : l.length ≤ 9223372036854775807) (hX : ∀ a ∈ l, zb5 [vN a, vN a] [] = rB true) : zaG [.one (.s (l.map eN)), .one (.s (l.map eN))] [] = rB true := by
 have key : ∀ k, k ≤ l.length → zaG.L4 (l.map eN) (l.map eN) (k : Int) = some zaG.x4 := by
  refine up l.length ?_ fun k hk ih => ?_
  · rw [zaG.s4]; simp
  · rw [zaG.s4]
    have h := hX l[k] (List.getElem_mem hk)
    simp only [Int.toNat_natCast, zoX hk, zbk k (by omega), ih]
    simp [hk, h]
 have h0 : zaG.L4 (l.map eN) (l.map eN) 0 = _ := key 0 (by omega)
 rw [zaG.e, h0]
 simp [zaG.a4x4]
theorem zaU.l5 (l : List Tree) (hl : l.length ≤ 9223372036854775807) (hX : ∀ a ∈ l, ∀ x : Int, 0 ≤ x → x ≤ Lim → zbA [vT a, vI x] [] = rI (szR (wT a) x)) : ∀ k, k ≤ l.length → ∀ x : Int, 0 ≤ x → x ≤ Lim →
 (zaU.L5 (l.map eT) x (k : Int)).bind zaU.A5 = rI (szR (sumW wT (l.drop k)) x) := by
 have hL : (Lim : Int) = 1048576 := rfl
 refine up l.length ?_ fun k hk ih x h0 h1 => ?_
 · intro x h0 h1; rw [zaU.s5]; simp [sumW, szR, zaU.a5x5, h0]
 · rw [zaU.s5, zbe l k hk]
   have h := hX l[k] (List.getElem_mem hk) x h0 h1
   simp only [Int.toNat_natCast, zdC hk, zbk k (by omega), sumW]
   by_cases hx : (wT l[k] : Int) ≤ x
   · have hn : ¬ x - (wT l[k] : Int) < 0 := by omega
     have := ih (x - (wT l[k] : Int)) (by omega) (by omega)
     push_cast at this
     rw [zhZ hx] at h
     rw [zgD hx, ← this]
     simp [-List.getElem_cons_drop, hk, hn, h]
   · rw [zgC hx] at h
     rw [zeX hx]
     simp [-List.getElem_cons_drop, hk, h, zaU.a5q5]
theorem zj4 (l : List Tree) (hl : l.length ≤ 9223372036854775807) (hX : ∀ a ∈ l, ∀ x : Int, 0 ≤ x → x ≤ Lim → zbA [vT a, vI x] [] = rI (szR (wT a) x)) (x : Int) (h0 : 0 ≤ x) (h1 : x ≤ Lim) :
 zaU [.one (.s (l.map eT)), vI x] [] = rI (szR (wL wT l) x) := by
 have hL : (Lim : Int) = 1048576 := rfl
 have hw : IntKind.i64.wrap (x - (l.length : Int)) = x - (l.length : Int) := zcD _ (by omega)
 rw [zaU.e]
 simp only [List.length_map, hw, zmT]
 by_cases hx : (l.length : Int) ≤ x
 · have hn : ¬ x - (l.length : Int) < 0 := by omega
   have := zaU.l5 l hl hX 0 (by omega) (x - (l.length : Int)) (by omega) (by omega)
   rw [List.drop_zero] at this
   rw [zgD hx, ← this]
   simp [hn]
 · have hn : x - (l.length : Int) < 0 := by omega
   rw [zeX hx]
   simp [hn]
theorem zj5 (l : List Tree) (hl : l.length ≤ 1048576) (hX : ∀ a ∈ l, zbZ [vT a] [] = rTree a) : za4 [.one (.s (l.map eT))] [] = rO (l.map eT) := by
 have key : ∀ k, k ≤ l.length → (za4.L3 (l.map eT) (k : Int) ((l.take k).map eT ++ List.replicate (l.length - k) [D.v (Value.bool false), D.v (Value.int IntKind.i64 0), D.v (Value.string (mkS [])), D.s [], D.s []])).bind za4.A3 = rO (l.map eT) := by
  refine up l.length ?_ fun k hk ih => ?_
  · rw [za4.s3, zkM]; simp [za4.a3x3]
  · rw [za4.s3]
    have h := hX l[k] (List.getElem_mem hk)
    have h1 := zkK eT l [D.v (Value.bool false), D.v (Value.int IntKind.i64 0), D.v (Value.string (mkS [])), D.s [], D.s []] k hk
    have h2 := zkJ eT l [D.v (Value.bool false), D.v (Value.int IntKind.i64 0), D.v (Value.string (mkS [])), D.s [], D.s []] k (by omega)
    have h3 := zkL eT l [D.v (Value.bool false), D.v (Value.int IntKind.i64 0), D.v (Value.string (mkS [])), D.s [], D.s []] k hk
    have h4 : eT l[k] = _ := (zcb eT l k hk).symm.trans (zdC hk)
    rw [h4] at h3
    rw [← ih]
    simp only [Int.toNat_natCast, zdC hk, zbk k (by omega), h1, h2]
    have hb1 : decide ((k : Int) < ((l.map eT).length : Int)) = true := by simp; omega
    have hb2 : decide (0 ≤ (k : Int)) = true := by simp
    have hb3 : decide ((k : Int) < (l.length : Int)) = true := by simp; omega
    simp only [hb1, hb2, hb3]
    simp only [zas, CK.fits, List.zipIdx, List.all_cons, List.all_nil, List.getD_cons_zero, List.getD_cons_succ, List.length_cons, List.length_nil, str_v, zkI, int_v, es_s, h, Option.bind_some, zaa, R1.fits, tes_o, zof, zjX, zmJ]
    simp only [List.drop_succ_cons, List.drop_zero, List.drop_nil]
    rw [h3]
    rfl
 rw [za4.e]
 have hc : (decide (((l.map eT).length : Int) * ((↑80 : Int) + 1) ≤ 2 ^ 46) && true && true) = true := by simp; omega
 rw [hc, cond_true]
 have h0 := key 0 (by omega)
 rw [zi2] at h0
 simp only [List.length_map, Int.toNat_natCast]
 exact h0
theorem zj6 (l : List Tree) (hl : l.length ≤ 9223372036854775807) (hX : ∀ a ∈ l, zbz [vT a, vT a] [] = rB true) : zaZ [.one (.s (l.map eT)), .one (.s (l.map eT))] [] = rB true := by
 have key : ∀ k, k ≤ l.length → zaZ.L4 (l.map eT) (l.map eT) (k : Int) = some zaZ.x4 := by
  refine up l.length ?_ fun k hk ih => ?_
  · rw [zaZ.s4]; simp
  · rw [zaZ.s4]
    have h := hX l[k] (List.getElem_mem hk)
    simp only [Int.toNat_natCast, zdC hk, zbk k (by omega), ih]
    simp [hk, h]
 have h0 : zaZ.L4 (l.map eT) (l.map eT) 0 = _ := key 0 (by omega)
 rw [zaZ.e, h0]
 simp [zaZ.a4x4]
theorem zdg (p : List Str) : p.length ≤ wP p := zcV _ p
theorem zlq (t : Tree) : wT t ≤ 1048576 → zbZ [vT t] [] = rTree t := by
 induction t using Tree.ind with
 | h a b c ns ks ih =>
  intro hw
  rw [wT_eq] at hw
  simp only at hw
  have h1 := zdg ns
  have h2 := zcV wT ks
  rw [zbZ.e, zh1 ns (by omega), zj5 ks (by omega) (fun t ht => ih t ht (by have := zd4 wT ks t ht; omega))]
  simp
end Go.PVx
namespace Go.PVx
open Go.PV Go.Proofs
abbrev dec (n : Nat) : Str := Lib.decDigits n
theorem zmU (n : Nat) (h : n ≤ 1000000) : (dec n).length ≤ 7 := by
 unfold dec
 rw [Lib.decDigits_length]
 by_cases h0 : n = 0
 · subst h0; rw [Lib.nDigits_small (by omega)]; omega
 · have : ∀ (k m : Nat), m < 10 ^ (k + 1) → Lib.nDigits m ≤ k + 1 := by
    intro k
    induction k with
    | zero => intro m hm; rw [Lib.nDigits_small (by simpa using hm)]; omega
    | succ k ih =>
     intro m hm
     by_cases h10 : m < 10
     · rw [Lib.nDigits_small h10]; omega
     · rw [Lib.nDigits_big h10]
       have := ih (m / 10) (by rw [Nat.pow_succ] at hm; omega)
       omega
   exact this 6 n (by omega)
theorem zht (d : Nat) (h : d < 10) : strOf [[D.v (Value.int IntKind.u8 (IntKind.u8.wrap (IntKind.i64.wrap (48 + (d : Int)))))]] = mkS [UInt8.ofNat (48 + d)] := by
 rw [zcD _ (by omega), IntKind.wrap_u8]
 have : (48 + (d : Int)) % 256 = ((48 + d : Nat) : Int) := by omega
 rw [this]
 rfl
theorem zmV : ∀ (n : Nat), n ≤ 1000000 → zdb [vI n] [] = rS (dec n) := by
 intro n
 induction n using Nat.strongRecOn with
 | _ n ih =>
  intro h
  rw [zdb.e]
  have h1 : decide ((n : Int) < -9223372036854775807) = false := decide_eq_false (by omega)
  have h2 : decide ((n : Int) < 0) = false := by simp
  rw [h1, h2]
  simp only [cond_false]
  unfold dec
  rw [Lib.decDigits]
  by_cases h10 : n < 10
  · have h3 : decide ((n : Int) < 10) = true := by simp; omega
    rw [h3, dif_pos h10, cond_true, zht n h10]
  · have h3 : decide ((n : Int) < 10) = false := by simp; omega
    have hq : (n : Int).tdiv 10 = ((n / 10 : Nat) : Int) := by rw [Int.tdiv_eq_ediv_of_nonneg (by omega)]; omega
    have hr : (n : Int).tmod 10 = ((n % 10 : Nat) : Int) := by rw [Int.tmod_eq_emod_of_nonneg (by omega)]; omega
    have hw : IntKind.i64.wrap ((n / 10 : Nat) : Int) = ((n / 10 : Nat) : Int) := zcD _ (by omega)
    have hi := ih (n / 10) (by omega) (by omega)
    have hl := zmU (n / 10) (by omega)
    unfold dec at hi hl
    have e1 : (Lib.decDigits (n / 10)).length ≤ 70368744177663 := by omega
    rw [h3, dif_neg h10, cond_false, hq, hw, hi, hr, zht (n % 10) (by omega)]
    simp [e1]
theorem zgE (n : Nat) (h : n ≤ 1000000) : strconv_Itoa [vI n] [] = rS (dec n) := by
 rw [strconv_Itoa.ext]
 have h1 : decide (-9223372036854775808 ≤ (n : Int)) = true := decide_eq_true (by omega)
 have h2 : decide ((n : Int) ≤ 9223372036854775807) = true := decide_eq_true (by omega)
 simp only [zgx, h1, h2, Bool.and_self, cond_true, Lib.itoa_nonneg]
 rfl
def pt (p : List Str) : Str := if p = [] then [47] else Lib.joinTail [47] p
theorem zd7 (p : List Str) : (Lib.joinTail [47] p).length = wP p := by
 unfold wP
 induction p with
 | nil => rfl
 | cons x p ih =>
  have : Lib.joinTail [47] (x :: p) = [47] ++ x ++ Lib.joinTail [47] p := by simp [Lib.joinTail]
  rw [this]
  simp only [List.length_append, List.length_cons, List.length_nil, ih, wL]
theorem zkT (p : List Str) : (pt p).length ≤ 1 + wP p := by
 unfold pt
 split
 · simp
 · rw [zd7]; omega
theorem zgF : ∀ p : List Str, zey (eSs p) = some (p.map mkS)
 | [] => rfl
 | x :: p => by
  have := zgF p
  simp only [List.map_cons, zey, this]
  rfl
theorem zgG (p : List Str) (hp : wP p ≤ 1048576) (h0 : p ≠ []) : strings_Join [vP p, vS [47]] [] = rS (Lib.join p [47]) := by
 rw [strings_Join.ext]
 have hm : (p.map mkS).map (fun x => x.data.toList) = p := by simp [List.map_map, Function.comp_def]
 have hlen : (Lib.join p [47]).length ≤ wP p := by
  cases p with
  | nil => exact absurd rfl h0
  | cons x r =>
   have hj := zd7 r
   rw [Lib.join_cons, List.length_append, hj]
   unfold wP
   simp only [wL]; omega
 have hpl := zdg p
 have e1 : decide ((p.map mkS).length ≤ 140737488355328) = true := by simp; omega
 have e2 : decide ((Lib.join p [47]).length ≤ 140737488355328) = true := by simp; omega
 have hx : joinD (p.map mkS) (mkS [47]) = mkS (Lib.join p [47]) := by
  unfold joinD
  rw [hm]
  rfl
 show zfl [.one (.s (eSs p)), .one (.v (.string (mkS [47])))] [] = _
 simp only [zfl, zgF, e1, hm]
 have hs : (mkS [47]).data.toList = [47] := rfl
 rw [hs, e2]
 simp only [Bool.and_self, cond_true, hx]
theorem zje (p : List Str) (hp : wP p ≤ 1048576) : zbW [vP p] [] = rS (pt p) := by
 rw [zbW.e]
 cases p with
 | nil => rfl
 | cons x r =>
  have h1 := zgG (x :: r) hp (by simp)
  have h2 : (Lib.join (x :: r) [47]).length ≤ 1048576 := by
   have hj := zd7 r
   unfold wP at hp hj
   rw [Lib.join_cons, List.length_append, hj]
   simp only [wL] at hp; omega
  have e1 : decide (1 + (Lib.join (x :: r) [47]).length ≤ 70368744177664) = true := by simp; omega
  have h3 : ((((eSs (x :: r)).length : Nat) : Int) == 0) = false := by simp; omega
  have h4 : (ByteArray.mk #[47]) = mkS [47] := rfl
  rw [h3, cond_false, h4, h1]
  have h5 : pt (x :: r) = 47 :: Lib.join (x :: r) [47] := by
   unfold pt
   rw [if_neg (by simp), Lib.join_cons]
   simp [Lib.joinTail]
  rw [h5]
  simp [e1]
end Go.PVx
namespace Go.PVx
open Go.PV Go.Proofs
def line (a : NodeOf) : Str := dec a.id.toNat ++ [32] ++ pt a.path ++ [10]
def head5 (n : Nodes) : Str := [110, 101, 120, 116, 32] ++ dec n.next.toNat ++ [10]
def zmW (n : Nodes) : Str := bif okB n then head5 n ++ (n.list.map line).flatten else []
end Go.PVx
namespace Go.PVx
open Go.PV Go.Proofs
def hexD : Str := [48, 49, 50, 51, 52, 53, 54, 55, 56, 57, 97, 98, 99, 100, 101, 102]
theorem zmX : (ByteArray.mk #[48, 49, 50, 51, 52, 53, 54, 55, 56, 57, 97, 98, 99, 100, 101, 102]) = mkS hexD := rfl
def dig (n : Nat) : UInt8 := hexD.getD n 0
def hexB (b : UInt8) : Str := [dig (b.toNat / 16), dig (b.toNat % 16)]
def hexS (s : Str) : Str := (s.map hexB).flatten
def dataT (s : Str) : Str := if s = [] then [45] else hexS s
theorem zoY : ∀ i : Fin 16, (hexD.take (i.val + 1)).drop i.val = [dig i.val] := by decide
theorem zok {i : Nat} (h : i < 16) : (hexD.take (i + 1)).drop i = [dig i] := zoY ⟨i, h⟩
theorem zfN : ∀ s : Str, (hexS s).length = 2 * s.length
 | [] => rfl
 | b :: s => by
  have : hexS (b :: s) = hexB b ++ hexS s := by simp [hexS]
  rw [this, List.length_append, zfN s]
  simp only [hexB, List.length_cons, List.length_nil]; omega
theorem zjf (s : Str) (k : Nat) (h : k < s.length) : hexS (s.take (k + 1)) = hexS (s.take k) ++ hexB s[k] := by
 unfold hexS
 rw [zgu s k h]
 simp only [List.map_append, List.flatten_append, List.map_cons, List.map_nil, List.flatten_cons, List.flatten_nil, List.append_nil]
theorem nib (b : UInt8) : (IntKind.u8.wrap ((b.toNat : Int).tdiv 16)) = ((b.toNat / 16 : Nat) : Int) ∧ IntKind.u8.wrap (((b.toNat / 16 : Nat) : Int) + 1) = ((b.toNat / 16 + 1 : Nat) : Int) ∧
 (b.toNat : Int).tmod 16 = ((b.toNat % 16 : Nat) : Int) ∧ IntKind.u8.wrap (((b.toNat % 16 : Nat) : Int) + 1) = ((b.toNat % 16 + 1 : Nat) : Int) ∧ b.toNat / 16 < 16 ∧ b.toNat % 16 < 16 := by
 have hb : b.toNat < 256 := b.toNat_lt
 refine ⟨?_, ?_, ?_, ?_, by omega, by omega⟩
 · rw [IntKind.wrap_u8, Int.tdiv_eq_ediv_of_nonneg (by omega)]; omega
 · rw [IntKind.wrap_u8]; omega
 · rw [Int.tmod_eq_emod_of_nonneg (by omega)]; omega
 · rw [IntKind.wrap_u8]; omega
theorem zmY (s : Str) (hs : s.length ≤ 1048576) : zbo [vS s] [] = rS (dataT s) := by
 have key : ∀ k, k ≤ s.length → zbo.L3 (mkS s) (mkS (hexS (s.take k))) (k : Int) = some (zbo.x3 (mkS (hexS s))) := by
  refine up s.length ?_ fun k hk ih => ?_
  · rw [zbo.s3]; simp
  · obtain ⟨n1, n2, n3, n4, n5, n6⟩ := nib s[k]
    have hl := zfN (s.take k)
    rw [List.length_take] at hl
    rw [zjf s k hk] at ih
    have e0 : decide ((k : Int) < (s.length : Int)) = true := by simp; omega
    have e1 : decide ((0 : Int) ≤ (k : Int)) = true := by simp
    have e2 : decide (((s[k].toNat / 16 : Nat) : Int) ≤ ((s[k].toNat / 16 + 1 : Nat) : Int)) = true := decide_eq_true (by omega)
    have e3 : decide (((s[k].toNat / 16 + 1 : Nat) : Int) ≤ ((hexD.length : Nat) : Int)) = true := decide_eq_true (by show _ ≤ ((16 : Nat) : Int); omega)
    have e4 : decide (((s[k].toNat % 16 : Nat) : Int) ≤ ((s[k].toNat % 16 + 1 : Nat) : Int)) = true := decide_eq_true (by omega)
    have e5 : decide (((s[k].toNat % 16 + 1 : Nat) : Int) ≤ ((hexD.length : Nat) : Int)) = true := decide_eq_true (by show _ ≤ ((16 : Nat) : Int); omega)
    have e6 : decide ((hexS (s.take k)).length + 1 ≤ 70368744177664) = true := decide_eq_true (by omega)
    have e7 : decide ((hexS (s.take k)).length + 1 + 1 ≤ 70368744177664) = true := decide_eq_true (by omega)
    have hx : hexS (s.take k) ++ [dig (s[k].toNat / 16)] ++ [dig (s[k].toNat % 16)] = hexS (s.take k) ++ hexB s[k] := by simp [hexB]
    rw [zbo.s3]
    simp only [Int.toNat_natCast, zd3 s k hk, zmX, zdW, n1, n2, n3, n4, zgt, zok n5, zok n6, zho, List.length_append, List.length_cons, List.length_nil, Nat.zero_add, zbk k (by omega), e0, e1, e2, e3, e4, e5, e6, e7, hx, ih]
    rfl
 have h0 : zbo.L3 (mkS s) (mkS (hexS (s.take 0))) 0 = _ := key 0 (by omega)
 have h1 : (ByteArray.mk #[]) = mkS (hexS (s.take 0)) := rfl
 rw [zbo.e, h1, h0, Option.bind_some, zbo.a3x3, zfj]
 unfold dataT
 cases s with
 | nil => rfl
 | cons b s =>
  have : hexS (b :: s) = dig (b.toNat / 16) :: dig (b.toNat % 16) :: hexS s := by simp [hexS, hexB]
  rw [this]
  rfl
def zcQ (b : UInt8) : List D := [.v (.int .u8 (b.toNat : Int))]
theorem zj7 (l : Str) : strOf (l.map zcQ) = mkS l := by
 have key : ∀ (l : Str) (acc : Str), ((l.map zcQ).map fun r => (r.getD 0 .h).int).foldl (fun r n => r.push (UInt8.ofNat n.toNat)) (mkS acc) = mkS (acc ++ l) := by
  intro l
  induction l with
  | nil => intro acc; simp
  | cons b l ih =>
   intro acc
   have hp : (mkS acc).push b = mkS (acc ++ [b]) := by
    show ByteArray.mk (acc.toArray.push b) = ByteArray.mk (acc ++ [b]).toArray
    rw [List.push_toArray]
   have hb : UInt8.ofNat (b.toNat : Int).toNat = b := by simp
   simp only [List.map_cons, List.foldl_cons, zcQ, List.getD_cons_zero, int_v]
   rw [hb, hp]
   have := ih (acc ++ [b])
   simp only [zcQ, List.append_assoc, List.cons_append, List.nil_append] at this
   exact this
 exact key l []
theorem zjg (l : Str) : zfQ (l.map zcQ) = true := by
 simp [zfQ, zcQ]
theorem zh3 (l : Str) : zaF 1 (l.map zcQ) = true := rowsLen_map zcQ 1 (fun _ => rfl) l
theorem zmZ (s : Str) (hs : s.length ≤ 1048576) : zbp [vS s] [] = rS (hexS s) := by
 have key : ∀ k, k ≤ s.length → zbp.L3 (mkS s) (k : Int) ((hexS (s.take k)).map zcQ) = some (zbp.x3 ((hexS s).map zcQ)) := by
  refine up s.length ?_ fun k hk ih => ?_
  · rw [zbp.s3]; simp
  · obtain ⟨n1, n2, n3, n4, n5, n6⟩ := nib s[k]
    have hl := zfN (s.take k)
    rw [List.length_take] at hl
    rw [zjf s k hk] at ih
    have e0 : decide ((k : Int) < (s.length : Int)) = true := by simp; omega
    have e1 : decide ((0 : Int) ≤ (k : Int)) = true := by simp
    have e2 : decide (((s[k].toNat / 16 : Nat) : Int) < ((hexD.length : Nat) : Int)) = true := decide_eq_true (by show _ < ((16 : Nat) : Int); omega)
    have e3 : decide (((s[k].toNat % 16 : Nat) : Int) < ((hexD.length : Nat) : Int)) = true := decide_eq_true (by show _ < ((16 : Nat) : Int); omega)
    have e6 : decide ((((hexS (s.take k)).map zcQ).length + 2) * 2 ≤ 70368744177664) = true := decide_eq_true (by rw [List.length_map]; omega)
    have hx : (hexS (s.take k)).map zcQ ++ [[D.v (Value.int IntKind.u8 ((dig (s[k].toNat / 16)).toNat : Int))], [D.v (Value.int IntKind.u8 ((dig (s[k].toNat % 16)).toNat : Int))]] = (hexS (s.take k) ++ hexB s[k]).map zcQ := by
     simp [hexB, zcQ]
    have d1 : zbf (mkS hexD) (s[k].toNat / 16) = ((dig (s[k].toNat / 16)).toNat : Int) := zfk _ _
    have d2 : zbf (mkS hexD) (s[k].toNat % 16) = ((dig (s[k].toNat % 16)).toNat : Int) := zfk _ _
    rw [zbp.s3]
    simp only [Int.toNat_natCast, zd3 s k hk, zmX, zdW, n1, n3, zbk k (by omega), e0, e1, e2, e3, e6, zh3, d1, d2, hx, ih]
    rfl
 have h0 : zbp.L3 (mkS s) 0 [] = _ := key 0 (by omega)
 rw [zbp.e, h0, Option.bind_some, zbp.a3x3, zjg, zj7]
 rfl
theorem zjh (s : Str) (hs : s.length ≤ 1048576) : zb6 [vS s] [] = rS (dataT s) := by
 rw [zb6.e, zmZ s hs, zfj]
 unfold dataT
 cases s with
 | nil => rfl
 | cons b s => simp
end Go.PVx
namespace Go.PVx
open Go.PV Go.Proofs
end Go.PVx
namespace Go.PVx
open Go.PV Go.Proofs
abbrev Top : Int := 1000000000000
theorem zm0 (n : Int) : (strOf [[D.v (Value.int IntKind.u8 n)]]).size = 1 := rfl
theorem zaD.l4 : ∀ (n : Nat) (k : Int) (b : ByteArray), 0 ≤ k → k ≤ 1000000000000 → k < 10 ^ n → b.size + n ≤ 40 → ∃ b' : ByteArray, zaD.L4 k b = some (zaD.x4 b') ∧ b'.size ≤ 40
 | 0, k, b, h0, ht, h1, h3 => by
  have : k = 0 := by simp at h1; omega
  subst this
  refine ⟨b, ?_, by omega⟩
  rw [zaD.s4]
  simp
 | n + 1, k, b, h0, ht, h1, h3 => by
  rw [zaD.s4]
  by_cases hk : k > 0
  · have hd : k.tdiv 10 = k / 10 := Int.tdiv_eq_ediv_of_nonneg h0
    have hp : (10 : Int) ^ (n + 1) = 10 ^ n * 10 := Int.pow_succ _ _
    have hq : k / 10 < 10 ^ n := by omega
    have hw : IntKind.i64.wrap (k / 10) = k / 10 := zcD _ (by omega)
    have hsz : (strOf [[D.v (Value.int IntKind.u8 (IntKind.u8.wrap (IntKind.i64.wrap (48 + k.tmod 10))))]] ++ b).size = 1 + b.size := by
     rw [ByteArray.size_append, zm0]
    obtain ⟨b', h4, h5⟩ := zaD.l4 n (k / 10) (strOf [[D.v (Value.int IntKind.u8 (IntKind.u8.wrap (IntKind.i64.wrap (48 + k.tmod 10))))]] ++ b) (by omega) (by omega) hq (by rw [hsz]; omega)
    refine ⟨b', ?_, h5⟩
    rw [hd, hw, h4]
    have h6 : decide (1 + b.size ≤ 70368744177664) = true := by simp; omega
    rw [h6]
    simp [hk]
  · have : k = 0 := by omega
    subst this
    exact ⟨b, by simp, by omega⟩
theorem zji (k : Int) (h0 : 0 ≤ k) (h1 : k ≤ Top) : ∃ s : Str, zaD [vI k] [] = rS s := by
 rw [zaD.e]
 by_cases hk : k ≤ 0
 · exact ⟨[109, 48], by simp only [hk, decide_true, cond_true]; rfl⟩
 · have hT : Top = 1000000000000 := rfl
   obtain ⟨b', h4, h5⟩ := zaD.l4 20 k { data := #[] } (by omega) (by omega) (by omega) (by decide)
   refine ⟨(ByteArray.mk #[109] ++ b').data.toList, ?_⟩
   rw [h4]
   have h6 : decide (1 + b'.size ≤ 70368744177664) = true := by simp; omega
   simp only [hk, decide_false, cond_false, Option.bind_some, zaD.a4x4, h6, cond_true]
   rfl
noncomputable def mt (k : Int) : Str := by
 classical
 exact if h : ∃ s : Str, zaD [vI k] [] = rS s then h.choose else []
theorem zcK (k : Int) (h0 : 0 ≤ k) (h1 : k ≤ Top) : zaD [vI k] [] = rS (mt k) := by
 have h := zji k h0 h1
 unfold mt
 rw [dif_pos h]
 exact h.choose_spec
noncomputable def mP (k : Int) : List Str → List Str
 | [] => []
 | _ :: l => mt k :: mP (k + 1) l
@[simp] theorem zol : ∀ (l : List Str) (k : Int), (mP k l).length = l.length
 | [], _ => rfl
 | _ :: l, k => by simp [mP, zol l]
theorem mP_at : ∀ (l : List Str) (k : Int) (i : Nat) (h : i < (mP k l).length), (mP k l)[i] = mt (k + i)
 | [], _, i, h => by simp [mP] at h
 | x :: l, k, 0, h => by simp [mP]
 | x :: l, k, i + 1, h => by
  simp only [mP, List.getElem_cons_succ]
  rw [mP_at l (k + 1) i (by simpa [mP] using h)]
  congr 1; push_cast; omega
abbrev gV (es : List (List D)) : PV.Obj := { kind := Kind.virt, row := [D.s es], fl := [Own.deep] }
abbrev rM (k : Int) (es : List (List D)) : Option Res := some ⟨[.v (.int .i64 k)], [gV es]⟩
theorem zcR (l : List Str) (k : Int) (h0 : 0 ≤ k) (h1 : k + l.length ≤ Top) :
 zaf [.one (.r 0 [] 0), vI k] [gV (eSs l)] = rM (k + l.length) (eSs (mP k l)) := by
 have hT : Top = 1000000000000 := rfl
 have key : ∀ j, j ≤ l.length → ∀ m : List Str, m.length = j → (zaf.L2 (k + j) (j : Int) (m.map eS ++ (l.drop j).map eS)).bind zaf.A2 = rM (k + l.length) (eSs (m ++ mP (k + j) (l.drop j))) := by
  refine up l.length ?_ fun j hj ih m hm => ?_
  · intro m hm
    rw [zaf.s2]
    simp [hm, zaf.a2x2, mP]
  · have hg := zkN eS eS l m j hj hm
    have hl := zkO eS eS l m j (by omega) hm
    have hs := zkP eS eS l m j hj hm (mt (k + j))
    have ht := zcK (k + j) (by omega) (by omega)
    have hw : IntKind.i64.wrap (k + j + 1) = k + j + 1 := zcD _ (by omega)
    have := ih (m ++ [mt (k + j)]) (by simp [hm])
    rw [zaf.s2]
    simp only [Int.toNat_natCast, hg, hl, hw, zbk j (by omega)]
    have hs' : List.set (m.map eS ++ (l.drop j).map eS) j (D.v (Value.string (mkS (mt (k + j)))) :: List.drop 1 (eS l[j])) = _ := hs
    push_cast at this
    rw [show k + ((j : Int) + 1) = k + j + 1 from by omega] at this
    have hd : mP (k + j) (l.drop j) = mt (k + j) :: mP (k + j + 1) (l.drop (j + 1)) := by rw [zbe l j hj, mP]
    rw [hd]
    rw [show m ++ mt (k + j) :: mP (k + j + 1) (l.drop (j + 1)) = m ++ [mt (k + j)] ++ mP (k + j + 1) (l.drop (j + 1)) from by simp, ← this]
    have h2 : decide ((j : Int) < (l.length : Int)) = true := by simp; omega
    have h3 : decide ((0 : Int) ≤ (j : Int)) = true := by simp
    have h4 : (eS l[j]).length = 1 := rfl
    simp only [h2, h3, h4, ht, Option.bind_some]
    have h5 : (zaa [R1.str] [TC.v (Value.string (mkS (mt (k + j))))]) = true := rfl
    simp only [h5, Bool.and_true, decide_true, Bool.and_self, cond_true, Nat.le_refl, List.getD_cons_zero, zmJ, hs']
    push_cast
    rfl
 rw [zaf.e]
 have := key 0 (by omega) [] rfl
 simpa using this
theorem zcS (l : List Str) (k : Int) (h0 : 0 ≤ k) (h1 : k + l.length ≤ Top) : zad [vP (mP k l), vI k] [] = rI (k + l.length) := by
 have hT : Top = 1000000000000 := rfl
 have hlen := zol l k
 have key : ∀ j, j ≤ l.length → (zad.L2 (eSs (mP k l)) (k + j) (j : Int)).bind zad.A2 = rI (k + l.length) := by
  refine up l.length ?_ fun j hj ih => ?_
  · rw [zad.s2]
    simp [zad.a2x2]
  · have hj' : j < (mP k l).length := by omega
    have ht := zcK (k + j) (by omega) (by omega)
    have hw : IntKind.i64.wrap (k + j + 1) = k + j + 1 := zcD _ (by omega)
    push_cast at ih
    rw [show k + ((j : Int) + 1) = k + j + 1 from by omega] at ih
    rw [zad.s2]
    simp only [Int.toNat_natCast, zkS hj', mP_at l k j hj', zbk j (by omega), hw, ht, Option.bind_some]
    rw [← ih]
    simp [hj]
 rw [zad.e]
 have := key 0 (by omega)
 simpa using this
end Go.PVx
namespace Go.PVx
open Go.PV Go.Proofs
def cN (a : NodeOf) : Nat := 1 + a.path.length
noncomputable def mN (k : Int) (a : NodeOf) : NodeOf := ⟨k, mP (k + 1) a.path⟩
noncomputable def mNs (k : Int) : List NodeOf → List NodeOf
 | [] => []
 | a :: l => mN k a :: mNs (k + cN a) l
@[simp] theorem zm1 : ∀ (l : List NodeOf) (k : Int), (mNs k l).length = l.length
 | [], _ => rfl
 | _ :: l, k => by simp [mNs, zm1 l]
theorem zgH {α : Type} (w : α → Nat) (l : List α) (j : Nat) (h : j < l.length) : sumW w (l.take (j + 1)) = sumW w (l.take j) + w l[j] := by
 rw [zgu l j h]
 generalize l.take j = p
 induction p with
 | nil => simp [sumW]
 | cons x p ih => simp only [List.cons_append, sumW, ih]; omega
theorem zm2 {α : Type} (w : α → Nat) (l : List α) (j : Nat) : sumW w (l.take j) ≤ sumW w l := by
 induction l generalizing j with
 | nil => simp
 | cons x l ih =>
  cases j with
  | zero => simp [sumW]
  | succ j => simp only [List.take_succ_cons, sumW]; have := ih j; omega
theorem zom : ∀ (l : List NodeOf) (k : Int) (i : Nat) (h : i < (mNs k l).length) (h' : i < l.length), (mNs k l)[i] = mN (k + (sumW cN (l.take i) : Nat)) l[i]
 | [], _, i, h, _ => by simp [mNs] at h
 | x :: l, k, 0, h, _ => by simp [mNs, sumW]
 | x :: l, k, i + 1, h, h' => by
  simp only [mNs, List.getElem_cons_succ, List.take_succ_cons, sumW]
  rw [zom l (k + cN x) i (by simpa [mNs] using h) (by simpa using h')]
  congr 1; push_cast; omega
theorem eN_len (a : NodeOf) : (eN a).length = 2 := rfl
theorem zm3 (l : List (List D)) (j : Nat) (x : List D) (h : j < l.length) : (l.set j x).getD j [] = x := by
 simp [List.getD_eq_getElem?_getD, h]
theorem zgI (l : List NodeOf) (k : Int) (h0 : 0 ≤ k) (h1 : k + (sumW cN l : Nat) ≤ Top) (hl0 : l.length ≤ 1048576) :
 zav [.one (.r 0 [] 0), vI k] [gV (l.map eN)] = rM (k + (sumW cN l : Nat)) ((mNs k l).map eN) := by
 have hT : Top = 1000000000000 := rfl
 have key : ∀ j, j ≤ l.length → ∀ m : List NodeOf, m.length = j → (zav.L2 (k + (sumW cN (l.take j) : Nat)) (j : Int) (m.map eN ++ (l.drop j).map eN)).bind zav.A2 =
  rM (k + (sumW cN l : Nat)) ((m ++ mNs (k + (sumW cN (l.take j) : Nat)) (l.drop j)).map eN) := by
  refine up l.length ?_ fun j hj ih m hm => ?_
  · intro m hm
    rw [zav.s2]
    simp [hm, zav.a2x2, mNs]
  · have hg := zkN eN eN l m j hj hm
    have hl := zkO eN eN l m j (by omega) hm
    have hle := zm2 cN l (j + 1)
    rw [zgH cN l j hj] at hle
    have hcn : cN l[j] = 1 + l[j].path.length := rfl
    generalize hk' : k + ((sumW cN (l.take j) : Nat) : Int) = k' at *
    have hs := zkP eN eN l m j hj hm (mN k' l[j])
    have hw : IntKind.i64.wrap (k' + 1) = k' + 1 := zcD _ (by omega)
    have ht := zcR l[j].path (k' + 1) (by omega) (by omega)
    have := ih (m ++ [mN k' l[j]]) (by simp [hm])
    rw [zgH cN l j hj, show k + ((sumW cN (l.take j) + cN l[j] : Nat) : Int) = k' + 1 + (l[j].path.length : Int) from by push_cast; omega] at this
    have hd : mNs k' (l.drop j) = mN k' l[j] :: mNs (k' + 1 + (l[j].path.length : Int)) (l.drop (j + 1)) := by
     rw [zbe l j hj, mNs, hcn]; congr 2; push_cast; omega
    rw [hd, show m ++ mN k' l[j] :: mNs (k' + 1 + (l[j].path.length : Int)) (l.drop (j + 1)) = m ++ [mN k' l[j]] ++ mNs (k' + 1 + (l[j].path.length : Int)) (l.drop (j + 1)) from by simp, ← this]
    rw [zav.s2]
    have hlt : j < (m.map eN ++ (l.drop j).map eN).length := by omega
    have he : eN l[j] = [.v (.int .i64 l[j].id), .s (eSs l[j].path)] := rfl
    have hs' : List.set (m.map eN ++ (l.drop j).map eN) j [D.v (Value.int IntKind.i64 k'), D.s (eSs (mP (k' + 1) l[j].path))] = _ := hs
    rw [← hs']
    clear hs hs' this ih
    generalize m.map eN ++ (l.drop j).map eN = Y at *
    have hgs := fun x => zm3 Y j x hlt
    have h2 : decide ((j : Int) < (l.length : Int)) = true := by simp; omega
    have h3 : decide ((0 : Int) ≤ (j : Int)) = true := by simp
    simp only [Int.toNat_natCast, hg, hl, hw, zbk j (by omega), he, h2, h3, List.length_set, List.drop_succ_cons, List.drop_zero, hgs, List.set_set, List.getD_cons_succ, List.getD_cons_zero, es_s, ht, Option.bind_some]
    simp
 rw [zav.e]
 have := key 0 (by omega) [] rfl
 simpa [sumW] using this
theorem zgJ (l : List NodeOf) (k : Int) (h0 : 0 ≤ k) (h1 : k + (sumW cN l : Nat) ≤ Top) (hl0 : l.length ≤ 1048576) : zan [.one (.s ((mNs k l).map eN)), vI k] [] = rI (k + (sumW cN l : Nat)) := by
 have hT : Top = 1000000000000 := rfl
 have hlen := zm1 l k
 have key : ∀ j, j ≤ l.length → (zan.L2 ((mNs k l).map eN) (k + (sumW cN (l.take j) : Nat)) (j : Int)).bind zan.A2 = rI (k + (sumW cN l : Nat)) := by
  refine up l.length ?_ fun j hj ih => ?_
  · rw [zan.s2]
    simp [zan.a2x2]
  · have hj' : j < (mNs k l).length := by omega
    have hle := zm2 cN l (j + 1)
    rw [zgH cN l j hj] at hle ih
    have hcn : cN l[j] = 1 + l[j].path.length := rfl
    have hat := zom l k j hj' hj
    generalize hk' : k + ((sumW cN (l.take j) : Nat) : Int) = k' at *
    have hw : IntKind.i64.wrap (k' + 1) = k' + 1 := zcD _ (by omega)
    have ht := zcS l[j].path (k' + 1) (by omega) (by omega)
    rw [show k + ((sumW cN (l.take j) + cN l[j] : Nat) : Int) = k' + 1 + (l[j].path.length : Int) from by push_cast; omega] at ih
    have hn : ¬ k' + 1 + (l[j].path.length : Int) < 0 := by omega
    have hg : ((mNs k l).map eN).getD j [] = [.v (.int .i64 k'), .s (eSs (mP (k' + 1) l[j].path))] := by rw [zcb eN _ j hj', hat]; rfl
    rw [zan.s2, ← ih]
    simp only [Int.toNat_natCast, hg, hw, zbk j (by omega)]
    simp [ht, hj, hn]
 rw [zan.e]
 have := key 0 (by omega)
 simpa [sumW] using this
noncomputable def mNo (k : Int) (n : Nodes) : Nodes := ⟨n.next, mNs k n.list⟩
theorem zh4 (n : Nodes) (k : Int) (h0 : 0 ≤ k) (h1 : k + (sumW cN n.list : Nat) ≤ Top) (hl0 : n.list.length ≤ 1048576) :
 zbJ [.g [.v (.int .i64 n.next), .r 0 [] 0], vI k] [gV (n.list.map eN)] = rM (k + (sumW cN n.list : Nat)) ((mNs k n.list).map eN) := by
 rw [zbJ.e, zgI n.list k h0 h1 hl0]
 simp
theorem zh5 (n : Nodes) (k : Int) (h0 : 0 ≤ k) (h1 : k + (sumW cN n.list : Nat) ≤ Top) (hl0 : n.list.length ≤ 1048576) :
 zbv [vNs (mNo k n), vI k] [] = rI (k + (sumW cN n.list : Nat)) := by
 have hn : ¬ k + (sumW cN n.list : Int) < 0 := by omega
 show zbv [.g [.v (.int .i64 n.next), .s ((mNs k n.list).map eN)], vI k] [] = _
 rw [zbv.e, zgJ n.list k h0 h1 hl0]
 simp [hn]
end Go.PVx
