/- A part of the proof: PvT3, PvTC, PvTD, PvTE, PvTF, PvTG, PvTH, PvTI, PvTJ, PvTK, PvInZ. -/
import Derived.Test.YtkaclcgkndbppaaGreatDoorTre
import Derived.Test.YtkaclcgkndbppaaGreatDoorProg
import Derived.Test.YtkaclcgkndbppaaGreatDoorIns
import Derived.KernelRfl
set_option linter.unusedSimpArgs false
set_option linter.unusedVariables false
namespace Go.PVx
open Go.PV Go.Proofs
theorem znJ (h : Int) (b : UInt8) (h0 : 0 ≤ h) (h1 : h < 1000000007) : (131 * h + (b.toNat : Int)).tmod 1000000007 = (131 * h + (b.toNat : Int)) % 1000000007 := by
 have hb := b.toNat_lt
 rw [Int.tmod_eq_emod_of_nonneg (by omega)]
theorem znK (s : Str) (hs : s.length ≤ 1000000000000000) : zbv [vS s] [] = rI (idS 7 s) := by
 have hl : ∀ k, k ≤ s.length → ∀ h : Int, 0 ≤ h → h < 1000000007 → (zbv.L3 (mkS s) h (k : Int)).bind zbv.A3 = rI (idS h (s.drop k)) := by
  refine up s.length ?_ fun k hk ih => ?_
  · intro h _ _
    rw [zbv.s3, List.drop_length]
    simp (disch := omega) only [pvS, pvT, pvC, pvL, pvR, pvN, zbv.a3x3, idS]
  · intro h h0 h1
    have hb := (s[k]).toNat_lt
    have hst := znJ h s[k] h0 h1
    rw [zaO s k hk]
    unfold idS
    rw [zbv.s3]
    simp (disch := omega) only [pvS, pvT, pvC, pvL, pvR, pvN]
    rw [Int.mul_comm h 131, hst]
    exact ih _ (by omega) (by omega)
 have h0 := hl 0 (by omega) 7 (by omega) (by omega)
 rw [List.drop_zero] at h0
 rw [zbv.e]
 exact h0
theorem zkz (t : Tree) (d : Int) (hp : zbo d t = true) (hw : wT t ≤ 1048576) : za3 [vT t] [] = rI (idT t) := by
 have h1 := ziv t d hp (oT_of t hw) hw
 have hlen := ze1 t [] d hp (by have : wP [] = 0 := rfl; omega)
 have hc := zfK t
 rw [← zkt] at hlen
 have hs : (showT t).length ≤ 1000000000000000 := by omega
 have hl : ∀ k, k ≤ (showT t).length → ∀ h : Int, 0 ≤ h → h < 1000000007 → (za3.L4 h (mkS (showT t)) (showT t).length (k : Int)).bind za3.A4 = rI (idS h ((showT t).drop k)) := by
  refine up (showT t).length ?_ fun k hk ih => ?_
  · intro h _ _
    rw [za3.s4, List.drop_length]
    simp (disch := omega) only [pvS, pvT, pvC, pvL, pvR, pvN, za3.a4x4, idS]
  · intro h h0 h1
    have hb := ((showT t)[k]).toNat_lt
    have hst := znJ h (showT t)[k] h0 h1
    rw [zaO (showT t) k hk]
    unfold idS
    rw [za3.s4]
    simp (disch := omega) only [pvS, pvT, pvC, pvL, pvR, pvN]
    rw [hst]
    exact ih _ (by omega) (by omega)
 have h0 := hl 0 (by omega) 7 (by omega) (by omega)
 rw [List.drop_zero] at h0
 rw [za3.e]
 simp (disch := omega) only [pvS, pvT, pvC, pvL, pvR, pvN, h1]
 exact h0
theorem znL (t : Tree) (d : Int) (hp : zbo d t = true) (hw : wT t ≤ 1048576) : zdJ [vT t] [] = rI (idT t) := by
 have ho := oT_of t hw
 have hm := (zdT hp).1
 have hwt := wT_eq t
 have hw0 : wP [] = 0 := rfl
 have h2 := zhW t.dir t.mode t.data [] (eSs t.names) (t.kids.map eT) hm.m0 (by have := hm.m7; omega) (by omega) (by omega)
 have h3 := zlW t [] d hp ho (by omega)
 have hl := ze1 t [] d hp (by omega)
 have hc := zfK t
 rw [zeh] at hl
 simp only [List.length_append] at hl
 have e1 : pt [] = [47] := rfl
 have e2 : ptS [] = [] := rfl
 rw [e1] at h2
 rw [e2] at h3
 have h4 := znK (lineT t.dir t.mode t.data [] ++ showZ [] t.names t.kids) (by rw [List.length_append]; omega)
 unfold idT
 rw [zkt, zeh, zdJ.e]
 simp (disch := omega) only [pvS, pvT, pvC, pvL, pvR, pvN, pvO, h2, h3, h4]
def eRX (x : List Str × Tree) : List D := eR (rowX x)
theorem znM (x : List Str × Tree) : (eRX x).length = 5 := rfl
theorem zoT (x : List Str × Tree) : (eRX x).all (cellD true) = true := rfl
theorem zpb (p : List Str) (t : Tree) : eRX (p, t) = [.s (eSs p), .v (.bool t.dir), .v (.int .i64 t.mode), .v (.string (mkS t.data)), .v (.int .i64 (idT t))] := rfl
theorem zjJ (p : List Str) {ns : List Str} {ks : List Tree} {k : Nat} (h1 : k < ns.length) (h2 : k < ks.length) :
 subZ p (ns.drop k) (ks.drop k) = sub (p ++ [ns[k]]) ks[k] ++ subZ p (ns.drop (k + 1)) (ks.drop (k + 1)) := by
 rw [zaO ns k h1, zaO ks k h2, subZ]
theorem zlm (p : List Str) (ks : List Tree) : subZ p [] ks = [] := by cases ks <;> rfl
theorem zkA (t : Tree) : ∀ (p : List Str) (d : Int), zbo d t = true → wP p + wT t ≤ 1048576 → zaX [vP p, vT t] [] = rO ((sub p t).map eRX) := by
 induction t using Tree.ind with
 | h a b c ns ks ih =>
  intro p d hp hw
  have hn := zcf hp
  have hk := fun k (h : k ∈ ks) => zcj hp (k := k) h
  have hlen := zkq _ d p hp
  have hcc := zfK ⟨a, b, c, ns, ks⟩
  have hid := znL ⟨a, b, c, ns, ks⟩ d hp (by omega)
  rw [zc2] at hlen ⊢
  have hw' := hw
  rw [wT_eq] at hw'
  simp only [List.length_cons] at hn hw' hlen ⊢
  have hpl := zco p
  have hnl := zco ns
  have r1 : zaA 1 (eSs p) = true := Sx.rowsLen_map 1 eS (fun _ => rfl) _
  have r2 : zaL false (eSs p) = true := Sx.rowsCell_map false eS (fun _ => rfl) _
  have r3 : ∀ l : List (List Str × Tree), zaA 5 (l.map eRX) = true := Sx.rowsLen_map 5 eRX znM
  have r4 : ∀ l : List (List Str × Tree), zaL true (l.map eRX) = true := Sx.rowsCell_map true eRX zoT
  have hl : ∀ k, k ≤ ns.length → ∀ acc : List (List Str × Tree), acc.length + (subZ p (ns.drop k) (ks.drop k)).length ≤ 1048577 →
   (zaX.L3 (eSs p) (k : Int) a b (mkS c) (eSs ns) (ks.map eT) (acc.map eRX)).bind zaX.A3 = rO ((acc ++ subZ p (ns.drop k) (ks.drop k)).map eRX) := by
   refine up ns.length ?_ fun k hk1 ihk acc hacc => ?_
   · intro acc _
     rw [zaX.s3, List.drop_length, zlm, List.append_nil]
     simp (disch := omega) only [pvS, pvT, pvC, pvL, pvR, pvN, zaX.a3x3]
   · have hk2 : k < ks.length := by omega
     rw [zjJ p hk1 hk2] at hacc ⊢
     simp only [List.length_append] at hacc
     have hwk := wL_at wT hk2
     have hwn := wP_at hk1
     have hwp := zfv p ns[k]
     have h2 := zlT p ns[k] (by omega)
     have h3 := ih ks[k] (List.getElem_mem hk2) (p ++ [ns[k]]) (d + 1) (hk _ (List.getElem_mem hk2)) (by omega)
     have h4 := ihk (acc ++ sub (p ++ [ns[k]]) ks[k]) (by simp only [List.length_append]; omega)
     rw [List.append_assoc, List.map_append] at h4
     have r3' := r3 acc
     have r4' := r4 acc
     have r5 := r3 (sub (p ++ [ns[k]]) ks[k])
     have r6 := r4 (sub (p ++ [ns[k]]) ks[k])
     rw [zaX.s3, ← h4]
     generalize sub (p ++ [ns[k]]) ks[k] = Z at *
     simp (disch := omega) only [pvS, pvT, pvC, pvL, pvR, pvN, h2, h3, r3', r4', r5, r6, List.length_map]
  have h0 := hl 0 (by omega) [(p, ⟨a, b, c, ns, ks⟩)] (by simp only [List.drop_zero, List.length_cons, List.length_nil]; omega)
  simp only [List.drop_zero, List.map_cons, List.map_nil, zpb] at h0
  rw [zaX.e]
  simp (disch := omega) only [pvS, pvC, pvL, pvR, pvN, pvO, hid, r1, r2]
  exact h0
abbrev oBx (es : List (List D)) : PV.Obj := ⟨.box, [.s es], [.deep]⟩
theorem zfP (p : List Str) (t : Tree) (d : Int) (acc : List (List Str × Tree)) (hp : zbo d t = true) (hw : wP p + wT t ≤ 1048576) (ha : acc.length ≤ 1048577) :
 zaR [vP p, vT t, .one (.p true 0 [] 0)] [oBx (acc.map eRX)] = some ⟨[], [oBx ((acc ++ [(p, t)]).map eRX)]⟩ := by
 have h1 := zkz t d hp (by omega)
 have hpl := zco p
 have r1 : zaA 1 (eSs p) = true := Sx.rowsLen_map 1 eS (fun _ => rfl) _
 have r2 : zaL false (eSs p) = true := Sx.rowsCell_map false eS (fun _ => rfl) _
 have r3 : zaA 5 (acc.map eRX) = true := Sx.rowsLen_map 5 eRX znM _
 rw [zaR.e, List.map_append, List.map_cons, List.map_nil, zpb]
 simp (disch := omega) only [pvS, pvC, pvL, pvR, pvN, pvO, h1, r1, r2, r3, List.length_map]
theorem zeC (t : Tree) : ∀ (p : List Str) (d : Int) (acc : List (List Str × Tree)), zbo d t = true → wP p + wT t ≤ 1048576 → acc.length + (sub p t).length ≤ 1048577 →
 zaZ [vT t, vP p, .f zaR.id [.p true 0 [] 0]] [oBx (acc.map eRX)] = some ⟨[], [oBx ((acc ++ sub p t).map eRX)]⟩ := by
 induction t using Tree.ind with
 | h a b c ns ks ih =>
  intro p d acc hp hw hacc
  have hn := zcf hp
  have hk := fun k (h : k ∈ ks) => zcj hp (k := k) h
  have h1 := zfP p ⟨a, b, c, ns, ks⟩ d acc hp hw (by omega)
  rw [zc2] at hacc ⊢
  rw [wT_eq] at hw
  simp only [List.length_cons] at hn hw hacc ⊢
  have hpl := zco p
  have hnl := zco ns
  have hl : ∀ k, k ≤ ns.length → ∀ acc : List (List Str × Tree), acc.length + (subZ p (ns.drop k) (ks.drop k)).length ≤ 1048577 →
   (iTree_each_table.L3 (eSs p) (eSs ns) ns.length (k : Int) (acc.map eRX) a b (mkS c) (eSs ns) (ks.map eT)).bind iTree_each_table.A3 = some ⟨[], [oBx ((acc ++ subZ p (ns.drop k) (ks.drop k)).map eRX)]⟩ := by
   refine up ns.length ?_ fun k hk1 ihk acc hacc => ?_
   · intro acc _
     rw [iTree_each_table.s3, List.drop_length, zlm, List.append_nil]
     simp (disch := omega) only [pvS, pvT, pvC, pvL, pvR, pvN, iTree_each_table.a3x3]
   · have hk2 : k < ks.length := by omega
     rw [zjJ p hk1 hk2] at hacc ⊢
     simp only [List.length_append] at hacc
     have hwk := wL_at wT hk2
     have hwn := wP_at hk1
     have hwp := zfv p ns[k]
     have h2 := zjz p ns[k] (by omega)
     have h3 := ih ks[k] (List.getElem_mem hk2) (p ++ [ns[k]]) (d + 1) acc (hk _ (List.getElem_mem hk2)) (by omega) (by omega)
     have h4 := ihk (acc ++ sub (p ++ [ns[k]]) ks[k]) (by simp only [List.length_append]; omega)
     rw [List.append_assoc] at h4
     rw [iTree_each_table.s3, ← h4]
     generalize acc ++ sub (p ++ [ns[k]]) ks[k] = Z at *
     generalize acc.map eRX = Y at *
     generalize Z.map eRX = Z' at *
     simp (disch := omega) only [pvS, pvT, pvC, pvL, pvR, pvN, pvO, h2, h3]
  have h0 := hl 0 (by omega) (acc ++ [(p, ⟨a, b, c, ns, ks⟩)]) (by simp only [List.drop_zero, List.length_append, List.length_cons, List.length_nil]; omega)
  simp only [List.drop_zero] at h0
  rw [List.append_assoc, List.singleton_append] at h0
  rw [iTree_each_table.e, ← h0]
  generalize (acc ++ [(p, (⟨a, b, c, ns, ks⟩ : Tree))]).map eRX = Z' at *
  generalize acc.map eRX = Y at *
  simp (disch := omega) only [pvS, pvC, pvL, pvR, pvN, pvO, h1]
theorem zhk (t : Tree) (hp : zbo 0 t = true) (hw : wT t ≤ 1048576) : zby [vT t] [] = rO ((sub [] t).map eRX) := by
 have hlen := zkq t 0 [] hp
 have hc := zfK t
 have h1 := zeC t [] 0 [] hp (by have : wP [] = 0 := rfl; omega) (by simp only [List.length_nil]; omega)
 rw [List.nil_append] at h1
 have h1' : zaZ [vT t, AV.one (A1.s []), .f zaR.id [.p true 0 [] 0]] [oBx []] = _ := h1
 rw [zby.e]
 generalize (sub [] t).map eRX = Z at *
 simp (disch := omega) only [pvS, pvC, pvL, pvR, pvN, pvO, h1']
theorem znN (t : Tree) : (sub [] t).map eRX = (tabT t).map eR := by
 unfold tabT eRX
 rw [List.map_map]
 rfl
end Go.PVx
namespace Go.PVx
open Go.PV Go.Proofs
abbrev vR (r : Row) : AV := .g [.s (eSs r.path), .v (.bool r.dir), .v (.int .i64 r.mode), .v (.string (mkS r.data)), .v (.int .i64 r.id)]
abbrev vRs (l : List Row) : AV := .one (.s (l.map eR))
def wR (r : Row) : Nat := wP r.path + r.data.length
def sameR (a b : Row) : Bool := decide (a.path = b.path) && ((a.dir == b.dir) && ((a.mode == b.mode) && ((a.data == b.data) && (a.id == b.id))))
theorem znO (a b : Row) : sameR a b = true ↔ a = b := by
 obtain ⟨a1, a2, a3, a4, a5⟩ := a
 obtain ⟨b1, b2, b3, b4, b5⟩ := b
 simp [sameR]
def eqRs : List Row → List Row → Bool
 | [], [] => true
 | a :: x, b :: y => sameR a b && eqRs x y
 | _, _ => false
theorem zei : ∀ x y : List Row, eqRs x y = true ↔ x = y
 | [], [] => by simp [eqRs]
 | [], _ :: _ => by simp [eqRs]
 | _ :: _, [] => by simp [eqRs]
 | a :: x, b :: y => by simp [eqRs, znO, zei x y]
theorem zkB (a b : Row) (ha : a.path.length ≤ 1048576) : zbD [vR a, vR b] [] = rB (sameR a b) := by
 have h1 := zd0 a.path b.path (by omega)
 rw [zbD.e]
 unfold sameR
 generalize decide (a.path = b.path) = p at *
 simp (disch := omega) only [pvS, pvC, pvL, pvR, pvN, h1]
 generalize (a.dir == b.dir) = q
 generalize (a.mode == b.mode) = q1
 generalize (a.data == b.data) = q2
 generalize (a.id == b.id) = q3
 cases p <;> cases q <;> cases q1 <;> cases q2 <;> rfl
theorem zha (a b : Row) (ha : a.path.length ≤ 1048576) : zb5 [vR a, vR b] [] = rB (sameR a b) := by
 have h1 := zgO a.path b.path (by omega)
 rw [zb5.e]
 unfold sameR
 generalize decide (a.path = b.path) = p at *
 simp (disch := omega) only [pvS, pvC, pvL, pvR, pvN, h1]
 generalize (a.dir == b.dir) = q
 generalize (a.mode == b.mode) = q1
 generalize (a.data == b.data) = q2
 generalize (a.id == b.id) = q3
 cases p <;> cases q <;> cases q1 <;> cases q2 <;> rfl
theorem zeq {l : List Row} {k : Nat} (h : k < l.length) : l[k].path.length + 1 ≤ wL wR l := by
 have h1 := wL_at wR h
 have h2 := zco l[k].path
 have e : wR l[k] = wP l[k].path + l[k].data.length := rfl
 omega
theorem znP (x y : List Row) (hw : wL wR x ≤ 1048576) (hy : y.length ≤ 1048576) : zaa [vRs x, vRs y, .f zbD.id []] [] = rB (eqRs x y) := by
 have hl := zbX wR x
 rw [zaa.e]
 by_cases hlen : x.length = y.length
 · have key : ∀ k, k ≤ x.length → (zaa.L4 (y.map eR) (x.map eR) x.length (k : Int)).bind zaa.A4 = rB (eqRs (x.drop k) (y.drop k)) := by
    refine up x.length ?_ fun k hk ih => ?_
    · rw [zaa.s4, List.drop_length, hlen, List.drop_length]
      simp (disch := omega) only [pvS, pvL, pvN, zaa.a4x4, eqRs]
    · have hk2 : k < y.length := by omega
      have h1 := zkB x[k] y[k] (by have := zeq hk; omega)
      rw [zaO x k hk, zaO y k hk2]
      unfold eqRs
      rw [zaa.s4]
      cases hb : sameR x[k] y[k] with
      | true =>
       rw [hb] at h1
       simp (disch := omega) only [pvS, pvT, pvC, pvL, pvR, pvN, h1]
       exact ih
      | false =>
       rw [hb] at h1
       simp (disch := omega) only [pvS, pvT, pvC, pvL, pvR, pvN, h1, zaa.a4q4]
   have h0 := key 0 (by omega)
   simp only [List.drop_zero] at h0
   simp (disch := omega) only [pvS, pvT, pvC, pvL, pvR, pvN, List.length_map, hlen] at h0 ⊢
   exact h0
 · have : eqRs x y = false := by
    cases h : eqRs x y with
    | false => rfl
    | true => exact absurd (congrArg List.length ((zei x y).1 h)) hlen
   rw [this]
   simp (disch := omega) only [pvS, pvT, pvC, pvL, pvR, pvN, List.length_map]
theorem zhb (r : Row) : wT (rowT r) = r.data.length := by rw [wT_eq]; simp [rowT, wP, wL]
theorem tab_w {t : Tree} (h : treeB t = true) : wL wR (tabT t) ≤ 100000 := by
 have hl := zkr h
 have hc := zgX h
 have key : ∀ l : List (List Str × Tree), (∀ x ∈ l, wP x.1 + x.2.data.length ≤ 2000) → wL wR (l.map rowX) ≤ 2001 * l.length := by
  intro l
  induction l with
  | nil => simp [wL]
  | cons a l ih =>
   intro h
   have h1 := h a (by simp)
   have h2 := ih fun x hx => h x (by simp [hx])
   have e : wR (rowX a) = wP a.1 + a.2.data.length := rfl
   simp only [List.map_cons, wL, List.length_cons]
   omega
 have h1 := key (sub [] t) fun x hx => by
  obtain ⟨e, h3, h4, h5⟩ := zo9 t 0 [] (zcg h) rfl (by simp) x hx
  obtain ⟨h6, h7⟩ := zdT h3
  have h8 := zoS h5
  have h9 : x.2.data.length ≤ 24 := by
   cases hd : x.2.dir with
   | true => rw [h6.dat hd]; simp
   | false => exact (h6.file hd).1
  omega
 have e : (sub [] t).length = (tabT t).length := by unfold tabT; rw [List.length_map]
 have e2 : tabT t = (sub [] t).map rowX := rfl
 rw [e2]
 rw [e] at h1
 omega
theorem zai.fin (all : List Row) (hall : all.length ≤ 1048576) (t : Tree) (hw : wT t ≤ 1048576) : zai.A5 (zai.x5 (all.map eR) false 0 (mkS []) [] [] t.dir t.mode (mkS t.data) (eSs t.names) (t.kids.map eT)) =
 rTB (if treeB t = true ∧ tabT t = all then some t else none) := by
 have h1 := zlS t (oT_of t hw) hw
 have h2 := zhj t hw
 rw [zai.a5x5]
 cases hb : treeB t with
 | false =>
  rw [hb] at h1
  rw [if_neg (fun h => by simp at h)]
  simp (disch := omega) only [pvS, pvT, pvC, pvL, pvR, pvN, h1, zai.p16]
  rfl
 | true =>
  rw [hb] at h1
  have h3 := zhk t (zcg hb) hw
  rw [znN] at h3
  have h4 := znP (tabT t) all (by have := tab_w hb; omega) hall
  by_cases hc : tabT t = all
  · have e : eqRs (tabT t) all = true := (zei _ _).2 hc
    rw [if_pos ⟨rfl, hc⟩]
    rw [e] at h4
    generalize tabT t = rs at *
    simp (disch := omega) only [pvS, pvC, pvL, pvR, pvN, h1, h2, h3, h4, zai.p16, zai.p17]
    rfl
  · have e : eqRs (tabT t) all = false := by
     cases h : eqRs (tabT t) all with
     | false => rfl
     | true => exact absurd ((zei _ _).1 h) hc
    rw [if_neg (fun h => hc h.2)]
    rw [e] at h4
    generalize tabT t = rs at *
    simp (disch := omega) only [pvS, pvC, pvL, pvR, pvN, h1, h2, h3, h4, zai.p16, zai.p17]
    rfl
end Go.PVx
namespace Go.PVx
open Go.PV Go.Proofs
theorem zkC {q : List Str} {n : Str} : (n.length + 1) + q.length ≤ wP (q ++ [n]) := by
 have := zfv q n
 have := zco q
 omega
theorem zai.l5 (all rs : List Row) (hall : all.length ≤ 1048576) (hrs : rs.length ≤ 1048576) : ∀ k, k ≤ rs.length → ∀ t : Tree, OkT t → wT t + wL wR (rs.drop k) ≤ 1048576 →
 (zai.L5 (all.map eR) (rs.map eR) rs.length (k : Int) false 0 (mkS []) [] [] t.dir t.mode (mkS t.data) (eSs t.names) (t.kids.map eT)).bind zai.A5 =
 rTB ((zfM t (rs.drop k)).bind fun z => if treeB z = true ∧ tabT z = all then some z else none) := by
 refine up rs.length ?_ fun k hk ih => ?_
 · intro t ho hw
   rw [List.drop_length] at hw ⊢
   simp only [wL] at hw
   have hf := zai.fin all hall t (by omega)
   rw [zai.s5]
   simp (disch := omega) only [pvS, pvL, pvN]
   rw [hf]
   rfl
 · intro t ho hw
   rw [zfq wR hk] at hw
   rw [zaO rs k hk]
   unfold zfM
   have hwr := zhb rs[k]
   have hr : rs[k] = rs[k] := rfl
   rw [zai.s5]
   have eR1 : (rs.map eR).getD k [] = eR rs[k] := by rw [List.getD_eq_getElem?_getD, List.getElem?_map, List.getElem?_eq_getElem hk]; rfl
   generalize rs[k] = r at *
   obtain ⟨p, d, m, dat, i⟩ := r
   have hwe : wR ⟨p, d, m, dat, i⟩ = wP p + dat.length := rfl
   have hrow : rowT ⟨p, d, m, dat, i⟩ = ⟨d, m, dat, [], []⟩ := rfl
   rw [hrow] at hwr ⊢
   simp only at hwr ⊢
   rcases List.eq_nil_or_concat p with rfl | ⟨q, n, rfl⟩
   · rw [if_pos rfl]
     simp (disch := omega) only [pvS, pvC, pvL, pvR, pvN, eR1, eR, List.length_map, Int.toNat_natCast, zai.a5q5]
     rfl
   · rw [List.concat_eq_append] at *
     have hne : q ++ [n] ≠ [] := by simp
     have hwl := @zkC q n
     rw [if_neg hne]
     have hat := zkx t q (by omega) ho (by omega)
     have e0 : ((q.length + 1 : Nat) : Int) - 1 = (q.length : Int) := by omega
     have e1 : List.take q.length (q ++ [n]) = q := by simp
     have e2 := zoR q n
     have hpu := fun z (h : putAt insI ⟨d, m, dat, [], []⟩ t (q ++ [n]) = some z) => zoO h ho (OkT.leaf d m dat)
     simp (disch := omega) only [pvS, pvC, pvL, pvR, pvN, eR1, eR, List.length_map, Int.toNat_natCast, List.length_append, List.length_cons, List.length_nil, e0, e1]
     rw [zg4] at hpu ⊢
     cases hloc : locT t q with
     | none =>
      rw [hloc] at hat
      simp only [rAt] at hat
      simp (disch := omega) only [pvS, pvT, pvC, pvL, pvR, pvN, pvO, hat, zf1, zg6, ok_p, List.isEmpty_nil, zai.p11, zai.a5q5]
      rfl
     | some y =>
      obtain ⟨π, c⟩ := y
      have hco := zkv q t _ hloc ho
      have hcw := loc_w q t _ hloc
      rw [hloc] at hat hpu
      simp only [rAt] at hat
      obtain ⟨hz, hzw⟩ := hpu _ rfl
      simp only at hco hcw hz hzw
      rw [hwr] at hzw
      have hlast : ((q ++ [n]).getLastD []) = n := by simp
      rw [hlast] at hzw
      have hput := ziw c n d m dat hco (by omega)
      have ih2 := ih _ hz (by omega)
      simp only [Option.map_some, Option.bind_some]
      refine Eq.trans ?_ ih2
      cases π with
      | nil =>
       obtain ⟨rfl, hs⟩ := zp6 hloc (insI c n ⟨d, m, dat, [], []⟩)
       rw [hs]
       simp (disch := omega) only [pvS, pvT, pvC, pvL, pvR, pvN, pvO, hat, zf1, zg6, ok_p, List.isEmpty_nil, zai.p11, e2, hput]
      | cons b π =>
       obtain ⟨a, j⟩ := b
       obtain ⟨rfl, hj, g1, g2, g3, g4, g5, g6⟩ := zoN hloc (insI c n ⟨d, m, dat, [], []⟩)
       rw [g3, g4, g5, g6]
       rw [eT_eq (insI c n _)] at g2
       simp (disch := omega) only [pvS, pvC, pvL, pvR, pvN, pvO, hat, zkw, zg6, ok_p, List.isEmpty_cons, List.headD_cons, List.tail_cons]
       rw [zai.p11b]
       generalize (t.kids.map eT).getD j [] = R at *
       simp (disch := omega) only [pvS, pvT, pvC, pvL, pvR, pvN, pvO, e2, g1, hput, List.map_cons, List.map_nil, List.isEmpty_cons]
       rw [← g2]
       rfl
theorem zix (rs : List Row) (hw : wL wR rs ≤ 1048576) : zai [vRs rs] [] = rTB (RRI rs) := by
 have hl := zbX wR rs
 have hin := zef (rs.length : Int) 1 31
 unfold inB at hin
 rw [zai.e]
 cases rs with
 | nil =>
  have hin' : zb8 [vI 0, vI 1, vI 31] [] = rB false := zef 0 1 31
  simp (disch := omega) only [pvS, pvC, pvL, pvR, pvN, List.map_nil, List.length_nil, hin']
  rfl
 | cons r rs =>
  rw [zis]
  simp only [List.length_cons] at hl hin ⊢
  by_cases h31 : 31 < rs.length + 1
  · rw [if_pos h31]
    simp (disch := omega) only [pvS, pvC, pvL, pvR, pvN, List.length_map, List.length_cons, hin]
    rfl
  · rw [if_neg h31]
    simp only [wL] at hw
    have hwe : wR r = wP r.path + r.data.length := rfl
    have h2 := zai.l5 (r :: rs) rs (by simp only [List.length_cons]; omega) (by omega) 0 (by omega) (rowT r) (OkT.leaf _ _ _) (by rw [zhb]; simp only [List.drop_zero]; omega)
    simp (disch := omega) only [pvS, pvC, pvL, pvR, pvN, List.length_map, List.length_cons, List.map_cons, hin, eR]
    have e1 : ∀ x : List D, List.drop 1 (List.take (rs.length + 1) (x :: rs.map eR)) = rs.map eR := fun x => by
     rw [List.take_of_length_le (by simp), List.drop_succ_cons, List.drop_zero]
    have e2 : min (rs.length + 1) (rs.length + 1) - 1 = rs.length := by omega
    have e3 : ((min (rs.length + 1) (rs.length + 1) : Nat) : Int) - 1 = (rs.length : Int) := by omega
    simp only [e1, e2, e3, zai.p5]
    exact h2
end Go.PVx
namespace Go.PVx
open Go.PV Go.Proofs
theorem zhX (t : Tree) : wT t ≤ 1048576 → zbb [vT t] [] = rT t := by
 induction t using Tree.ind with
 | h d m s ns ks ih =>
  intro hw
  have hwt := wT_eq ⟨d, m, s, ns, ks⟩
  simp only at hwt
  have hl1 := zbX wT ks
  have hl2 := zco ns
  have r1 : zaA 1 (eSs ns) = true := Sx.rowsLen_map 1 eS (fun _ => rfl) ns
  have r2 : zaL false (eSs ns) = true := Sx.rowsCell_map false eS (fun _ => rfl) ns
  have hl : ∀ k, k ≤ ks.length → (zbb.L3 (k : Int) d m (mkS s) (eSs ns) (ks.map eT) false 0 (mkS []) [] [] d m (mkS s) (eSs ns) ((ks.take k).map eT)).bind zbb.A3 = rT ⟨d, m, s, ns, ks⟩ := by
   refine up ks.length ?_ fun k hk ihk => ?_
   · rw [zbb.s3, List.take_length]
     simp (disch := omega) only [pvS, pvT, pvC, pvL, pvR, pvN, zbb.a3x3, r1, r2]
   · have hk1 := wL_at wT hk
     have h1 := ih ks[k] (List.getElem_mem hk) (by omega)
     have r3 : zaA 5 ((ks.take k).map eT) = true := Sx.rowsLen_map 5 eT Sx.eT_len _
     have e : (ks.take k).map eT ++ [eT ks[k]] = (ks.take (k + 1)).map eT := by
      rw [List.take_add_one, List.getElem?_eq_getElem hk, List.map_append]; rfl
     have e2 : ((ks.take k).map eT).length = k := by simp; omega
     rw [← ihk, ← e, zbb.s3]
     rw [eT_eq ks[k]]
     simp (disch := omega) only [pvS, pvT, pvC, pvL, pvR, pvN, h1, r3, e2]
  have h0 := hl 0 (by omega)
  rw [zbb.e]
  simp (disch := omega) only [pvS, pvT, pvC, pvL, pvR, pvN, r1, r2]
  exact h0
theorem ze4 (t : Tree) (hw : wT t ≤ 1048576) : zbx [vT t] [] = rO (if treeB t = true then (tabT t).map eR else []) := by
 have h0 := zlR t (oT_of t hw) hw
 rw [zbx.e]
 cases hb : treeB t with
 | false =>
  rw [hb] at h0
  simp (disch := omega) only [pvS, pvT, pvC, pvL, pvR, pvN, h0]
  rfl
 | true =>
  rw [hb] at h0
  have h1 : zaX [AV.one (A1.s []), vT t] [] = _ := zkA t [] 0 (zcg hb) (by have : wP [] = 0 := rfl; omega)
  rw [znN] at h1
  rw [if_pos rfl]
  generalize (tabT t).map eR = Z at *
  simp (disch := omega) only [pvS, pvC, pvL, pvR, pvN, h0, h1]
theorem zab.c18 (all made : List Row) (hw : wL wR made ≤ 1048576) (hall : all.length ≤ 1048576) (hlen : made.length = all.length) (t : Tree) (ht : wT t ≤ 1048576) : ∀ k, k ≤ all.length →
 (zab.L18 (all.map eR) (k : Int) false 0 (mkS []) [] [] t.dir t.mode (mkS t.data) (eSs t.names) (t.kids.map eT) (made.map eR)).bind zab.A18 = rTB (if eqRs (made.drop k) (all.drop k) = true then some t else none) := by
 have h2 := zhX t ht
 refine up all.length ?_ fun k hk ih => ?_
 · have e : eqRs (made.drop all.length) (all.drop all.length) = true := by rw [List.drop_length, ← hlen, List.drop_length]; rfl
   rw [if_pos e, zab.s18]
   simp (disch := omega) only [pvS, pvC, pvL, pvR, pvN, List.length_map, zab.a18x18, h2]
   rfl
 · have hk2 : k < made.length := by omega
   have h1 := zha made[k] all[k] (by have := zeq hk2; omega)
   rw [zaO all k hk, zaO made k hk2]
   unfold eqRs
   rw [zab.s18]
   cases hb : sameR made[k] all[k] with
   | true =>
    rw [hb] at h1
    simp (disch := omega) only [pvS, pvT, pvC, pvL, pvR, pvN, List.length_map, h1, Bool.true_and]
    exact ih
   | false =>
    rw [hb] at h1
    rw [if_neg (by simp)]
    simp (disch := omega) only [pvS, pvT, pvC, pvL, pvR, pvN, List.length_map, h1, zab.a18q18]
    rfl
theorem zab.fin (all : List Row) (hall : all.length ≤ 1048576) (h1 : 1 ≤ all.length) (t : Tree) (hw : wT t ≤ 1048576) : zab.A5 (zab.x5 (all.map eR) false 0 (mkS []) [] [] t.dir t.mode (mkS t.data) (eSs t.names) (t.kids.map eT)) =
 rTB (if treeB t = true ∧ tabT t = all then some t else none) := by
 have hm := ze4 t hw
 rw [zab.a5x5]
 cases hb : treeB t with
 | false =>
  rw [hb] at hm
  rw [if_neg (fun h => by simp at h)]
  rw [if_neg (by simp)] at hm
  simp (disch := omega) only [pvS, pvC, pvL, pvR, pvN, List.length_map, hm]
  rfl
 | true =>
  rw [hb, if_pos rfl] at hm
  have htw := tab_w hb
  have htl := zbX wR (tabT t)
  generalize tabT t = made at *
  by_cases hlen : made.length = all.length
  · have hc := zab.c18 all made (by omega) hall hlen t hw 0 (by omega)
    simp only [List.drop_zero, zei] at hc
    simp (disch := omega) only [pvS, pvC, pvL, pvR, pvN, List.length_map, hm, hlen]
    refine hc.trans ?_
    simp only [true_and]
  · rw [if_neg (fun h => hlen (congrArg List.length h.2))]
    simp (disch := omega) only [pvS, pvC, pvL, pvR, pvN, List.length_map, hm]
    rfl
theorem zab.c18b (all made : List Row) (hw : wL wR made ≤ 1048576) (hall : all.length ≤ 1048576) (hlen : made.length = all.length) (t : Tree) (ht : wT t ≤ 1048576) : ∀ k, k ≤ all.length →
 (zab.L18b (all.map eR) (k : Int) false 0 (mkS []) [] [] t.dir t.mode (mkS t.data) (eSs t.names) (t.kids.map eT) (made.map eR)).bind zab.A18 = rTB (if eqRs (made.drop k) (all.drop k) = true then some t else none) := by
 have h2 := zhX t ht
 refine up all.length ?_ fun k hk ih => ?_
 · have e : eqRs (made.drop all.length) (all.drop all.length) = true := by rw [List.drop_length, ← hlen, List.drop_length]; rfl
   rw [if_pos e, zab.s18b]
   simp (disch := omega) only [pvS, pvC, pvL, pvR, pvN, List.length_map, zab.a18x18b, h2]
   rfl
 · have hk2 : k < made.length := by omega
   have h1 := zha made[k] all[k] (by have := zeq hk2; omega)
   rw [zaO all k hk, zaO made k hk2]
   unfold eqRs
   rw [zab.s18b]
   cases hb : sameR made[k] all[k] with
   | true =>
    rw [hb] at h1
    simp (disch := omega) only [pvS, pvT, pvC, pvL, pvR, pvN, List.length_map, h1, Bool.true_and]
    exact ih
   | false =>
    rw [hb] at h1
    rw [if_neg (by simp)]
    simp (disch := omega) only [pvS, pvT, pvC, pvL, pvR, pvN, List.length_map, h1, zab.a18q18b]
    rfl
theorem zab.finb (all : List Row) (hall : all.length ≤ 1048576) (h1 : 1 ≤ all.length) (t : Tree) (hw : wT t ≤ 1048576) : zab.A5 (zab.x5b (all.map eR) false 0 (mkS []) [] [] t.dir t.mode (mkS t.data) (eSs t.names) (t.kids.map eT)) =
 rTB (if treeB t = true ∧ tabT t = all then some t else none) := by
 have hm := ze4 t hw
 rw [zab.a5x5b]
 cases hb : treeB t with
 | false =>
  rw [hb] at hm
  rw [if_neg (fun h => by simp at h)]
  rw [if_neg (by simp)] at hm
  simp (disch := omega) only [pvS, pvC, pvL, pvR, pvN, List.length_map, hm]
  rfl
 | true =>
  rw [hb, if_pos rfl] at hm
  have htw := tab_w hb
  have htl := zbX wR (tabT t)
  generalize tabT t = made at *
  by_cases hlen : made.length = all.length
  · have hc := zab.c18b all made (by omega) hall hlen t hw 0 (by omega)
    simp only [List.drop_zero, zei] at hc
    simp (disch := omega) only [pvS, pvC, pvL, pvR, pvN, List.length_map, hm, hlen]
    refine hc.trans ?_
    simp only [true_and]
  · rw [if_neg (fun h => hlen (congrArg List.length h.2))]
    simp (disch := omega) only [pvS, pvC, pvL, pvR, pvN, List.length_map, hm]
    rfl
theorem zab.line (all : List Row) (hall : wL wR all ≤ 1048576) (k : Nat) (hk : k < all.length) (t : Tree) (ho : OkL t) (hw : wT t ≤ 1048576) :
 (zab.L5 (all.map eR) (k : Int) false 0 (mkS []) [] [] t.dir t.mode (mkS t.data) (eSs t.names) (t.kids.map eT)).bind zab.A5 =
 (match (if pathB 1 all[k].path = true then putAt insS (rowT all[k]) t all[k].path else none) with
 | none => rTB none
 | some z => (zab.L5b (all.map eR) ((k + 1 : Nat) : Int) false 0 (mkS []) [] [] z.dir z.mode (mkS z.data) (eSs z.names) (z.kids.map eT)).bind zab.A5) := by
 have hat := wL_at wR hk
 have hln := zbX wR all
 have eR1 : (all.map eR).getD k [] = eR all[k] := by rw [List.getD_eq_getElem?_getD, List.getElem?_map, List.getElem?_eq_getElem hk]; rfl
 rw [zab.s5]
 generalize all[k] = r at *
 obtain ⟨p, d, m, dat, i⟩ := r
 have hwe : wR ⟨p, d, m, dat, i⟩ = wP p + dat.length := rfl
 have hrow : rowT ⟨p, d, m, dat, i⟩ = ⟨d, m, dat, [], []⟩ := rfl
 have hpl := zco p
 have hpo := zfH p (oP_of (by omega))
 rw [hrow]
 simp only
 cases hb : pathB 1 p with
 | false =>
  rw [hb] at hpo
  rw [if_neg (by simp)]
  simp (disch := omega) only [pvS, pvC, pvL, pvR, pvN, eR1, eR, List.length_map, Int.toNat_natCast, hpo, zab.a5q5]
  rfl
 | true =>
  rw [hb] at hpo
  rw [if_pos rfl]
  have hne : p ≠ [] := fun h => by subst h; exact absurd hb (by decide)
  obtain ⟨u, hu1, hu2⟩ := zg9 ⟨d, m, dat, [], []⟩ p t hne (by omega) ho hw
  have hu3 : zbq [vT t, vP p, .g [.v (.bool d), .v (.int .i64 m), .v (.string (mkS dat)), .s [], .s []]] [] = _ := hu1
  cases hz : putAt insS ⟨d, m, dat, [], []⟩ t p with
  | none =>
   rw [hz] at hu3
   simp (disch := omega) only [pvS, pvC, pvL, pvR, pvN, eR1, eR, List.length_map, Int.toNat_natCast, hpo, hu3, rPut, Option.isSome_none, zab.p11, zab.a5q5b]
   rfl
  | some z =>
   rw [hz] at hu3
   obtain rfl := hu2 z hz
   simp (disch := omega) only [pvS, pvC, pvL, pvR, pvN, eR1, eR, List.length_map, Int.toNat_natCast, hpo, hu3, rPut, Option.isSome_some, zab.p11]
theorem zab.lineb (all : List Row) (hall : wL wR all ≤ 1048576) (k : Nat) (hk : k < all.length) (t : Tree) (ho : OkL t) (hw : wT t ≤ 1048576) :
 (zab.L5b (all.map eR) (k : Int) false 0 (mkS []) [] [] t.dir t.mode (mkS t.data) (eSs t.names) (t.kids.map eT)).bind zab.A5 =
 (match (if pathB 1 all[k].path = true then putAt insS (rowT all[k]) t all[k].path else none) with
 | none => rTB none
 | some z => (zab.L5b (all.map eR) ((k + 1 : Nat) : Int) false 0 (mkS []) [] [] z.dir z.mode (mkS z.data) (eSs z.names) (z.kids.map eT)).bind zab.A5) := by
 have hat := wL_at wR hk
 have hln := zbX wR all
 have eR1 : (all.map eR).getD k [] = eR all[k] := by rw [List.getD_eq_getElem?_getD, List.getElem?_map, List.getElem?_eq_getElem hk]; rfl
 rw [zab.s5b]
 generalize all[k] = r at *
 obtain ⟨p, d, m, dat, i⟩ := r
 have hwe : wR ⟨p, d, m, dat, i⟩ = wP p + dat.length := rfl
 have hrow : rowT ⟨p, d, m, dat, i⟩ = ⟨d, m, dat, [], []⟩ := rfl
 have hpl := zco p
 have hpo := zfH p (oP_of (by omega))
 rw [hrow]
 simp only
 cases hb : pathB 1 p with
 | false =>
  rw [hb] at hpo
  rw [if_neg (by simp)]
  simp (disch := omega) only [pvS, pvC, pvL, pvR, pvN, eR1, eR, List.length_map, Int.toNat_natCast, hpo, zab.a5q5c]
  rfl
 | true =>
  rw [hb] at hpo
  rw [if_pos rfl]
  have hne : p ≠ [] := fun h => by subst h; exact absurd hb (by decide)
  obtain ⟨u, hu1, hu2⟩ := zg9 ⟨d, m, dat, [], []⟩ p t hne (by omega) ho hw
  have hu3 : zbq [vT t, vP p, .g [.v (.bool d), .v (.int .i64 m), .v (.string (mkS dat)), .s [], .s []]] [] = _ := hu1
  cases hz : putAt insS ⟨d, m, dat, [], []⟩ t p with
  | none =>
   rw [hz] at hu3
   simp (disch := omega) only [pvS, pvC, pvL, pvR, pvN, eR1, eR, List.length_map, Int.toNat_natCast, hpo, hu3, rPut, Option.isSome_none, zab.p11b, zab.a5q5c]
   rfl
  | some z =>
   rw [hz] at hu3
   obtain rfl := hu2 z hz
   simp (disch := omega) only [pvS, pvC, pvL, pvR, pvN, eR1, eR, List.length_map, Int.toNat_natCast, hpo, hu3, rPut, Option.isSome_some, zab.p11b]
theorem zab.l5b (all : List Row) (hall : wL wR all ≤ 1048576) : ∀ k, k ≤ all.length → 1 ≤ k → ∀ t : Tree, OkL t → wT t + wL wR (all.drop k) ≤ 1048576 →
 (zab.L5b (all.map eR) (k : Int) false 0 (mkS []) [] [] t.dir t.mode (mkS t.data) (eSs t.names) (t.kids.map eT)).bind zab.A5 =
 rTB ((zd3 t (all.drop k)).bind fun z => if treeB z = true ∧ tabT z = all then some z else none) := by
 have hln := zbX wR all
 refine up all.length ?_ fun k hk ih => ?_
 · intro h1 t ho hw
   rw [List.drop_length] at hw ⊢
   simp only [wL] at hw
   have hf := zab.finb all (by omega) h1 t (by omega)
   rw [zab.s5b]
   simp (disch := omega) only [pvS, pvL, pvN, List.length_map]
   exact hf
 · intro h1 t ho hw
   rw [zfq wR hk] at hw
   rw [zaO all k hk, zab.lineb all hall k hk t ho (by omega)]
   unfold zd3
   by_cases hb : pathB 1 all[k].path = true
   · rw [if_pos hb, if_pos hb]
     cases hz : putAt insS (rowT all[k]) t all[k].path with
     | none => rfl
     | some z =>
      obtain ⟨z1, z2⟩ := zg8 (rowT all[k]) (OkL.leaf _ _ _) _ t z hz ho
      rw [zhb] at z2
      have hwe : wR all[k] = wP all[k].path + all[k].data.length := rfl
      have hne : all[k].path ≠ [] := fun h => by rw [h] at hb; exact absurd hb (by decide)
      obtain ⟨q, n, hq⟩ := (List.eq_nil_or_concat all[k].path).resolve_left hne
      rw [List.concat_eq_append] at hq
      rw [hq] at hwe z2
      have hlast : ((q ++ [n]).getLastD []) = n := by simp
      have hwl := @zkC q n
      rw [hlast] at z2
      simp only [Option.bind_some]
      exact ih (by omega) z z1 (by omega)
   · rw [if_neg hb, if_neg hb]; rfl
theorem ziy (all : List Row) (hall : wL wR all ≤ 1048576) : zab [vRs all] [] = rTB (RRS all) := by
 have hln := zbX wR all
 rw [zab.e]
 cases all with
 | nil =>
  simp (disch := omega) only [pvS, pvC, pvL, pvR, pvN, List.map_nil, List.length_nil, zab.p2]
  rfl
 | cons r rs =>
  rw [zit]
  have eR0 : ((r :: rs).map eR).getD 0 [] = eR r := rfl
  have hwe : wR r = wP r.path + r.data.length := rfl
  have hpl := zco r.path
  simp only [List.length_cons] at hln
  have hall' := hall
  simp only [wL] at hall'
  by_cases h31 : 31 < (r :: rs).length
  · rw [if_pos (Or.inl h31)]
    simp only [List.length_cons] at h31
    simp (disch := omega) only [pvS, pvC, pvL, pvR, pvN, List.length_map, List.length_cons, zab.p2]
    rfl
  · have h31' := h31
    simp only [List.length_cons] at h31'
    by_cases hp : r.path = []
    · rw [if_neg (by rw [not_or]; exact ⟨h31, fun h => h hp⟩)]
      have hstart : (zab.L5 ((r :: rs).map eR) ((1 : Nat) : Int) false 0 (mkS []) [] [] (rowT r).dir (rowT r).mode (mkS (rowT r).data) (eSs (rowT r).names) ((rowT r).kids.map eT)).bind zab.A5 =
       rTB ((zd3 (rowT r) rs).bind fun t => if treeB t = true ∧ tabT t = r :: rs then some t else none) := by
       cases hrs : rs with
       | nil =>
        have hf := zab.fin [r] (by simp) (by simp) (rowT r) (by rw [zhb]; omega)
        rw [zab.s5]
        simp (disch := omega) only [pvS, pvL, pvN, List.length_map, List.length_cons, List.length_nil]
        exact hf
       | cons r2 rs2 =>
        rw [← hrs]
        have h2l : 1 < (r :: rs).length := by rw [hrs]; simp
        rw [zab.line (r :: rs) hall 1 h2l (rowT r) (OkL.leaf _ _ _) (by rw [zhb]; omega)]
        have eg : (r :: rs)[1] = r2 := by simp [hrs]
        rw [eg]
        have eP : zd3 (rowT r) rs = if pathB 1 r2.path = true then (putAt insS (rowT r2) (rowT r) r2.path).bind fun z => zd3 z rs2 else none := by rw [hrs]; rfl
        rw [eP]
        by_cases hb : pathB 1 r2.path = true
        · rw [if_pos hb, if_pos hb]
          cases hz : putAt insS (rowT r2) (rowT r) r2.path with
          | none => rfl
          | some z =>
           obtain ⟨z1, z2⟩ := zg8 (rowT r2) (OkL.leaf _ _ _) _ (rowT r) z hz (OkL.leaf _ _ _)
           rw [zhb, zhb] at z2
           have hwe2 : wR r2 = wP r2.path + r2.data.length := rfl
           have hne : r2.path ≠ [] := fun h => by rw [h] at hb; exact absurd hb (by decide)
           obtain ⟨q, n, hq⟩ := (List.eq_nil_or_concat r2.path).resolve_left hne
           rw [List.concat_eq_append] at hq
           rw [hq] at hwe2 z2
           have hlast : ((q ++ [n]).getLastD []) = n := by simp
           have hwl := @zkC q n
           rw [hlast] at z2
           have hrw : wL wR rs = 1 + wR r2 + wL wR rs2 := by rw [hrs]; rfl
           have hdr : (r :: rs).drop 2 = rs2 := by rw [hrs]; rfl
           have := zab.l5b (r :: rs) hall 2 (by simp only [List.length_cons] at h2l ⊢; omega) (by omega) z z1 (by rw [hdr]; omega)
           rw [hdr] at this
           simp only [Option.bind_some]
           exact this
        · rw [if_neg hb, if_neg hb]; rfl
      simp (disch := omega) only [pvS, pvC, pvL, pvR, pvN, List.length_map, List.length_cons, eR0, eR, hp, List.length_nil, zab.p2, zab.p3]
      exact hstart
    · have hpn : 0 < r.path.length := List.length_pos_iff.2 hp
      rw [if_pos (Or.inr hp)]
      simp (disch := omega) only [pvS, pvC, pvL, pvR, pvN, List.length_map, List.length_cons, eR0, eR, zab.p2]
      rfl
end Go.PVx
namespace Go.PVx
open Go.PV Go.Proofs
structure OR (r : Row) : Prop where
 path : oP r.path
 data : sS r.data
abbrev rRow (r : Row) : Option Res := some ⟨[.o .deep (eSs r.path), .v (.bool r.dir), .v (.int .i64 r.mode), .v (.string (mkS r.data)), .v (.int .i64 r.id)], []⟩
theorem zd4 {l : List Row} {k : Nat} (h : k < l.length) : (l.map eR).getD k [] = [.s (eSs l[k].path), .v (.bool l[k].dir), .v (.int .i64 l[k].mode), .v (.string (mkS l[k].data)), .v (.int .i64 l[k].id)] := by
 rw [zbY eR l k h]; rfl
theorem za1.l5 (l : List Row) (hl : l.length ≤ 9223372036854775807) (hX : ∀ a ∈ l, ∀ x : Int, 0 ≤ x → x ≤ Lim → zdg [vR a, vI x] [] = rI (szR (wR a) x)) : ∀ k, k ≤ l.length → ∀ x : Int, 0 ≤ x → x ≤ Lim →
 (za1.L5 (l.map eR) x (k : Int)).bind za1.A5 = rI (szR (sumW wR (l.drop k)) x) := by
 have hL : (Lim : Int) = 1048576 := rfl
 refine up l.length ?_ fun k hk ih x h0 h1 => ?_
 · intro x h0 h1; rw [za1.s5]; simp [sumW, szR, za1.a5x5, h0]
 · rw [za1.s5, zaO l k hk]
   have h := hX l[k] (List.getElem_mem hk) x h0 h1
   simp only [Int.toNat_natCast, zd4 hk, zbA k (by omega), sumW]
   by_cases hx : (wR l[k] : Int) ≤ x
   · have hn : ¬ x - (wR l[k] : Int) < 0 := by omega
     have := ih (x - (wR l[k] : Int)) (by omega) (by omega)
     push_cast at this
     rw [zgR hx] at h
     rw [ziq hx, ← this]
     simp [-List.getElem_cons_drop, hk, hn, h]
   · rw [zeA hx] at h
     rw [zfX hx]
     simp [-List.getElem_cons_drop, hk, h, za1.a5q5]
theorem zlZ (l : List Row) (hl : l.length ≤ 9223372036854775807) (hX : ∀ a ∈ l, ∀ x : Int, 0 ≤ x → x ≤ Lim → zdg [vR a, vI x] [] = rI (szR (wR a) x)) (x : Int) (h0 : 0 ≤ x) (h1 : x ≤ Lim) :
 za1 [.one (.s (l.map eR)), vI x] [] = rI (szR (wL wR l) x) := by
 have hL : (Lim : Int) = 1048576 := rfl
 have hw : IntKind.i64.wrap (x - (l.length : Int)) = x - (l.length : Int) := zcP _ (by omega)
 rw [za1.e]
 simp only [List.length_map, hw, znr]
 by_cases hx : (l.length : Int) ≤ x
 · have hn : ¬ x - (l.length : Int) < 0 := by omega
   have := za1.l5 l hl hX 0 (by omega) (x - (l.length : Int)) (by omega) (by omega)
   rw [List.drop_zero] at this
   rw [ziq hx, ← this]
   simp [hn]
 · have hn : x - (l.length : Int) < 0 := by omega
   rw [zfX hx]
   simp [hn]
theorem zl0 (l : List Row) (hl : l.length ≤ 1048576) (hX : ∀ a ∈ l, zdu [vR a] [] = rRow a) : za8 [.one (.s (l.map eR))] [] = rO (l.map eR) := by
 have key : ∀ k, k ≤ l.length → (za8.L3 (l.map eR) (k : Int) ((l.take k).map eR ++ List.replicate (l.length - k) [D.s [], D.v (Value.bool false), D.v (Value.int IntKind.i64 0), D.v (Value.string (mkS [])), D.v (Value.int IntKind.i64 0)])).bind za8.A3 = rO (l.map eR) := by
  refine up l.length ?_ fun k hk ih => ?_
  · rw [za8.s3, zla]; simp [za8.a3x3]
  · rw [za8.s3]
    have h := hX l[k] (List.getElem_mem hk)
    have h1 := zk8 eR l [D.s [], D.v (Value.bool false), D.v (Value.int IntKind.i64 0), D.v (Value.string (mkS [])), D.v (Value.int IntKind.i64 0)] k hk
    have h2 := zk7 eR l [D.s [], D.v (Value.bool false), D.v (Value.int IntKind.i64 0), D.v (Value.string (mkS [])), D.v (Value.int IntKind.i64 0)] k (by omega)
    have h3 := zk9 eR l [D.s [], D.v (Value.bool false), D.v (Value.int IntKind.i64 0), D.v (Value.string (mkS [])), D.v (Value.int IntKind.i64 0)] k hk
    have h4 : eR l[k] = _ := (zbY eR l k hk).symm.trans (zd4 hk)
    rw [h4] at h3
    rw [← ih]
    simp only [Int.toNat_natCast, zd4 hk, zbA k (by omega), h1, h2]
    have hb1 : decide ((k : Int) < ((l.map eR).length : Int)) = true := by simp; omega
    have hb2 : decide (0 ≤ (k : Int)) = true := by simp
    have hb3 : decide ((k : Int) < (l.length : Int)) = true := by simp; omega
    simp only [hb1, hb2, hb3]
    simp only [zas, CK.fits, List.zipIdx, List.all_cons, List.all_nil, List.getD_cons_zero, List.getD_cons_succ, List.length_cons, List.length_nil, str_v, zoZ, int_v, es_s, h, Option.bind_some, zag, R1.fits, tes_o, zo0, zkg, zne]
    simp only [List.drop_succ_cons, List.drop_zero, List.drop_nil]
    rw [h3]
    rfl
 rw [za8.e]
 have hc : (decide (((l.map eR).length : Int) * ((↑64 : Int) + 1) ≤ 2 ^ 46) && true && true) = true := by simp; omega
 rw [hc, cond_true]
 have h0 := key 0 (by omega)
 rw [zjn] at h0
 simp only [List.length_map, Int.toNat_natCast]
 exact h0
theorem zl1 (l : List Row) (hl : l.length ≤ 9223372036854775807) (hX : ∀ a ∈ l, zcn [vR a, vR a] [] = rB true) : zba [.one (.s (l.map eR)), .one (.s (l.map eR))] [] = rB true := by
 have key : ∀ k, k ≤ l.length → zba.L4 (l.map eR) (l.map eR) (k : Int) = some zba.x4 := by
  refine up l.length ?_ fun k hk ih => ?_
  · rw [zba.s4]; simp
  · rw [zba.s4]
    have h := hX l[k] (List.getElem_mem hk)
    simp only [Int.toNat_natCast, zd4 hk, zbA k (by omega), ih]
    simp [hk, h]
 have h0 : zba.L4 (l.map eR) (l.map eR) 0 = _ := key 0 (by omega)
 rw [zba.e, h0]
 simp [zba.a4x4]
theorem znQ (e : Row) (h : OR e) (x : Int) (h0 : 0 ≤ x) (h1 : x ≤ Lim) : zdg [vR e, vI x] [] = rI (szR (wR e) x) := by
 have hL : (Lim : Int) = 1048576 := rfl
 have hd := h.data
 unfold sS at hd
 have e1 := zeW e.path h.path x h0 h1
 rw [zdg.e, e1]
 unfold wR
 by_cases hx : (wP e.path : Int) ≤ x
 · rw [zgR hx]
   by_cases hx2 : (e.data.length : Int) ≤ x - wP e.path
   · rw [zgR (by omega), show x - ((wP e.path + e.data.length : Nat) : Int) = x - wP e.path - e.data.length by omega]
     simp (disch := omega) only [pvS, pvT, pvC, pvL, pvR, pvN]
   · rw [zeA (by omega)]
     simp (disch := omega) only [pvS, pvT, pvC, pvL, pvR, pvN]
 · rw [zeA hx, zeA (by omega)]
   rfl
theorem znR (e : Row) (hw : wR e ≤ 1048576) : zdu [vR e] [] = rRow e := by
 have := zco e.path
 unfold wR at hw
 rw [zdu.e, zeX e.path (by omega)]
 simp (disch := omega) only [pvS, pvT, pvC, pvL, pvR, pvN]
theorem zkD (e : Row) (hw : wR e ≤ 1048576) : zcn [vR e, vR e] [] = rB true := by
 have := zco e.path
 unfold wR at hw
 rw [zcn.e, zdi e.path (by omega)]
 have b1 : (!(e.dir == e.dir)) = false := by simp
 have b2 : (e.mode != e.mode) = false := by simp
 have b3 : (e.id != e.id) = false := by simp
 have b4 : (e.data == e.data) = true := by simp
 simp (disch := omega) only [pvS, pvT, pvC, pvL, pvR, pvN, b1, b2, b3, b4, zcn.p9]
def cR (e : Row) : Nat := e.path.length + 4
noncomputable def mR (k : Int) (e : Row) : Row :=
 ⟨mP k e.path, (k + e.path.length).tmod 3 == 0, k + e.path.length + 1, mt (k + e.path.length + 2), k + e.path.length + 3⟩
theorem zjK (l : List Row) (k : Int) (h0 : 0 ≤ k) (h1 : k + (sumW cR l : Nat) ≤ Top) (hl : l.length ≤ 1048576) :
 zaK [.one (.r 0 [] 0), vI k] [gV (l.map eR)] = rM (k + (sumW cR l : Nat)) ((mks cR mR k l).map eR) := by
 have hT : Top = 1000000000000 := rfl
 rw [zaK.e]
 have key := zo8 eR cR mR (fun _ => True) (fun k j r => (zaK.L2 k j r).bind zaK.A2) (fun k r => rM k r) ?_ ?_ l [] k (fun _ _ => trivial) h0 h1 (by simpa using hl)
 · simpa using key
 · intro m l a k _ h0 h1 hl
   unfold cR at h1
   have ht := zd2 (k + a.path.length + 2) (by omega) (by omega)
   have hS := zdj a.path k (by omega) (by omega)
   have e1 : k + a.path.length + 1 + 1 = k + a.path.length + 2 := by omega
   have e2 : k + a.path.length + 2 + 1 = k + a.path.length + 3 := by omega
   have e3 : k + a.path.length + 3 + 1 = k + (cR a : Nat) := by unfold cR; omega
   have hfr : zas [CK.sl] (eR a) 0 = true := rfl
   rw [zaK.s2]
   simp (disch := omega) only [pvS, pvT, pvC, pvL, pvN, pvR, pvO, Nat.sub_self, zpR, ht, hS, e1, e2, e3, List.set_cons_zero, List.take_succ_cons, List.take_zero, List.drop_succ_cons, List.drop_zero, List.cons_append, List.nil_append, zaK.p8, mR]
 · intro m k
   rw [zaK.s2]
   simp (disch := omega) only [pvL, pvN, zaK.a2x2]
end Go.PVx
namespace Go.PVx
open Go.PV Go.Proofs
theorem zpc : ∀ l : List Row, sumW cR l ≤ 4 * wL wR l
 | [] => by simp [sumW]
 | r :: l => by
  have := zpc l
  have := zco r.path
  simp only [sumW, wL, cR, wR]
  omega
theorem zl2 (rs : List Row) (h : sL OR rs) : za1 [vRs rs, vI 1048576] [] = rI (szR (wL wR rs) 1048576) :=
 zlZ rs h.1 (fun a ha x h0 h1 => znQ a (h.2 a ha) x h0 h1) 1048576 (by omega) (by have hL : (Lim : Int) = 1048576 := rfl; omega)
theorem zl3 (rs : List Row) (hw : wL wR rs ≤ 1048576) : za8 [vRs rs] [] = rO (rs.map eR) :=
 zl0 rs (by have := zbX wR rs; omega) (fun a ha => znR a (by have := zhL wR rs a ha; omega))
theorem zl4 (rs : List Row) (hw : wL wR rs ≤ 1048576) : zba [vRs rs, vRs rs] [] = rB true :=
 zl1 rs (by have := zbX wR rs; omega) (fun a ha => zkD a (by have := zhL wR rs a ha; omega))
end Go.PVx
namespace Go.PVx
open Go.PV Go.Proofs
def AscR (rs : List Row) : Prop := rs.Pairwise fun x y => lessP x.path y.path = true
def plcR (rs : List Row) (p : List Str) : Nat := (rs.takeWhile fun r => lessP r.path p).length
theorem ze5 (p : List Str) : ∀ rs : List Row, AscR rs → plcR rs p ≤ rs.length ∧ ∀ j (h : j < rs.length), lessP rs[j].path p = decide (j < plcR rs p)
 | [], _ => ⟨by simp [plcR], fun j h => by simp at h⟩
 | a :: l, ha => by
  have ha' := List.pairwise_cons.1 ha
  obtain ⟨h1, h2⟩ := ze5 p l ha'.2
  cases hb : lessP a.path p with
  | true =>
   have e : plcR (a :: l) p = plcR l p + 1 := by unfold plcR; rw [List.takeWhile_cons, hb]; rfl
   rw [e]
   refine ⟨by simp only [List.length_cons]; omega, fun j h => ?_⟩
   cases j with
   | zero => simp [hb]
   | succ j =>
    have := h2 j (by simpa using h)
    simp only [List.getElem_cons_succ, this]
    congr 1
    simp
  | false =>
   have e : plcR (a :: l) p = 0 := by unfold plcR; rw [List.takeWhile_cons, hb]; rfl
   rw [e]
   refine ⟨by omega, fun j h => ?_⟩
   cases j with
   | zero => simp [hb]
   | succ j =>
    have hj : j < l.length := by simpa using h
    simp only [List.getElem_cons_succ, Nat.not_lt_zero, decide_false]
    cases hc : lessP (l[j]).path p with
    | false => rfl
    | true =>
     rw [zg0 _ _ _ (ha'.1 _ (List.getElem_mem hj)) hc] at hb
     exact absurd hb (by simp)
theorem znS (p : List Str) (rs : List Row) (ha : AscR rs) : findR p rs 0 = if h : plcR rs p < rs.length then (if (rs[plcR rs p]).path = p then (plcR rs p : Int) else -1) else -1 := by
 obtain ⟨h1, h2⟩ := ze5 p rs ha
 generalize plcR rs p = K at *
 have hne : ∀ j (h : j < rs.length), j ≠ K → rs[j].path ≠ p := fun j h hj e => by
  have h3 := h2 j h
  rw [e, zjI] at h3
  have h4 : K < j := by
   have := of_decide_eq_false h3.symm
   omega
  have hK : K < rs.length := by omega
  have h5 := List.pairwise_iff_getElem.1 ha K j hK h h4
  rw [e, h2 K hK] at h5
  exact absurd (of_decide_eq_true h5) (by omega)
 by_cases hK : K < rs.length
 · rw [dif_pos hK]
   by_cases he : rs[K].path = p
   · rw [if_pos he, zlj p rs 0 K hK ha he]
     simp
   · rw [if_neg he]
     refine zg1 p rs 0 fun r hr => ?_
     obtain ⟨j, hj, rfl⟩ := List.mem_iff_getElem.1 hr
     by_cases hjk : j = K
     · subst hjk; exact he
     · exact hne j hj hjk
 · rw [dif_neg hK]
   refine zg1 p rs 0 fun r hr => ?_
   obtain ⟨j, hj, rfl⟩ := List.mem_iff_getElem.1 hr
   exact hne j hj (by omega)
theorem half2 (a b : Nat) (h : a + b ≤ 2000000000) : IntKind.i64.wrap ((IntKind.i64.wrap ((a : Int) + (b : Int))).tdiv 2) = (((a + b) / 2 : Nat) : Int) := by
 have e1 : IntKind.i64.wrap ((a : Int) + (b : Int)) = ((a + b : Nat) : Int) := by rw [Sx.wrap64] <;> omega
 rw [e1, Int.tdiv_eq_ediv_of_nonneg (by omega), Sx.wrap64] <;> omega
theorem zaq.l6 (rs : List Row) (p : List Str) (hw : wL wR rs ≤ 1048576) (ha : AscR rs) : ∀ m lo hi : Nat, hi - lo ≤ m → lo ≤ plcR rs p → plcR rs p ≤ hi → hi ≤ rs.length →
 zaq.L6 (rs.map eR) (eSs p) (lo : Int) (hi : Int) = some (zaq.x6 (rs.map eR) (eSs p) (plcR rs p : Int)) := by
 obtain ⟨_, h2⟩ := ze5 p rs ha
 have hl := zbX wR rs
 intro m
 induction m with
 | zero =>
  intro lo hi h0 h3 h4 h5
  have e : lo = hi := by omega
  have e' : plcR rs p = hi := by omega
  subst e
  rw [zaq.s6, e']
  simp (disch := omega) only [pvS, pvL, pvN]
 | succ m ih =>
  intro lo hi h0 h3 h4 h5
  rcases Nat.eq_or_lt_of_le (Nat.le_trans h3 h4) with e | hlt
  · have e' : plcR rs p = hi := by omega
    subst e
    rw [zaq.s6, e']
    simp (disch := omega) only [pvS, pvL, pvN]
  · have hm := half2 lo hi (by omega)
    have hmid : (lo + hi) / 2 < rs.length := by omega
    have hc := zkk (rs[(lo + hi) / 2]).path p (by have := zeq hmid; omega)
    have hb := h2 ((lo + hi) / 2) hmid
    have hg := zd4 hmid
    rw [zaq.s6]
    have i1 := ih ((lo + hi) / 2 + 1) hi (by omega)
    have i2 := ih lo ((lo + hi) / 2) (by omega)
    have hlo : lo ≤ (lo + hi) / 2 := by omega
    have hhi : (lo + hi) / 2 < hi := by omega
    simp only [hm]
    generalize (lo + hi) / 2 = c at *
    by_cases hk : c < plcR rs p
    · rw [decide_eq_true hk] at hb
      have i1 := i1 (by omega) (by omega) (by omega)
      simp (disch := omega) only [pvS, pvC, pvL, pvR, pvN, List.length_map, Int.toNat_natCast, hg, hc, hb]
      exact i1
    · rw [decide_eq_false hk] at hb
      have i2 := i2 (by omega) (by omega) (by omega)
      simp (disch := omega) only [pvS, pvC, pvL, pvR, pvN, List.length_map, Int.toNat_natCast, hg, hc, hb]
      exact i2
noncomputable def FR (rs : List Row) (p : List Str) : Int := match RRI rs with
 | none => -1
 | some _ => findR p rs 0
theorem ziz (rs : List Row) (p : List Str) (hw : wL wR rs ≤ 1048576) : zaq [vRs rs, vP p] [] = rI (FR rs p) := by
 have h1 := ziy rs hw
 have hl := zbX wR rs
 rw [← zp0] at h1
 rw [zaq.e]
 unfold FR
 cases hr : RRI rs with
 | none =>
  rw [hr] at h1
  unfold rTB at h1
  simp (disch := omega) only [pvS, pvC, pvL, pvR, pvN, h1]
 | some t =>
  rw [hr] at h1
  unfold rTB at h1
  obtain ⟨t1, t2⟩ := zli hr
  have ha : AscR rs := by rw [← t2]; exact zp2 t1
  obtain ⟨k1, _⟩ := ze5 p rs ha
  have h6 := zaq.l6 rs p hw ha rs.length 0 rs.length (by omega) (by omega) k1 (by omega)
  simp only
  rw [znS p rs ha]
  simp (disch := omega) only [pvS, pvC, pvL, pvR, pvN, h1, List.length_map] at h6 ⊢
  have h6' : zaq.L6 (rs.map eR) (eSs p) 0 (rs.length : Int) = _ := h6
  simp (disch := omega) only [pvS, pvC, pvL, pvR, pvN, h6', zaq.a6x6, List.length_map]
  generalize plcR rs p = K at *
  by_cases hK : K < rs.length
  · have hs := zgO rs[K].path p (by have := zeq hK; omega)
    have hg := zd4 hK
    rw [dif_pos hK]
    by_cases he : rs[K].path = p
    · rw [decide_eq_true he] at hs
      rw [if_pos he]
      simp (disch := omega) only [pvS, pvC, pvL, pvR, pvN, List.length_map, Int.toNat_natCast, hg, hs, zaq.p12]
    · rw [decide_eq_false he] at hs
      rw [if_neg he]
      simp (disch := omega) only [pvS, pvC, pvL, pvR, pvN, List.length_map, Int.toNat_natCast, hg, hs, zaq.p12]
  · rw [dif_neg hK]
    simp (disch := omega) only [pvS, pvC, pvL, pvR, pvN, zaq.p12]
theorem zjL (rs : List Row) (p : List Str) (hw : wL wR rs ≤ 1048576) : zae [vRs rs, .f za7.id [.p true 0 [] 0]] [⟨.box, [.s (eSs p)], [.sh]⟩] = some ⟨[.v (.int .i64 (findR p rs 0))], [⟨.box, [.s (eSs p)], [.sh]⟩]⟩ := by
 have hl := zbX wR rs
 have key : ∀ k, k ≤ rs.length → (zae.L2 (rs.map eR) rs.length (k : Int) (eSs p)).bind zae.A2 = some ⟨[.v (.int .i64 (findR p (rs.drop k) k))], [⟨.box, [.s (eSs p)], [.sh]⟩]⟩ := by
  refine up rs.length ?_ fun k hk ih => ?_
  · rw [zae.s2, List.drop_length]
    simp (disch := omega) only [pvS, pvL, pvN, zae.a2x2, findR]
  · have hg := zd4 hk
    have he := zd0 rs[k].path p (by have := zeq hk; omega)
    have h1 : za7 [vR rs[k], .one (.p true 0 [] 0)] [⟨.ro, [.s (eSs p)], [.sh]⟩] = some ⟨[.v (.bool (decide (rs[k].path = p)))], [⟨.ro, [.s (eSs p)], [.sh]⟩]⟩ := by
     rw [za7.e]
     generalize decide (rs[k].path = p) = b at *
     simp (disch := omega) only [pvS, pvC, pvL, pvR, pvN, he]
    rw [zaO rs k hk, zae.s2]
    unfold findR
    by_cases hb : rs[k].path = p
    · rw [if_pos hb]
      rw [decide_eq_true hb] at h1
      simp (disch := omega) only [pvS, pvC, pvL, pvR, pvN, List.length_map, Int.toNat_natCast, hg, h1, zae.a2q2]
    · rw [if_neg hb]
      rw [decide_eq_false hb] at h1
      simp (disch := omega) only [pvS, pvC, pvL, pvR, pvN, List.length_map, Int.toNat_natCast, hg, h1]
      exact ih
 have h0 := key 0 (by omega)
 rw [List.drop_zero] at h0
 rw [zae.e, List.length_map]
 exact h0
theorem ziA (rs : List Row) (p : List Str) (hw : wL wR rs ≤ 1048576) : zbI [vRs rs, vP p] [] = rI (FR rs p) := by
 have h1 := zix rs hw
 have h2 := zjL rs p hw
 rw [zbI.e]
 unfold FR
 cases hr : RRI rs with
 | none =>
  rw [hr] at h1
  unfold rTB at h1
  simp (disch := omega) only [pvS, pvC, pvL, pvR, pvN, h1]
 | some t =>
  rw [hr] at h1
  unfold rTB at h1
  simp (disch := omega) only [pvS, pvC, pvL, pvR, pvN, pvO, h1, h2]
end Go.PVx
namespace Go.PVx
open Go.PV Go.Proofs
end Go.PVx
namespace Go.PVx
open Go.PV Go.Proofs
theorem zl5 (a b : List Str) (ha : a.length ≤ 1048576) : za4 [vP a, vP b] [] = rB (isPre b a) := by
 rw [za4.e]
 by_cases hlen : a.length < b.length
 · have : isPre b a = false := by
    cases h : isPre b a with
    | false => rfl
    | true =>
     unfold isPre at h
     have := (List.isPrefixOf_iff_prefix.1 h).length_le
     omega
   rw [this]
   simp (disch := omega) only [pvS, pvT, pvC, pvL, pvR, pvN]
 · have key : ∀ k, k ≤ b.length → (za4.L4 (eSs a) (eSs b) b.length (k : Int)).bind za4.A4 = rB (isPre (b.drop k) (a.drop k)) := by
    refine up b.length ?_ fun k hk ih => ?_
    · rw [za4.s4, List.drop_length]
      simp (disch := omega) only [pvS, pvL, pvN, za4.a4x4]
      rfl
    · have hk2 : k < a.length := by omega
      rw [za4.s4, zaO b k hk, zaO a k hk2]
      have e : isPre (b[k] :: b.drop (k + 1)) (a[k] :: a.drop (k + 1)) = ((b[k] == a[k]) && isPre (b.drop (k + 1)) (a.drop (k + 1))) := rfl
      rw [e]
      by_cases he : a[k] = b[k]
      · have h1 : (a[k] == b[k]) = true := by simp [he]
        have h2 : (b[k] == a[k]) = true := by simp [he]
        rw [h2, Bool.true_and]
        simp (disch := omega) only [pvS, pvT, pvC, pvL, pvR, pvN, h1]
        exact ih
      · have h1 : (a[k] == b[k]) = false := by simpa using he
        have h2 : (b[k] == a[k]) = false := by simpa using fun e => he e.symm
        rw [h2, Bool.false_and]
        simp (disch := omega) only [pvS, pvT, pvC, pvL, pvR, pvN, h1, za4.a4q4]
   have h0 := key 0 (by omega)
   simp only [List.drop_zero] at h0
   simp (disch := omega) only [pvS, pvT, pvC, pvL, pvR, pvN]
   exact h0
def endR (p : List Str) : List Row → Nat → Nat
 | [], k => k
 | r :: rs, k => bif isPre p r.path then endR p rs (k + 1) else k
theorem znT (p : List Str) : ∀ (rs : List Row) (k : Nat), k ≤ endR p rs k ∧ endR p rs k ≤ k + rs.length
 | [], k => by simp [endR]
 | r :: rs, k => by
  have := znT p rs (k + 1)
  unfold endR
  cases isPre p r.path <;> simp only [cond_true, cond_false, List.length_cons] <;> omega
theorem FR_in (rs : List Row) (p : List Str) : FR rs p = -1 ∨ ∃ k : Nat, FR rs p = (k : Int) ∧ k < rs.length := by
 unfold FR
 cases RRI rs with
 | none => exact .inl rfl
 | some t =>
  simp only
  have key : ∀ (l : List Row) (i : Nat), findR p l i = -1 ∨ ∃ k : Nat, findR p l i = (k : Int) ∧ i ≤ k ∧ k < i + l.length := by
   intro l
   induction l with
   | nil => intro i; exact .inl rfl
   | cons r l ih =>
    intro i
    unfold findR
    split
    · exact .inr ⟨i, rfl, by omega, by simp⟩
    · rcases ih (i + 1) with h | ⟨k, h1, h2, h3⟩
      · exact .inl h
      · exact .inr ⟨k, h1, by omega, by simp only [List.length_cons]; omega⟩
  rcases key rs 0 with h | ⟨k, h1, _, h3⟩
  · exact .inl h
  · exact .inr ⟨k, h1, by omega⟩
noncomputable def UR (rs : List Row) (p : List Str) : Nat × Nat := if FR rs p < 0 then (0, 0) else ((FR rs p).toNat, endR p (rs.drop (FR rs p).toNat) (FR rs p).toNat)
abbrev rII (x : Nat × Nat) : Option Res := some ⟨[.v (.int .i64 x.1), .v (.int .i64 x.2)], []⟩
theorem zhl (rs : List Row) (p : List Str) (hw : wL wR rs ≤ 1048576) : zaD [vRs rs, vP p] [] = rII (UR rs p) := by
 have h1 := ziA rs p hw
 have hl := zbX wR rs
 have key : ∀ a : Nat, ∀ k, k ≤ rs.length → (zaD.L5 (rs.map eR) (eSs p) (a : Int) (k : Int)).bind zaD.A5 = rII (a, endR p (rs.drop k) k) := by
  intro a
  refine up rs.length ?_ fun k hk ih => ?_
  · rw [zaD.s5, List.drop_length]
    simp (disch := omega) only [pvS, pvL, pvN, List.length_map, zaD.a5x5]
    rfl
  · have hg := zd4 hk
    have hb := zl5 rs[k].path p (by have := zeq hk; omega)
    rw [zaD.s5, zaO rs k hk]
    unfold endR
    cases hp : isPre p rs[k].path with
    | true =>
     rw [hp] at hb
     simp (disch := omega) only [pvS, pvC, pvL, pvR, pvN, List.length_map, Int.toNat_natCast, hg, hb]
     exact ih
    | false =>
     rw [hp] at hb
     simp (disch := omega) only [pvS, pvC, pvL, pvR, pvN, List.length_map, Int.toNat_natCast, hg, hb, zaD.a5x5]
 rw [zaD.e]
 unfold UR
 rcases FR_in rs p with h | ⟨k, h, hk⟩
 · rw [h] at h1 ⊢
   rw [if_pos (by omega)]
   simp (disch := omega) only [pvS, pvC, pvL, pvR, pvN, h1]
   rfl
 · rw [h] at h1 ⊢
   rw [if_neg (by omega), Int.toNat_natCast]
   have h2 := key k k (by omega)
   simp (disch := omega) only [pvS, pvC, pvL, pvR, pvN, h1]
   exact h2
theorem zhm (rs : List Row) (p : List Str) (hw : wL wR rs ≤ 1048576) : zaC [vRs rs, vP p] [] = rII (UR rs p) := by
 have h1 := ziz rs p hw
 have hl := zbX wR rs
 have key : ∀ a : Nat, ∀ k, k ≤ rs.length → (zaC.L5 (rs.map eR) (eSs p) (a : Int) (k : Int)).bind zaC.A5 = rII (a, endR p (rs.drop k) k) := by
  intro a
  refine up rs.length ?_ fun k hk ih => ?_
  · rw [zaC.s5, List.drop_length]
    simp (disch := omega) only [pvS, pvL, pvN, List.length_map, zaC.a5x5]
    rfl
  · have hg := zd4 hk
    have hb := zfI rs[k].path p (by have := zeq hk; omega)
    rw [zaC.s5, zaO rs k hk]
    unfold endR
    cases hp : isPre p rs[k].path with
    | true =>
     rw [hp] at hb
     simp (disch := omega) only [pvS, pvC, pvL, pvR, pvN, List.length_map, Int.toNat_natCast, hg, hb]
     exact ih
    | false =>
     rw [hp] at hb
     simp (disch := omega) only [pvS, pvC, pvL, pvR, pvN, List.length_map, Int.toNat_natCast, hg, hb, zaC.a5x5]
 rw [zaC.e]
 unfold UR
 rcases FR_in rs p with h | ⟨k, h, hk⟩
 · rw [h] at h1 ⊢
   rw [if_pos (by omega)]
   simp (disch := omega) only [pvS, pvC, pvL, pvR, pvN, h1]
   rfl
 · rw [h] at h1 ⊢
   rw [if_neg (by omega), Int.toNat_natCast]
   have h2 := key k k (by omega)
   simp (disch := omega) only [pvS, pvC, pvL, pvR, pvN, h1]
   exact h2
end Go.PVx
namespace Go.PVx
open Go.PV Go.Proofs
def NR (p : List Str) : List Row → List Str
 | [] => []
 | r :: rs => if h : r.path.length = p.length + 1 then r.path[p.length] :: NR p rs else NR p rs
theorem zpd (p : List Str) : ∀ rs : List Row, (NR p rs).length ≤ rs.length
 | [] => by simp [NR]
 | r :: rs => by
  have := zpd p rs
  unfold NR
  split <;> simp only [List.length_cons] <;> omega
theorem UR_le (rs : List Row) (p : List Str) : (UR rs p).1 ≤ (UR rs p).2 ∧ (UR rs p).2 ≤ rs.length := by
 unfold UR
 rcases FR_in rs p with h | ⟨k, h, hk⟩
 · rw [h, if_pos (by omega)]; simp
 · rw [h, if_neg (by omega), Int.toNat_natCast]
   have := znT p (rs.drop k) k
   rw [List.length_drop] at this
   simp only
   omega
theorem zln (l : List Str) (n : Str) : eSs l ++ [[D.v (Value.string (mkS n))]] = eSs (l ++ [n]) := by simp [eSs, eS]
theorem zhn (rs : List Row) (p : List Str) (hw : wL wR rs ≤ 1048576) (hp : p.length ≤ 1048576) : zay [vRs rs, vP p] [] = rO (eSs (NR p ((rs.take (UR rs p).2).drop (UR rs p).1))) := by
 have h1 := zhl rs p hw
 obtain ⟨u1, u2⟩ := UR_le rs p
 have hl := zbX wR rs
 rw [zay.e]
 generalize UR rs p = x at *
 obtain ⟨a, e⟩ := x
 simp only at u1 u2 ⊢
 simp only [rII] at h1
 have hsub : ∀ r ∈ (rs.take e).drop a, r.path.length ≤ 1048576 := fun r hr => by
  obtain ⟨j, hj, rfl⟩ := List.mem_iff_getElem.1 (List.mem_of_mem_take (List.mem_of_mem_drop hr))
  have := zeq hj
  omega
 have hll : ((rs.take e).drop a).length = e - a := by rw [List.length_drop, List.length_take]; omega
 have emap : ((rs.map eR).take e).drop a = ((rs.take e).drop a).map eR := by rw [List.map_drop, List.map_take]
 generalize hL : (rs.take e).drop a = L at *
 have key : ∀ k, k ≤ L.length → ∀ acc : List Str, acc.length ≤ k → (zay.L4 (eSs p) (L.map eR) L.length (k : Int) (eSs acc)).bind zay.A4 = rO (eSs (acc ++ NR p (L.drop k))) := by
  refine up L.length ?_ fun k hk ih => ?_
  · intro acc _
    rw [zay.s4, List.drop_length]
    simp (disch := omega) only [pvS, pvL, pvN, List.length_map, zay.a4x4, NR, List.append_nil]
  · intro acc ha
    have hg := zd4 hk
    have hpl := hsub L[k] (List.getElem_mem hk)
    have r1 : zaA 1 (eSs acc) = true := Sx.rowsLen_map 1 eS (fun _ => rfl) _
    rw [zay.s4, zaO L k hk]
    unfold NR
    by_cases hq : L[k].path.length = p.length + 1
    · rw [dif_pos hq]
      have hq2 : p.length < L[k].path.length := by omega
      have hi := ih (acc ++ [L[k].path[p.length]]) (by simp only [List.length_append, List.length_cons, List.length_nil]; omega)
      rw [List.append_assoc, List.singleton_append, ← zln] at hi
      have hc : ((L[k].path.length : Int) == (p.length : Int) + 1) = true := by rw [hq]; simp
      simp (disch := omega) only [pvS, pvC, pvT, pvL, pvR, pvN, List.length_map, Int.toNat_natCast, hg, hc, r1]
      exact hi
    · rw [dif_neg hq]
      have hi := ih acc (by omega)
      have hc : ((L[k].path.length : Int) == (p.length : Int) + 1) = false := by
       rw [beq_eq_false_iff_ne]; omega
      simp (disch := omega) only [pvS, pvC, pvT, pvL, pvR, pvN, List.length_map, Int.toNat_natCast, hg, hc]
      exact hi
 have h0 := key 0 (by omega) [] (by simp)
 rw [List.drop_zero, List.nil_append] at h0
 have hc5 : (decide ((a : Int) = 0) || decide (((rs.map eR).getD 0 []).length = 5)) = true := by
  by_cases ha : a = 0
  · simp [ha]
  · cases rs with
    | nil => simp at u2; omega
    | cons r rs => simp [eR]
 simp (disch := omega) only [pvS, pvC, pvL, pvR, pvN, h1, List.length_map, Int.toNat_natCast, hc5, emap]
 have e9 : min e rs.length - a = L.length := by omega
 rw [hL, e9]
 exact h0
theorem zho (rs : List Row) (p : List Str) (hw : wL wR rs ≤ 1048576) (hp : p.length ≤ 1048576) : zaF [vRs rs, vP p] [] = rO (eSs (NR p ((rs.take (UR rs p).2).drop (UR rs p).1))) := by
 have h1 := zhm rs p hw
 obtain ⟨u1, u2⟩ := UR_le rs p
 have hl := zbX wR rs
 rw [zaF.e]
 generalize UR rs p = x at *
 obtain ⟨a, e⟩ := x
 simp only at u1 u2 ⊢
 simp only [rII] at h1
 have key : ∀ k, k ≤ e → ∀ acc : List Str, acc.length ≤ k → (zaF.L4 (rs.map eR) (eSs p) (e : Int) (k : Int) (eSs acc)).bind zaF.A4 = rO (eSs (acc ++ NR p ((rs.take e).drop k))) := by
  refine up e ?_ fun k hk ih => ?_
  · intro acc _
    rw [zaF.s4, List.drop_eq_nil_of_le (by rw [List.length_take]; omega)]
    simp (disch := omega) only [pvS, pvL, pvN, zaF.a4x4, NR, List.append_nil]
  · intro acc ha
    have hk2 : k < rs.length := by omega
    have hg := zd4 hk2
    have hpl := zeq hk2
    have r1 : zaA 1 (eSs acc) = true := Sx.rowsLen_map 1 eS (fun _ => rfl) _
    have hkt : k < (rs.take e).length := by rw [List.length_take]; omega
    have hge : (rs.take e)[k] = rs[k] := List.getElem_take
    rw [zaF.s4, zaO (rs.take e) k hkt, hge]
    unfold NR
    by_cases hq : rs[k].path.length = p.length + 1
    · rw [dif_pos hq]
      have hq2 : p.length < rs[k].path.length := by omega
      have hi := ih (acc ++ [rs[k].path[p.length]]) (by simp only [List.length_append, List.length_cons, List.length_nil]; omega)
      rw [List.append_assoc, List.singleton_append, ← zln] at hi
      have hc : ((rs[k].path.length : Int) == (p.length : Int) + 1) = true := by rw [hq]; simp
      simp (disch := omega) only [pvS, pvC, pvT, pvL, pvR, pvN, List.length_map, Int.toNat_natCast, hg, hc, r1]
      exact hi
    · rw [dif_neg hq]
      have hi := ih acc (by omega)
      have hc : ((rs[k].path.length : Int) == (p.length : Int) + 1) = false := by
       rw [beq_eq_false_iff_ne]; omega
      simp (disch := omega) only [pvS, pvC, pvT, pvL, pvR, pvN, List.length_map, Int.toNat_natCast, hg, hc]
      exact hi
 have h0 := key a u1 [] (by simp)
 rw [List.nil_append] at h0
 simp (disch := omega) only [pvS, pvC, pvL, pvR, pvN, h1]
 exact h0
theorem zd5 (rs : List Row) (p : List Str) (h : sL OR rs) (hp : oP p) : zah [vRs rs, vP p] [] = rB true := by
 have hL : (Lim : Int) = 1048576 := rfl
 rw [zah.e, zl2 rs h]
 by_cases hw : wL wR rs ≤ 1048576
 · rw [zgR (by omega)]
   have hl := zbX wR rs
   have hs := zeW p hp (1048576 - (wL wR rs : Int)) (by omega) (by omega)
   by_cases hw2 : (wP p : Int) ≤ 1048576 - (wL wR rs : Int)
   · rw [zgR hw2] at hs
     have hpl := zco p
     have h0 := zl3 rs hw
     have h1 := zeX p (by omega)
     have h2 := zho rs p hw (by omega)
     have h3 := zhn rs p hw (by omega)
     have h4 := zl4 rs hw
     have h5 := zdi p (by omega)
     have hnl : (NR p ((rs.take (UR rs p).2).drop (UR rs p).1)).length ≤ 1048576 := by
      have := zpd p ((rs.take (UR rs p).2).drop (UR rs p).1)
      rw [List.length_drop, List.length_take] at this
      omega
     generalize NR p ((rs.take (UR rs p).2).drop (UR rs p).1) = ns at *
     have h6 := zdi ns (by omega)
     have hT : Top = 1000000000000 := rfl
     have hcr := zpc rs
     have h7 := zjK rs 1 (by omega) (by omega) (by omega)
     have h8 := zdj p (1 + (sumW cR rs : Nat)) (by omega) (by omega)
     have h9 := zdj ns 1 (by omega) (by omega)
     have hA := zgV ns 1 (by omega) (by omega)
     generalize (mks cR mR 1 rs).map eR = ms at *
     generalize (sumW cR rs : Nat) = n at *
     generalize mP (1 + (n : Int)) p = mp at *
     generalize mP 1 ns = mn at *
     simp (disch := omega) only [pvS, pvC, pvL, pvR, pvN, pvO, hs, h0, h1, h2, h3, h4, h5, h6, h7, h8, h9, hA, zah.p9, zah.p15, zah.p22, zah.p23, zah.p32]
   · rw [zeA (by omega)] at hs
     simp (disch := omega) only [pvS, pvC, pvL, pvR, pvN, hs]
 · rw [zeA (by omega)]
   rfl
end Go.PVx
namespace Go.PVx
open Go.PV Go.Proofs Go.Shelf
def zp8 : Ren := ⟨fun | 22 => 131 | 29 => 183 | 30 => 184 | n => n, fun | 24 => 23 | 9 => 9 | 3 => 3 | 4 => 4 | 0 => 0 | n => n, fun n => n⟩
def zp9 : Ren := ⟨fun | 22 => 132 | 29 => 185 | 30 => 186 | n => n, fun | 24 => 35 | 9 => 37 | 3 => 3 | 4 => 4 | 0 => 0 | n => n, fun n => n⟩
theorem zqa : InsAt Tryz.prog zp8 "slices.Insert[[]string,string]" Tryz.f183 1 16 (.string ⟨#[]⟩) := {
 mixed := by kernel_rfl
 f22 := Tryz.func131.trans (congrArg some (by kernel_rfl))
 f29 := Tryz.func183
 on := by kernel_rfl
 ob := by kernel_rfl
 ox := by kernel_rfl
 of_ := by kernel_rfl
 t0 := Tryz.underlying0
 a0 := Tryz.isAgg0
 z0 := Tryz.sizeOf0
 v0 := Tryz.zeroValue0
 t3 := Tryz.underlying3
 a3 := Tryz.isAgg3
 z3 := Tryz.sizeOf3
 v3 := Tryz.zeroValue3
 t4 := Tryz.underlying4
 a4 := Tryz.isAgg4
 z4 := Tryz.sizeOf4
 v4 := Tryz.zeroValue4
 z9 := Tryz.sizeOf9
 t24 := Tryz.underlying23
 a24 := Tryz.isAgg23
 z24 := Tryz.sizeOf23
 v24 := Tryz.zeroValue23
 i9 := by kernel_rfl
 zk := by kernel_rfl
 k0 := by decide }
theorem zqb : InsAt Tryz.prog zp9 "slices.Insert[[]loop.example/changetrail/impl.Tree,loop.example/changetrail/impl.Tree]" Tryz.f185 5 80 (.agg #[.bool false, .int .i64 0, .string ⟨#[]⟩, .slice none 0 0, .slice none 0 0]) := {
 mixed := by kernel_rfl
 f22 := Tryz.func132.trans (congrArg some (by kernel_rfl))
 f29 := Tryz.func185
 on := by kernel_rfl
 ob := by kernel_rfl
 ox := by kernel_rfl
 of_ := by kernel_rfl
 t0 := Tryz.underlying0
 a0 := Tryz.isAgg0
 z0 := Tryz.sizeOf0
 v0 := Tryz.zeroValue0
 t3 := Tryz.underlying3
 a3 := Tryz.isAgg3
 z3 := Tryz.sizeOf3
 v3 := Tryz.zeroValue3
 t4 := Tryz.underlying4
 a4 := Tryz.isAgg4
 z4 := Tryz.sizeOf4
 v4 := Tryz.zeroValue4
 z9 := Tryz.sizeOf37
 t24 := Tryz.underlying35
 a24 := Tryz.isAgg35
 z24 := Tryz.sizeOf35
 v24 := Tryz.zeroValue35
 i9 := by kernel_rfl
 zk := by kernel_rfl
 k0 := by decide }
end Go.PVx
