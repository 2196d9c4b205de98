/- A part of the proof: PvT3, PvTC, PvTD, PvTE, PvTF, PvTG, PvTH, PvTI, PvTJ, PvInZ. -/
import Derived.Test.YtkaclcgkndbppaaGreatDoorTre
import Derived.Test.YtkaclcgkndbppaaGreatDoorProg
import Derived.Test.YtkaclcgkndbppaaGreatDoorIns
import Derived.KernelRfl
set_option linter.unusedSimpArgs false
set_option linter.unusedVariables false
namespace Go.PVx
open Go.PV Go.Proofs
theorem znu (h : Int) (b : UInt8) (h0 : 0 ≤ h) (h1 : h < 1000000007) : (131 * h + (b.toNat : Int)).tmod 1000000007 = (131 * h + (b.toNat : Int)) % 1000000007 := by
 have hb := b.toNat_lt
 rw [Int.tmod_eq_emod_of_nonneg (by omega)]
theorem znv (s : Str) (hs : s.length ≤ 1000000000000000) : zbp [vS s] [] = rI (idS 7 s) := by
 have hl : ∀ k, k ≤ s.length → ∀ h : Int, 0 ≤ h → h < 1000000007 → (zbp.L3 (mkS s) h (k : Int)).bind zbp.A3 = rI (idS h (s.drop k)) := by
  refine up s.length ?_ fun k hk ih => ?_
  · intro h _ _
    rw [zbp.s3, List.drop_length]
    simp (disch := omega) only [pvS, pvT, pvC, pvL, pvR, pvN, zbp.a3x3, idS]
  · intro h h0 h1
    have hb := (s[k]).toNat_lt
    have hst := znu h s[k] h0 h1
    rw [zaK s k hk]
    unfold idS
    rw [zbp.s3]
    simp (disch := omega) only [pvS, pvT, pvC, pvL, pvR, pvN]
    rw [Int.mul_comm h 131, hst]
    exact ih _ (by omega) (by omega)
 have h0 := hl 0 (by omega) 7 (by omega) (by omega)
 rw [List.drop_zero] at h0
 rw [zbp.e]
 exact h0
theorem zkm (t : Tree) (d : Int) (hp : zbi d t = true) (hw : wT t ≤ 1048576) : zaX [vT t] [] = rI (idT t) := by
 have h1 := zij t d hp (oT_of t hw) hw
 have hlen := zeR t [] d hp (by have : wP [] = 0 := rfl; omega)
 have hc := zfB t
 rw [← zkg] at hlen
 have hs : (showT t).length ≤ 1000000000000000 := by omega
 have hl : ∀ k, k ≤ (showT t).length → ∀ h : Int, 0 ≤ h → h < 1000000007 → (zaX.L4 h (mkS (showT t)) (showT t).length (k : Int)).bind zaX.A4 = rI (idS h ((showT t).drop k)) := by
  refine up (showT t).length ?_ fun k hk ih => ?_
  · intro h _ _
    rw [zaX.s4, List.drop_length]
    simp (disch := omega) only [pvS, pvT, pvC, pvL, pvR, pvN, zaX.a4x4, idS]
  · intro h h0 h1
    have hb := ((showT t)[k]).toNat_lt
    have hst := znu h (showT t)[k] h0 h1
    rw [zaK (showT t) k hk]
    unfold idS
    rw [zaX.s4]
    simp (disch := omega) only [pvS, pvT, pvC, pvL, pvR, pvN]
    rw [hst]
    exact ih _ (by omega) (by omega)
 have h0 := hl 0 (by omega) 7 (by omega) (by omega)
 rw [List.drop_zero] at h0
 rw [zaX.e]
 simp (disch := omega) only [pvS, pvT, pvC, pvL, pvR, pvN, h1]
 exact h0
theorem znw (t : Tree) (d : Int) (hp : zbi d t = true) (hw : wT t ≤ 1048576) : zdB [vT t] [] = rI (idT t) := by
 have ho := oT_of t hw
 have hm := (zdL hp).1
 have hwt := wT_eq t
 have hw0 : wP [] = 0 := rfl
 have h2 := zhL t.dir t.mode t.data [] (eSs t.names) (t.kids.map eT) hm.m0 (by have := hm.m7; omega) (by omega) (by omega)
 have h3 := zlH t [] d hp ho (by omega)
 have hl := zeR t [] d hp (by omega)
 have hc := zfB t
 rw [zd8] at hl
 simp only [List.length_append] at hl
 have e1 : pt [] = [47] := rfl
 have e2 : ptS [] = [] := rfl
 rw [e1] at h2
 rw [e2] at h3
 have h4 := znv (lineT t.dir t.mode t.data [] ++ showZ [] t.names t.kids) (by rw [List.length_append]; omega)
 unfold idT
 rw [zkg, zd8, zdB.e]
 simp (disch := omega) only [pvS, pvT, pvC, pvL, pvR, pvN, pvO, h2, h3, h4]
def eRX (x : List Str × Tree) : List D := eR (rowX x)
theorem znx (x : List Str × Tree) : (eRX x).length = 5 := rfl
theorem zoA (x : List Str × Tree) : (eRX x).all (cellD true) = true := rfl
theorem zoR (p : List Str) (t : Tree) : eRX (p, t) = [.s (eSs p), .v (.bool t.dir), .v (.int .i64 t.mode), .v (.string (mkS t.data)), .v (.int .i64 (idT t))] := rfl
theorem zjx (p : List Str) {ns : List Str} {ks : List Tree} {k : Nat} (h1 : k < ns.length) (h2 : k < ks.length) :
 subZ p (ns.drop k) (ks.drop k) = sub (p ++ [ns[k]]) ks[k] ++ subZ p (ns.drop (k + 1)) (ks.drop (k + 1)) := by
 rw [zaK ns k h1, zaK ks k h2, subZ]
theorem zk8 (p : List Str) (ks : List Tree) : subZ p [] ks = [] := by cases ks <;> rfl
theorem zkn (t : Tree) : ∀ (p : List Str) (d : Int), zbi d t = true → wP p + wT t ≤ 1048576 → zaR [vP p, vT t] [] = rO ((sub p t).map eRX) := by
 induction t using Tree.ind with
 | h a b c ns ks ih =>
  intro p d hp hw
  have hn := zb9 hp
  have hk := fun k (h : k ∈ ks) => zcd hp (k := k) h
  have hlen := zkd _ d p hp
  have hcc := zfB ⟨a, b, c, ns, ks⟩
  have hid := znw ⟨a, b, c, ns, ks⟩ d hp (by omega)
  rw [zcV] at hlen ⊢
  have hw' := hw
  rw [wT_eq] at hw'
  simp only [List.length_cons] at hn hw' hlen ⊢
  have hpl := zck p
  have hnl := zck ns
  have r1 : zaD 1 (eSs p) = true := Sx.rowsLen_map 1 eS (fun _ => rfl) _
  have r2 : zaG false (eSs p) = true := Sx.rowsCell_map false eS (fun _ => rfl) _
  have r3 : ∀ l : List (List Str × Tree), zaD 5 (l.map eRX) = true := Sx.rowsLen_map 5 eRX znx
  have r4 : ∀ l : List (List Str × Tree), zaG true (l.map eRX) = true := Sx.rowsCell_map true eRX zoA
  have hl : ∀ k, k ≤ ns.length → ∀ acc : List (List Str × Tree), acc.length + (subZ p (ns.drop k) (ks.drop k)).length ≤ 1048577 →
   (zaR.L3 (eSs p) (k : Int) a b (mkS c) (eSs ns) (ks.map eT) (acc.map eRX)).bind zaR.A3 = rO ((acc ++ subZ p (ns.drop k) (ks.drop k)).map eRX) := by
   refine up ns.length ?_ fun k hk1 ihk acc hacc => ?_
   · intro acc _
     rw [zaR.s3, List.drop_length, zk8, List.append_nil]
     simp (disch := omega) only [pvS, pvT, pvC, pvL, pvR, pvN, zaR.a3x3]
   · have hk2 : k < ks.length := by omega
     rw [zjx p hk1 hk2] at hacc ⊢
     simp only [List.length_append] at hacc
     have hwk := wL_at wT hk2
     have hwn := wP_at hk1
     have hwp := zfm p ns[k]
     have h2 := zlE p ns[k] (by omega)
     have h3 := ih ks[k] (List.getElem_mem hk2) (p ++ [ns[k]]) (d + 1) (hk _ (List.getElem_mem hk2)) (by omega)
     have h4 := ihk (acc ++ sub (p ++ [ns[k]]) ks[k]) (by simp only [List.length_append]; omega)
     rw [List.append_assoc, List.map_append] at h4
     have r3' := r3 acc
     have r4' := r4 acc
     have r5 := r3 (sub (p ++ [ns[k]]) ks[k])
     have r6 := r4 (sub (p ++ [ns[k]]) ks[k])
     rw [zaR.s3, ← h4]
     generalize sub (p ++ [ns[k]]) ks[k] = Z at *
     simp (disch := omega) only [pvS, pvT, pvC, pvL, pvR, pvN, h2, h3, r3', r4', r5, r6, List.length_map]
  have h0 := hl 0 (by omega) [(p, ⟨a, b, c, ns, ks⟩)] (by simp only [List.drop_zero, List.length_cons, List.length_nil]; omega)
  simp only [List.drop_zero, List.map_cons, List.map_nil, zoR] at h0
  rw [zaR.e]
  simp (disch := omega) only [pvS, pvC, pvL, pvR, pvN, pvO, hid, r1, r2]
  exact h0
abbrev oBx (es : List (List D)) : PV.Obj := ⟨.box, [.s es], [.deep]⟩
theorem zfH (p : List Str) (t : Tree) (d : Int) (acc : List (List Str × Tree)) (hp : zbi d t = true) (hw : wP p + wT t ≤ 1048576) (ha : acc.length ≤ 1048577) :
 zaL [vP p, vT t, .one (.p true 0 [] 0)] [oBx (acc.map eRX)] = some ⟨[], [oBx ((acc ++ [(p, t)]).map eRX)]⟩ := by
 have h1 := zkm t d hp (by omega)
 have hpl := zck p
 have r1 : zaD 1 (eSs p) = true := Sx.rowsLen_map 1 eS (fun _ => rfl) _
 have r2 : zaG false (eSs p) = true := Sx.rowsCell_map false eS (fun _ => rfl) _
 have r3 : zaD 5 (acc.map eRX) = true := Sx.rowsLen_map 5 eRX znx _
 rw [zaL.e, List.map_append, List.map_cons, List.map_nil, zoR]
 simp (disch := omega) only [pvS, pvC, pvL, pvR, pvN, pvO, h1, r1, r2, r3, List.length_map]
theorem zes (t : Tree) : ∀ (p : List Str) (d : Int) (acc : List (List Str × Tree)), zbi d t = true → wP p + wT t ≤ 1048576 → acc.length + (sub p t).length ≤ 1048577 →
 zaT [vT t, vP p, .f zaL.id [.p true 0 [] 0]] [oBx (acc.map eRX)] = some ⟨[], [oBx ((acc ++ sub p t).map eRX)]⟩ := by
 induction t using Tree.ind with
 | h a b c ns ks ih =>
  intro p d acc hp hw hacc
  have hn := zb9 hp
  have hk := fun k (h : k ∈ ks) => zcd hp (k := k) h
  have h1 := zfH p ⟨a, b, c, ns, ks⟩ d acc hp hw (by omega)
  rw [zcV] at hacc ⊢
  rw [wT_eq] at hw
  simp only [List.length_cons] at hn hw hacc ⊢
  have hpl := zck p
  have hnl := zck ns
  have hl : ∀ k, k ≤ ns.length → ∀ acc : List (List Str × Tree), acc.length + (subZ p (ns.drop k) (ks.drop k)).length ≤ 1048577 →
   (iTree_each_table.L3 (eSs p) (eSs ns) ns.length (k : Int) (acc.map eRX) a b (mkS c) (eSs ns) (ks.map eT)).bind iTree_each_table.A3 = some ⟨[], [oBx ((acc ++ subZ p (ns.drop k) (ks.drop k)).map eRX)]⟩ := by
   refine up ns.length ?_ fun k hk1 ihk acc hacc => ?_
   · intro acc _
     rw [iTree_each_table.s3, List.drop_length, zk8, List.append_nil]
     simp (disch := omega) only [pvS, pvT, pvC, pvL, pvR, pvN, iTree_each_table.a3x3]
   · have hk2 : k < ks.length := by omega
     rw [zjx p hk1 hk2] at hacc ⊢
     simp only [List.length_append] at hacc
     have hwk := wL_at wT hk2
     have hwn := wP_at hk1
     have hwp := zfm p ns[k]
     have h2 := zjo p ns[k] (by omega)
     have h3 := ih ks[k] (List.getElem_mem hk2) (p ++ [ns[k]]) (d + 1) acc (hk _ (List.getElem_mem hk2)) (by omega) (by omega)
     have h4 := ihk (acc ++ sub (p ++ [ns[k]]) ks[k]) (by simp only [List.length_append]; omega)
     rw [List.append_assoc] at h4
     rw [iTree_each_table.s3, ← h4]
     generalize acc ++ sub (p ++ [ns[k]]) ks[k] = Z at *
     generalize acc.map eRX = Y at *
     generalize Z.map eRX = Z' at *
     simp (disch := omega) only [pvS, pvT, pvC, pvL, pvR, pvN, pvO, h2, h3]
  have h0 := hl 0 (by omega) (acc ++ [(p, ⟨a, b, c, ns, ks⟩)]) (by simp only [List.drop_zero, List.length_append, List.length_cons, List.length_nil]; omega)
  simp only [List.drop_zero] at h0
  rw [List.append_assoc, List.singleton_append] at h0
  rw [iTree_each_table.e, ← h0]
  generalize (acc ++ [(p, (⟨a, b, c, ns, ks⟩ : Tree))]).map eRX = Z' at *
  generalize acc.map eRX = Y at *
  simp (disch := omega) only [pvS, pvC, pvL, pvR, pvN, pvO, h1]
theorem zhb (t : Tree) (hp : zbi 0 t = true) (hw : wT t ≤ 1048576) : zbr [vT t] [] = rO ((sub [] t).map eRX) := by
 have hlen := zkd t 0 [] hp
 have hc := zfB t
 have h1 := zes t [] 0 [] hp (by have : wP [] = 0 := rfl; omega) (by simp only [List.length_nil]; omega)
 rw [List.nil_append] at h1
 have h1' : zaT [vT t, AV.one (A1.s []), .f zaL.id [.p true 0 [] 0]] [oBx []] = _ := h1
 rw [zbr.e]
 generalize (sub [] t).map eRX = Z at *
 simp (disch := omega) only [pvS, pvC, pvL, pvR, pvN, pvO, h1']
theorem zny (t : Tree) : (sub [] t).map eRX = (tabT t).map eR := by
 unfold tabT eRX
 rw [List.map_map]
 rfl
end Go.PVx
namespace Go.PVx
open Go.PV Go.Proofs
abbrev vR (r : Row) : AV := .g [.s (eSs r.path), .v (.bool r.dir), .v (.int .i64 r.mode), .v (.string (mkS r.data)), .v (.int .i64 r.id)]
abbrev vRs (l : List Row) : AV := .one (.s (l.map eR))
def wR (r : Row) : Nat := wP r.path + r.data.length
def sameR (a b : Row) : Bool := decide (a.path = b.path) && ((a.dir == b.dir) && ((a.mode == b.mode) && ((a.data == b.data) && (a.id == b.id))))
theorem znz (a b : Row) : sameR a b = true ↔ a = b := by
 obtain ⟨a1, a2, a3, a4, a5⟩ := a
 obtain ⟨b1, b2, b3, b4, b5⟩ := b
 simp [sameR]
def eqRs : List Row → List Row → Bool
 | [], [] => true
 | a :: x, b :: y => sameR a b && eqRs x y
 | _, _ => false
theorem zd9 : ∀ x y : List Row, eqRs x y = true ↔ x = y
 | [], [] => by simp [eqRs]
 | [], _ :: _ => by simp [eqRs]
 | _ :: _, [] => by simp [eqRs]
 | a :: x, b :: y => by simp [eqRs, znz, zd9 x y]
theorem zko (a b : Row) (ha : a.path.length ≤ 1048576) : zbw [vR a, vR b] [] = rB (sameR a b) := by
 have h1 := zdS a.path b.path (by omega)
 rw [zbw.e]
 unfold sameR
 generalize decide (a.path = b.path) = p at *
 simp (disch := omega) only [pvS, pvC, pvL, pvR, pvN, h1]
 generalize (a.dir == b.dir) = q
 generalize (a.mode == b.mode) = q1
 generalize (a.data == b.data) = q2
 generalize (a.id == b.id) = q3
 cases p <;> cases q <;> cases q1 <;> cases q2 <;> rfl
theorem zg1 (a b : Row) (ha : a.path.length ≤ 1048576) : zbZ [vR a, vR b] [] = rB (sameR a b) := by
 have h1 := zgG a.path b.path (by omega)
 rw [zbZ.e]
 unfold sameR
 generalize decide (a.path = b.path) = p at *
 simp (disch := omega) only [pvS, pvC, pvL, pvR, pvN, h1]
 generalize (a.dir == b.dir) = q
 generalize (a.mode == b.mode) = q1
 generalize (a.data == b.data) = q2
 generalize (a.id == b.id) = q3
 cases p <;> cases q <;> cases q1 <;> cases q2 <;> rfl
theorem zfF {l : List Row} {k : Nat} (h : k < l.length) : l[k].path.length + 1 ≤ wL wR l := by
 have h1 := wL_at wR h
 have h2 := zck l[k].path
 have e : wR l[k] = wP l[k].path + l[k].data.length := rfl
 omega
theorem znA (x y : List Row) (hw : wL wR x ≤ 1048576) (hy : y.length ≤ 1048576) : zaa [vRs x, vRs y, .f zbw.id []] [] = rB (eqRs x y) := by
 have hl := zbV wR x
 rw [zaa.e]
 by_cases hlen : x.length = y.length
 · have key : ∀ k, k ≤ x.length → (zaa.L4 (y.map eR) (x.map eR) x.length (k : Int)).bind zaa.A4 = rB (eqRs (x.drop k) (y.drop k)) := by
    refine up x.length ?_ fun k hk ih => ?_
    · rw [zaa.s4, List.drop_length, hlen, List.drop_length]
      simp (disch := omega) only [pvS, pvL, pvN, zaa.a4x4, eqRs]
    · have hk2 : k < y.length := by omega
      have h1 := zko x[k] y[k] (by have := zfF hk; omega)
      rw [zaK x k hk, zaK y k hk2]
      unfold eqRs
      rw [zaa.s4]
      cases hb : sameR x[k] y[k] with
      | true =>
       rw [hb] at h1
       simp (disch := omega) only [pvS, pvT, pvC, pvL, pvR, pvN, h1]
       exact ih
      | false =>
       rw [hb] at h1
       simp (disch := omega) only [pvS, pvT, pvC, pvL, pvR, pvN, h1, zaa.a4q4]
   have h0 := key 0 (by omega)
   simp only [List.drop_zero] at h0
   simp (disch := omega) only [pvS, pvT, pvC, pvL, pvR, pvN, List.length_map, hlen] at h0 ⊢
   exact h0
 · have : eqRs x y = false := by
    cases h : eqRs x y with
    | false => rfl
    | true => exact absurd (congrArg List.length ((zd9 x y).1 h)) hlen
   rw [this]
   simp (disch := omega) only [pvS, pvT, pvC, pvL, pvR, pvN, List.length_map]
theorem zg2 (r : Row) : wT (rowT r) = r.data.length := by rw [wT_eq]; simp [rowT, wP, wL]
theorem tab_w {t : Tree} (h : treeB t = true) : wL wR (tabT t) ≤ 100000 := by
 have hl := zke h
 have hc := zgO h
 have key : ∀ l : List (List Str × Tree), (∀ x ∈ l, wP x.1 + x.2.data.length ≤ 2000) → wL wR (l.map rowX) ≤ 2001 * l.length := by
  intro l
  induction l with
  | nil => simp [wL]
  | cons a l ih =>
   intro h
   have h1 := h a (by simp)
   have h2 := ih fun x hx => h x (by simp [hx])
   have e : wR (rowX a) = wP a.1 + a.2.data.length := rfl
   simp only [List.map_cons, wL, List.length_cons]
   omega
 have h1 := key (sub [] t) fun x hx => by
  obtain ⟨e, h3, h4, h5⟩ := zoP t 0 [] (zca h) rfl (by simp) x hx
  obtain ⟨h6, h7⟩ := zdL h3
  have h8 := zoz h5
  have h9 : x.2.data.length ≤ 24 := by
   cases hd : x.2.dir with
   | true => rw [h6.dat hd]; simp
   | false => exact (h6.file hd).1
  omega
 have e : (sub [] t).length = (tabT t).length := by unfold tabT; rw [List.length_map]
 have e2 : tabT t = (sub [] t).map rowX := rfl
 rw [e2]
 rw [e] at h1
 omega
theorem zah.fin (all : List Row) (hall : all.length ≤ 1048576) (t : Tree) (hw : wT t ≤ 1048576) : zah.A5 (zah.x5 (all.map eR) false 0 (mkS []) [] [] t.dir t.mode (mkS t.data) (eSs t.names) (t.kids.map eT)) =
 rTB (if treeB t = true ∧ tabT t = all then some t else none) := by
 have h1 := zlD t (oT_of t hw) hw
 have h2 := zha t hw
 rw [zah.a5x5]
 cases hb : treeB t with
 | false =>
  rw [hb] at h1
  rw [if_neg (fun h => by simp at h)]
  simp (disch := omega) only [pvS, pvT, pvC, pvL, pvR, pvN, h1, zah.p16]
  rfl
 | true =>
  rw [hb] at h1
  have h3 := zhb t (zca hb) hw
  rw [zny] at h3
  have h4 := znA (tabT t) all (by have := tab_w hb; omega) hall
  by_cases hc : tabT t = all
  · have e : eqRs (tabT t) all = true := (zd9 _ _).2 hc
    rw [if_pos ⟨rfl, hc⟩]
    rw [e] at h4
    generalize tabT t = rs at *
    simp (disch := omega) only [pvS, pvC, pvL, pvR, pvN, h1, h2, h3, h4, zah.p16, zah.p17]
    rfl
  · have e : eqRs (tabT t) all = false := by
     cases h : eqRs (tabT t) all with
     | false => rfl
     | true => exact absurd ((zd9 _ _).1 h) hc
    rw [if_neg (fun h => hc h.2)]
    rw [e] at h4
    generalize tabT t = rs at *
    simp (disch := omega) only [pvS, pvC, pvL, pvR, pvN, h1, h2, h3, h4, zah.p16, zah.p17]
    rfl
end Go.PVx
namespace Go.PVx
open Go.PV Go.Proofs
theorem zkp {q : List Str} {n : Str} : (n.length + 1) + q.length ≤ wP (q ++ [n]) := by
 have := zfm q n
 have := zck q
 omega
theorem zah.l5 (all rs : List Row) (hall : all.length ≤ 1048576) (hrs : rs.length ≤ 1048576) : ∀ k, k ≤ rs.length → ∀ t : Tree, OkT t → wT t + wL wR (rs.drop k) ≤ 1048576 →
 (zah.L5 (all.map eR) (rs.map eR) rs.length (k : Int) false 0 (mkS []) [] [] t.dir t.mode (mkS t.data) (eSs t.names) (t.kids.map eT)).bind zah.A5 =
 rTB ((zfD t (rs.drop k)).bind fun z => if treeB z = true ∧ tabT z = all then some z else none) := by
 refine up rs.length ?_ fun k hk ih => ?_
 · intro t ho hw
   rw [List.drop_length] at hw ⊢
   simp only [wL] at hw
   have hf := zah.fin all hall t (by omega)
   rw [zah.s5]
   simp (disch := omega) only [pvS, pvL, pvN]
   rw [hf]
   rfl
 · intro t ho hw
   rw [zfh wR hk] at hw
   rw [zaK rs k hk]
   unfold zfD
   have hwr := zg2 rs[k]
   have hr : rs[k] = rs[k] := rfl
   rw [zah.s5]
   have eR1 : (rs.map eR).getD k [] = eR rs[k] := by rw [List.getD_eq_getElem?_getD, List.getElem?_map, List.getElem?_eq_getElem hk]; rfl
   generalize rs[k] = r at *
   obtain ⟨p, d, m, dat, i⟩ := r
   have hwe : wR ⟨p, d, m, dat, i⟩ = wP p + dat.length := rfl
   have hrow : rowT ⟨p, d, m, dat, i⟩ = ⟨d, m, dat, [], []⟩ := rfl
   rw [hrow] at hwr ⊢
   simp only at hwr ⊢
   rcases List.eq_nil_or_concat p with rfl | ⟨q, n, rfl⟩
   · rw [if_pos rfl]
     simp (disch := omega) only [pvS, pvC, pvL, pvR, pvN, eR1, eR, List.length_map, Int.toNat_natCast, zah.a5q5]
     rfl
   · rw [List.concat_eq_append] at *
     have hne : q ++ [n] ≠ [] := by simp
     have hwl := @zkp q n
     rw [if_neg hne]
     have hat := zkk t q (by omega) ho (by omega)
     have e0 : ((q.length + 1 : Nat) : Int) - 1 = (q.length : Int) := by omega
     have e1 : List.take q.length (q ++ [n]) = q := by simp
     have e2 := zoy q n
     have hpu := fun z (h : putAt insI ⟨d, m, dat, [], []⟩ t (q ++ [n]) = some z) => zov h ho (OkT.leaf d m dat)
     simp (disch := omega) only [pvS, pvC, pvL, pvR, pvN, eR1, eR, List.length_map, Int.toNat_natCast, List.length_append, List.length_cons, List.length_nil, e0, e1]
     rw [zgV] at hpu ⊢
     cases hloc : locT t q with
     | none =>
      rw [hloc] at hat
      simp only [rAt] at hat
      simp (disch := omega) only [pvS, pvT, pvC, pvL, pvR, pvN, pvO, hat, zfT, zgX, ok_p, List.isEmpty_nil, zah.p11, zah.a5q5]
      rfl
     | some y =>
      obtain ⟨π, c⟩ := y
      have hco := zki q t _ hloc ho
      have hcw := loc_w q t _ hloc
      rw [hloc] at hat hpu
      simp only [rAt] at hat
      obtain ⟨hz, hzw⟩ := hpu _ rfl
      simp only at hco hcw hz hzw
      rw [hwr] at hzw
      have hlast : ((q ++ [n]).getLastD []) = n := by simp
      rw [hlast] at hzw
      have hput := zik c n d m dat hco (by omega)
      have ih2 := ih _ hz (by omega)
      simp only [Option.map_some, Option.bind_some]
      refine Eq.trans ?_ ih2
      cases π with
      | nil =>
       obtain ⟨rfl, hs⟩ := zpJ hloc (insI c n ⟨d, m, dat, [], []⟩)
       rw [hs]
       simp (disch := omega) only [pvS, pvT, pvC, pvL, pvR, pvN, pvO, hat, zfT, zgX, ok_p, List.isEmpty_nil, zah.p11, e2, hput]
      | cons b π =>
       obtain ⟨a, j⟩ := b
       obtain ⟨rfl, hj, g1, g2, g3, g4, g5, g6⟩ := zou hloc (insI c n ⟨d, m, dat, [], []⟩)
       rw [g3, g4, g5, g6]
       rw [eT_eq (insI c n _)] at g2
       simp (disch := omega) only [pvS, pvC, pvL, pvR, pvN, pvO, hat, zkj, zgX, ok_p, List.isEmpty_cons, List.headD_cons, List.tail_cons]
       rw [zah.p11b]
       generalize (t.kids.map eT).getD j [] = R at *
       simp (disch := omega) only [pvS, pvT, pvC, pvL, pvR, pvN, pvO, e2, g1, hput, List.map_cons, List.map_nil, List.isEmpty_cons]
       rw [← g2]
       rfl
theorem zil (rs : List Row) (hw : wL wR rs ≤ 1048576) : zah [vRs rs] [] = rTB (RRI rs) := by
 have hl := zbV wR rs
 have hin := zd6 (rs.length : Int) 1 31
 unfold inB at hin
 rw [zah.e]
 cases rs with
 | nil =>
  have hin' : zb2 [vI 0, vI 1, vI 31] [] = rB false := zd6 0 1 31
  simp (disch := omega) only [pvS, pvC, pvL, pvR, pvN, List.map_nil, List.length_nil, hin']
  rfl
 | cons r rs =>
  rw [zig]
  simp only [List.length_cons] at hl hin ⊢
  by_cases h31 : 31 < rs.length + 1
  · rw [if_pos h31]
    simp (disch := omega) only [pvS, pvC, pvL, pvR, pvN, List.length_map, List.length_cons, hin]
    rfl
  · rw [if_neg h31]
    simp only [wL] at hw
    have hwe : wR r = wP r.path + r.data.length := rfl
    have h2 := zah.l5 (r :: rs) rs (by simp only [List.length_cons]; omega) (by omega) 0 (by omega) (rowT r) (OkT.leaf _ _ _) (by rw [zg2]; simp only [List.drop_zero]; omega)
    simp (disch := omega) only [pvS, pvC, pvL, pvR, pvN, List.length_map, List.length_cons, List.map_cons, hin, eR]
    have e1 : ∀ x : List D, List.drop 1 (List.take (rs.length + 1) (x :: rs.map eR)) = rs.map eR := fun x => by
     rw [List.take_of_length_le (by simp), List.drop_succ_cons, List.drop_zero]
    have e2 : min (rs.length + 1) (rs.length + 1) - 1 = rs.length := by omega
    have e3 : ((min (rs.length + 1) (rs.length + 1) : Nat) : Int) - 1 = (rs.length : Int) := by omega
    simp only [e1, e2, e3, zah.p5]
    exact h2
end Go.PVx
namespace Go.PVx
open Go.PV Go.Proofs
theorem zhM (t : Tree) : wT t ≤ 1048576 → za5 [vT t] [] = rT t := by
 induction t using Tree.ind with
 | h d m s ns ks ih =>
  intro hw
  have hwt := wT_eq ⟨d, m, s, ns, ks⟩
  simp only at hwt
  have hl1 := zbV wT ks
  have hl2 := zck ns
  have r1 : zaD 1 (eSs ns) = true := Sx.rowsLen_map 1 eS (fun _ => rfl) ns
  have r2 : zaG false (eSs ns) = true := Sx.rowsCell_map false eS (fun _ => rfl) ns
  have hl : ∀ k, k ≤ ks.length → (za5.L3 (k : Int) d m (mkS s) (eSs ns) (ks.map eT) false 0 (mkS []) [] [] d m (mkS s) (eSs ns) ((ks.take k).map eT)).bind za5.A3 = rT ⟨d, m, s, ns, ks⟩ := by
   refine up ks.length ?_ fun k hk ihk => ?_
   · rw [za5.s3, List.take_length]
     simp (disch := omega) only [pvS, pvT, pvC, pvL, pvR, pvN, za5.a3x3, r1, r2]
   · have hk1 := wL_at wT hk
     have h1 := ih ks[k] (List.getElem_mem hk) (by omega)
     have r3 : zaD 5 ((ks.take k).map eT) = true := Sx.rowsLen_map 5 eT Sx.eT_len _
     have e : (ks.take k).map eT ++ [eT ks[k]] = (ks.take (k + 1)).map eT := by
      rw [List.take_add_one, List.getElem?_eq_getElem hk, List.map_append]; rfl
     have e2 : ((ks.take k).map eT).length = k := by simp; omega
     rw [← ihk, ← e, za5.s3]
     rw [eT_eq ks[k]]
     simp (disch := omega) only [pvS, pvT, pvC, pvL, pvR, pvN, h1, r3, e2]
  have h0 := hl 0 (by omega)
  rw [za5.e]
  simp (disch := omega) only [pvS, pvT, pvC, pvL, pvR, pvN, r1, r2]
  exact h0
theorem zeU (t : Tree) (hw : wT t ≤ 1048576) : zbq [vT t] [] = rO (if treeB t = true then (tabT t).map eR else []) := by
 have h0 := zlC t (oT_of t hw) hw
 rw [zbq.e]
 cases hb : treeB t with
 | false =>
  rw [hb] at h0
  simp (disch := omega) only [pvS, pvT, pvC, pvL, pvR, pvN, h0]
  rfl
 | true =>
  rw [hb] at h0
  have h1 : zaR [AV.one (A1.s []), vT t] [] = _ := zkn t [] 0 (zca hb) (by have : wP [] = 0 := rfl; omega)
  rw [zny] at h1
  rw [if_pos rfl]
  generalize (tabT t).map eR = Z at *
  simp (disch := omega) only [pvS, pvC, pvL, pvR, pvN, h0, h1]
theorem zab.c18 (all made : List Row) (hw : wL wR made ≤ 1048576) (hall : all.length ≤ 1048576) (hlen : made.length = all.length) (t : Tree) (ht : wT t ≤ 1048576) : ∀ k, k ≤ all.length →
 (zab.L18 (all.map eR) (k : Int) false 0 (mkS []) [] [] t.dir t.mode (mkS t.data) (eSs t.names) (t.kids.map eT) (made.map eR)).bind zab.A18 = rTB (if eqRs (made.drop k) (all.drop k) = true then some t else none) := by
 have h2 := zhM t ht
 refine up all.length ?_ fun k hk ih => ?_
 · have e : eqRs (made.drop all.length) (all.drop all.length) = true := by rw [List.drop_length, ← hlen, List.drop_length]; rfl
   rw [if_pos e, zab.s18]
   simp (disch := omega) only [pvS, pvC, pvL, pvR, pvN, List.length_map, zab.a18x18, h2]
   rfl
 · have hk2 : k < made.length := by omega
   have h1 := zg1 made[k] all[k] (by have := zfF hk2; omega)
   rw [zaK all k hk, zaK made k hk2]
   unfold eqRs
   rw [zab.s18]
   cases hb : sameR made[k] all[k] with
   | true =>
    rw [hb] at h1
    simp (disch := omega) only [pvS, pvT, pvC, pvL, pvR, pvN, List.length_map, h1, Bool.true_and]
    exact ih
   | false =>
    rw [hb] at h1
    rw [if_neg (by simp)]
    simp (disch := omega) only [pvS, pvT, pvC, pvL, pvR, pvN, List.length_map, h1, zab.a18q18]
    rfl
theorem zab.fin (all : List Row) (hall : all.length ≤ 1048576) (h1 : 1 ≤ all.length) (t : Tree) (hw : wT t ≤ 1048576) : zab.A5 (zab.x5 (all.map eR) false 0 (mkS []) [] [] t.dir t.mode (mkS t.data) (eSs t.names) (t.kids.map eT)) =
 rTB (if treeB t = true ∧ tabT t = all then some t else none) := by
 have hm := zeU t hw
 rw [zab.a5x5]
 cases hb : treeB t with
 | false =>
  rw [hb] at hm
  rw [if_neg (fun h => by simp at h)]
  rw [if_neg (by simp)] at hm
  simp (disch := omega) only [pvS, pvC, pvL, pvR, pvN, List.length_map, hm]
  rfl
 | true =>
  rw [hb, if_pos rfl] at hm
  have htw := tab_w hb
  have htl := zbV wR (tabT t)
  generalize tabT t = made at *
  by_cases hlen : made.length = all.length
  · have hc := zab.c18 all made (by omega) hall hlen t hw 0 (by omega)
    simp only [List.drop_zero, zd9] at hc
    simp (disch := omega) only [pvS, pvC, pvL, pvR, pvN, List.length_map, hm, hlen]
    refine hc.trans ?_
    simp only [true_and]
  · rw [if_neg (fun h => hlen (congrArg List.length h.2))]
    simp (disch := omega) only [pvS, pvC, pvL, pvR, pvN, List.length_map, hm]
    rfl
theorem zab.c18b (all made : List Row) (hw : wL wR made ≤ 1048576) (hall : all.length ≤ 1048576) (hlen : made.length = all.length) (t : Tree) (ht : wT t ≤ 1048576) : ∀ k, k ≤ all.length →
 (zab.L18b (all.map eR) (k : Int) false 0 (mkS []) [] [] t.dir t.mode (mkS t.data) (eSs t.names) (t.kids.map eT) (made.map eR)).bind zab.A18 = rTB (if eqRs (made.drop k) (all.drop k) = true then some t else none) := by
 have h2 := zhM t ht
 refine up all.length ?_ fun k hk ih => ?_
 · have e : eqRs (made.drop all.length) (all.drop all.length) = true := by rw [List.drop_length, ← hlen, List.drop_length]; rfl
   rw [if_pos e, zab.s18b]
   simp (disch := omega) only [pvS, pvC, pvL, pvR, pvN, List.length_map, zab.a18x18b, h2]
   rfl
 · have hk2 : k < made.length := by omega
   have h1 := zg1 made[k] all[k] (by have := zfF hk2; omega)
   rw [zaK all k hk, zaK made k hk2]
   unfold eqRs
   rw [zab.s18b]
   cases hb : sameR made[k] all[k] with
   | true =>
    rw [hb] at h1
    simp (disch := omega) only [pvS, pvT, pvC, pvL, pvR, pvN, List.length_map, h1, Bool.true_and]
    exact ih
   | false =>
    rw [hb] at h1
    rw [if_neg (by simp)]
    simp (disch := omega) only [pvS, pvT, pvC, pvL, pvR, pvN, List.length_map, h1, zab.a18q18b]
    rfl
theorem zab.finb (all : List Row) (hall : all.length ≤ 1048576) (h1 : 1 ≤ all.length) (t : Tree) (hw : wT t ≤ 1048576) : zab.A5 (zab.x5b (all.map eR) false 0 (mkS []) [] [] t.dir t.mode (mkS t.data) (eSs t.names) (t.kids.map eT)) =
 rTB (if treeB t = true ∧ tabT t = all then some t else none) := by
 have hm := zeU t hw
 rw [zab.a5x5b]
 cases hb : treeB t with
 | false =>
  rw [hb] at hm
  rw [if_neg (fun h => by simp at h)]
  rw [if_neg (by simp)] at hm
  simp (disch := omega) only [pvS, pvC, pvL, pvR, pvN, List.length_map, hm]
  rfl
 | true =>
  rw [hb, if_pos rfl] at hm
  have htw := tab_w hb
  have htl := zbV wR (tabT t)
  generalize tabT t = made at *
  by_cases hlen : made.length = all.length
  · have hc := zab.c18b all made (by omega) hall hlen t hw 0 (by omega)
    simp only [List.drop_zero, zd9] at hc
    simp (disch := omega) only [pvS, pvC, pvL, pvR, pvN, List.length_map, hm, hlen]
    refine hc.trans ?_
    simp only [true_and]
  · rw [if_neg (fun h => hlen (congrArg List.length h.2))]
    simp (disch := omega) only [pvS, pvC, pvL, pvR, pvN, List.length_map, hm]
    rfl
theorem zab.line (all : List Row) (hall : wL wR all ≤ 1048576) (k : Nat) (hk : k < all.length) (t : Tree) (ho : OkL t) (hw : wT t ≤ 1048576) :
 (zab.L5 (all.map eR) (k : Int) false 0 (mkS []) [] [] t.dir t.mode (mkS t.data) (eSs t.names) (t.kids.map eT)).bind zab.A5 =
 (match (if pathB 1 all[k].path = true then putAt insS (rowT all[k]) t all[k].path else none) with
 | none => rTB none
 | some z => (zab.L5b (all.map eR) ((k + 1 : Nat) : Int) false 0 (mkS []) [] [] z.dir z.mode (mkS z.data) (eSs z.names) (z.kids.map eT)).bind zab.A5) := by
 have hat := wL_at wR hk
 have hln := zbV wR all
 have eR1 : (all.map eR).getD k [] = eR all[k] := by rw [List.getD_eq_getElem?_getD, List.getElem?_map, List.getElem?_eq_getElem hk]; rfl
 rw [zab.s5]
 generalize all[k] = r at *
 obtain ⟨p, d, m, dat, i⟩ := r
 have hwe : wR ⟨p, d, m, dat, i⟩ = wP p + dat.length := rfl
 have hrow : rowT ⟨p, d, m, dat, i⟩ = ⟨d, m, dat, [], []⟩ := rfl
 have hpl := zck p
 have hpo := zfy p (oP_of (by omega))
 rw [hrow]
 simp only
 cases hb : pathB 1 p with
 | false =>
  rw [hb] at hpo
  rw [if_neg (by simp)]
  simp (disch := omega) only [pvS, pvC, pvL, pvR, pvN, eR1, eR, List.length_map, Int.toNat_natCast, hpo, zab.a5q5]
  rfl
 | true =>
  rw [hb] at hpo
  rw [if_pos rfl]
  have hne : p ≠ [] := fun h => by subst h; exact absurd hb (by decide)
  obtain ⟨u, hu1, hu2⟩ := zg0 ⟨d, m, dat, [], []⟩ p t hne (by omega) ho hw
  have hu3 : zbk [vT t, vP p, .g [.v (.bool d), .v (.int .i64 m), .v (.string (mkS dat)), .s [], .s []]] [] = _ := hu1
  cases hz : putAt insS ⟨d, m, dat, [], []⟩ t p with
  | none =>
   rw [hz] at hu3
   simp (disch := omega) only [pvS, pvC, pvL, pvR, pvN, eR1, eR, List.length_map, Int.toNat_natCast, hpo, hu3, rPut, Option.isSome_none, zab.p11, zab.a5q5b]
   rfl
  | some z =>
   rw [hz] at hu3
   obtain rfl := hu2 z hz
   simp (disch := omega) only [pvS, pvC, pvL, pvR, pvN, eR1, eR, List.length_map, Int.toNat_natCast, hpo, hu3, rPut, Option.isSome_some, zab.p11]
theorem zab.lineb (all : List Row) (hall : wL wR all ≤ 1048576) (k : Nat) (hk : k < all.length) (t : Tree) (ho : OkL t) (hw : wT t ≤ 1048576) :
 (zab.L5b (all.map eR) (k : Int) false 0 (mkS []) [] [] t.dir t.mode (mkS t.data) (eSs t.names) (t.kids.map eT)).bind zab.A5 =
 (match (if pathB 1 all[k].path = true then putAt insS (rowT all[k]) t all[k].path else none) with
 | none => rTB none
 | some z => (zab.L5b (all.map eR) ((k + 1 : Nat) : Int) false 0 (mkS []) [] [] z.dir z.mode (mkS z.data) (eSs z.names) (z.kids.map eT)).bind zab.A5) := by
 have hat := wL_at wR hk
 have hln := zbV wR all
 have eR1 : (all.map eR).getD k [] = eR all[k] := by rw [List.getD_eq_getElem?_getD, List.getElem?_map, List.getElem?_eq_getElem hk]; rfl
 rw [zab.s5b]
 generalize all[k] = r at *
 obtain ⟨p, d, m, dat, i⟩ := r
 have hwe : wR ⟨p, d, m, dat, i⟩ = wP p + dat.length := rfl
 have hrow : rowT ⟨p, d, m, dat, i⟩ = ⟨d, m, dat, [], []⟩ := rfl
 have hpl := zck p
 have hpo := zfy p (oP_of (by omega))
 rw [hrow]
 simp only
 cases hb : pathB 1 p with
 | false =>
  rw [hb] at hpo
  rw [if_neg (by simp)]
  simp (disch := omega) only [pvS, pvC, pvL, pvR, pvN, eR1, eR, List.length_map, Int.toNat_natCast, hpo, zab.a5q5c]
  rfl
 | true =>
  rw [hb] at hpo
  rw [if_pos rfl]
  have hne : p ≠ [] := fun h => by subst h; exact absurd hb (by decide)
  obtain ⟨u, hu1, hu2⟩ := zg0 ⟨d, m, dat, [], []⟩ p t hne (by omega) ho hw
  have hu3 : zbk [vT t, vP p, .g [.v (.bool d), .v (.int .i64 m), .v (.string (mkS dat)), .s [], .s []]] [] = _ := hu1
  cases hz : putAt insS ⟨d, m, dat, [], []⟩ t p with
  | none =>
   rw [hz] at hu3
   simp (disch := omega) only [pvS, pvC, pvL, pvR, pvN, eR1, eR, List.length_map, Int.toNat_natCast, hpo, hu3, rPut, Option.isSome_none, zab.p11b, zab.a5q5c]
   rfl
  | some z =>
   rw [hz] at hu3
   obtain rfl := hu2 z hz
   simp (disch := omega) only [pvS, pvC, pvL, pvR, pvN, eR1, eR, List.length_map, Int.toNat_natCast, hpo, hu3, rPut, Option.isSome_some, zab.p11b]
theorem zab.l5b (all : List Row) (hall : wL wR all ≤ 1048576) : ∀ k, k ≤ all.length → 1 ≤ k → ∀ t : Tree, OkL t → wT t + wL wR (all.drop k) ≤ 1048576 →
 (zab.L5b (all.map eR) (k : Int) false 0 (mkS []) [] [] t.dir t.mode (mkS t.data) (eSs t.names) (t.kids.map eT)).bind zab.A5 =
 rTB ((zdV t (all.drop k)).bind fun z => if treeB z = true ∧ tabT z = all then some z else none) := by
 have hln := zbV wR all
 refine up all.length ?_ fun k hk ih => ?_
 · intro h1 t ho hw
   rw [List.drop_length] at hw ⊢
   simp only [wL] at hw
   have hf := zab.finb all (by omega) h1 t (by omega)
   rw [zab.s5b]
   simp (disch := omega) only [pvS, pvL, pvN, List.length_map]
   exact hf
 · intro h1 t ho hw
   rw [zfh wR hk] at hw
   rw [zaK all k hk, zab.lineb all hall k hk t ho (by omega)]
   unfold zdV
   by_cases hb : pathB 1 all[k].path = true
   · rw [if_pos hb, if_pos hb]
     cases hz : putAt insS (rowT all[k]) t all[k].path with
     | none => rfl
     | some z =>
      obtain ⟨z1, z2⟩ := zgZ (rowT all[k]) (OkL.leaf _ _ _) _ t z hz ho
      rw [zg2] at z2
      have hwe : wR all[k] = wP all[k].path + all[k].data.length := rfl
      have hne : all[k].path ≠ [] := fun h => by rw [h] at hb; exact absurd hb (by decide)
      obtain ⟨q, n, hq⟩ := (List.eq_nil_or_concat all[k].path).resolve_left hne
      rw [List.concat_eq_append] at hq
      rw [hq] at hwe z2
      have hlast : ((q ++ [n]).getLastD []) = n := by simp
      have hwl := @zkp q n
      rw [hlast] at z2
      simp only [Option.bind_some]
      exact ih (by omega) z z1 (by omega)
   · rw [if_neg hb, if_neg hb]; rfl
theorem zim (all : List Row) (hall : wL wR all ≤ 1048576) : zab [vRs all] [] = rTB (RRS all) := by
 have hln := zbV wR all
 rw [zab.e]
 cases all with
 | nil =>
  simp (disch := omega) only [pvS, pvC, pvL, pvR, pvN, List.map_nil, List.length_nil, zab.p2]
  rfl
 | cons r rs =>
  rw [zih]
  have eR0 : ((r :: rs).map eR).getD 0 [] = eR r := rfl
  have hwe : wR r = wP r.path + r.data.length := rfl
  have hpl := zck r.path
  simp only [List.length_cons] at hln
  have hall' := hall
  simp only [wL] at hall'
  by_cases h31 : 31 < (r :: rs).length
  · rw [if_pos (Or.inl h31)]
    simp only [List.length_cons] at h31
    simp (disch := omega) only [pvS, pvC, pvL, pvR, pvN, List.length_map, List.length_cons, zab.p2]
    rfl
  · have h31' := h31
    simp only [List.length_cons] at h31'
    by_cases hp : r.path = []
    · rw [if_neg (by rw [not_or]; exact ⟨h31, fun h => h hp⟩)]
      have hstart : (zab.L5 ((r :: rs).map eR) ((1 : Nat) : Int) false 0 (mkS []) [] [] (rowT r).dir (rowT r).mode (mkS (rowT r).data) (eSs (rowT r).names) ((rowT r).kids.map eT)).bind zab.A5 =
       rTB ((zdV (rowT r) rs).bind fun t => if treeB t = true ∧ tabT t = r :: rs then some t else none) := by
       cases hrs : rs with
       | nil =>
        have hf := zab.fin [r] (by simp) (by simp) (rowT r) (by rw [zg2]; omega)
        rw [zab.s5]
        simp (disch := omega) only [pvS, pvL, pvN, List.length_map, List.length_cons, List.length_nil]
        exact hf
       | cons r2 rs2 =>
        rw [← hrs]
        have h2l : 1 < (r :: rs).length := by rw [hrs]; simp
        rw [zab.line (r :: rs) hall 1 h2l (rowT r) (OkL.leaf _ _ _) (by rw [zg2]; omega)]
        have eg : (r :: rs)[1] = r2 := by simp [hrs]
        rw [eg]
        have eP : zdV (rowT r) rs = if pathB 1 r2.path = true then (putAt insS (rowT r2) (rowT r) r2.path).bind fun z => zdV z rs2 else none := by rw [hrs]; rfl
        rw [eP]
        by_cases hb : pathB 1 r2.path = true
        · rw [if_pos hb, if_pos hb]
          cases hz : putAt insS (rowT r2) (rowT r) r2.path with
          | none => rfl
          | some z =>
           obtain ⟨z1, z2⟩ := zgZ (rowT r2) (OkL.leaf _ _ _) _ (rowT r) z hz (OkL.leaf _ _ _)
           rw [zg2, zg2] at z2
           have hwe2 : wR r2 = wP r2.path + r2.data.length := rfl
           have hne : r2.path ≠ [] := fun h => by rw [h] at hb; exact absurd hb (by decide)
           obtain ⟨q, n, hq⟩ := (List.eq_nil_or_concat r2.path).resolve_left hne
           rw [List.concat_eq_append] at hq
           rw [hq] at hwe2 z2
           have hlast : ((q ++ [n]).getLastD []) = n := by simp
           have hwl := @zkp q n
           rw [hlast] at z2
           have hrw : wL wR rs = 1 + wR r2 + wL wR rs2 := by rw [hrs]; rfl
           have hdr : (r :: rs).drop 2 = rs2 := by rw [hrs]; rfl
           have := zab.l5b (r :: rs) hall 2 (by simp only [List.length_cons] at h2l ⊢; omega) (by omega) z z1 (by rw [hdr]; omega)
           rw [hdr] at this
           simp only [Option.bind_some]
           exact this
        · rw [if_neg hb, if_neg hb]; rfl
      simp (disch := omega) only [pvS, pvC, pvL, pvR, pvN, List.length_map, List.length_cons, eR0, eR, hp, List.length_nil, zab.p2, zab.p3]
      exact hstart
    · have hpn : 0 < r.path.length := List.length_pos_iff.2 hp
      rw [if_pos (Or.inr hp)]
      simp (disch := omega) only [pvS, pvC, pvL, pvR, pvN, List.length_map, List.length_cons, eR0, eR, zab.p2]
      rfl
end Go.PVx
namespace Go.PVx
open Go.PV Go.Proofs
structure OR (r : Row) : Prop where
 path : oP r.path
 data : sS r.data
abbrev rRow (r : Row) : Option Res := some ⟨[.o .deep (eSs r.path), .v (.bool r.dir), .v (.int .i64 r.mode), .v (.string (mkS r.data)), .v (.int .i64 r.id)], []⟩
theorem zeV {l : List Row} {k : Nat} (h : k < l.length) : (l.map eR).getD k [] = [.s (eSs l[k].path), .v (.bool l[k].dir), .v (.int .i64 l[k].mode), .v (.string (mkS l[k].data)), .v (.int .i64 l[k].id)] := by
 rw [zbR eR l k h]; rfl
theorem zaV.l5 (l : List Row) (hl : l.length ≤ 9223372036854775807) (hX : ∀ a ∈ l, ∀ x : Int, 0 ≤ x → x ≤ Lim → zc9 [vR a, vI x] [] = rI (szR (wR a) x)) : ∀ k, k ≤ l.length → ∀ x : Int, 0 ≤ x → x ≤ Lim →
 (zaV.L5 (l.map eR) x (k : Int)).bind zaV.A5 = rI (szR (sumW wR (l.drop k)) x) := by
 have hL : (Lim : Int) = 1048576 := rfl
 refine up l.length ?_ fun k hk ih x h0 h1 => ?_
 · intro x h0 h1; rw [zaV.s5]; simp [sumW, szR, zaV.a5x5, h0]
 · rw [zaV.s5, zaK l k hk]
   have h := hX l[k] (List.getElem_mem hk) x h0 h1
   simp only [Int.toNat_natCast, zeV hk, zbA k (by omega), sumW]
   by_cases hx : (wR l[k] : Int) ≤ x
   · have hn : ¬ x - (wR l[k] : Int) < 0 := by omega
     have := ih (x - (wR l[k] : Int)) (by omega) (by omega)
     push_cast at this
     rw [zgJ hx] at h
     rw [zie hx, ← this]
     simp [-List.getElem_cons_drop, hk, hn, h]
   · rw [zeq hx] at h
     rw [zfP hx]
     simp [-List.getElem_cons_drop, hk, h, zaV.a5q5]
theorem zlK (l : List Row) (hl : l.length ≤ 9223372036854775807) (hX : ∀ a ∈ l, ∀ x : Int, 0 ≤ x → x ≤ Lim → zc9 [vR a, vI x] [] = rI (szR (wR a) x)) (x : Int) (h0 : 0 ≤ x) (h1 : x ≤ Lim) :
 zaV [.one (.s (l.map eR)), vI x] [] = rI (szR (wL wR l) x) := by
 have hL : (Lim : Int) = 1048576 := rfl
 have hw : IntKind.i64.wrap (x - (l.length : Int)) = x - (l.length : Int) := zdp _ (by omega)
 rw [zaV.e]
 simp only [List.length_map, hw, znc]
 by_cases hx : (l.length : Int) ≤ x
 · have hn : ¬ x - (l.length : Int) < 0 := by omega
   have := zaV.l5 l hl hX 0 (by omega) (x - (l.length : Int)) (by omega) (by omega)
   rw [List.drop_zero] at this
   rw [zie hx, ← this]
   simp [hn]
 · have hn : x - (l.length : Int) < 0 := by omega
   rw [zfP hx]
   simp [hn]
theorem zlL (l : List Row) (hl : l.length ≤ 1048576) (hX : ∀ a ∈ l, zdl [vR a] [] = rRow a) : za3 [.one (.s (l.map eR))] [] = rO (l.map eR) := by
 have key : ∀ k, k ≤ l.length → (za3.L3 (l.map eR) (k : Int) ((l.take k).map eR ++ List.replicate (l.length - k) [D.s [], D.v (Value.bool false), D.v (Value.int IntKind.i64 0), D.v (Value.string (mkS [])), D.v (Value.int IntKind.i64 0)])).bind za3.A3 = rO (l.map eR) := by
  refine up l.length ?_ fun k hk ih => ?_
  · rw [za3.s3, zkX]; simp [za3.a3x3]
  · rw [za3.s3]
    have h := hX l[k] (List.getElem_mem hk)
    have h1 := zkV eR l [D.s [], D.v (Value.bool false), D.v (Value.int IntKind.i64 0), D.v (Value.string (mkS [])), D.v (Value.int IntKind.i64 0)] k hk
    have h2 := zkU eR l [D.s [], D.v (Value.bool false), D.v (Value.int IntKind.i64 0), D.v (Value.string (mkS [])), D.v (Value.int IntKind.i64 0)] k (by omega)
    have h3 := zkW eR l [D.s [], D.v (Value.bool false), D.v (Value.int IntKind.i64 0), D.v (Value.string (mkS [])), D.v (Value.int IntKind.i64 0)] k hk
    have h4 : eR l[k] = _ := (zbR eR l k hk).symm.trans (zeV hk)
    rw [h4] at h3
    rw [← ih]
    simp only [Int.toNat_natCast, zeV hk, zbA k (by omega), h1, h2]
    have hb1 : decide ((k : Int) < ((l.map eR).length : Int)) = true := by simp; omega
    have hb2 : decide (0 ≤ (k : Int)) = true := by simp
    have hb3 : decide ((k : Int) < (l.length : Int)) = true := by simp; omega
    simp only [hb1, hb2, hb3]
    simp only [zas, CK.fits, List.zipIdx, List.all_cons, List.all_nil, List.getD_cons_zero, List.getD_cons_succ, List.length_cons, List.length_nil, str_v, zoG, int_v, es_s, h, Option.bind_some, zag, R1.fits, tes_o, zoH, zj3, zoI]
    simp only [List.drop_succ_cons, List.drop_zero, List.drop_nil]
    rw [h3]
    rfl
 rw [za3.e]
 have hc : (decide (((l.map eR).length : Int) * ((↑64 : Int) + 1) ≤ 2 ^ 46) && true && true) = true := by simp; omega
 rw [hc, cond_true]
 have h0 := key 0 (by omega)
 rw [zjc] at h0
 simp only [List.length_map, Int.toNat_natCast]
 exact h0
theorem zlM (l : List Row) (hl : l.length ≤ 9223372036854775807) (hX : ∀ a ∈ l, zch [vR a, vR a] [] = rB true) : za4 [.one (.s (l.map eR)), .one (.s (l.map eR))] [] = rB true := by
 have key : ∀ k, k ≤ l.length → za4.L4 (l.map eR) (l.map eR) (k : Int) = some za4.x4 := by
  refine up l.length ?_ fun k hk ih => ?_
  · rw [za4.s4]; simp
  · rw [za4.s4]
    have h := hX l[k] (List.getElem_mem hk)
    simp only [Int.toNat_natCast, zeV hk, zbA k (by omega), ih]
    simp [hk, h]
 have h0 : za4.L4 (l.map eR) (l.map eR) 0 = _ := key 0 (by omega)
 rw [za4.e, h0]
 simp [za4.a4x4]
theorem znB (e : Row) (h : OR e) (x : Int) (h0 : 0 ≤ x) (h1 : x ≤ Lim) : zc9 [vR e, vI x] [] = rI (szR (wR e) x) := by
 have hL : (Lim : Int) = 1048576 := rfl
 have hd := h.data
 unfold sS at hd
 have e1 := zeM e.path h.path x h0 h1
 rw [zc9.e, e1]
 unfold wR
 by_cases hx : (wP e.path : Int) ≤ x
 · rw [zgJ hx]
   by_cases hx2 : (e.data.length : Int) ≤ x - wP e.path
   · rw [zgJ (by omega), show x - ((wP e.path + e.data.length : Nat) : Int) = x - wP e.path - e.data.length by omega]
     simp (disch := omega) only [pvS, pvT, pvC, pvL, pvR, pvN]
   · rw [zeq (by omega)]
     simp (disch := omega) only [pvS, pvT, pvC, pvL, pvR, pvN]
 · rw [zeq hx, zeq (by omega)]
   rfl
theorem znC (e : Row) (hw : wR e ≤ 1048576) : zdl [vR e] [] = rRow e := by
 have := zck e.path
 unfold wR at hw
 rw [zdl.e, zeN e.path (by omega)]
 simp (disch := omega) only [pvS, pvT, pvC, pvL, pvR, pvN]
theorem zkq (e : Row) (hw : wR e ≤ 1048576) : zch [vR e, vR e] [] = rB true := by
 have := zck e.path
 unfold wR at hw
 rw [zch.e, zdT e.path (by omega)]
 have b1 : (!(e.dir == e.dir)) = false := by simp
 have b2 : (e.mode != e.mode) = false := by simp
 have b3 : (e.id != e.id) = false := by simp
 have b4 : (e.data == e.data) = true := by simp
 simp (disch := omega) only [pvS, pvT, pvC, pvL, pvR, pvN, b1, b2, b3, b4, zch.p9]
end Go.PVx
namespace Go.PVx
open Go.PV Go.Proofs
theorem zlN (rs : List Row) (h : sL OR rs) : zaV [vRs rs, vI 1048576] [] = rI (szR (wL wR rs) 1048576) :=
 zlK rs h.1 (fun a ha x h0 h1 => znB a (h.2 a ha) x h0 h1) 1048576 (by omega) (by have hL : (Lim : Int) = 1048576 := rfl; omega)
theorem zlO (rs : List Row) (hw : wL wR rs ≤ 1048576) : za3 [vRs rs] [] = rO (rs.map eR) :=
 zlL rs (by have := zbV wR rs; omega) (fun a ha => znC a (by have := zhA wR rs a ha; omega))
theorem zlP (rs : List Row) (hw : wL wR rs ≤ 1048576) : za4 [vRs rs, vRs rs] [] = rB true :=
 zlM rs (by have := zbV wR rs; omega) (fun a ha => zkq a (by have := zhA wR rs a ha; omega))
end Go.PVx
namespace Go.PVx
open Go.PV Go.Proofs
def AscR (rs : List Row) : Prop := rs.Pairwise fun x y => lessP x.path y.path = true
def plcR (rs : List Row) (p : List Str) : Nat := (rs.takeWhile fun r => lessP r.path p).length
theorem zeW (p : List Str) : ∀ rs : List Row, AscR rs → plcR rs p ≤ rs.length ∧ ∀ j (h : j < rs.length), lessP rs[j].path p = decide (j < plcR rs p)
 | [], _ => ⟨by simp [plcR], fun j h => by simp at h⟩
 | a :: l, ha => by
  have ha' := List.pairwise_cons.1 ha
  obtain ⟨h1, h2⟩ := zeW p l ha'.2
  cases hb : lessP a.path p with
  | true =>
   have e : plcR (a :: l) p = plcR l p + 1 := by unfold plcR; rw [List.takeWhile_cons, hb]; rfl
   rw [e]
   refine ⟨by simp only [List.length_cons]; omega, fun j h => ?_⟩
   cases j with
   | zero => simp [hb]
   | succ j =>
    have := h2 j (by simpa using h)
    simp only [List.getElem_cons_succ, this]
    congr 1
    simp
  | false =>
   have e : plcR (a :: l) p = 0 := by unfold plcR; rw [List.takeWhile_cons, hb]; rfl
   rw [e]
   refine ⟨by omega, fun j h => ?_⟩
   cases j with
   | zero => simp [hb]
   | succ j =>
    have hj : j < l.length := by simpa using h
    simp only [List.getElem_cons_succ, Nat.not_lt_zero, decide_false]
    cases hc : lessP (l[j]).path p with
    | false => rfl
    | true =>
     rw [zgR _ _ _ (ha'.1 _ (List.getElem_mem hj)) hc] at hb
     exact absurd hb (by simp)
theorem znD (p : List Str) (rs : List Row) (ha : AscR rs) : findR p rs 0 = if h : plcR rs p < rs.length then (if (rs[plcR rs p]).path = p then (plcR rs p : Int) else -1) else -1 := by
 obtain ⟨h1, h2⟩ := zeW p rs ha
 generalize plcR rs p = K at *
 have hne : ∀ j (h : j < rs.length), j ≠ K → rs[j].path ≠ p := fun j h hj e => by
  have h3 := h2 j h
  rw [e, zjw] at h3
  have h4 : K < j := by
   have := of_decide_eq_false h3.symm
   omega
  have hK : K < rs.length := by omega
  have h5 := List.pairwise_iff_getElem.1 ha K j hK h h4
  rw [e, h2 K hK] at h5
  exact absurd (of_decide_eq_true h5) (by omega)
 by_cases hK : K < rs.length
 · rw [dif_pos hK]
   by_cases he : rs[K].path = p
   · rw [if_pos he, zk5 p rs 0 K hK ha he]
     simp
   · rw [if_neg he]
     refine zgS p rs 0 fun r hr => ?_
     obtain ⟨j, hj, rfl⟩ := List.mem_iff_getElem.1 hr
     by_cases hjk : j = K
     · subst hjk; exact he
     · exact hne j hj hjk
 · rw [dif_neg hK]
   refine zgS p rs 0 fun r hr => ?_
   obtain ⟨j, hj, rfl⟩ := List.mem_iff_getElem.1 hr
   exact hne j hj (by omega)
theorem half2 (a b : Nat) (h : a + b ≤ 2000000000) : IntKind.i64.wrap ((IntKind.i64.wrap ((a : Int) + (b : Int))).tdiv 2) = (((a + b) / 2 : Nat) : Int) := by
 have e1 : IntKind.i64.wrap ((a : Int) + (b : Int)) = ((a + b : Nat) : Int) := by rw [Sx.wrap64] <;> omega
 rw [e1, Int.tdiv_eq_ediv_of_nonneg (by omega), Sx.wrap64] <;> omega
theorem zao.l6 (rs : List Row) (p : List Str) (hw : wL wR rs ≤ 1048576) (ha : AscR rs) : ∀ m lo hi : Nat, hi - lo ≤ m → lo ≤ plcR rs p → plcR rs p ≤ hi → hi ≤ rs.length →
 zao.L6 (rs.map eR) (eSs p) (lo : Int) (hi : Int) = some (zao.x6 (rs.map eR) (eSs p) (plcR rs p : Int)) := by
 obtain ⟨_, h2⟩ := zeW p rs ha
 have hl := zbV wR rs
 intro m
 induction m with
 | zero =>
  intro lo hi h0 h3 h4 h5
  have e : lo = hi := by omega
  have e' : plcR rs p = hi := by omega
  subst e
  rw [zao.s6, e']
  simp (disch := omega) only [pvS, pvL, pvN]
 | succ m ih =>
  intro lo hi h0 h3 h4 h5
  rcases Nat.eq_or_lt_of_le (Nat.le_trans h3 h4) with e | hlt
  · have e' : plcR rs p = hi := by omega
    subst e
    rw [zao.s6, e']
    simp (disch := omega) only [pvS, pvL, pvN]
  · have hm := half2 lo hi (by omega)
    have hmid : (lo + hi) / 2 < rs.length := by omega
    have hc := zj7 (rs[(lo + hi) / 2]).path p (by have := zfF hmid; omega)
    have hb := h2 ((lo + hi) / 2) hmid
    have hg := zeV hmid
    rw [zao.s6]
    have i1 := ih ((lo + hi) / 2 + 1) hi (by omega)
    have i2 := ih lo ((lo + hi) / 2) (by omega)
    have hlo : lo ≤ (lo + hi) / 2 := by omega
    have hhi : (lo + hi) / 2 < hi := by omega
    simp only [hm]
    generalize (lo + hi) / 2 = c at *
    by_cases hk : c < plcR rs p
    · rw [decide_eq_true hk] at hb
      have i1 := i1 (by omega) (by omega) (by omega)
      simp (disch := omega) only [pvS, pvC, pvL, pvR, pvN, List.length_map, Int.toNat_natCast, hg, hc, hb]
      exact i1
    · rw [decide_eq_false hk] at hb
      have i2 := i2 (by omega) (by omega) (by omega)
      simp (disch := omega) only [pvS, pvC, pvL, pvR, pvN, List.length_map, Int.toNat_natCast, hg, hc, hb]
      exact i2
noncomputable def FR (rs : List Row) (p : List Str) : Int := match RRI rs with
 | none => -1
 | some _ => findR p rs 0
theorem zin (rs : List Row) (p : List Str) (hw : wL wR rs ≤ 1048576) : zao [vRs rs, vP p] [] = rI (FR rs p) := by
 have h1 := zim rs hw
 have hl := zbV wR rs
 rw [← zpD] at h1
 rw [zao.e]
 unfold FR
 cases hr : RRI rs with
 | none =>
  rw [hr] at h1
  unfold rTB at h1
  simp (disch := omega) only [pvS, pvC, pvL, pvR, pvN, h1]
 | some t =>
  rw [hr] at h1
  unfold rTB at h1
  obtain ⟨t1, t2⟩ := zk4 hr
  have ha : AscR rs := by rw [← t2]; exact zpF t1
  obtain ⟨k1, _⟩ := zeW p rs ha
  have h6 := zao.l6 rs p hw ha rs.length 0 rs.length (by omega) (by omega) k1 (by omega)
  simp only
  rw [znD p rs ha]
  simp (disch := omega) only [pvS, pvC, pvL, pvR, pvN, h1, List.length_map] at h6 ⊢
  have h6' : zao.L6 (rs.map eR) (eSs p) 0 (rs.length : Int) = _ := h6
  simp (disch := omega) only [pvS, pvC, pvL, pvR, pvN, h6', zao.a6x6, List.length_map]
  generalize plcR rs p = K at *
  by_cases hK : K < rs.length
  · have hs := zgG rs[K].path p (by have := zfF hK; omega)
    have hg := zeV hK
    rw [dif_pos hK]
    by_cases he : rs[K].path = p
    · rw [decide_eq_true he] at hs
      rw [if_pos he]
      simp (disch := omega) only [pvS, pvC, pvL, pvR, pvN, List.length_map, Int.toNat_natCast, hg, hs, zao.p12]
    · rw [decide_eq_false he] at hs
      rw [if_neg he]
      simp (disch := omega) only [pvS, pvC, pvL, pvR, pvN, List.length_map, Int.toNat_natCast, hg, hs, zao.p12]
  · rw [dif_neg hK]
    simp (disch := omega) only [pvS, pvC, pvL, pvR, pvN, zao.p12]
theorem zjy (rs : List Row) (p : List Str) (hw : wL wR rs ≤ 1048576) : zae [vRs rs, .f za1.id [.p true 0 [] 0]] [⟨.box, [.s (eSs p)], [.sh]⟩] = some ⟨[.v (.int .i64 (findR p rs 0))], [⟨.box, [.s (eSs p)], [.sh]⟩]⟩ := by
 have hl := zbV wR rs
 have key : ∀ k, k ≤ rs.length → (zae.L2 (rs.map eR) rs.length (k : Int) (eSs p)).bind zae.A2 = some ⟨[.v (.int .i64 (findR p (rs.drop k) k))], [⟨.box, [.s (eSs p)], [.sh]⟩]⟩ := by
  refine up rs.length ?_ fun k hk ih => ?_
  · rw [zae.s2, List.drop_length]
    simp (disch := omega) only [pvS, pvL, pvN, zae.a2x2, findR]
  · have hg := zeV hk
    have he := zdS rs[k].path p (by have := zfF hk; omega)
    have h1 : za1 [vR rs[k], .one (.p true 0 [] 0)] [⟨.ro, [.s (eSs p)], [.sh]⟩] = some ⟨[.v (.bool (decide (rs[k].path = p)))], [⟨.ro, [.s (eSs p)], [.sh]⟩]⟩ := by
     rw [za1.e]
     generalize decide (rs[k].path = p) = b at *
     simp (disch := omega) only [pvS, pvC, pvL, pvR, pvN, he]
    rw [zaK rs k hk, zae.s2]
    unfold findR
    by_cases hb : rs[k].path = p
    · rw [if_pos hb]
      rw [decide_eq_true hb] at h1
      simp (disch := omega) only [pvS, pvC, pvL, pvR, pvN, List.length_map, Int.toNat_natCast, hg, h1, zae.a2q2]
    · rw [if_neg hb]
      rw [decide_eq_false hb] at h1
      simp (disch := omega) only [pvS, pvC, pvL, pvR, pvN, List.length_map, Int.toNat_natCast, hg, h1]
      exact ih
 have h0 := key 0 (by omega)
 rw [List.drop_zero] at h0
 rw [zae.e, List.length_map]
 exact h0
theorem zio (rs : List Row) (p : List Str) (hw : wL wR rs ≤ 1048576) : zbC [vRs rs, vP p] [] = rI (FR rs p) := by
 have h1 := zil rs hw
 have h2 := zjy rs p hw
 rw [zbC.e]
 unfold FR
 cases hr : RRI rs with
 | none =>
  rw [hr] at h1
  unfold rTB at h1
  simp (disch := omega) only [pvS, pvC, pvL, pvR, pvN, h1]
 | some t =>
  rw [hr] at h1
  unfold rTB at h1
  simp (disch := omega) only [pvS, pvC, pvL, pvR, pvN, pvO, h1, h2]
end Go.PVx
namespace Go.PVx
open Go.PV Go.Proofs
end Go.PVx
namespace Go.PVx
open Go.PV Go.Proofs
theorem zlQ (a b : List Str) (ha : a.length ≤ 1048576) : zaY [vP a, vP b] [] = rB (isPre b a) := by
 rw [zaY.e]
 by_cases hlen : a.length < b.length
 · have : isPre b a = false := by
    cases h : isPre b a with
    | false => rfl
    | true =>
     unfold isPre at h
     have := (List.isPrefixOf_iff_prefix.1 h).length_le
     omega
   rw [this]
   simp (disch := omega) only [pvS, pvT, pvC, pvL, pvR, pvN]
 · have key : ∀ k, k ≤ b.length → (zaY.L4 (eSs a) (eSs b) b.length (k : Int)).bind zaY.A4 = rB (isPre (b.drop k) (a.drop k)) := by
    refine up b.length ?_ fun k hk ih => ?_
    · rw [zaY.s4, List.drop_length]
      simp (disch := omega) only [pvS, pvL, pvN, zaY.a4x4]
      rfl
    · have hk2 : k < a.length := by omega
      rw [zaY.s4, zaK b k hk, zaK a k hk2]
      have e : isPre (b[k] :: b.drop (k + 1)) (a[k] :: a.drop (k + 1)) = ((b[k] == a[k]) && isPre (b.drop (k + 1)) (a.drop (k + 1))) := rfl
      rw [e]
      by_cases he : a[k] = b[k]
      · have h1 : (a[k] == b[k]) = true := by simp [he]
        have h2 : (b[k] == a[k]) = true := by simp [he]
        rw [h2, Bool.true_and]
        simp (disch := omega) only [pvS, pvT, pvC, pvL, pvR, pvN, h1]
        exact ih
      · have h1 : (a[k] == b[k]) = false := by simpa using he
        have h2 : (b[k] == a[k]) = false := by simpa using fun e => he e.symm
        rw [h2, Bool.false_and]
        simp (disch := omega) only [pvS, pvT, pvC, pvL, pvR, pvN, h1, zaY.a4q4]
   have h0 := key 0 (by omega)
   simp only [List.drop_zero] at h0
   simp (disch := omega) only [pvS, pvT, pvC, pvL, pvR, pvN]
   exact h0
def endR (p : List Str) : List Row → Nat → Nat
 | [], k => k
 | r :: rs, k => bif isPre p r.path then endR p rs (k + 1) else k
theorem FR_in (rs : List Row) (p : List Str) : FR rs p = -1 ∨ ∃ k : Nat, FR rs p = (k : Int) ∧ k < rs.length := by
 unfold FR
 cases RRI rs with
 | none => exact .inl rfl
 | some t =>
  simp only
  have key : ∀ (l : List Row) (i : Nat), findR p l i = -1 ∨ ∃ k : Nat, findR p l i = (k : Int) ∧ i ≤ k ∧ k < i + l.length := by
   intro l
   induction l with
   | nil => intro i; exact .inl rfl
   | cons r l ih =>
    intro i
    unfold findR
    split
    · exact .inr ⟨i, rfl, by omega, by simp⟩
    · rcases ih (i + 1) with h | ⟨k, h1, h2, h3⟩
      · exact .inl h
      · exact .inr ⟨k, h1, by omega, by simp only [List.length_cons]; omega⟩
  rcases key rs 0 with h | ⟨k, h1, _, h3⟩
  · exact .inl h
  · exact .inr ⟨k, h1, by omega⟩
noncomputable def UR (rs : List Row) (p : List Str) : Nat × Nat := if FR rs p < 0 then (0, 0) else ((FR rs p).toNat, endR p (rs.drop (FR rs p).toNat) (FR rs p).toNat)
abbrev rII (x : Nat × Nat) : Option Res := some ⟨[.v (.int .i64 x.1), .v (.int .i64 x.2)], []⟩
theorem zhc (rs : List Row) (p : List Str) (hw : wL wR rs ≤ 1048576) : zax [vRs rs, vP p] [] = rII (UR rs p) := by
 have h1 := zio rs p hw
 have hl := zbV wR rs
 have key : ∀ a : Nat, ∀ k, k ≤ rs.length → (zax.L5 (rs.map eR) (eSs p) (a : Int) (k : Int)).bind zax.A5 = rII (a, endR p (rs.drop k) k) := by
  intro a
  refine up rs.length ?_ fun k hk ih => ?_
  · rw [zax.s5, List.drop_length]
    simp (disch := omega) only [pvS, pvL, pvN, List.length_map, zax.a5x5]
    rfl
  · have hg := zeV hk
    have hb := zlQ rs[k].path p (by have := zfF hk; omega)
    rw [zax.s5, zaK rs k hk]
    unfold endR
    cases hp : isPre p rs[k].path with
    | true =>
     rw [hp] at hb
     simp (disch := omega) only [pvS, pvC, pvL, pvR, pvN, List.length_map, Int.toNat_natCast, hg, hb]
     exact ih
    | false =>
     rw [hp] at hb
     simp (disch := omega) only [pvS, pvC, pvL, pvR, pvN, List.length_map, Int.toNat_natCast, hg, hb, zax.a5x5]
 rw [zax.e]
 unfold UR
 rcases FR_in rs p with h | ⟨k, h, hk⟩
 · rw [h] at h1 ⊢
   rw [if_pos (by omega)]
   simp (disch := omega) only [pvS, pvC, pvL, pvR, pvN, h1]
   rfl
 · rw [h] at h1 ⊢
   rw [if_neg (by omega), Int.toNat_natCast]
   have h2 := key k k (by omega)
   simp (disch := omega) only [pvS, pvC, pvL, pvR, pvN, h1]
   exact h2
theorem zhd (rs : List Row) (p : List Str) (hw : wL wR rs ≤ 1048576) : zaw [vRs rs, vP p] [] = rII (UR rs p) := by
 have h1 := zin rs p hw
 have hl := zbV wR rs
 have key : ∀ a : Nat, ∀ k, k ≤ rs.length → (zaw.L5 (rs.map eR) (eSs p) (a : Int) (k : Int)).bind zaw.A5 = rII (a, endR p (rs.drop k) k) := by
  intro a
  refine up rs.length ?_ fun k hk ih => ?_
  · rw [zaw.s5, List.drop_length]
    simp (disch := omega) only [pvS, pvL, pvN, List.length_map, zaw.a5x5]
    rfl
  · have hg := zeV hk
    have hb := zfz rs[k].path p (by have := zfF hk; omega)
    rw [zaw.s5, zaK rs k hk]
    unfold endR
    cases hp : isPre p rs[k].path with
    | true =>
     rw [hp] at hb
     simp (disch := omega) only [pvS, pvC, pvL, pvR, pvN, List.length_map, Int.toNat_natCast, hg, hb]
     exact ih
    | false =>
     rw [hp] at hb
     simp (disch := omega) only [pvS, pvC, pvL, pvR, pvN, List.length_map, Int.toNat_natCast, hg, hb, zaw.a5x5]
 rw [zaw.e]
 unfold UR
 rcases FR_in rs p with h | ⟨k, h, hk⟩
 · rw [h] at h1 ⊢
   rw [if_pos (by omega)]
   simp (disch := omega) only [pvS, pvC, pvL, pvR, pvN, h1]
   rfl
 · rw [h] at h1 ⊢
   rw [if_neg (by omega), Int.toNat_natCast]
   have h2 := key k k (by omega)
   simp (disch := omega) only [pvS, pvC, pvL, pvR, pvN, h1]
   exact h2
theorem zdW (rs : List Row) (p : List Str) (h : sL OR rs) (hp : oP p) : zak [vRs rs, vP p] [] = rB true := by
 have hL : (Lim : Int) = 1048576 := rfl
 rw [zak.e, zlN rs h]
 by_cases hw : wL wR rs ≤ 1048576
 · rw [zgJ (by omega)]
   have hl := zbV wR rs
   have hs := zeM p hp (1048576 - (wL wR rs : Int)) (by omega) (by omega)
   by_cases hw2 : (wP p : Int) ≤ 1048576 - (wL wR rs : Int)
   · rw [zgJ hw2] at hs
     have hpl := zck p
     have h0 := zlO rs hw
     have h1 := zeN p (by omega)
     have h2 := zhd rs p hw
     have h3 := zhc rs p hw
     have h4 := zlP rs hw
     have h5 := zdT p (by omega)
     generalize UR rs p = x at *
     obtain ⟨x1, x2⟩ := x
     have b1 : ((x1 : Int) != (x1 : Int)) = false := by simp
     have b2 : ((x2 : Int) != (x2 : Int)) = false := by simp
     simp only [rII] at h2 h3
     simp (disch := omega) only [pvS, pvC, pvL, pvR, pvN, hs, h0, h1, h2, h3, h4, h5, b1, b2, zak.p9, zak.p13, zak.p14]
   · rw [zeq (by omega)] at hs
     simp (disch := omega) only [pvS, pvC, pvL, pvR, pvN, hs]
 · rw [zeq (by omega)]
   rfl
end Go.PVx
namespace Go.PVx
open Go.PV Go.Proofs Go.Shelf
def zpL : Ren := ⟨fun | 22 => 131 | 29 => 183 | 30 => 184 | n => n, fun | 24 => 23 | 9 => 9 | 3 => 3 | 4 => 4 | 0 => 0 | n => n, fun n => n⟩
def zpM : Ren := ⟨fun | 22 => 132 | 29 => 185 | 30 => 186 | n => n, fun | 24 => 35 | 9 => 37 | 3 => 3 | 4 => 4 | 0 => 0 | n => n, fun n => n⟩
theorem zpN : InsAt Tryz.prog zpL "slices.Insert[[]string,string]" Tryz.f183 1 16 (.string ⟨#[]⟩) := {
 mixed := by kernel_rfl
 f22 := Tryz.func131.trans (congrArg some (by kernel_rfl))
 f29 := Tryz.func183
 on := by kernel_rfl
 ob := by kernel_rfl
 ox := by kernel_rfl
 of_ := by kernel_rfl
 t0 := Tryz.underlying0
 a0 := Tryz.isAgg0
 z0 := Tryz.sizeOf0
 v0 := Tryz.zeroValue0
 t3 := Tryz.underlying3
 a3 := Tryz.isAgg3
 z3 := Tryz.sizeOf3
 v3 := Tryz.zeroValue3
 t4 := Tryz.underlying4
 a4 := Tryz.isAgg4
 z4 := Tryz.sizeOf4
 v4 := Tryz.zeroValue4
 z9 := Tryz.sizeOf9
 t24 := Tryz.underlying23
 a24 := Tryz.isAgg23
 z24 := Tryz.sizeOf23
 v24 := Tryz.zeroValue23
 i9 := by kernel_rfl
 zk := by kernel_rfl
 k0 := by decide }
theorem zpO : InsAt Tryz.prog zpM "slices.Insert[[]loop.example/changetrail/impl.Tree,loop.example/changetrail/impl.Tree]" Tryz.f185 5 80 (.agg #[.bool false, .int .i64 0, .string ⟨#[]⟩, .slice none 0 0, .slice none 0 0]) := {
 mixed := by kernel_rfl
 f22 := Tryz.func132.trans (congrArg some (by kernel_rfl))
 f29 := Tryz.func185
 on := by kernel_rfl
 ob := by kernel_rfl
 ox := by kernel_rfl
 of_ := by kernel_rfl
 t0 := Tryz.underlying0
 a0 := Tryz.isAgg0
 z0 := Tryz.sizeOf0
 v0 := Tryz.zeroValue0
 t3 := Tryz.underlying3
 a3 := Tryz.isAgg3
 z3 := Tryz.sizeOf3
 v3 := Tryz.zeroValue3
 t4 := Tryz.underlying4
 a4 := Tryz.isAgg4
 z4 := Tryz.sizeOf4
 v4 := Tryz.zeroValue4
 z9 := Tryz.sizeOf37
 t24 := Tryz.underlying35
 a24 := Tryz.isAgg35
 z24 := Tryz.sizeOf35
 v24 := Tryz.zeroValue35
 i9 := by kernel_rfl
 zk := by kernel_rfl
 k0 := by decide }
end Go.PVx
