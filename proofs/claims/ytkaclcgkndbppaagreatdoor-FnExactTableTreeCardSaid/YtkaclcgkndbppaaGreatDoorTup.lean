/- A part of the proof: PvT3, PvTC, PvTD, PvTE, PvTF, PvTG, PvInZ. -/
import Derived.Test.YtkaclcgkndbppaaGreatDoorTre
import Derived.Test.YtkaclcgkndbppaaGreatDoorProg
import Derived.Test.YtkaclcgkndbppaaGreatDoorIns
import Derived.KernelRfl
set_option linter.unusedSimpArgs false
set_option linter.unusedVariables false
namespace Go.PVx
open Go.PV Go.Proofs
theorem zny (h : Int) (b : UInt8) (h0 : 0 ≤ h) (h1 : h < 1000000007) : (131 * h + (b.toNat : Int)).tmod 1000000007 = (131 * h + (b.toNat : Int)) % 1000000007 := by
 have hb := b.toNat_lt
 rw [Int.tmod_eq_emod_of_nonneg (by omega)]
theorem znz (s : Str) (hs : s.length ≤ 1000000000000000) : zbq [vS s] [] = rI (idS 7 s) := by
 have hl : ∀ k, k ≤ s.length → ∀ h : Int, 0 ≤ h → h < 1000000007 → (zbq.L3 (mkS s) h (k : Int)).bind zbq.A3 = rI (idS h (s.drop k)) := by
  refine up s.length ?_ fun k hk ih => ?_
  · intro h _ _
    rw [zbq.s3, List.drop_length]
    simp (disch := omega) only [pvS, pvT, pvC, pvL, pvR, pvN, zbq.a3x3, idS]
  · intro h h0 h1
    have hb := (s[k]).toNat_lt
    have hst := zny h s[k] h0 h1
    rw [zaQ s k hk]
    unfold idS
    rw [zbq.s3]
    simp (disch := omega) only [pvS, pvT, pvC, pvL, pvR, pvN]
    rw [Int.mul_comm h 131, hst]
    exact ih _ (by omega) (by omega)
 have h0 := hl 0 (by omega) 7 (by omega) (by omega)
 rw [List.drop_zero] at h0
 rw [zbq.e]
 exact h0
theorem zkn (t : Tree) (d : Int) (hp : zbj d t = true) (hw : wT t ≤ 1048576) : zaZ [vT t] [] = rI (idT t) := by
 have h1 := zih t d hp (oT_of t hw) hw
 have hlen := zeS t [] d hp (by have : wP [] = 0 := rfl; omega)
 have hc := zfA t
 rw [← zkh] at hlen
 have hs : (showT t).length ≤ 1000000000000000 := by omega
 have hl : ∀ k, k ≤ (showT t).length → ∀ h : Int, 0 ≤ h → h < 1000000007 → (zaZ.L4 h (mkS (showT t)) (showT t).length (k : Int)).bind zaZ.A4 = rI (idS h ((showT t).drop k)) := by
  refine up (showT t).length ?_ fun k hk ih => ?_
  · intro h _ _
    rw [zaZ.s4, List.drop_length]
    simp (disch := omega) only [pvS, pvT, pvC, pvL, pvR, pvN, zaZ.a4x4, idS]
  · intro h h0 h1
    have hb := ((showT t)[k]).toNat_lt
    have hst := zny h (showT t)[k] h0 h1
    rw [zaQ (showT t) k hk]
    unfold idS
    rw [zaZ.s4]
    simp (disch := omega) only [pvS, pvT, pvC, pvL, pvR, pvN]
    rw [hst]
    exact ih _ (by omega) (by omega)
 have h0 := hl 0 (by omega) 7 (by omega) (by omega)
 rw [List.drop_zero] at h0
 rw [zaZ.e]
 simp (disch := omega) only [pvS, pvT, pvC, pvL, pvR, pvN, h1]
 exact h0
theorem znA (t : Tree) (d : Int) (hp : zbj d t = true) (hw : wT t ≤ 1048576) : zdG [vT t] [] = rI (idT t) := by
 have ho := oT_of t hw
 have hm := (zdu hp).1
 have hwt := wT_eq t
 have hw0 : wP [] = 0 := rfl
 have h2 := zhF t.dir t.mode t.data [] (eSs t.names) (t.kids.map eT) hm.m0 (by have := hm.m7; omega) (by omega) (by omega)
 have h3 := zlK t [] d hp ho (by omega)
 have hl := zeS t [] d hp (by omega)
 have hc := zfA t
 rw [zea] at hl
 simp only [List.length_append] at hl
 have e1 : pt [] = [47] := rfl
 have e2 : ptS [] = [] := rfl
 rw [e1] at h2
 rw [e2] at h3
 have h4 := znz (lineT t.dir t.mode t.data [] ++ showZ [] t.names t.kids) (by rw [List.length_append]; omega)
 unfold idT
 rw [zkh, zea, zdG.e]
 simp (disch := omega) only [pvS, pvT, pvC, pvL, pvR, pvN, pvO, h2, h3, h4]
def eRX (x : List Str × Tree) : List D := eR (rowX x)
theorem znB (x : List Str × Tree) : (eRX x).length = 5 := rfl
theorem zoH (x : List Str × Tree) : (eRX x).all (cellD true) = true := rfl
theorem zoZ (p : List Str) (t : Tree) : eRX (p, t) = [.s (eSs p), .v (.bool t.dir), .v (.int .i64 t.mode), .v (.string (mkS t.data)), .v (.int .i64 (idT t))] := rfl
theorem zjx (p : List Str) {ns : List Str} {ks : List Tree} {k : Nat} (h1 : k < ns.length) (h2 : k < ks.length) :
 subZ p (ns.drop k) (ks.drop k) = sub (p ++ [ns[k]]) ks[k] ++ subZ p (ns.drop (k + 1)) (ks.drop (k + 1)) := by
 rw [zaQ ns k h1, zaQ ks k h2, subZ]
theorem zla (p : List Str) (ks : List Tree) : subZ p [] ks = [] := by cases ks <;> rfl
theorem zko (t : Tree) : ∀ (p : List Str) (d : Int), zbj d t = true → wP p + wT t ≤ 1048576 → zaT [vP p, vT t] [] = rO ((sub p t).map eRX) := by
 induction t using Tree.ind with
 | h a b c ns ks ih =>
  intro p d hp hw
  have hn := zbW hp
  have hk := fun k (h : k ∈ ks) => zcf hp (k := k) h
  have hlen := zke _ d p hp
  have hcc := zfA ⟨a, b, c, ns, ks⟩
  have hid := znA ⟨a, b, c, ns, ks⟩ d hp (by omega)
  rw [zc2] at hlen ⊢
  have hw' := hw
  rw [wT_eq] at hw'
  simp only [List.length_cons] at hn hw' hlen ⊢
  have hpl := zck p
  have hnl := zck ns
  have r1 : zaB 1 (eSs p) = true := Sx.rowsLen_map 1 eS (fun _ => rfl) _
  have r2 : zaG false (eSs p) = true := Sx.rowsCell_map false eS (fun _ => rfl) _
  have r3 : ∀ l : List (List Str × Tree), zaB 5 (l.map eRX) = true := Sx.rowsLen_map 5 eRX znB
  have r4 : ∀ l : List (List Str × Tree), zaG true (l.map eRX) = true := Sx.rowsCell_map true eRX zoH
  have hl : ∀ k, k ≤ ns.length → ∀ acc : List (List Str × Tree), acc.length + (subZ p (ns.drop k) (ks.drop k)).length ≤ 1048577 →
   (zaT.L3 (eSs p) (k : Int) a b (mkS c) (eSs ns) (ks.map eT) (acc.map eRX)).bind zaT.A3 = rO ((acc ++ subZ p (ns.drop k) (ks.drop k)).map eRX) := by
   refine up ns.length ?_ fun k hk1 ihk acc hacc => ?_
   · intro acc _
     rw [zaT.s3, List.drop_length, zla, List.append_nil]
     simp (disch := omega) only [pvS, pvT, pvC, pvL, pvR, pvN, zaT.a3x3]
   · have hk2 : k < ks.length := by omega
     rw [zjx p hk1 hk2] at hacc ⊢
     simp only [List.length_append] at hacc
     have hwk := wL_at wT hk2
     have hwn := wP_at hk1
     have hwp := zfm p ns[k]
     have h2 := zlH p ns[k] (by omega)
     have h3 := ih ks[k] (List.getElem_mem hk2) (p ++ [ns[k]]) (d + 1) (hk _ (List.getElem_mem hk2)) (by omega)
     have h4 := ihk (acc ++ sub (p ++ [ns[k]]) ks[k]) (by simp only [List.length_append]; omega)
     rw [List.append_assoc, List.map_append] at h4
     have r3' := r3 acc
     have r4' := r4 acc
     have r5 := r3 (sub (p ++ [ns[k]]) ks[k])
     have r6 := r4 (sub (p ++ [ns[k]]) ks[k])
     rw [zaT.s3, ← h4]
     generalize sub (p ++ [ns[k]]) ks[k] = Z at *
     simp (disch := omega) only [pvS, pvT, pvC, pvL, pvR, pvN, h2, h3, r3', r4', r5, r6, List.length_map]
  have h0 := hl 0 (by omega) [(p, ⟨a, b, c, ns, ks⟩)] (by simp only [List.drop_zero, List.length_cons, List.length_nil]; omega)
  simp only [List.drop_zero, List.map_cons, List.map_nil, zoZ] at h0
  rw [zaT.e]
  simp (disch := omega) only [pvS, pvC, pvL, pvR, pvN, pvO, hid, r1, r2]
  exact h0
abbrev oBx (es : List (List D)) : PV.Obj := ⟨.box, [.s es], [.deep]⟩
theorem zfF (p : List Str) (t : Tree) (d : Int) (acc : List (List Str × Tree)) (hp : zbj d t = true) (hw : wP p + wT t ≤ 1048576) (ha : acc.length ≤ 1048577) :
 zaL [vP p, vT t, .one (.p true 0 [] 0)] [oBx (acc.map eRX)] = some ⟨[], [oBx ((acc ++ [(p, t)]).map eRX)]⟩ := by
 have h1 := zkn t d hp (by omega)
 have hpl := zck p
 have r1 : zaB 1 (eSs p) = true := Sx.rowsLen_map 1 eS (fun _ => rfl) _
 have r2 : zaG false (eSs p) = true := Sx.rowsCell_map false eS (fun _ => rfl) _
 have r3 : zaB 5 (acc.map eRX) = true := Sx.rowsLen_map 5 eRX znB _
 rw [zaL.e, List.map_append, List.map_cons, List.map_nil, zoZ]
 simp (disch := omega) only [pvS, pvC, pvL, pvR, pvN, pvO, h1, r1, r2, r3, List.length_map]
theorem zeu (t : Tree) : ∀ (p : List Str) (d : Int) (acc : List (List Str × Tree)), zbj d t = true → wP p + wT t ≤ 1048576 → acc.length + (sub p t).length ≤ 1048577 →
 zaV [vT t, vP p, .f zaL.id [.p true 0 [] 0]] [oBx (acc.map eRX)] = some ⟨[], [oBx ((acc ++ sub p t).map eRX)]⟩ := by
 induction t using Tree.ind with
 | h a b c ns ks ih =>
  intro p d acc hp hw hacc
  have hn := zbW hp
  have hk := fun k (h : k ∈ ks) => zcf hp (k := k) h
  have h1 := zfF p ⟨a, b, c, ns, ks⟩ d acc hp hw (by omega)
  rw [zc2] at hacc ⊢
  rw [wT_eq] at hw
  simp only [List.length_cons] at hn hw hacc ⊢
  have hpl := zck p
  have hnl := zck ns
  have hl : ∀ k, k ≤ ns.length → ∀ acc : List (List Str × Tree), acc.length + (subZ p (ns.drop k) (ks.drop k)).length ≤ 1048577 →
   (iTree_each_table.L3 (eSs p) (eSs ns) ns.length (k : Int) (acc.map eRX) a b (mkS c) (eSs ns) (ks.map eT)).bind iTree_each_table.A3 = some ⟨[], [oBx ((acc ++ subZ p (ns.drop k) (ks.drop k)).map eRX)]⟩ := by
   refine up ns.length ?_ fun k hk1 ihk acc hacc => ?_
   · intro acc _
     rw [iTree_each_table.s3, List.drop_length, zla, List.append_nil]
     simp (disch := omega) only [pvS, pvT, pvC, pvL, pvR, pvN, iTree_each_table.a3x3]
   · have hk2 : k < ks.length := by omega
     rw [zjx p hk1 hk2] at hacc ⊢
     simp only [List.length_append] at hacc
     have hwk := wL_at wT hk2
     have hwn := wP_at hk1
     have hwp := zfm p ns[k]
     have h2 := zjk p ns[k] (by omega)
     have h3 := ih ks[k] (List.getElem_mem hk2) (p ++ [ns[k]]) (d + 1) acc (hk _ (List.getElem_mem hk2)) (by omega) (by omega)
     have h4 := ihk (acc ++ sub (p ++ [ns[k]]) ks[k]) (by simp only [List.length_append]; omega)
     rw [List.append_assoc] at h4
     rw [iTree_each_table.s3, ← h4]
     generalize acc ++ sub (p ++ [ns[k]]) ks[k] = Z at *
     generalize acc.map eRX = Y at *
     generalize Z.map eRX = Z' at *
     simp (disch := omega) only [pvS, pvT, pvC, pvL, pvR, pvN, pvO, h2, h3]
  have h0 := hl 0 (by omega) (acc ++ [(p, ⟨a, b, c, ns, ks⟩)]) (by simp only [List.drop_zero, List.length_append, List.length_cons, List.length_nil]; omega)
  simp only [List.drop_zero] at h0
  rw [List.append_assoc, List.singleton_append] at h0
  rw [iTree_each_table.e, ← h0]
  generalize (acc ++ [(p, (⟨a, b, c, ns, ks⟩ : Tree))]).map eRX = Z' at *
  generalize acc.map eRX = Y at *
  simp (disch := omega) only [pvS, pvC, pvL, pvR, pvN, pvO, h1]
theorem zg6 (t : Tree) (hp : zbj 0 t = true) (hw : wT t ≤ 1048576) : zbt [vT t] [] = rO ((sub [] t).map eRX) := by
 have hlen := zke t 0 [] hp
 have hc := zfA t
 have h1 := zeu t [] 0 [] hp (by have : wP [] = 0 := rfl; omega) (by simp only [List.length_nil]; omega)
 rw [List.nil_append] at h1
 have h1' : zaV [vT t, AV.one (A1.s []), .f zaL.id [.p true 0 [] 0]] [oBx []] = _ := h1
 rw [zbt.e]
 generalize (sub [] t).map eRX = Z at *
 simp (disch := omega) only [pvS, pvC, pvL, pvR, pvN, pvO, h1']
theorem znC (t : Tree) : (sub [] t).map eRX = (tabT t).map eR := by
 unfold tabT eRX
 rw [List.map_map]
 rfl
end Go.PVx
namespace Go.PVx
open Go.PV Go.Proofs
abbrev vR (r : Row) : AV := .g [.s (eSs r.path), .v (.bool r.dir), .v (.int .i64 r.mode), .v (.string (mkS r.data)), .v (.int .i64 r.id)]
abbrev vRs (l : List Row) : AV := .one (.s (l.map eR))
def wR (r : Row) : Nat := wP r.path + r.data.length
def sameR (a b : Row) : Bool := decide (a.path = b.path) && ((a.dir == b.dir) && ((a.mode == b.mode) && ((a.data == b.data) && (a.id == b.id))))
theorem znD (a b : Row) : sameR a b = true ↔ a = b := by
 obtain ⟨a1, a2, a3, a4, a5⟩ := a
 obtain ⟨b1, b2, b3, b4, b5⟩ := b
 simp [sameR]
def eqRs : List Row → List Row → Bool
 | [], [] => true
 | a :: x, b :: y => sameR a b && eqRs x y
 | _, _ => false
theorem zeb : ∀ x y : List Row, eqRs x y = true ↔ x = y
 | [], [] => by simp [eqRs]
 | [], _ :: _ => by simp [eqRs]
 | _ :: _, [] => by simp [eqRs]
 | a :: x, b :: y => by simp [eqRs, znD, zeb x y]
theorem zkp (a b : Row) (ha : a.path.length ≤ 1048576) : zby [vR a, vR b] [] = rB (sameR a b) := by
 have h1 := zgD a.path b.path (by omega)
 rw [zby.e]
 unfold sameR
 generalize decide (a.path = b.path) = p at *
 simp (disch := omega) only [pvS, pvC, pvL, pvR, pvN, h1]
 generalize (a.dir == b.dir) = q
 generalize (a.mode == b.mode) = q1
 generalize (a.data == b.data) = q2
 generalize (a.id == b.id) = q3
 cases p <;> cases q <;> cases q1 <;> cases q2 <;> rfl
theorem zgW (a b : Row) (ha : a.path.length ≤ 1048576) : zbZ [vR a, vR b] [] = rB (sameR a b) := by
 have h1 := zj7 a.path b.path (by omega)
 rw [zbZ.e]
 unfold sameR
 generalize decide (a.path = b.path) = p at *
 simp (disch := omega) only [pvS, pvC, pvL, pvR, pvN, h1]
 generalize (a.dir == b.dir) = q
 generalize (a.mode == b.mode) = q1
 generalize (a.data == b.data) = q2
 generalize (a.id == b.id) = q3
 cases p <;> cases q <;> cases q1 <;> cases q2 <;> rfl
theorem znE {l : List Row} {k : Nat} (h : k < l.length) : l[k].path.length + 1 ≤ wL wR l := by
 have h1 := wL_at wR h
 have h2 := zck l[k].path
 have e : wR l[k] = wP l[k].path + l[k].data.length := rfl
 omega
theorem znF (x y : List Row) (hw : wL wR x ≤ 1048576) (hy : y.length ≤ 1048576) : zaa [vRs x, vRs y, .f zby.id []] [] = rB (eqRs x y) := by
 have hl := zb2 wR x
 rw [zaa.e]
 by_cases hlen : x.length = y.length
 · have key : ∀ k, k ≤ x.length → (zaa.L4 (y.map eR) (x.map eR) x.length (k : Int)).bind zaa.A4 = rB (eqRs (x.drop k) (y.drop k)) := by
    refine up x.length ?_ fun k hk ih => ?_
    · rw [zaa.s4, List.drop_length, hlen, List.drop_length]
      simp (disch := omega) only [pvS, pvL, pvN, zaa.a4x4, eqRs]
    · have hk2 : k < y.length := by omega
      have h1 := zkp x[k] y[k] (by have := znE hk; omega)
      rw [zaQ x k hk, zaQ y k hk2]
      unfold eqRs
      rw [zaa.s4]
      cases hb : sameR x[k] y[k] with
      | true =>
       rw [hb] at h1
       simp (disch := omega) only [pvS, pvT, pvC, pvL, pvR, pvN, h1]
       exact ih
      | false =>
       rw [hb] at h1
       simp (disch := omega) only [pvS, pvT, pvC, pvL, pvR, pvN, h1, zaa.a4q4]
   have h0 := key 0 (by omega)
   simp only [List.drop_zero] at h0
   simp (disch := omega) only [pvS, pvT, pvC, pvL, pvR, pvN, List.length_map, hlen] at h0 ⊢
   exact h0
 · have : eqRs x y = false := by
    cases h : eqRs x y with
    | false => rfl
    | true => exact absurd (congrArg List.length ((zeb x y).1 h)) hlen
   rw [this]
   simp (disch := omega) only [pvS, pvT, pvC, pvL, pvR, pvN, List.length_map]
theorem zgX (r : Row) : wT (rowT r) = r.data.length := by rw [wT_eq]; simp [rowT, wP, wL]
theorem tab_w {t : Tree} (h : treeB t = true) : wL wR (tabT t) ≤ 100000 := by
 have hl := zkf h
 have hc := zeQ h
 have key : ∀ l : List (List Str × Tree), (∀ x ∈ l, wP x.1 + x.2.data.length ≤ 2000) → wL wR (l.map rowX) ≤ 2001 * l.length := by
  intro l
  induction l with
  | nil => simp [wL]
  | cons a l ih =>
   intro h
   have h1 := h a (by simp)
   have h2 := ih fun x hx => h x (by simp [hx])
   have e : wR (rowX a) = wP a.1 + a.2.data.length := rfl
   simp only [List.map_cons, wL, List.length_cons]
   omega
 have h1 := key (sub [] t) fun x hx => by
  obtain ⟨e, h3, h4, h5⟩ := zoX t 0 [] (zcb h) rfl (by simp) x hx
  obtain ⟨h6, h7⟩ := zdu h3
  have h8 := zk9 h5
  have h9 : x.2.data.length ≤ 24 := by
   cases hd : x.2.dir with
   | true => rw [h6.dat hd]; simp
   | false => exact (h6.file hd).1
  omega
 have e : (sub [] t).length = (tabT t).length := by unfold tabT; rw [List.length_map]
 have e2 : tabT t = (sub [] t).map rowX := rfl
 rw [e2]
 rw [e] at h1
 omega
theorem zah.fin (all : List Row) (hall : all.length ≤ 1048576) (t : Tree) (hw : wT t ≤ 1048576) : zah.A5 (zah.x5 (all.map eR) false 0 (mkS []) [] [] t.dir t.mode (mkS t.data) (eSs t.names) (t.kids.map eT)) =
 rTB (if treeB t = true ∧ tabT t = all then some t else none) := by
 have h1 := zlG t (oT_of t hw) hw
 have h2 := zg5 t hw
 rw [zah.a5x5]
 cases hb : treeB t with
 | false =>
  rw [hb] at h1
  rw [if_neg (fun h => by simp at h)]
  simp (disch := omega) only [pvS, pvT, pvC, pvL, pvR, pvN, h1, zah.p16]
  rfl
 | true =>
  rw [hb] at h1
  have h3 := zg6 t (zcb hb) hw
  rw [znC] at h3
  have h4 := znF (tabT t) all (by have := tab_w hb; omega) hall
  by_cases hc : tabT t = all
  · have e : eqRs (tabT t) all = true := (zeb _ _).2 hc
    rw [if_pos ⟨rfl, hc⟩]
    rw [e] at h4
    generalize tabT t = rs at *
    simp (disch := omega) only [pvS, pvC, pvL, pvR, pvN, h1, h2, h3, h4, zah.p16, zah.p17]
    rfl
  · have e : eqRs (tabT t) all = false := by
     cases h : eqRs (tabT t) all with
     | false => rfl
     | true => exact absurd ((zeb _ _).1 h) hc
    rw [if_neg (fun h => hc h.2)]
    rw [e] at h4
    generalize tabT t = rs at *
    simp (disch := omega) only [pvS, pvC, pvL, pvR, pvN, h1, h2, h3, h4, zah.p16, zah.p17]
    rfl
end Go.PVx
namespace Go.PVx
open Go.PV Go.Proofs
theorem zkq {q : List Str} {n : Str} : (n.length + 1) + q.length ≤ wP (q ++ [n]) := by
 have := zfm q n
 have := zck q
 omega
theorem zah.l5 (all rs : List Row) (hall : all.length ≤ 1048576) (hrs : rs.length ≤ 1048576) : ∀ k, k ≤ rs.length → ∀ t : Tree, OkT t → wT t + wL wR (rs.drop k) ≤ 1048576 →
 (zah.L5 (all.map eR) (rs.map eR) rs.length (k : Int) false 0 (mkS []) [] [] t.dir t.mode (mkS t.data) (eSs t.names) (t.kids.map eT)).bind zah.A5 =
 rTB ((zfC t (rs.drop k)).bind fun z => if treeB z = true ∧ tabT z = all then some z else none) := by
 refine up rs.length ?_ fun k hk ih => ?_
 · intro t ho hw
   rw [List.drop_length] at hw ⊢
   simp only [wL] at hw
   have hf := zah.fin all hall t (by omega)
   rw [zah.s5]
   simp (disch := omega) only [pvS, pvL, pvN]
   rw [hf]
   rfl
 · intro t ho hw
   rw [zfg wR hk] at hw
   rw [zaQ rs k hk]
   unfold zfC
   have hwr := zgX rs[k]
   have hr : rs[k] = rs[k] := rfl
   rw [zah.s5]
   have eR1 : (rs.map eR).getD k [] = eR rs[k] := by rw [List.getD_eq_getElem?_getD, List.getElem?_map, List.getElem?_eq_getElem hk]; rfl
   generalize rs[k] = r at *
   obtain ⟨p, d, m, dat, i⟩ := r
   have hwe : wR ⟨p, d, m, dat, i⟩ = wP p + dat.length := rfl
   have hrow : rowT ⟨p, d, m, dat, i⟩ = ⟨d, m, dat, [], []⟩ := rfl
   rw [hrow] at hwr ⊢
   simp only at hwr ⊢
   rcases List.eq_nil_or_concat p with rfl | ⟨q, n, rfl⟩
   · rw [if_pos rfl]
     simp (disch := omega) only [pvS, pvC, pvL, pvR, pvN, eR1, eR, List.length_map, Int.toNat_natCast, zah.a5q5]
     rfl
   · rw [List.concat_eq_append] at *
     have hne : q ++ [n] ≠ [] := by simp
     have hwl := @zkq q n
     rw [if_neg hne]
     have hat := zkl t q (by omega) ho (by omega)
     have e0 : ((q.length + 1 : Nat) : Int) - 1 = (q.length : Int) := by omega
     have e1 : List.take q.length (q ++ [n]) = q := by simp
     have e2 := zoG q n
     have hpu := fun z (h : putAt insI ⟨d, m, dat, [], []⟩ t (q ++ [n]) = some z) => zoD h ho (OkT.leaf d m dat)
     simp (disch := omega) only [pvS, pvC, pvL, pvR, pvN, eR1, eR, List.length_map, Int.toNat_natCast, List.length_append, List.length_cons, List.length_nil, e0, e1]
     rw [zgQ] at hpu ⊢
     cases hloc : locT t q with
     | none =>
      rw [hloc] at hat
      simp only [rAt] at hat
      simp (disch := omega) only [pvS, pvT, pvC, pvL, pvR, pvN, pvO, hat, zfQ, zgS, ok_p, List.isEmpty_nil, zah.p11, zah.a5q5]
      rfl
     | some y =>
      obtain ⟨π, c⟩ := y
      have hco := zkj q t _ hloc ho
      have hcw := loc_w q t _ hloc
      rw [hloc] at hat hpu
      simp only [rAt] at hat
      obtain ⟨hz, hzw⟩ := hpu _ rfl
      simp only at hco hcw hz hzw
      rw [hwr] at hzw
      have hlast : ((q ++ [n]).getLastD []) = n := by simp
      rw [hlast] at hzw
      have hput := zii c n d m dat hco (by omega)
      have ih2 := ih _ hz (by omega)
      simp only [Option.map_some, Option.bind_some]
      refine Eq.trans ?_ ih2
      cases π with
      | nil =>
       obtain ⟨rfl, hs⟩ := zpR hloc (insI c n ⟨d, m, dat, [], []⟩)
       rw [hs]
       simp (disch := omega) only [pvS, pvT, pvC, pvL, pvR, pvN, pvO, hat, zfQ, zgS, ok_p, List.isEmpty_nil, zah.p11, e2, hput]
      | cons b π =>
       obtain ⟨a, j⟩ := b
       obtain ⟨rfl, hj, g1, g2, g3, g4, g5, g6⟩ := zoC hloc (insI c n ⟨d, m, dat, [], []⟩)
       rw [g3, g4, g5, g6]
       rw [eT_eq (insI c n _)] at g2
       simp (disch := omega) only [pvS, pvC, pvL, pvR, pvN, pvO, hat, zkk, zgS, ok_p, List.isEmpty_cons, List.headD_cons, List.tail_cons]
       rw [zah.p11b]
       generalize (t.kids.map eT).getD j [] = R at *
       simp (disch := omega) only [pvS, pvT, pvC, pvL, pvR, pvN, pvO, e2, g1, hput, List.map_cons, List.map_nil, List.isEmpty_cons]
       rw [← g2]
       rfl
theorem zij (rs : List Row) (hw : wL wR rs ≤ 1048576) : zah [vRs rs] [] = rTB (RRI rs) := by
 have hl := zb2 wR rs
 have hin := zd9 (rs.length : Int) 1 31
 unfold inB at hin
 rw [zah.e]
 cases rs with
 | nil =>
  have hin' : zb3 [vI 0, vI 1, vI 31] [] = rB false := zd9 0 1 31
  simp (disch := omega) only [pvS, pvC, pvL, pvR, pvN, List.map_nil, List.length_nil, hin']
  rfl
 | cons r rs =>
  rw [zie]
  simp only [List.length_cons] at hl hin ⊢
  by_cases h31 : 31 < rs.length + 1
  · rw [if_pos h31]
    simp (disch := omega) only [pvS, pvC, pvL, pvR, pvN, List.length_map, List.length_cons, hin]
    rfl
  · rw [if_neg h31]
    simp only [wL] at hw
    have hwe : wR r = wP r.path + r.data.length := rfl
    have h2 := zah.l5 (r :: rs) rs (by simp only [List.length_cons]; omega) (by omega) 0 (by omega) (rowT r) (OkT.leaf _ _ _) (by rw [zgX]; simp only [List.drop_zero]; omega)
    simp (disch := omega) only [pvS, pvC, pvL, pvR, pvN, List.length_map, List.length_cons, List.map_cons, hin, eR]
    have e1 : ∀ x : List D, List.drop 1 (List.take (rs.length + 1) (x :: rs.map eR)) = rs.map eR := fun x => by
     rw [List.take_of_length_le (by simp), List.drop_succ_cons, List.drop_zero]
    have e2 : min (rs.length + 1) (rs.length + 1) - 1 = rs.length := by omega
    have e3 : ((min (rs.length + 1) (rs.length + 1) : Nat) : Int) - 1 = (rs.length : Int) := by omega
    simp only [e1, e2, e3, zah.p5]
    exact h2
end Go.PVx
namespace Go.PVx
open Go.PV Go.Proofs
theorem zhG (t : Tree) : wT t ≤ 1048576 → za6 [vT t] [] = rT t := by
 induction t using Tree.ind with
 | h d m s ns ks ih =>
  intro hw
  have hwt := wT_eq ⟨d, m, s, ns, ks⟩
  simp only at hwt
  have hl1 := zb2 wT ks
  have hl2 := zck ns
  have r1 : zaB 1 (eSs ns) = true := Sx.rowsLen_map 1 eS (fun _ => rfl) ns
  have r2 : zaG false (eSs ns) = true := Sx.rowsCell_map false eS (fun _ => rfl) ns
  have hl : ∀ k, k ≤ ks.length → (za6.L3 (k : Int) d m (mkS s) (eSs ns) (ks.map eT) false 0 (mkS []) [] [] d m (mkS s) (eSs ns) ((ks.take k).map eT)).bind za6.A3 = rT ⟨d, m, s, ns, ks⟩ := by
   refine up ks.length ?_ fun k hk ihk => ?_
   · rw [za6.s3, List.take_length]
     simp (disch := omega) only [pvS, pvT, pvC, pvL, pvR, pvN, za6.a3x3, r1, r2]
   · have hk1 := wL_at wT hk
     have h1 := ih ks[k] (List.getElem_mem hk) (by omega)
     have r3 : zaB 5 ((ks.take k).map eT) = true := Sx.rowsLen_map 5 eT Sx.eT_len _
     have e : (ks.take k).map eT ++ [eT ks[k]] = (ks.take (k + 1)).map eT := by
      rw [List.take_add_one, List.getElem?_eq_getElem hk, List.map_append]; rfl
     have e2 : ((ks.take k).map eT).length = k := by simp; omega
     rw [← ihk, ← e, za6.s3]
     rw [eT_eq ks[k]]
     simp (disch := omega) only [pvS, pvT, pvC, pvL, pvR, pvN, h1, r3, e2]
  have h0 := hl 0 (by omega)
  rw [za6.e]
  simp (disch := omega) only [pvS, pvT, pvC, pvL, pvR, pvN, r1, r2]
  exact h0
theorem zeV (t : Tree) (hw : wT t ≤ 1048576) : zbs [vT t] [] = rO (if treeB t = true then (tabT t).map eR else []) := by
 have h0 := zlF t (oT_of t hw) hw
 rw [zbs.e]
 cases hb : treeB t with
 | false =>
  rw [hb] at h0
  simp (disch := omega) only [pvS, pvT, pvC, pvL, pvR, pvN, h0]
  rfl
 | true =>
  rw [hb] at h0
  have h1 : zaT [AV.one (A1.s []), vT t] [] = _ := zko t [] 0 (zcb hb) (by have : wP [] = 0 := rfl; omega)
  rw [znC] at h1
  rw [if_pos rfl]
  generalize (tabT t).map eR = Z at *
  simp (disch := omega) only [pvS, pvC, pvL, pvR, pvN, h0, h1]
theorem zab.c18 (all made : List Row) (hw : wL wR made ≤ 1048576) (hall : all.length ≤ 1048576) (hlen : made.length = all.length) (t : Tree) (ht : wT t ≤ 1048576) : ∀ k, k ≤ all.length →
 (zab.L18 (all.map eR) (k : Int) false 0 (mkS []) [] [] t.dir t.mode (mkS t.data) (eSs t.names) (t.kids.map eT) (made.map eR)).bind zab.A18 = rTB (if eqRs (made.drop k) (all.drop k) = true then some t else none) := by
 have h2 := zhG t ht
 refine up all.length ?_ fun k hk ih => ?_
 · have e : eqRs (made.drop all.length) (all.drop all.length) = true := by rw [List.drop_length, ← hlen, List.drop_length]; rfl
   rw [if_pos e, zab.s18]
   simp (disch := omega) only [pvS, pvC, pvL, pvR, pvN, List.length_map, zab.a18x18, h2]
   rfl
 · have hk2 : k < made.length := by omega
   have h1 := zgW made[k] all[k] (by have := znE hk2; omega)
   rw [zaQ all k hk, zaQ made k hk2]
   unfold eqRs
   rw [zab.s18]
   cases hb : sameR made[k] all[k] with
   | true =>
    rw [hb] at h1
    simp (disch := omega) only [pvS, pvT, pvC, pvL, pvR, pvN, List.length_map, h1, Bool.true_and]
    exact ih
   | false =>
    rw [hb] at h1
    rw [if_neg (by simp)]
    simp (disch := omega) only [pvS, pvT, pvC, pvL, pvR, pvN, List.length_map, h1, zab.a18q18]
    rfl
theorem zab.fin (all : List Row) (hall : all.length ≤ 1048576) (h1 : 1 ≤ all.length) (t : Tree) (hw : wT t ≤ 1048576) : zab.A5 (zab.x5 (all.map eR) false 0 (mkS []) [] [] t.dir t.mode (mkS t.data) (eSs t.names) (t.kids.map eT)) =
 rTB (if treeB t = true ∧ tabT t = all then some t else none) := by
 have hm := zeV t hw
 rw [zab.a5x5]
 cases hb : treeB t with
 | false =>
  rw [hb] at hm
  rw [if_neg (fun h => by simp at h)]
  rw [if_neg (by simp)] at hm
  simp (disch := omega) only [pvS, pvC, pvL, pvR, pvN, List.length_map, hm]
  rfl
 | true =>
  rw [hb, if_pos rfl] at hm
  have htw := tab_w hb
  have htl := zb2 wR (tabT t)
  generalize tabT t = made at *
  by_cases hlen : made.length = all.length
  · have hc := zab.c18 all made (by omega) hall hlen t hw 0 (by omega)
    simp only [List.drop_zero, zeb] at hc
    simp (disch := omega) only [pvS, pvC, pvL, pvR, pvN, List.length_map, hm, hlen]
    refine hc.trans ?_
    simp only [true_and]
  · rw [if_neg (fun h => hlen (congrArg List.length h.2))]
    simp (disch := omega) only [pvS, pvC, pvL, pvR, pvN, List.length_map, hm]
    rfl
theorem zab.c18b (all made : List Row) (hw : wL wR made ≤ 1048576) (hall : all.length ≤ 1048576) (hlen : made.length = all.length) (t : Tree) (ht : wT t ≤ 1048576) : ∀ k, k ≤ all.length →
 (zab.L18b (all.map eR) (k : Int) false 0 (mkS []) [] [] t.dir t.mode (mkS t.data) (eSs t.names) (t.kids.map eT) (made.map eR)).bind zab.A18 = rTB (if eqRs (made.drop k) (all.drop k) = true then some t else none) := by
 have h2 := zhG t ht
 refine up all.length ?_ fun k hk ih => ?_
 · have e : eqRs (made.drop all.length) (all.drop all.length) = true := by rw [List.drop_length, ← hlen, List.drop_length]; rfl
   rw [if_pos e, zab.s18b]
   simp (disch := omega) only [pvS, pvC, pvL, pvR, pvN, List.length_map, zab.a18x18b, h2]
   rfl
 · have hk2 : k < made.length := by omega
   have h1 := zgW made[k] all[k] (by have := znE hk2; omega)
   rw [zaQ all k hk, zaQ made k hk2]
   unfold eqRs
   rw [zab.s18b]
   cases hb : sameR made[k] all[k] with
   | true =>
    rw [hb] at h1
    simp (disch := omega) only [pvS, pvT, pvC, pvL, pvR, pvN, List.length_map, h1, Bool.true_and]
    exact ih
   | false =>
    rw [hb] at h1
    rw [if_neg (by simp)]
    simp (disch := omega) only [pvS, pvT, pvC, pvL, pvR, pvN, List.length_map, h1, zab.a18q18b]
    rfl
theorem zab.finb (all : List Row) (hall : all.length ≤ 1048576) (h1 : 1 ≤ all.length) (t : Tree) (hw : wT t ≤ 1048576) : zab.A5 (zab.x5b (all.map eR) false 0 (mkS []) [] [] t.dir t.mode (mkS t.data) (eSs t.names) (t.kids.map eT)) =
 rTB (if treeB t = true ∧ tabT t = all then some t else none) := by
 have hm := zeV t hw
 rw [zab.a5x5b]
 cases hb : treeB t with
 | false =>
  rw [hb] at hm
  rw [if_neg (fun h => by simp at h)]
  rw [if_neg (by simp)] at hm
  simp (disch := omega) only [pvS, pvC, pvL, pvR, pvN, List.length_map, hm]
  rfl
 | true =>
  rw [hb, if_pos rfl] at hm
  have htw := tab_w hb
  have htl := zb2 wR (tabT t)
  generalize tabT t = made at *
  by_cases hlen : made.length = all.length
  · have hc := zab.c18b all made (by omega) hall hlen t hw 0 (by omega)
    simp only [List.drop_zero, zeb] at hc
    simp (disch := omega) only [pvS, pvC, pvL, pvR, pvN, List.length_map, hm, hlen]
    refine hc.trans ?_
    simp only [true_and]
  · rw [if_neg (fun h => hlen (congrArg List.length h.2))]
    simp (disch := omega) only [pvS, pvC, pvL, pvR, pvN, List.length_map, hm]
    rfl
theorem zab.line (all : List Row) (hall : wL wR all ≤ 1048576) (k : Nat) (hk : k < all.length) (t : Tree) (ho : OkL t) (hw : wT t ≤ 1048576) :
 (zab.L5 (all.map eR) (k : Int) false 0 (mkS []) [] [] t.dir t.mode (mkS t.data) (eSs t.names) (t.kids.map eT)).bind zab.A5 =
 (match (if pathB 1 all[k].path = true then putAt insS (rowT all[k]) t all[k].path else none) with
 | none => rTB none
 | some z => (zab.L5b (all.map eR) ((k + 1 : Nat) : Int) false 0 (mkS []) [] [] z.dir z.mode (mkS z.data) (eSs z.names) (z.kids.map eT)).bind zab.A5) := by
 have hat := wL_at wR hk
 have hln := zb2 wR all
 have eR1 : (all.map eR).getD k [] = eR all[k] := by rw [List.getD_eq_getElem?_getD, List.getElem?_map, List.getElem?_eq_getElem hk]; rfl
 rw [zab.s5]
 generalize all[k] = r at *
 obtain ⟨p, d, m, dat, i⟩ := r
 have hwe : wR ⟨p, d, m, dat, i⟩ = wP p + dat.length := rfl
 have hrow : rowT ⟨p, d, m, dat, i⟩ = ⟨d, m, dat, [], []⟩ := rfl
 have hpl := zck p
 have hpo := zfy p (oP_of (by omega))
 rw [hrow]
 simp only
 cases hb : pathB 1 p with
 | false =>
  rw [hb] at hpo
  rw [if_neg (by simp)]
  simp (disch := omega) only [pvS, pvC, pvL, pvR, pvN, eR1, eR, List.length_map, Int.toNat_natCast, hpo, zab.a5q5]
  rfl
 | true =>
  rw [hb] at hpo
  rw [if_pos rfl]
  have hne : p ≠ [] := fun h => by subst h; exact absurd hb (by decide)
  obtain ⟨u, hu1, hu2⟩ := zgV ⟨d, m, dat, [], []⟩ p t hne (by omega) ho hw
  have hu3 : zbk [vT t, vP p, .g [.v (.bool d), .v (.int .i64 m), .v (.string (mkS dat)), .s [], .s []]] [] = _ := hu1
  cases hz : putAt insS ⟨d, m, dat, [], []⟩ t p with
  | none =>
   rw [hz] at hu3
   simp (disch := omega) only [pvS, pvC, pvL, pvR, pvN, eR1, eR, List.length_map, Int.toNat_natCast, hpo, hu3, rPut, Option.isSome_none, zab.p11, zab.a5q5b]
   rfl
  | some z =>
   rw [hz] at hu3
   obtain rfl := hu2 z hz
   simp (disch := omega) only [pvS, pvC, pvL, pvR, pvN, eR1, eR, List.length_map, Int.toNat_natCast, hpo, hu3, rPut, Option.isSome_some, zab.p11]
theorem zab.lineb (all : List Row) (hall : wL wR all ≤ 1048576) (k : Nat) (hk : k < all.length) (t : Tree) (ho : OkL t) (hw : wT t ≤ 1048576) :
 (zab.L5b (all.map eR) (k : Int) false 0 (mkS []) [] [] t.dir t.mode (mkS t.data) (eSs t.names) (t.kids.map eT)).bind zab.A5 =
 (match (if pathB 1 all[k].path = true then putAt insS (rowT all[k]) t all[k].path else none) with
 | none => rTB none
 | some z => (zab.L5b (all.map eR) ((k + 1 : Nat) : Int) false 0 (mkS []) [] [] z.dir z.mode (mkS z.data) (eSs z.names) (z.kids.map eT)).bind zab.A5) := by
 have hat := wL_at wR hk
 have hln := zb2 wR all
 have eR1 : (all.map eR).getD k [] = eR all[k] := by rw [List.getD_eq_getElem?_getD, List.getElem?_map, List.getElem?_eq_getElem hk]; rfl
 rw [zab.s5b]
 generalize all[k] = r at *
 obtain ⟨p, d, m, dat, i⟩ := r
 have hwe : wR ⟨p, d, m, dat, i⟩ = wP p + dat.length := rfl
 have hrow : rowT ⟨p, d, m, dat, i⟩ = ⟨d, m, dat, [], []⟩ := rfl
 have hpl := zck p
 have hpo := zfy p (oP_of (by omega))
 rw [hrow]
 simp only
 cases hb : pathB 1 p with
 | false =>
  rw [hb] at hpo
  rw [if_neg (by simp)]
  simp (disch := omega) only [pvS, pvC, pvL, pvR, pvN, eR1, eR, List.length_map, Int.toNat_natCast, hpo, zab.a5q5c]
  rfl
 | true =>
  rw [hb] at hpo
  rw [if_pos rfl]
  have hne : p ≠ [] := fun h => by subst h; exact absurd hb (by decide)
  obtain ⟨u, hu1, hu2⟩ := zgV ⟨d, m, dat, [], []⟩ p t hne (by omega) ho hw
  have hu3 : zbk [vT t, vP p, .g [.v (.bool d), .v (.int .i64 m), .v (.string (mkS dat)), .s [], .s []]] [] = _ := hu1
  cases hz : putAt insS ⟨d, m, dat, [], []⟩ t p with
  | none =>
   rw [hz] at hu3
   simp (disch := omega) only [pvS, pvC, pvL, pvR, pvN, eR1, eR, List.length_map, Int.toNat_natCast, hpo, hu3, rPut, Option.isSome_none, zab.p11b, zab.a5q5c]
   rfl
  | some z =>
   rw [hz] at hu3
   obtain rfl := hu2 z hz
   simp (disch := omega) only [pvS, pvC, pvL, pvR, pvN, eR1, eR, List.length_map, Int.toNat_natCast, hpo, hu3, rPut, Option.isSome_some, zab.p11b]
theorem zab.l5b (all : List Row) (hall : wL wR all ≤ 1048576) : ∀ k, k ≤ all.length → 1 ≤ k → ∀ t : Tree, OkL t → wT t + wL wR (all.drop k) ≤ 1048576 →
 (zab.L5b (all.map eR) (k : Int) false 0 (mkS []) [] [] t.dir t.mode (mkS t.data) (eSs t.names) (t.kids.map eT)).bind zab.A5 =
 rTB ((zdZ t (all.drop k)).bind fun z => if treeB z = true ∧ tabT z = all then some z else none) := by
 have hln := zb2 wR all
 refine up all.length ?_ fun k hk ih => ?_
 · intro h1 t ho hw
   rw [List.drop_length] at hw ⊢
   simp only [wL] at hw
   have hf := zab.finb all (by omega) h1 t (by omega)
   rw [zab.s5b]
   simp (disch := omega) only [pvS, pvL, pvN, List.length_map]
   exact hf
 · intro h1 t ho hw
   rw [zfg wR hk] at hw
   rw [zaQ all k hk, zab.lineb all hall k hk t ho (by omega)]
   unfold zdZ
   by_cases hb : pathB 1 all[k].path = true
   · rw [if_pos hb, if_pos hb]
     cases hz : putAt insS (rowT all[k]) t all[k].path with
     | none => rfl
     | some z =>
      obtain ⟨z1, z2⟩ := zgU (rowT all[k]) (OkL.leaf _ _ _) _ t z hz ho
      rw [zgX] at z2
      have hwe : wR all[k] = wP all[k].path + all[k].data.length := rfl
      have hne : all[k].path ≠ [] := fun h => by rw [h] at hb; exact absurd hb (by decide)
      obtain ⟨q, n, hq⟩ := (List.eq_nil_or_concat all[k].path).resolve_left hne
      rw [List.concat_eq_append] at hq
      rw [hq] at hwe z2
      have hlast : ((q ++ [n]).getLastD []) = n := by simp
      have hwl := @zkq q n
      rw [hlast] at z2
      simp only [Option.bind_some]
      exact ih (by omega) z z1 (by omega)
   · rw [if_neg hb, if_neg hb]; rfl
theorem zik (all : List Row) (hall : wL wR all ≤ 1048576) : zab [vRs all] [] = rTB (RRS all) := by
 have hln := zb2 wR all
 rw [zab.e]
 cases all with
 | nil =>
  simp (disch := omega) only [pvS, pvC, pvL, pvR, pvN, List.map_nil, List.length_nil, zab.p2]
  rfl
 | cons r rs =>
  rw [zif]
  have eR0 : ((r :: rs).map eR).getD 0 [] = eR r := rfl
  have hwe : wR r = wP r.path + r.data.length := rfl
  have hpl := zck r.path
  simp only [List.length_cons] at hln
  have hall' := hall
  simp only [wL] at hall'
  by_cases h31 : 31 < (r :: rs).length
  · rw [if_pos (Or.inl h31)]
    simp only [List.length_cons] at h31
    simp (disch := omega) only [pvS, pvC, pvL, pvR, pvN, List.length_map, List.length_cons, zab.p2]
    rfl
  · have h31' := h31
    simp only [List.length_cons] at h31'
    by_cases hp : r.path = []
    · rw [if_neg (by rw [not_or]; exact ⟨h31, fun h => h hp⟩)]
      have hstart : (zab.L5 ((r :: rs).map eR) ((1 : Nat) : Int) false 0 (mkS []) [] [] (rowT r).dir (rowT r).mode (mkS (rowT r).data) (eSs (rowT r).names) ((rowT r).kids.map eT)).bind zab.A5 =
       rTB ((zdZ (rowT r) rs).bind fun t => if treeB t = true ∧ tabT t = r :: rs then some t else none) := by
       cases hrs : rs with
       | nil =>
        have hf := zab.fin [r] (by simp) (by simp) (rowT r) (by rw [zgX]; omega)
        rw [zab.s5]
        simp (disch := omega) only [pvS, pvL, pvN, List.length_map, List.length_cons, List.length_nil]
        exact hf
       | cons r2 rs2 =>
        rw [← hrs]
        have h2l : 1 < (r :: rs).length := by rw [hrs]; simp
        rw [zab.line (r :: rs) hall 1 h2l (rowT r) (OkL.leaf _ _ _) (by rw [zgX]; omega)]
        have eg : (r :: rs)[1] = r2 := by simp [hrs]
        rw [eg]
        have eP : zdZ (rowT r) rs = if pathB 1 r2.path = true then (putAt insS (rowT r2) (rowT r) r2.path).bind fun z => zdZ z rs2 else none := by rw [hrs]; rfl
        rw [eP]
        by_cases hb : pathB 1 r2.path = true
        · rw [if_pos hb, if_pos hb]
          cases hz : putAt insS (rowT r2) (rowT r) r2.path with
          | none => rfl
          | some z =>
           obtain ⟨z1, z2⟩ := zgU (rowT r2) (OkL.leaf _ _ _) _ (rowT r) z hz (OkL.leaf _ _ _)
           rw [zgX, zgX] at z2
           have hwe2 : wR r2 = wP r2.path + r2.data.length := rfl
           have hne : r2.path ≠ [] := fun h => by rw [h] at hb; exact absurd hb (by decide)
           obtain ⟨q, n, hq⟩ := (List.eq_nil_or_concat r2.path).resolve_left hne
           rw [List.concat_eq_append] at hq
           rw [hq] at hwe2 z2
           have hlast : ((q ++ [n]).getLastD []) = n := by simp
           have hwl := @zkq q n
           rw [hlast] at z2
           have hrw : wL wR rs = 1 + wR r2 + wL wR rs2 := by rw [hrs]; rfl
           have hdr : (r :: rs).drop 2 = rs2 := by rw [hrs]; rfl
           have := zab.l5b (r :: rs) hall 2 (by simp only [List.length_cons] at h2l ⊢; omega) (by omega) z z1 (by rw [hdr]; omega)
           rw [hdr] at this
           simp only [Option.bind_some]
           exact this
        · rw [if_neg hb, if_neg hb]; rfl
      simp (disch := omega) only [pvS, pvC, pvL, pvR, pvN, List.length_map, List.length_cons, eR0, eR, hp, List.length_nil, zab.p2, zab.p3]
      exact hstart
    · have hpn : 0 < r.path.length := List.length_pos_iff.2 hp
      rw [if_pos (Or.inr hp)]
      simp (disch := omega) only [pvS, pvC, pvL, pvR, pvN, List.length_map, List.length_cons, eR0, eR, zab.p2]
      rfl
end Go.PVx
namespace Go.PVx
open Go.PV Go.Proofs
structure OR (r : Row) : Prop where
 path : oP r.path
 data : sS r.data
abbrev rRow (r : Row) : Option Res := some ⟨[.o .deep (eSs r.path), .v (.bool r.dir), .v (.int .i64 r.mode), .v (.string (mkS r.data)), .v (.int .i64 r.id)], []⟩
theorem zlb {l : List Row} {k : Nat} (h : k < l.length) : (l.map eR).getD k [] = [.s (eSs l[k].path), .v (.bool l[k].dir), .v (.int .i64 l[k].mode), .v (.string (mkS l[k].data)), .v (.int .i64 l[k].id)] := by
 rw [zb6 eR l k h]; rfl
theorem zaX.l5 (l : List Row) (hl : l.length ≤ 9223372036854775807) (hX : ∀ a ∈ l, ∀ x : Int, 0 ≤ x → x ≤ Lim → zdd [vR a, vI x] [] = rI (szR (wR a) x)) : ∀ k, k ≤ l.length → ∀ x : Int, 0 ≤ x → x ≤ Lim →
 (zaX.L5 (l.map eR) x (k : Int)).bind zaX.A5 = rI (szR (sumW wR (l.drop k)) x) := by
 have hL : (Lim : Int) = 1048576 := rfl
 refine up l.length ?_ fun k hk ih x h0 h1 => ?_
 · intro x h0 h1; rw [zaX.s5]; simp [sumW, szR, zaX.a5x5, h0]
 · rw [zaX.s5, zaQ l k hk]
   have h := hX l[k] (List.getElem_mem hk) x h0 h1
   simp only [Int.toNat_natCast, zlb hk, zbv k (by omega), sumW]
   by_cases hx : (wR l[k] : Int) ≤ x
   · have hn : ¬ x - (wR l[k] : Int) < 0 := by omega
     have := ih (x - (wR l[k] : Int)) (by omega) (by omega)
     push_cast at this
     rw [zh7 hx] at h
     rw [zh8 hx, ← this]
     simp [-List.getElem_cons_drop, hk, hn, h]
   · rw [zfj hx] at h
     rw [zfN hx]
     simp [-List.getElem_cons_drop, hk, h, zaX.a5q5]
theorem zlN (l : List Row) (hl : l.length ≤ 9223372036854775807) (hX : ∀ a ∈ l, ∀ x : Int, 0 ≤ x → x ≤ Lim → zdd [vR a, vI x] [] = rI (szR (wR a) x)) (x : Int) (h0 : 0 ≤ x) (h1 : x ≤ Lim) :
 zaX [.one (.s (l.map eR)), vI x] [] = rI (szR (wL wR l) x) := by
 have hL : (Lim : Int) = 1048576 := rfl
 have hw : IntKind.i64.wrap (x - (l.length : Int)) = x - (l.length : Int) := zcL _ (by omega)
 rw [zaX.e]
 simp only [List.length_map, hw, zne]
 by_cases hx : (l.length : Int) ≤ x
 · have hn : ¬ x - (l.length : Int) < 0 := by omega
   have := zaX.l5 l hl hX 0 (by omega) (x - (l.length : Int)) (by omega) (by omega)
   rw [List.drop_zero] at this
   rw [zh8 hx, ← this]
   simp [hn]
 · have hn : x - (l.length : Int) < 0 := by omega
   rw [zfN hx]
   simp [hn]
theorem zlO (l : List Row) (hl : l.length ≤ 1048576) (hX : ∀ a ∈ l, zdq [vR a] [] = rRow a) : za2 [.one (.s (l.map eR))] [] = rO (l.map eR) := by
 have key : ∀ k, k ≤ l.length → (za2.L3 (l.map eR) (k : Int) ((l.take k).map eR ++ List.replicate (l.length - k) [D.s [], D.v (Value.bool false), D.v (Value.int IntKind.i64 0), D.v (Value.string (mkS [])), D.v (Value.int IntKind.i64 0)])).bind za2.A3 = rO (l.map eR) := by
  refine up l.length ?_ fun k hk ih => ?_
  · rw [za2.s3, zkY]; simp [za2.a3x3]
  · rw [za2.s3]
    have h := hX l[k] (List.getElem_mem hk)
    have h1 := zkW eR l [D.s [], D.v (Value.bool false), D.v (Value.int IntKind.i64 0), D.v (Value.string (mkS [])), D.v (Value.int IntKind.i64 0)] k hk
    have h2 := zkV eR l [D.s [], D.v (Value.bool false), D.v (Value.int IntKind.i64 0), D.v (Value.string (mkS [])), D.v (Value.int IntKind.i64 0)] k (by omega)
    have h3 := zkX eR l [D.s [], D.v (Value.bool false), D.v (Value.int IntKind.i64 0), D.v (Value.string (mkS [])), D.v (Value.int IntKind.i64 0)] k hk
    have h4 : eR l[k] = _ := (zb6 eR l k hk).symm.trans (zlb hk)
    rw [h4] at h3
    rw [← ih]
    simp only [Int.toNat_natCast, zlb hk, zbv k (by omega), h1, h2]
    have hb1 : decide ((k : Int) < ((l.map eR).length : Int)) = true := by simp; omega
    have hb2 : decide (0 ≤ (k : Int)) = true := by simp
    have hb3 : decide ((k : Int) < (l.length : Int)) = true := by simp; omega
    simp only [hb1, hb2, hb3]
    simp only [zau, CK.fits, List.zipIdx, List.all_cons, List.all_nil, List.getD_cons_zero, List.getD_cons_succ, List.length_cons, List.length_nil, str_v, zoN, int_v, es_s, h, Option.bind_some, zag, R1.fits, tes_o, zoO, zj3, zm1]
    simp only [List.drop_succ_cons, List.drop_zero, List.drop_nil]
    rw [h3]
    rfl
 rw [za2.e]
 have hc : (decide (((l.map eR).length : Int) * ((↑64 : Int) + 1) ≤ 2 ^ 46) && true && true) = true := by simp; omega
 rw [hc, cond_true]
 have h0 := key 0 (by omega)
 rw [zi8] at h0
 simp only [List.length_map, Int.toNat_natCast]
 exact h0
theorem zlP (l : List Row) (hl : l.length ≤ 9223372036854775807) (hX : ∀ a ∈ l, zcj [vR a, vR a] [] = rB true) : za5 [.one (.s (l.map eR)), .one (.s (l.map eR))] [] = rB true := by
 have key : ∀ k, k ≤ l.length → za5.L4 (l.map eR) (l.map eR) (k : Int) = some za5.x4 := by
  refine up l.length ?_ fun k hk ih => ?_
  · rw [za5.s4]; simp
  · rw [za5.s4]
    have h := hX l[k] (List.getElem_mem hk)
    simp only [Int.toNat_natCast, zlb hk, zbv k (by omega), ih]
    simp [hk, h]
 have h0 : za5.L4 (l.map eR) (l.map eR) 0 = _ := key 0 (by omega)
 rw [za5.e, h0]
 simp [za5.a4x4]
theorem znG (e : Row) (h : OR e) (x : Int) (h0 : 0 ≤ x) (h1 : x ≤ Lim) : zdd [vR e, vI x] [] = rI (szR (wR e) x) := by
 have hL : (Lim : Int) = 1048576 := rfl
 have hd := h.data
 unfold sS at hd
 have e1 := zh9 e.path h.path x h0 h1
 rw [zdd.e, e1]
 unfold wR
 by_cases hx : (wP e.path : Int) ≤ x
 · rw [zh7 hx]
   by_cases hx2 : (e.data.length : Int) ≤ x - wP e.path
   · rw [zh7 (by omega), show x - ((wP e.path + e.data.length : Nat) : Int) = x - wP e.path - e.data.length by omega]
     simp (disch := omega) only [pvS, pvT, pvC, pvL, pvR, pvN]
   · rw [zfj (by omega)]
     simp (disch := omega) only [pvS, pvT, pvC, pvL, pvR, pvN]
 · rw [zfj hx, zfj (by omega)]
   rfl
theorem znH (e : Row) (hw : wR e ≤ 1048576) : zdq [vR e] [] = rRow e := by
 have := zck e.path
 unfold wR at hw
 rw [zdq.e, zia e.path (by omega)]
 simp (disch := omega) only [pvS, pvT, pvC, pvL, pvR, pvN]
theorem zkr (e : Row) (hw : wR e ≤ 1048576) : zcj [vR e, vR e] [] = rB true := by
 have := zck e.path
 unfold wR at hw
 rw [zcj.e, zdW e.path (by omega)]
 have b1 : (!(e.dir == e.dir)) = false := by simp
 have b2 : (e.mode != e.mode) = false := by simp
 have b3 : (e.id != e.id) = false := by simp
 have b4 : (e.data == e.data) = true := by simp
 simp (disch := omega) only [pvS, pvT, pvC, pvL, pvR, pvN, b1, b2, b3, b4, zcj.p9]
def cR (e : Row) : Nat := e.path.length + 4
noncomputable def mR (k : Int) (e : Row) : Row :=
 ⟨mP k e.path, (k + e.path.length).tmod 3 == 0, k + e.path.length + 1, mt (k + e.path.length + 2), k + e.path.length + 3⟩
theorem zjy (l : List Row) (k : Int) (h0 : 0 ≤ k) (h1 : k + (sumW cR l : Nat) ≤ Top) (hl : l.length ≤ 1048576) :
 zaF [.one (.r 0 [] 0), vI k] [gV (l.map eR)] = rM (k + (sumW cR l : Nat)) ((mks cR mR k l).map eR) := by
 have hT : Top = 1000000000000 := rfl
 rw [zaF.e]
 have key := znr eR cR mR (fun _ => True) (fun k j r => (zaF.L2 k j r).bind zaF.A2) (fun k r => rM k r) ?_ ?_ l [] k (fun _ _ => trivial) h0 h1 (by simpa using hl)
 · simpa using key
 · intro m l a k _ h0 h1 hl
   unfold cR at h1
   have ht := zcY (k + a.path.length + 2) (by omega) (by omega)
   have hS := zdf a.path k (by omega) (by omega)
   have e1 : k + a.path.length + 1 + 1 = k + a.path.length + 2 := by omega
   have e2 : k + a.path.length + 2 + 1 = k + a.path.length + 3 := by omega
   have e3 : k + a.path.length + 3 + 1 = k + (cR a : Nat) := by unfold cR; omega
   have hfr : zau [CK.sl] (eR a) 0 = true := rfl
   rw [zaF.s2]
   simp (disch := omega) only [pvS, pvT, pvC, pvL, pvN, pvR, pvO, Nat.sub_self, znq, ht, hS, e1, e2, e3, List.set_cons_zero, List.take_succ_cons, List.take_zero, List.drop_succ_cons, List.drop_zero, List.cons_append, List.nil_append, zaF.p8, mR]
 · intro m k
   rw [zaF.s2]
   simp (disch := omega) only [pvL, pvN, zaF.a2x2]
end Go.PVx
namespace Go.PVx
open Go.PV Go.Proofs
theorem zo0 : ∀ l : List Row, sumW cR l ≤ 4 * wL wR l
 | [] => by simp [sumW]
 | r :: l => by
  have := zo0 l
  have := zck r.path
  simp only [sumW, wL, cR, wR]
  omega
theorem zlQ (rs : List Row) (h : sL OR rs) : zaX [vRs rs, vI 1048576] [] = rI (szR (wL wR rs) 1048576) :=
 zlN rs h.1 (fun a ha x h0 h1 => znG a (h.2 a ha) x h0 h1) 1048576 (by omega) (by have hL : (Lim : Int) = 1048576 := rfl; omega)
theorem zlR (rs : List Row) (hw : wL wR rs ≤ 1048576) : za2 [vRs rs] [] = rO (rs.map eR) :=
 zlO rs (by have := zb2 wR rs; omega) (fun a ha => znH a (by have := zeL wR rs a ha; omega))
theorem zlS (rs : List Row) (hw : wL wR rs ≤ 1048576) : za5 [vRs rs, vRs rs] [] = rB true :=
 zlP rs (by have := zb2 wR rs; omega) (fun a ha => zkr a (by have := zeL wR rs a ha; omega))
theorem zed (rs : List Row) (h : sL OR rs) : zaf [vRs rs] [] = rB true := by
 rw [zaf.e, zlQ rs h]
 by_cases hw : wL wR rs ≤ 1048576
 · rw [zh7 (by omega)]
   have hl := zb2 wR rs
   have hcr := zo0 rs
   have h0 := zlR rs hw
   have h1 := zik rs hw
   have h2 := zij rs hw
   have h6 := zlS rs hw
   have hT : Top = 1000000000000 := rfl
   have h7 := zjy rs 1 (by omega) (by omega) (by omega)
   rw [zpN] at h2
   have hwt : wT ((RRS rs).getD ⟨false, 0, [], [], []⟩) ≤ 1000 := by
    cases h : RRS rs with
    | none => rw [wT_eq]; simp [wP, wL]
    | some u => exact zpU (zk6 h).1
   have e2 : rTB (RRS rs) = some ⟨[.v (.bool ((RRS rs).getD ⟨false, 0, [], [], []⟩).dir), .v (.int .i64 ((RRS rs).getD ⟨false, 0, [], [], []⟩).mode), .v (.string (mkS ((RRS rs).getD ⟨false, 0, [], [], []⟩).data)),
    .o .deep (eSs ((RRS rs).getD ⟨false, 0, [], [], []⟩).names), .o .deep (((RRS rs).getD ⟨false, 0, [], [], []⟩).kids.map eT), .v (.bool (RRS rs).isSome)], []⟩ := by
    cases RRS rs <;> rfl
   rw [e2] at h1 h2
   generalize (RRS rs).getD ⟨false, 0, [], [], []⟩ = t at *
   generalize (RRS rs).isSome = b at *
   clear e2
   have hc := cT_le t
   have h3 := zju t (by omega)
   have h4 := zjr t (by omega) 1 (by omega) (by omega)
   have h5 := zjt t (by omega) 1 (by omega) (by omega) t.dir t.mode t.data
   have b1 : ((!b) == b) = false := by cases b <;> rfl
   have b2 : (!(b == b)) = false := by cases b <;> rfl
   generalize mTs t.kids (1 + t.names.length) = ks at *
   generalize (mks cR mR 1 rs).map eR = ms at *
   generalize (sumW cR rs : Nat) = n at *
   simp (disch := omega) only [pvS, pvC, pvL, pvR, pvN, pvO, h0, h1, h2, h3, h4, h5, h6, h7, zaf.p8, zaf.p9, zaf.p10, zaf.p15, zaf.p16, zaf.p25, zaf.p26, zaf.p27, b1, b2]
 · rw [zfj (by omega)]
   rfl
end Go.PVx
namespace Go.PVx
open Go.PV Go.Proofs Go.Shelf
def zpV : Ren := ⟨fun | 22 => 131 | 29 => 183 | 30 => 184 | n => n, fun | 24 => 23 | 9 => 9 | 3 => 3 | 4 => 4 | 0 => 0 | n => n, fun n => n⟩
def zpW : Ren := ⟨fun | 22 => 132 | 29 => 185 | 30 => 186 | n => n, fun | 24 => 35 | 9 => 37 | 3 => 3 | 4 => 4 | 0 => 0 | n => n, fun n => n⟩
theorem zpX : InsAt Tryz.prog zpV "slices.Insert[[]string,string]" Tryz.f183 1 16 (.string ⟨#[]⟩) := {
 mixed := by kernel_rfl
 f22 := Tryz.func131.trans (congrArg some (by kernel_rfl))
 f29 := Tryz.func183
 on := by kernel_rfl
 ob := by kernel_rfl
 ox := by kernel_rfl
 of_ := by kernel_rfl
 t0 := Tryz.underlying0
 a0 := Tryz.isAgg0
 z0 := Tryz.sizeOf0
 v0 := Tryz.zeroValue0
 t3 := Tryz.underlying3
 a3 := Tryz.isAgg3
 z3 := Tryz.sizeOf3
 v3 := Tryz.zeroValue3
 t4 := Tryz.underlying4
 a4 := Tryz.isAgg4
 z4 := Tryz.sizeOf4
 v4 := Tryz.zeroValue4
 z9 := Tryz.sizeOf9
 t24 := Tryz.underlying23
 a24 := Tryz.isAgg23
 z24 := Tryz.sizeOf23
 v24 := Tryz.zeroValue23
 i9 := by kernel_rfl
 zk := by kernel_rfl
 k0 := by decide }
theorem zpY : InsAt Tryz.prog zpW "slices.Insert[[]loop.example/changetrail/impl.Tree,loop.example/changetrail/impl.Tree]" Tryz.f185 5 80 (.agg #[.bool false, .int .i64 0, .string ⟨#[]⟩, .slice none 0 0, .slice none 0 0]) := {
 mixed := by kernel_rfl
 f22 := Tryz.func132.trans (congrArg some (by kernel_rfl))
 f29 := Tryz.func185
 on := by kernel_rfl
 ob := by kernel_rfl
 ox := by kernel_rfl
 of_ := by kernel_rfl
 t0 := Tryz.underlying0
 a0 := Tryz.isAgg0
 z0 := Tryz.sizeOf0
 v0 := Tryz.zeroValue0
 t3 := Tryz.underlying3
 a3 := Tryz.isAgg3
 z3 := Tryz.sizeOf3
 v3 := Tryz.zeroValue3
 t4 := Tryz.underlying4
 a4 := Tryz.isAgg4
 z4 := Tryz.sizeOf4
 v4 := Tryz.zeroValue4
 z9 := Tryz.sizeOf37
 t24 := Tryz.underlying35
 a24 := Tryz.isAgg35
 z24 := Tryz.sizeOf35
 v24 := Tryz.zeroValue35
 i9 := by kernel_rfl
 zk := by kernel_rfl
 k0 := by decide }
end Go.PVx
