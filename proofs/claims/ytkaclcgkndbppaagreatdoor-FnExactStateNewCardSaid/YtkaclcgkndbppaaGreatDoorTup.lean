/- A part of the proof: PvT3, PvTC, PvTD, PvTE, PvTF, PvTG, PvTL, PvTM, PvInZ. -/
import Derived.Test.YtkaclcgkndbppaaGreatDoorTre
import Derived.Test.YtkaclcgkndbppaaGreatDoorDat
import Derived.Test.YtkaclcgkndbppaaGreatDoorProg
import Derived.Test.YtkaclcgkndbppaaGreatDoorIns
import Derived.KernelRfl
set_option linter.unusedSimpArgs false
set_option linter.unusedVariables false
namespace Go.PVx
open Go.PV Go.Proofs
theorem znd (h : Int) (b : UInt8) (h0 : 0 ≤ h) (h1 : h < 1000000007) : (131 * h + (b.toNat : Int)).tmod 1000000007 = (131 * h + (b.toNat : Int)) % 1000000007 := by
 have hb := b.toNat_lt
 rw [Int.tmod_eq_emod_of_nonneg (by omega)]
theorem zne (s : Str) (hs : s.length ≤ 1000000000000000) : zbs [vS s] [] = rI (idS 7 s) := by
 have hl : ∀ k, k ≤ s.length → ∀ h : Int, 0 ≤ h → h < 1000000007 → (zbs.L3 (mkS s) h (k : Int)).bind zbs.A3 = rI (idS h (s.drop k)) := by
  refine up s.length ?_ fun k hk ih => ?_
  · intro h _ _
    rw [zbs.s3, List.drop_length]
    simp (disch := omega) only [pvS, pvT, pvC, pvL, pvR, pvN, zbs.a3x3, idS]
  · intro h h0 h1
    have hb := (s[k]).toNat_lt
    have hst := znd h s[k] h0 h1
    rw [zbe s k hk]
    unfold idS
    rw [zbs.s3]
    simp (disch := omega) only [pvS, pvT, pvC, pvL, pvR, pvN]
    rw [Int.mul_comm h 131, hst]
    exact ih _ (by omega) (by omega)
 have h0 := hl 0 (by omega) 7 (by omega) (by omega)
 rw [List.drop_zero] at h0
 rw [zbs.e]
 exact h0
theorem zkb (t : Tree) (d : Int) (hp : zbh d t = true) (hw : wT t ≤ 1048576) : za6 [vT t] [] = rI (idT t) := by
 have h1 := zib t d hp (oT_of t hw) hw
 have hlen := zeY t [] d hp (by have : wP [] = 0 := rfl; omega)
 have hc := zep t
 rw [← zka] at hlen
 have hs : (showT t).length ≤ 1000000000000000 := by omega
 have hl : ∀ k, k ≤ (showT t).length → ∀ h : Int, 0 ≤ h → h < 1000000007 → (za6.L4 h (mkS (showT t)) (showT t).length (k : Int)).bind za6.A4 = rI (idS h ((showT t).drop k)) := by
  refine up (showT t).length ?_ fun k hk ih => ?_
  · intro h _ _
    rw [za6.s4, List.drop_length]
    simp (disch := omega) only [pvS, pvT, pvC, pvL, pvR, pvN, za6.a4x4, idS]
  · intro h h0 h1
    have hb := ((showT t)[k]).toNat_lt
    have hst := znd h (showT t)[k] h0 h1
    rw [zbe (showT t) k hk]
    unfold idS
    rw [za6.s4]
    simp (disch := omega) only [pvS, pvT, pvC, pvL, pvR, pvN]
    rw [hst]
    exact ih _ (by omega) (by omega)
 have h0 := hl 0 (by omega) 7 (by omega) (by omega)
 rw [List.drop_zero] at h0
 rw [za6.e]
 simp (disch := omega) only [pvS, pvT, pvC, pvL, pvR, pvN, h1]
 exact h0
theorem znf (t : Tree) (d : Int) (hp : zbh d t = true) (hw : wT t ≤ 1048576) : zdO [vT t] [] = rI (idT t) := by
 have ho := oT_of t hw
 have hm := (zdX hp).1
 have hwt := wT_eq t
 have hw0 : wP [] = 0 := rfl
 have h2 := zhx t.dir t.mode t.data [] (eSs t.names) (t.kids.map eT) hm.m0 (by have := hm.m7; omega) (by omega) (by omega)
 have h3 := zlu t [] d hp ho (by omega)
 have hl := zeY t [] d hp (by omega)
 have hc := zep t
 rw [zeh] at hl
 simp only [List.length_append] at hl
 have e1 : pt [] = [47] := rfl
 have e2 : ptS [] = [] := rfl
 rw [e1] at h2
 rw [e2] at h3
 have h4 := zne (lineT t.dir t.mode t.data [] ++ showZ [] t.names t.kids) (by rw [List.length_append]; omega)
 unfold idT
 rw [zka, zeh, zdO.e]
 simp (disch := omega) only [pvS, pvT, pvC, pvL, pvR, pvN, pvO, h2, h3, h4]
def eRX (x : List Str × Tree) : List D := eR (rowX x)
theorem zng (x : List Str × Tree) : (eRX x).length = 5 := rfl
theorem zn8 (x : List Str × Tree) : (eRX x).all (cellD true) = true := rfl
theorem zon (p : List Str) (t : Tree) : eRX (p, t) = [.s (eSs p), .v (.bool t.dir), .v (.int .i64 t.mode), .v (.string (mkS t.data)), .v (.int .i64 (idT t))] := rfl
theorem zjo (p : List Str) {ns : List Str} {ks : List Tree} {k : Nat} (h1 : k < ns.length) (h2 : k < ks.length) :
 subZ p (ns.drop k) (ks.drop k) = sub (p ++ [ns[k]]) ks[k] ++ subZ p (ns.drop (k + 1)) (ks.drop (k + 1)) := by
 rw [zbe ns k h1, zbe ks k h2, subZ]
theorem zkV (p : List Str) (ks : List Tree) : subZ p [] ks = [] := by cases ks <;> rfl
theorem zkc (t : Tree) : ∀ (p : List Str) (d : Int), zbh d t = true → wP p + wT t ≤ 1048576 → za1 [vP p, vT t] [] = rO ((sub p t).map eRX) := by
 induction t using Tree.ind with
 | h a b c ns ks ih =>
  intro p d hp hw
  have hn := zbB hp
  have hk := fun k (h : k ∈ ks) => zbR hp (k := k) h
  have hlen := zj9 _ d p hp
  have hcc := zep ⟨a, b, c, ns, ks⟩
  have hid := znf ⟨a, b, c, ns, ks⟩ d hp (by omega)
  rw [zjn] at hlen ⊢
  have hw' := hw
  rw [wT_eq] at hw'
  simp only [List.length_cons] at hn hw' hlen ⊢
  have hpl := zdg p
  have hnl := zdg ns
  have r1 : zaF 1 (eSs p) = true := Sx.rowsLen_map 1 eS (fun _ => rfl) _
  have r2 : zaT false (eSs p) = true := Sx.rowsCell_map false eS (fun _ => rfl) _
  have r3 : ∀ l : List (List Str × Tree), zaF 5 (l.map eRX) = true := Sx.rowsLen_map 5 eRX zng
  have r4 : ∀ l : List (List Str × Tree), zaT true (l.map eRX) = true := Sx.rowsCell_map true eRX zn8
  have hl : ∀ k, k ≤ ns.length → ∀ acc : List (List Str × Tree), acc.length + (subZ p (ns.drop k) (ks.drop k)).length ≤ 1048577 →
   (za1.L3 (eSs p) (k : Int) a b (mkS c) (eSs ns) (ks.map eT) (acc.map eRX)).bind za1.A3 = rO ((acc ++ subZ p (ns.drop k) (ks.drop k)).map eRX) := by
   refine up ns.length ?_ fun k hk1 ihk acc hacc => ?_
   · intro acc _
     rw [za1.s3, List.drop_length, zkV, List.append_nil]
     simp (disch := omega) only [pvS, pvT, pvC, pvL, pvR, pvN, za1.a3x3]
   · have hk2 : k < ks.length := by omega
     rw [zjo p hk1 hk2] at hacc ⊢
     simp only [List.length_append] at hacc
     have hwk := wL_at wT hk2
     have hwn := wP_at hk1
     have hwp := zgM p ns[k]
     have h2 := zhs p ns[k] (by omega)
     have h3 := ih ks[k] (List.getElem_mem hk2) (p ++ [ns[k]]) (d + 1) (hk _ (List.getElem_mem hk2)) (by omega)
     have h4 := ihk (acc ++ sub (p ++ [ns[k]]) ks[k]) (by simp only [List.length_append]; omega)
     rw [List.append_assoc, List.map_append] at h4
     have r3' := r3 acc
     have r4' := r4 acc
     have r5 := r3 (sub (p ++ [ns[k]]) ks[k])
     have r6 := r4 (sub (p ++ [ns[k]]) ks[k])
     rw [za1.s3, ← h4]
     generalize sub (p ++ [ns[k]]) ks[k] = Z at *
     simp (disch := omega) only [pvS, pvT, pvC, pvL, pvR, pvN, h2, h3, r3', r4', r5, r6, List.length_map]
  have h0 := hl 0 (by omega) [(p, ⟨a, b, c, ns, ks⟩)] (by simp only [List.drop_zero, List.length_cons, List.length_nil]; omega)
  simp only [List.drop_zero, List.map_cons, List.map_nil, zon] at h0
  rw [za1.e]
  simp (disch := omega) only [pvS, pvC, pvL, pvR, pvN, pvO, hid, r1, r2]
  exact h0
abbrev oBx (es : List (List D)) : PV.Obj := ⟨.box, [.s es], [.deep]⟩
theorem zfE (p : List Str) (t : Tree) (d : Int) (acc : List (List Str × Tree)) (hp : zbh d t = true) (hw : wP p + wT t ≤ 1048576) (ha : acc.length ≤ 1048577) :
 zaW [vP p, vT t, .one (.p true 0 [] 0)] [oBx (acc.map eRX)] = some ⟨[], [oBx ((acc ++ [(p, t)]).map eRX)]⟩ := by
 have h1 := zkb t d hp (by omega)
 have hpl := zdg p
 have r1 : zaF 1 (eSs p) = true := Sx.rowsLen_map 1 eS (fun _ => rfl) _
 have r2 : zaT false (eSs p) = true := Sx.rowsCell_map false eS (fun _ => rfl) _
 have r3 : zaF 5 (acc.map eRX) = true := Sx.rowsLen_map 5 eRX zng _
 rw [zaW.e, List.map_append, List.map_cons, List.map_nil, zon]
 simp (disch := omega) only [pvS, pvC, pvL, pvR, pvN, pvO, h1, r1, r2, r3, List.length_map]
theorem zeD (t : Tree) : ∀ (p : List Str) (d : Int) (acc : List (List Str × Tree)), zbh d t = true → wP p + wT t ≤ 1048576 → acc.length + (sub p t).length ≤ 1048577 →
 zaK [vT t, vP p, .f zaW.id [.p true 0 [] 0]] [oBx (acc.map eRX)] = some ⟨[], [oBx ((acc ++ sub p t).map eRX)]⟩ := by
 induction t using Tree.ind with
 | h a b c ns ks ih =>
  intro p d acc hp hw hacc
  have hn := zbB hp
  have hk := fun k (h : k ∈ ks) => zbR hp (k := k) h
  have h1 := zfE p ⟨a, b, c, ns, ks⟩ d acc hp hw (by omega)
  rw [zjn] at hacc ⊢
  rw [wT_eq] at hw
  simp only [List.length_cons] at hn hw hacc ⊢
  have hpl := zdg p
  have hnl := zdg ns
  have hl : ∀ k, k ≤ ns.length → ∀ acc : List (List Str × Tree), acc.length + (subZ p (ns.drop k) (ks.drop k)).length ≤ 1048577 →
   (iTree_each_table.L3 (eSs p) (eSs ns) ns.length (k : Int) (acc.map eRX) a b (mkS c) (eSs ns) (ks.map eT)).bind iTree_each_table.A3 = some ⟨[], [oBx ((acc ++ subZ p (ns.drop k) (ks.drop k)).map eRX)]⟩ := by
   refine up ns.length ?_ fun k hk1 ihk acc hacc => ?_
   · intro acc _
     rw [iTree_each_table.s3, List.drop_length, zkV, List.append_nil]
     simp (disch := omega) only [pvS, pvT, pvC, pvL, pvR, pvN, iTree_each_table.a3x3]
   · have hk2 : k < ks.length := by omega
     rw [zjo p hk1 hk2] at hacc ⊢
     simp only [List.length_append] at hacc
     have hwk := wL_at wT hk2
     have hwn := wP_at hk1
     have hwp := zgM p ns[k]
     have h2 := zeV p ns[k] (by omega)
     have h3 := ih ks[k] (List.getElem_mem hk2) (p ++ [ns[k]]) (d + 1) acc (hk _ (List.getElem_mem hk2)) (by omega) (by omega)
     have h4 := ihk (acc ++ sub (p ++ [ns[k]]) ks[k]) (by simp only [List.length_append]; omega)
     rw [List.append_assoc] at h4
     rw [iTree_each_table.s3, ← h4]
     generalize acc ++ sub (p ++ [ns[k]]) ks[k] = Z at *
     generalize acc.map eRX = Y at *
     generalize Z.map eRX = Z' at *
     simp (disch := omega) only [pvS, pvT, pvC, pvL, pvR, pvN, pvO, h2, h3]
  have h0 := hl 0 (by omega) (acc ++ [(p, ⟨a, b, c, ns, ks⟩)]) (by simp only [List.drop_zero, List.length_append, List.length_cons, List.length_nil]; omega)
  simp only [List.drop_zero] at h0
  rw [List.append_assoc, List.singleton_append] at h0
  rw [iTree_each_table.e, ← h0]
  generalize (acc ++ [(p, (⟨a, b, c, ns, ks⟩ : Tree))]).map eRX = Z' at *
  generalize acc.map eRX = Y at *
  simp (disch := omega) only [pvS, pvC, pvL, pvR, pvN, pvO, h1]
theorem zgZ (t : Tree) (hp : zbh 0 t = true) (hw : wT t ≤ 1048576) : zbu [vT t] [] = rO ((sub [] t).map eRX) := by
 have hlen := zj9 t 0 [] hp
 have hc := zep t
 have h1 := zeD t [] 0 [] hp (by have : wP [] = 0 := rfl; omega) (by simp only [List.length_nil]; omega)
 rw [List.nil_append] at h1
 have h1' : zaK [vT t, AV.one (A1.s []), .f zaW.id [.p true 0 [] 0]] [oBx []] = _ := h1
 rw [zbu.e]
 generalize (sub [] t).map eRX = Z at *
 simp (disch := omega) only [pvS, pvC, pvL, pvR, pvN, pvO, h1']
theorem znh (t : Tree) : (sub [] t).map eRX = (tabT t).map eR := by
 unfold tabT eRX
 rw [List.map_map]
 rfl
end Go.PVx
namespace Go.PVx
open Go.PV Go.Proofs
abbrev vR (r : Row) : AV := .g [.s (eSs r.path), .v (.bool r.dir), .v (.int .i64 r.mode), .v (.string (mkS r.data)), .v (.int .i64 r.id)]
abbrev vRs (l : List Row) : AV := .one (.s (l.map eR))
def wR (r : Row) : Nat := wP r.path + r.data.length
theorem tab_w {t : Tree} (h : treeB t = true) : wL wR (tabT t) ≤ 100000 := by
 have hl := zo1 h
 have hc := zd8 h
 have key : ∀ l : List (List Str × Tree), (∀ x ∈ l, wP x.1 + x.2.data.length ≤ 2000) → wL wR (l.map rowX) ≤ 2001 * l.length := by
  intro l
  induction l with
  | nil => simp [wL]
  | cons a l ih =>
   intro h
   have h1 := h a (by simp)
   have h2 := ih fun x hx => h x (by simp [hx])
   have e : wR (rowX a) = wP a.1 + a.2.data.length := rfl
   simp only [List.map_cons, wL, List.length_cons]
   omega
 have h1 := key (sub [] t) fun x hx => by
  obtain ⟨e, h3, h4, h5⟩ := sub_ok t 0 [] (zcn h) rfl (by simp) x hx
  obtain ⟨h6, h7⟩ := zdX h3
  have h8 := zkU h5
  have h9 : x.2.data.length ≤ 24 := by
   cases hd : x.2.dir with
   | true => rw [h6.dat hd]; simp
   | false => exact (h6.file hd).1
  omega
 have e : (sub [] t).length = (tabT t).length := by unfold tabT; rw [List.length_map]
 have e2 : tabT t = (sub [] t).map rowX := rfl
 rw [e2]
 rw [e] at h1
 omega
end Go.PVx
namespace Go.PVx
open Go.PV Go.Proofs
end Go.PVx
namespace Go.PVx
open Go.PV Go.Proofs
theorem zlv (t : Tree) : wT t ≤ 1048576 → za9 [vT t] [] = rT t := by
 induction t using Tree.ind with
 | h d m s ns ks ih =>
  intro hw
  have hwt := wT_eq ⟨d, m, s, ns, ks⟩
  simp only at hwt
  have hl1 := zcV wT ks
  have hl2 := zdg ns
  have r1 : zaF 1 (eSs ns) = true := Sx.rowsLen_map 1 eS (fun _ => rfl) ns
  have r2 : zaT false (eSs ns) = true := Sx.rowsCell_map false eS (fun _ => rfl) ns
  have hl : ∀ k, k ≤ ks.length → (za9.L3 (k : Int) d m (mkS s) (eSs ns) (ks.map eT) false 0 (mkS []) [] [] d m (mkS s) (eSs ns) ((ks.take k).map eT)).bind za9.A3 = rT ⟨d, m, s, ns, ks⟩ := by
   refine up ks.length ?_ fun k hk ihk => ?_
   · rw [za9.s3, List.take_length]
     simp (disch := omega) only [pvS, pvT, pvC, pvL, pvR, pvN, za9.a3x3, r1, r2]
   · have hk1 := wL_at wT hk
     have h1 := ih ks[k] (List.getElem_mem hk) (by omega)
     have r3 : zaF 5 ((ks.take k).map eT) = true := Sx.rowsLen_map 5 eT Sx.eT_len _
     have e : (ks.take k).map eT ++ [eT ks[k]] = (ks.take (k + 1)).map eT := by
      rw [List.take_add_one, List.getElem?_eq_getElem hk, List.map_append]; rfl
     have e2 : ((ks.take k).map eT).length = k := by simp; omega
     rw [← ihk, ← e, za9.s3]
     rw [eT_eq ks[k]]
     simp (disch := omega) only [pvS, pvT, pvC, pvL, pvR, pvN, h1, r3, e2]
  have h0 := hl 0 (by omega)
  rw [za9.e]
  simp (disch := omega) only [pvS, pvT, pvC, pvL, pvR, pvN, r1, r2]
  exact h0
theorem zic (t : Tree) (hw : wT t ≤ 1048576) : zbI [vT t] [] = rO (if treeB t = true then (tabT t).map eR else []) := by
 have h0 := zfn t (oT_of t hw) hw
 rw [zbI.e]
 cases hb : treeB t with
 | false =>
  rw [hb] at h0
  simp (disch := omega) only [pvS, pvT, pvC, pvL, pvR, pvN, h0]
  rfl
 | true =>
  rw [hb] at h0
  have h1 : za1 [AV.one (A1.s []), vT t] [] = _ := zkc t [] 0 (zcn hb) (by have : wP [] = 0 := rfl; omega)
  rw [znh] at h1
  rw [if_pos rfl]
  generalize (tabT t).map eR = Z at *
  simp (disch := omega) only [pvS, pvC, pvL, pvR, pvN, h0, h1]
end Go.PVx
namespace Go.PVx
open Go.PV Go.Proofs
theorem row_at {l : List Row} {k : Nat} (h : k < l.length) : (l.map eR).getD k [] = [.s (eSs l[k].path), .v (.bool l[k].dir), .v (.int .i64 l[k].mode), .v (.string (mkS l[k].data)), .v (.int .i64 l[k].id)] := by
 rw [zcb eR l k h]; rfl
theorem zlw (l : List Row) (hl : l.length ≤ 9223372036854775807) (hX : ∀ a ∈ l, zcv [vR a, vR a] [] = rB true) : za7 [.one (.s (l.map eR)), .one (.s (l.map eR))] [] = rB true := by
 have key : ∀ k, k ≤ l.length → za7.L4 (l.map eR) (l.map eR) (k : Int) = some za7.x4 := by
  refine up l.length ?_ fun k hk ih => ?_
  · rw [za7.s4]; simp
  · rw [za7.s4]
    have h := hX l[k] (List.getElem_mem hk)
    simp only [Int.toNat_natCast, row_at hk, zbk k (by omega), ih]
    simp [hk, h]
 have h0 : za7.L4 (l.map eR) (l.map eR) 0 = _ := key 0 (by omega)
 rw [za7.e, h0]
 simp [za7.a4x4]
theorem zkd (e : Row) (hw : wR e ≤ 1048576) : zcv [vR e, vR e] [] = rB true := by
 have := zdg e.path
 unfold wR at hw
 rw [zcv.e, zb8 e.path (by omega)]
 have b1 : (!(e.dir == e.dir)) = false := by simp
 have b2 : (e.mode != e.mode) = false := by simp
 have b3 : (e.id != e.id) = false := by simp
 have b4 : (e.data == e.data) = true := by simp
 simp (disch := omega) only [pvS, pvT, pvC, pvL, pvR, pvN, b1, b2, b3, b4, zcv.p9]
def cR (e : Row) : Nat := e.path.length + 4
noncomputable def mR (k : Int) (e : Row) : Row :=
 ⟨mP k e.path, (k + e.path.length).tmod 3 == 0, k + e.path.length + 1, mt (k + e.path.length + 2), k + e.path.length + 3⟩
theorem zjp (l : List Row) (k : Int) (h0 : 0 ≤ k) (h1 : k + (sumW cR l : Nat) ≤ Top) (hl : l.length ≤ 1048576) :
 zaJ [.one (.r 0 [] 0), vI k] [gV (l.map eR)] = rM (k + (sumW cR l : Nat)) ((mks cR mR k l).map eR) := by
 have hT : Top = 1000000000000 := rfl
 rw [zaJ.e]
 have key := zm7 eR cR mR (fun _ => True) (fun k j r => (zaJ.L2 k j r).bind zaJ.A2) (fun k r => rM k r) ?_ ?_ l [] k (fun _ _ => trivial) h0 h1 (by simpa using hl)
 · simpa using key
 · intro m l a k _ h0 h1 hl
   unfold cR at h1
   have ht := zcK (k + a.path.length + 2) (by omega) (by omega)
   have hS := zcR a.path k (by omega) (by omega)
   have e1 : k + a.path.length + 1 + 1 = k + a.path.length + 2 := by omega
   have e2 : k + a.path.length + 2 + 1 = k + a.path.length + 3 := by omega
   have e3 : k + a.path.length + 3 + 1 = k + (cR a : Nat) := by unfold cR; omega
   have hfr : zas [CK.sl] (eR a) 0 = true := rfl
   rw [zaJ.s2]
   simp (disch := omega) only [pvS, pvT, pvC, pvL, pvN, pvR, pvO, Nat.sub_self, zm6, ht, hS, e1, e2, e3, List.set_cons_zero, List.take_succ_cons, List.take_zero, List.drop_succ_cons, List.drop_zero, List.cons_append, List.nil_append, zaJ.p8, mR]
 · intro m k
   rw [zaJ.s2]
   simp (disch := omega) only [pvL, pvN, zaJ.a2x2]
end Go.PVx
namespace Go.PVx
open Go.PV Go.Proofs
theorem zni : ∀ l : List Row, sumW cR l ≤ 4 * wL wR l
 | [] => by simp [sumW]
 | r :: l => by
  have := zni l
  have := zdg r.path
  simp only [sumW, wL, cR, wR]
  omega
theorem zlx (rs : List Row) (hw : wL wR rs ≤ 1048576) : za7 [vRs rs, vRs rs] [] = rB true :=
 zlw rs (by have := zcV wR rs; omega) (fun a ha => zkd a (by have := zd4 wR rs a ha; omega))
end Go.PVx
namespace Go.PVx
open Go.PV Go.Proofs
theorem zke (t : Tree) (d : Int) (hp : zbh d t = true) (hw : wT t ≤ 1048576) : zcr [vT t] [] = rO ((zbX [] t).map ePa) := by
 obtain ⟨a, b, c, ns, ks⟩ := t
 have ho := oT_of _ hw
 have hn := zbB hp
 have hk := fun k (h : k ∈ ks) => zbR hp (k := k) h
 have hok := zd6 ho
 have hlen := (zcJ _ [] d hp)
 have hcnt := zep ⟨a, b, c, ns, ks⟩
 simp only at hn hok
 have hkl := hok.1
 rw [zdq] at hlen
 have hw2 := hw
 rw [wT_eq] at hw2
 simp only at hlen hw2
 have hnl := zdg ns
 have h0 := zeW [] ⟨a, b, c, ns, ks⟩ [] (by simp) (by simp)
 have hl : ∀ k, k ≤ ns.length → ∀ acc : List (List Str), acc.length + (zb7 [] (ns.drop k) (ks.drop k)).length ≤ 2097152 →
  (iTree_each_paths.L3 [] (eSs ns) ns.length (k : Int) (acc.map ePa) a b (mkS c) (eSs ns) (ks.map eT)).bind iTree_each_paths.A3 = some ⟨[], [oB (acc ++ zb7 [] (ns.drop k) (ks.drop k))]⟩ := by
  refine up ns.length ?_ fun k hk1 ihk acc hacc => ?_
  · intro acc _
    rw [iTree_each_paths.s3, zfp [] _ _ (by simp)]
    simp (disch := omega) only [pvS, pvT, pvC, pvL, pvR, pvN, iTree_each_paths.a3x3, List.append_nil]
  · have hk2 : k < ks.length := by omega
    have hz := zeA [] hk1 hk2
    rw [hz] at hacc ⊢
    simp only [List.length_cons, List.length_append, List.nil_append] at hacc ⊢
    have hwk := wL_at wT hk2
    have hpl := zcJ ks[k] [ns[k]] (d + 1) (hk _ (List.getElem_mem hk2))
    have h1 : zcW [AV.one (A1.s []), vS ns[k]] [] = rO (eSs [ns[k]]) := zeV [] ns[k] (by simp)
    have h2 := zeB ks[k] [ns[k]] (d + 1) acc (hk _ (List.getElem_mem hk2)) (sL_at hok hk2) (by omega) (by simp only [List.length_cons, List.length_nil]; omega) (by simp) (by omega)
    have h3 := ihk (acc ++ [[ns[k]]] ++ zbX [ns[k]] ks[k]) (by simp only [List.length_append, List.length_cons, List.length_nil]; omega)
    have hlist : acc ++ [ns[k]] :: (zbX [ns[k]] ks[k] ++ zb7 [] (ns.drop (k + 1)) (ks.drop (k + 1))) =
     acc ++ [[ns[k]]] ++ zbX [ns[k]] ks[k] ++ zb7 [] (ns.drop (k + 1)) (ks.drop (k + 1)) := by simp
    rw [hlist, ← h3, iTree_each_paths.s3]
    generalize acc ++ [[ns[k]]] ++ zbX [ns[k]] ks[k] = Z at *
    simp (disch := omega) only [pvS, pvT, pvC, pvL, pvR, pvN, pvO, h1, h2]
 have h3 := hl 0 (by omega) [] (by simp only [List.drop_zero, List.length_nil]; omega)
 simp only [List.drop_zero, List.nil_append] at h3
 have h4 : zaK [vT ⟨a, b, c, ns, ks⟩, AV.one (A1.s []), .f za8.id [.p true 0 [] 0]] [⟨.box, [.s []], [.deep]⟩] = some ⟨[], [⟨.box, [.s ((zb7 [] ns ks).map ePa)], [.deep]⟩]⟩ := by
  have h0' : za8 [AV.one (A1.s []), .g [.v (.bool a), .v (.int .i64 b), .v (.string (mkS c)), .s (eSs ns), .s (ks.map eT)], .one (.p true 0 [] 0)] [⟨.box, [.s []], [.deep]⟩] = some ⟨[], [⟨.box, [.s []], [.deep]⟩]⟩ := h0
  have h3' : (iTree_each_paths.L3 [] (eSs ns) ns.length 0 [] a b (mkS c) (eSs ns) (ks.map eT)).bind iTree_each_paths.A3 = _ := h3
  rw [iTree_each_paths.e]
  simp (disch := omega) only [pvS, pvC, pvL, pvR, pvN, pvO, h0', h3']
 rw [zcr.e, zdq]
 simp (disch := omega) only [pvS, pvC, pvL, pvR, pvN, pvO, h4]
def numN (i : Int) : List (List Str) → List NodeOf
 | [] => []
 | p :: l => ⟨i, p⟩ :: numN (i + 1) l
@[simp] theorem zn9 : ∀ (l : List (List Str)) (i : Int), (numN i l).length = l.length
 | [], _ => rfl
 | _ :: l, i => by simp [numN, zn9 l]
theorem zgO : ∀ (a b : List (List Str)) (i : Int), numN i (a ++ b) = numN i a ++ numN (i + a.length) b
 | [], b, i => by simp [numN]
 | x :: a, b, i => by
  simp only [List.cons_append, numN, zgO a b, List.length_cons]
  congr 3; push_cast; omega
theorem zjq (l : List (List Str)) (i : Int) (j : Nat) (h : j < l.length) : numN i (l.take (j + 1)) = numN i (l.take j) ++ [⟨i + j, l[j]⟩] := by
 rw [zgu l j h, zgO]
 simp [numN]
 omega
theorem zkW : ∀ (l : List (List Str)) (i : Int) (a : NodeOf), a ∈ numN i l → a.path ∈ l
 | [], i, a, h => by simp [numN] at h
 | p :: l, i, a, h => by
  simp only [numN, List.mem_cons] at h
  rcases h with rfl | h
  · simp
  · exact List.mem_cons_of_mem _ (zkW l (i + 1) a h)
def zdc (t : Tree) : Nodes := bif treeB t then ⟨1 + (zbX [] t).length, numN 1 (zbX [] t)⟩ else ⟨0, []⟩
theorem zgP {t : Tree} (h : treeB t = true) : zdc t = ⟨1 + (zbX [] t).length, numN 1 (zbX [] t)⟩ := by simp [zdc, h]
theorem zdQ {t : Tree} (h : treeB t = false) : zdc t = ⟨0, []⟩ := by simp [zdc, h]
theorem znj (l : List NodeOf) (i : Int) (p : List Str) : l.map eN ++ [[.v (.int .i64 i), .s (eSs p)]] = (l ++ [NodeOf.mk i p]).map eN := by simp [eN]
theorem zg0 (t : Tree) (hw : wT t ≤ 1048576) : zaC [vT t] [] = some ⟨[.v (.int .i64 (zdc t).next), .o .deep ((zdc t).list.map eN)], []⟩ := by
 have h0 := zhr t (oT_of t hw) hw
 rw [zaC.e]
 cases hb : treeB t with
 | false =>
  rw [hb] at h0
  rw [zdQ hb]
  simp (disch := omega) only [pvS, pvC, pvL, pvR, pvN, h0]
  rfl
 | true =>
  rw [hb] at h0
  have hp := zcn hb
  have hc := zd8 hb
  have hlen := zcJ t [] 0 hp
  have h1 := zke t 0 hp hw
  rw [zgP hb]
  generalize zbX [] t = l at *
  have key : ∀ j, j ≤ l.length → ∀ Q : List (List D), Q.length = l.length → (∀ i (h : i < l.length), j ≤ i → Q.getD i [] = [.s (eSs l[i])]) →
   (zaC.L5 (l.length : Int) (j : Int) 0 [] (1 + j) ((numN 1 (l.take j)).map eN) Q).bind zaC.A5 = some ⟨[.v (.int .i64 (1 + l.length)), .o .deep ((numN 1 l).map eN)], []⟩ := by
   refine up l.length ?_ fun j hj ih Q hQ hQi => ?_
   · intro Q hQ hQi
     rw [zaC.s5, List.take_length]
     simp (disch := omega) only [pvS, pvL, pvN, zaC.a5x5]
   · have hat := hQi j hj (Nat.le_refl _)
     have r1 : zaF 2 ((numN 1 (l.take j)).map eN) = true := Sx.rowsLen_map 2 eN (fun _ => rfl) _
     have r2 : ((numN 1 (l.take j)).map eN).length = j := by simp; omega
     have ih := ih (Q.set j [D.h]) (by simp [hQ]) (fun i h hji => by
      rw [← hQi i h (by omega)]
      have : j ≠ i := by omega
      simp [List.getD_eq_getElem?_getD, this])
     rw [zjq l 1 j hj, ← znj] at ih
     have e9 : (1 : Int) + ((j + 1 : Nat) : Int) = 1 + (j : Int) + 1 := by omega
     rw [e9] at ih
     rw [zaC.s5]
     simp (disch := omega) only [pvS, pvC, pvL, pvR, pvN, Int.toNat_natCast, hat, hQ, r1, r2, List.set_cons_zero]
     exact ih
  have h2 : (zaC.L5 (l.length : Int) 0 0 [] 1 [] (l.map ePa)).bind zaC.A5 = _ := key 0 (by omega) (l.map ePa) (by simp) (fun i h _ => by
   rw [List.getD_eq_getElem?_getD, List.getElem?_map, List.getElem?_eq_getElem h]; rfl)
  simp (disch := omega) only [pvS, pvC, pvL, pvR, pvN, h0, h1, List.length_map]
  exact h2
theorem zg1 (t : Tree) (hw : wT t ≤ 1048576) : zae [vT t] [] = some ⟨[.v (.int .i64 (zdc t).next), .s ((zdc t).list.map eN)], []⟩ := by
 have ho := oT_of t hw
 have h0 := zfn t ho hw
 rw [zae.e]
 cases hb : treeB t with
 | false =>
  rw [hb] at h0
  rw [zdQ hb]
  simp (disch := omega) only [pvS, pvC, pvL, pvR, pvN, h0]
  rfl
 | true =>
  rw [hb] at h0
  have hp := zcn hb
  have hc := zd8 hb
  have hlen := zcJ t [] 0 hp
  have h1 : zaj [AV.one (A1.s []), vT t] [] = rSh ((zbX [] t).map ePa) := zjd t [] 0 hp ho hw (by simp; omega)
  rw [zgP hb]
  generalize zbX [] t = l at *
  have step : ∀ j (hj : j < l.length) (acc : List (List D)), (l.map ePa).getD j [] = [.s (eSs l[j])] := fun j hj _ => by
   rw [List.getD_eq_getElem?_getD, List.getElem?_map, List.getElem?_eq_getElem hj]; rfl
  have key : ∀ j, j ≤ l.length → (zae.L6b (l.map ePa) (j : Int) 0 [] (1 + j) ((numN 1 (l.take j)).map eN)).bind zae.A6 = some ⟨[.v (.int .i64 (1 + l.length)), .s ((numN 1 l).map eN)], []⟩ := by
   refine up l.length ?_ fun j hj ih => ?_
   · rw [zae.s6b, List.take_length]
     simp (disch := omega) only [pvS, pvL, pvN, List.length_map, zae.a6x6b]
   · have hat := step j hj []
     have r1 : zaF 2 ((numN 1 (l.take j)).map eN) = true := Sx.rowsLen_map 2 eN (fun _ => rfl) _
     have r2 : ((numN 1 (l.take j)).map eN).length = j := by simp; omega
     rw [zjq l 1 j hj, ← znj] at ih
     have e9 : (1 : Int) + ((j + 1 : Nat) : Int) = 1 + (j : Int) + 1 := by omega
     rw [e9] at ih
     rw [zae.s6b]
     simp (disch := omega) only [pvS, pvC, pvL, pvR, pvN, Int.toNat_natCast, List.length_map, hat, r1, r2]
     exact ih
  have h2 : (zae.L6b (l.map ePa) 0 0 [] 1 []).bind zae.A6 = _ := key 0 (by omega)
  have h3 : (zae.L6 (l.map ePa) 0 0 [] 1 []).bind zae.A6 = (zae.L6b (l.map ePa) 0 0 [] 1 []).bind zae.A6 := by
   rw [zae.s6, zae.s6b (l.map ePa) 0 0 [] 1 []]
   cases decide ((0 : Int) < ((l.map ePa).length : Int)) <;> simp only [cond_true, cond_false, Option.bind_some, zae.a6x6, zae.a6x6b]
  simp (disch := omega) only [pvS, pvC, pvL, pvR, pvN, h0, h1]
  rw [h3]
  exact h2
end Go.PVx
namespace Go.PVx
open Go.PV Go.Proofs
theorem zjr (l : List Row) (k : Int) (h0 : 0 ≤ k) (h1 : k + (sumW cR l : Nat) ≤ Top) (hl : l.length ≤ 1048576) :
 zak [.one (.s ((mks cR mR k l).map eR)), vI k] [] = rI (k + (sumW cR l : Nat)) := by
 have hT : Top = 1000000000000 := rfl
 rw [zak.e]
 have key := zm8 eR cR mR (fun _ => True) (fun r k j => (zak.L2 r k j).bind zak.A2) (fun k => rI k) ?_ ?_ l [] k (fun _ _ => trivial) h0 h1 (by simpa using hl)
 · simpa using key
 · intro m l a k _ h0 h1 hl
   unfold cR at h1
   have ht := zcK (k + a.path.length + 2) (by omega) (by omega)
   have hS := zcS a.path k (by omega) (by omega)
   have e1 : k + a.path.length + 1 + 1 = k + a.path.length + 2 := by omega
   have e2 : k + a.path.length + 2 + 1 = k + a.path.length + 3 := by omega
   have e3 : k + a.path.length + 3 + 1 = k + (cR a : Nat) := by unfold cR; omega
   rw [zak.s2]
   simp (disch := omega) only [pvS, pvT, pvC, pvL, pvN, pvR, pvO, Nat.sub_self, ht, hS, e1, e2, e3, zak.p10, zak.p17, mR, beq_self_eq_true]
 · intro m k
   rw [zak.s2]
   simp (disch := omega) only [pvL, pvN, zak.a2x2]
theorem eqU0 : zcg [.g [.s [], .s []], .g [.s [], .s []]] [] = rB true := zh7 ⟨[], []⟩ (by simp [wU, wL])
theorem eqM0 : za5 [.one (.s []), .one (.s [])] [] = rB true := by
 rw [za5.e, za5.s4]
 simp (disch := omega) only [pvS, pvC, pvL, pvR, pvN, za5.a4x4]
theorem eqS0 : zao [.one (.s []), .one (.s [])] [] = rB true := zb8 [] (by simp)
theorem mkU0 (k : Int) : zbG [.g [.r 0 [] 0, .r 0 [] 1], vI k] [⟨.virt, [.s [], .s []], [.deep, .deep]⟩] = some ⟨[.v (.int .i64 k)], [⟨.virt, [.s [], .s []], [.deep, .deep]⟩]⟩ := by
 have h1 : zar [.one (.r 0 [] 0), vI k] [⟨.virt, [.s []], [.deep]⟩] = some ⟨[.v (.int .i64 k)], [⟨.virt, [.s []], [.deep]⟩]⟩ := by
  rw [zar.e, zar.s2]
  simp (disch := omega) only [pvS, pvC, pvL, pvR, pvN, zar.a2x2]
 have h2 : zaE [.one (.r 0 [] 0), vI k] [⟨.virt, [.s []], [.deep]⟩] = some ⟨[.v (.int .i64 k)], [⟨.virt, [.s []], [.deep]⟩]⟩ := by
  rw [zaE.e, zaE.s2]
  simp (disch := omega) only [pvS, pvC, pvL, pvR, pvN, zaE.a2x2]
 rw [zbG.e]
 simp (disch := omega) only [pvS, pvC, pvL, pvR, pvN, pvO, h1, h2]
theorem mkM0 (k : Int) : zaQ [.one (.r 0 [] 0), vI k] [⟨.virt, [.s []], [.deep]⟩] = some ⟨[.v (.int .i64 k)], [⟨.virt, [.s []], [.deep]⟩]⟩ := by
 rw [zaQ.e, zaQ.s2]
 simp (disch := omega) only [pvS, pvC, pvL, pvR, pvN, zaQ.a2x2]
theorem mkS0 (k : Int) : zaf [.one (.r 0 [] 0), vI k] [⟨.virt, [.s []], [.deep]⟩] = some ⟨[.v (.int .i64 k)], [⟨.virt, [.s []], [.deep]⟩]⟩ := by
 rw [zaf.e, zaf.s2]
 simp (disch := omega) only [pvS, pvC, pvL, pvR, pvN, zaf.a2x2]
theorem hdU0 (k : Int) (h : 0 ≤ k) : zbH [.g [.s [], .s []], vI k] [] = rI k := by
 have h1 : zal [.one (.s []), vI k] [] = rI k := by
  rw [zal.e, zal.s2]
  simp (disch := omega) only [pvS, pvC, pvL, pvR, pvN, zal.a2x2]
 have h2 : zat [.one (.s []), vI k] [] = rI k := by
  rw [zat.e, zat.s2]
  simp (disch := omega) only [pvS, pvC, pvL, pvR, pvN, zat.a2x2]
 rw [zbH.e]
 simp (disch := omega) only [pvS, pvC, pvL, pvR, pvN, pvO, h1, h2]
theorem hdM0 (k : Int) : zaL [.one (.s []), vI k] [] = rI k := by
 rw [zaL.e, zaL.s2]
 simp (disch := omega) only [pvS, pvC, pvL, pvR, pvN, zaL.a2x2]
theorem hdS0 (k : Int) : zad [.one (.s []), vI k] [] = rI k := by
 rw [zad.e, zad.s2]
 simp (disch := omega) only [pvS, pvC, pvL, pvR, pvN, zad.a2x2]
theorem ze0 : ∀ (ns : List Str) (ks : List Tree) (p : List Str), (∀ k ∈ ks, ∀ (p : List Str) (q : List Str), q ∈ zbX p k → q.length ≤ p.length + wT k) →
 ∀ q ∈ zb7 p ns ks, q.length ≤ p.length + wL wT ks
 | [], ks, p, _, q, h => by simp [zb7] at h
 | n :: ns, [], p, _, q, h => by simp [zb7] at h
 | n :: ns, k :: ks, p, hk, q, h => by
  simp only [zb7, List.mem_cons, List.mem_append] at h
  simp only [wL]
  rcases h with rfl | h | h
  · simp only [List.length_append, List.length_cons, List.length_nil]; omega
  · have := hk k (by simp) (p ++ [n]) q h
    simp only [List.length_append, List.length_cons, List.length_nil] at this; omega
  · have := ze0 ns ks p (fun k h => hk k (List.mem_cons_of_mem _ h)) q h
    omega
theorem zid (t : Tree) : ∀ (p q : List Str), q ∈ zbX p t → q.length ≤ p.length + wT t := by
 induction t using Tree.ind with
 | h d m s ns ks ih =>
  intro p q hq
  rw [zbX] at hq
  have := ze0 ns ks p ih q hq
  rw [wT_eq]
  simp only
  omega
theorem zhy {α : Type} (w : α → Nat) (b : Nat) : ∀ l : List α, (∀ x ∈ l, w x ≤ b) → sumW w l ≤ l.length * b
 | [], _ => by simp [sumW]
 | x :: l, h => by
  have h1 := h x (by simp)
  have h2 := zhy w b l (fun y hy => h y (by simp [hy]))
  simp only [sumW, List.length_cons, Nat.succ_mul]; omega
structure FewN (n : Nodes) : Prop where
 len : n.list.length ≤ 30
 path : ∀ a ∈ n.list, a.path.length ≤ 1048576
theorem FewN.sum {n : Nodes} (h : FewN n) : sumW cN n.list ≤ 31457310 := by
 have := zhy cN 1048577 n.list (fun a ha => by have := h.path a ha; unfold cN; omega)
 have := h.len
 have : n.list.length * 1048577 ≤ 30 * 1048577 := Nat.mul_le_mul_right _ h.len
 omega
theorem FewN.refl {n : Nodes} (h : FewN n) : zcq [vNs n, vNs n] [] = rB true := by
 have := h.len
 rw [zcq.e, zh2 n.list (by omega) (fun a ha => by
  have := h.path a ha
  rw [zb5.e, zb8 a.path (by omega)]
  simp)]
 simp
theorem zly (t : Tree) (hw : wT t ≤ 1048576) : FewN (zdc t) := by
 cases hb : treeB t with
 | false => rw [zdQ hb]; exact ⟨by simp, by simp⟩
 | true =>
  have hp := zcn hb
  have hc := zd8 hb
  have hlen := zcJ t [] 0 hp
  rw [zgP hb]
  refine ⟨by simp; omega, fun a ha => ?_⟩
  have := zid t [] a.path (zkW _ _ a ha)
  simp only [List.length_nil] at this
  omega
abbrev vSt (t : Tree) (R : List (List D)) (n : Nodes) : AV := .g [.v (.bool t.dir), .v (.int .i64 t.mode), .v (.string (mkS t.data)), .s (eSs t.names), .s (t.kids.map eT), .s R, .s [], .s [], .s [], .v (.int .i64 n.next), .s (n.list.map eN), .s []]
theorem zkf (t : Tree) (rs : List Row) (n : Nodes) (ht : wT t ≤ 1048576) (hr : wL wR rs ≤ 1048576) (hn : FewN n) : zbl [vSt t (rs.map eR) n, vSt t (rs.map eR) n] [] = rB true := by
 have h1 := zfC t ht
 have h2 := zlx rs hr
 have h3 := eqU0
 have h4 := eqM0
 have h5 := hn.refl
 have h6 := eqS0
 rw [zbl.e]
 simp (disch := omega) only [pvS, pvC, pvL, pvR, pvN, pvO, h1, h2, h3, h4, h5, h6, zbl.p7]
theorem zie (t : Tree) (rs : List Row) (n : Nodes) (ht : wT t ≤ 1048576) (hr : wL wR rs ≤ 1048576) (hn : FewN n) :
 zbc [.g [.v (.bool t.dir), .v (.int .i64 t.mode), .v (.string (mkS t.data)), .r 0 [] 0, .r 0 [] 1, .r 0 [] 2, .r 0 [] 3, .r 0 [] 4, .r 0 [] 5, .v (.int .i64 n.next), .r 0 [] 6, .r 0 [] 7], vI 1]
  [⟨.virt, [.s (eSs t.names), .s (t.kids.map eT), .s (rs.map eR), .s [], .s [], .s [], .s (n.list.map eN), .s []], [.deep, .deep, .deep, .deep, .deep, .deep, .deep, .deep]⟩] =
 some ⟨[.v (.int .i64 (1 + t.names.length + (sumW cT t.kids : Nat) + (sumW cR rs : Nat) + (sumW cN n.list : Nat)))],
  [⟨.virt, [.s (eSs (mP 1 t.names)), .s ((mTs t.kids (1 + t.names.length)).map eT), .s ((mks cR mR (1 + t.names.length + (sumW cT t.kids : Nat)) rs).map eR), .s [], .s [], .s [], .s ((mNs (1 + t.names.length + (sumW cT t.kids : Nat) + (sumW cR rs : Nat)) n.list).map eN), .s []], [.deep, .deep, .deep, .deep, .deep, .deep, .deep, .deep]⟩]⟩ := by
 have hT : Top = 1000000000000 := rfl
 have hc := cT_le t
 have hce := cT_eq t
 have hcr := zni rs
 have hrl := zcV wR rs
 have hns := hn.sum
 have hnl := hn.len
 have h1 := zfB t (by omega) 1 (by omega) (by omega)
 have h2 := zjp rs (1 + t.names.length + (sumW cT t.kids : Nat)) (by omega) (by omega) (by omega)
 have h3 := mkU0 (1 + t.names.length + (sumW cT t.kids : Nat) + (sumW cR rs : Nat))
 have h4 := mkM0 (1 + t.names.length + (sumW cT t.kids : Nat) + (sumW cR rs : Nat))
 have h5 := zh4 n (1 + t.names.length + (sumW cT t.kids : Nat) + (sumW cR rs : Nat)) (by omega) (by omega) (by omega)
 have h6 := mkS0 (1 + t.names.length + (sumW cT t.kids : Nat) + (sumW cR rs : Nat) + (sumW cN n.list : Nat))
 rw [zbc.e]
 generalize (1 + (t.names.length : Int) + (sumW cT t.kids : Nat)) = k1 at *
 generalize (k1 + ((sumW cR rs : Nat) : Int)) = k2 at *
 generalize (k2 + ((sumW cN n.list : Nat) : Int)) = k3 at *
 generalize (mks cR mR k1 rs).map eR = ms at *
 generalize (mTs t.kids (1 + t.names.length)).map eT = mt at *
 generalize (mNs k2 n.list).map eN = mn at *
 simp (disch := omega) only [pvS, pvC, pvL, pvR, pvN, pvO, h1, h2, h3, h4, h5, h6, zbc.p5]
theorem zif (t : Tree) (rs : List Row) (n : Nodes) (ht : wT t ≤ 1048576) (hr : wL wR rs ≤ 1048576) (hn : FewN n) :
 zaY [.g [.v (.bool t.dir), .v (.int .i64 t.mode), .v (.string (mkS t.data)), .s (eSs (mP 1 t.names)), .s ((mTs t.kids (1 + t.names.length)).map eT), .s ((mks cR mR (1 + t.names.length + (sumW cT t.kids : Nat)) rs).map eR), .s [], .s [], .s [],
  .v (.int .i64 n.next), .s ((mNs (1 + t.names.length + (sumW cT t.kids : Nat) + (sumW cR rs : Nat)) n.list).map eN), .s []], vI 1] [] =
 rI (1 + t.names.length + (sumW cT t.kids : Nat) + (sumW cR rs : Nat) + (sumW cN n.list : Nat)) := by
 have hT : Top = 1000000000000 := rfl
 have hc := cT_le t
 have hce := cT_eq t
 have hcr := zni rs
 have hrl := zcV wR rs
 have hns := hn.sum
 have hnl := hn.len
 have h1 := zjm t (by omega) 1 (by omega) (by omega) t.dir t.mode t.data
 have h2 := zjr rs (1 + t.names.length + (sumW cT t.kids : Nat)) (by omega) (by omega) (by omega)
 have h3 := hdU0 (1 + t.names.length + (sumW cT t.kids : Nat) + (sumW cR rs : Nat)) (by omega)
 have h4 := hdM0 (1 + t.names.length + (sumW cT t.kids : Nat) + (sumW cR rs : Nat))
 have h5 : zbv [.g [.v (.int .i64 n.next), .s ((mNs (1 + t.names.length + (sumW cT t.kids : Nat) + (sumW cR rs : Nat)) n.list).map eN)], vI (1 + t.names.length + (sumW cT t.kids : Nat) + (sumW cR rs : Nat))] [] = _ := zh5 n (1 + t.names.length + (sumW cT t.kids : Nat) + (sumW cR rs : Nat)) (by omega) (by omega) (by omega)
 have h6 := hdS0 (1 + t.names.length + (sumW cT t.kids : Nat) + (sumW cR rs : Nat) + (sumW cN n.list : Nat))
 rw [zaY.e]
 have p1 : (0 : Int) ≤ 1 + t.names.length + (sumW cT t.kids : Nat) := by omega
 have p2 : (0 : Int) ≤ 1 + t.names.length + (sumW cT t.kids : Nat) + (sumW cR rs : Nat) := by omega
 have p3 : (0 : Int) ≤ 1 + t.names.length + (sumW cT t.kids : Nat) + (sumW cR rs : Nat) + (sumW cN n.list : Nat) := by omega
 generalize (1 + (t.names.length : Int) + (sumW cT t.kids : Nat)) = k1 at *
 generalize (k1 + ((sumW cR rs : Nat) : Int)) = k2 at *
 generalize (k2 + ((sumW cN n.list : Nat) : Int)) = k3 at *
 generalize (mks cR mR k1 rs).map eR = ms at *
 generalize (mTs t.kids (1 + t.names.length)).map eT = mt at *
 generalize (mNs k2 n.list).map eN = mn at *
 simp (disch := omega) only [pvS, pvC, pvL, pvR, pvN, pvO, h1, h2, h3, h4, h5, h6, zaY.p9, zaY.p18]
def rSt (t : Tree) (rs : List Row) (n : Nodes) (b : Bool) : Option Res := some ⟨[.v (.bool t.dir), .v (.int .i64 t.mode), .v (.string (mkS t.data)), .o .deep (eSs t.names), .o .deep (t.kids.map eT), .o .deep (rs.map eR), .o .deep [], .o .deep [], .o .deep [], .v (.int .i64 n.next), .o .deep (n.list.map eN), .o .deep [], .v (.bool b)], []⟩
def rStS (t : Tree) (rs : List Row) (n : Nodes) (b : Bool) : Option Res := some ⟨[.v (.bool t.dir), .v (.int .i64 t.mode), .v (.string (mkS t.data)), .o .deep (eSs t.names), .o .deep (t.kids.map eT), .o .deep (rs.map eR), .o .deep [], .o .deep [], .o .deep [], .v (.int .i64 n.next), .s (n.list.map eN), .o .deep [], .v (.bool b)], []⟩
def tS (t : Tree) : Tree := bif treeB t then t else ⟨false, 0, [], [], []⟩
def rowsS (t : Tree) : List Row := bif treeB t then tabT t else []
theorem zjs (t : Tree) (hw : wT t ≤ 1048576) : zbN [vT t] [] = rSt (tS t) (rowsS t) (zdc t) (treeB t) := by
 have h0 := zhr t (oT_of t hw) hw
 have h1 := zgY t hw
 have h3 := zg0 t hw
 rw [zbN.e]
 unfold tS rowsS rSt
 cases hb : treeB t with
 | false =>
  rw [hb] at h0
  rw [zdQ hb]
  simp (disch := omega) only [pvS, pvC, pvL, pvR, pvN, h0]
  rfl
 | true =>
  rw [hb] at h0
  have h2 := zgZ t (zcn hb) hw
  rw [znh] at h2
  simp only [cond_true]
  generalize tabT t = rs at *
  generalize zdc t = n at *
  simp (disch := omega) only [pvS, pvC, pvL, pvR, pvN, h0, h1, h2, h3]
theorem zjt (t : Tree) (hw : wT t ≤ 1048576) : zb4 [vT t] [] = rStS (tS t) (rowsS t) (zdc t) (treeB t) := by
 have h0 := zfn t (oT_of t hw) hw
 have h1 := zlv t hw
 have h2 := zic t hw
 have h3 := zg1 t hw
 rw [zb4.e]
 unfold tS rowsS rStS
 cases hb : treeB t with
 | false =>
  rw [hb] at h0
  rw [zdQ hb]
  simp (disch := omega) only [pvS, pvC, pvL, pvR, pvN, h0]
  rfl
 | true =>
  rw [hb] at h0 h2
  rw [if_pos rfl] at h2
  simp only [cond_true]
  generalize tabT t = rs at *
  generalize zdc t = n at *
  simp (disch := omega) only [pvS, pvC, pvL, pvR, pvN, h0, h1, h2, h3]
theorem tS_w (t : Tree) : wT (tS t) ≤ 1000 := by
 unfold tS
 cases hb : treeB t with
 | true => exact zo6 hb
 | false => rw [cond_false, wT_eq]; simp [wP, wL]
theorem zo7 (t : Tree) : wL wR (rowsS t) ≤ 100000 := by
 unfold rowsS
 cases hb : treeB t with
 | true => exact tab_w hb
 | false => simp [wL]
theorem zeE (t : Tree) (ho : oT t) : zab [vT t] [] = rB true := by
 have hs := zls t ho 1048576 (by omega) (by have hL : (Lim : Int) = 1048576 := rfl; omega)
 rw [zab.e, hs]
 by_cases hw : wT t ≤ 1048576
 · rw [zhZ (by omega)]
   have h0 := zlq t hw
   have h1 := zjs t hw
   have h2 := zjt t hw
   have hT : Top = 1000000000000 := rfl
   have hc := cT_le t
   have h3 := zfC t hw
   have h4 := zfB t hw 1 (by omega) (by omega)
   have hn := zly t hw
   have hw1 := tS_w t
   have hw2 := zo7 t
   have h5 := zkf (tS t) (rowsS t) (zdc t) (by omega) (by omega) hn
   have h6 := zie (tS t) (rowsS t) (zdc t) (by omega) (by omega) hn
   have h7 := zif (tS t) (rowsS t) (zdc t) (by omega) (by omega) hn
   unfold rSt at h1
   unfold rStS at h2
   generalize treeB t = b at *
   generalize zdc t = n at *
   generalize tS t = T at *
   generalize rowsS t = rs at *
   have b1 : ((!b) == b) = false := by cases b <;> rfl
   have b2 : (!(b == b)) = false := by cases b <;> rfl
   have p1 : (0 : Int) ≤ 1 + (t.names.length : Int) + (sumW cT t.kids : Nat) := by omega
   have p3 : (0 : Int) ≤ 1 + T.names.length + (sumW cT T.kids : Nat) + (sumW cR rs : Nat) + (sumW cN n.list : Nat) := by omega
   generalize (1 + (T.names.length : Int) + (sumW cT T.kids : Nat) + (sumW cR rs : Nat) + (sumW cN n.list : Nat)) = kk at *
   generalize (1 + (t.names.length : Int) + (sumW cT t.kids : Nat)) = kt at *
   generalize (mks cR mR (1 + T.names.length + (sumW cT T.kids : Nat)) rs).map eR = ms at *
   generalize (mTs t.kids (1 + t.names.length)).map eT = mtt at *
   generalize (mTs T.kids (1 + T.names.length)).map eT = mt at *
   generalize (mNs (1 + T.names.length + (sumW cT T.kids : Nat) + (sumW cR rs : Nat)) n.list).map eN = mn at *
   simp (disch := omega) only [pvS, pvC, pvL, pvR, pvN, pvO, h0, h1, h2, h3, h4, h5, h6, h7, zab.p7, zab.p9, zab.p10, zab.p15, zab.p16, zab.p25, zab.p26, zab.p27, b1, b2]
 · rw [zgC (by omega)]
   rfl
end Go.PVx
namespace Go.PVx
open Go.PV Go.Proofs Go.Shelf
end Go.PVx
