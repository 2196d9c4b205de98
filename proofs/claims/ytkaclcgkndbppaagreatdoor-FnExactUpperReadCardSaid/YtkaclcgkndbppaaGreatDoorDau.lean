/- A part of the proof: PvY1, PvW0, PvW1, PvW2, PvW3, PvW4, PvN1, PvN2, PvN3, PvN4, PvN5, PvN6, PvY2, PvY3, PvY4, PvX1, PvX2, PvX3, PvX4, PvX5, PvX6, PvX7, PvX8, PvG, PvX9, PvXA. -/
import Derived.Test.YtkaclcgkndbppaaGreatDoorDat
import Derived.Test.YtkaclcgkndbppaaGreatDoorTy
import Derived.Test.YtkaclcgkndbppaaGreatDoorExt
import Derived.Lib.AtoiAllCases
set_option linter.unusedSimpArgs false
set_option linter.unusedVariables false
namespace Go.PVx
open Go.PV Go.Proofs
theorem dataT_len (s : Str) : (dataT s).length ≤ 1 + 2 * s.length := by
  unfold dataT
  split
  · simp
  · rw [hexS_len]; omega
theorem sl1Dec_int (a : Int) (h0 : 0 ≤ a) (h1 : a ≤ 1000000) : sl1Dec [AV.one (A1.v (Value.int IntKind.i64 a))] [] = rS (dec a.toNat) := by
  have := sl1Dec_ok a.toNat (by omega)
  rwa [show ((a.toNat : Nat) : Int) = a by omega] at this
theorem dec_len_int (a : Int) (h1 : a ≤ 1000000) : (dec a.toNat).length ≤ 7 := dec_len a.toNat (by omega)
end Go.PVx
namespace Go.PVx
open Go.PV Go.Proofs
def wE (e : Entry) : Nat := wP e.path + e.data.length
def wU (u : Upper) : Nat := wL wP u.gone + wL wE u.puts
structure OE (e : Entry) : Prop where
  path : oP e.path
  data : sS e.data
structure OU (u : Upper) : Prop where
  gone : sL oP u.gone
  puts : sL OE u.puts
abbrev vU (u : Upper) : AV := .g [.s (u.gone.map ePa), .s (u.puts.map eE)]
abbrev rU (u : Upper) : Option Res := some ⟨[.o .deep (u.gone.map ePa), .o .deep (u.puts.map eE)], []⟩
theorem paths_at {l : List (List Str)} {k : Nat} (h : k < l.length) : (l.map ePa).getD k [] = [.s (eSs l[k])] := by
  rw [getD_map ePa l k h]; rfl
theorem entry_at {l : List Entry} {k : Nat} (h : k < l.length) : (l.map eE).getD k [] = [.s (eSs l[k].path), .v (.int .i64 l[k].what), .v (.bool l[k].dir), .v (.int .i64 l[k].mode), .v (.string (mkS l[k].data))] := by
  rw [getD_map eE l k h]; rfl
theorem weqStringSS_of (l : List (List Str)) (hl : l.length ≤ 9223372036854775807) (hX : ∀ a ∈ l, weqStringS [vP a, vP a] [] = rB true) : weqStringSS [.one (.s (l.map ePa)), .one (.s (l.map ePa))] [] = rB true := by
  have key : ∀ k, k ≤ l.length → weqStringSS.L4 (l.map ePa) (l.map ePa) (k : Int) = some weqStringSS.x4 := by
    refine up l.length ?_ fun k hk ih => ?_
    · rw [weqStringSS.s4]; simp
    · rw [weqStringSS.s4]
      have h := hX l[k] (List.getElem_mem hk)
      simp only [Int.toNat_natCast, paths_at hk, wrap_nat k (by omega), ih]
      simp [hk, h]
  have h0 : weqStringSS.L4 (l.map ePa) (l.map ePa) 0 = _ := key 0 (by omega)
  rw [weqStringSS.e, h0]
  simp [weqStringSS.a4x4]
theorem weqEntryS_of (l : List Entry) (hl : l.length ≤ 9223372036854775807) (hX : ∀ a ∈ l, weqEntry [vE a, vE a] [] = rB true) : weqEntryS [.one (.s (l.map eE)), .one (.s (l.map eE))] [] = rB true := by
  have key : ∀ k, k ≤ l.length → weqEntryS.L4 (l.map eE) (l.map eE) (k : Int) = some weqEntryS.x4 := by
    refine up l.length ?_ fun k hk ih => ?_
    · rw [weqEntryS.s4]; simp
    · rw [weqEntryS.s4]
      have h := hX l[k] (List.getElem_mem hk)
      simp only [Int.toNat_natCast, entry_at hk, wrap_nat k (by omega), ih]
      simp [hk, h]
  have h0 : weqEntryS.L4 (l.map eE) (l.map eE) 0 = _ := key 0 (by omega)
  rw [weqEntryS.e, h0]
  simp [weqEntryS.a4x4]
theorem weqEntry_refl (e : Entry) (hw : wE e ≤ 1048576) : weqEntry [vE e, vE e] [] = rB true := by
  have := wP_len e.path
  unfold wE at hw
  rw [weqEntry.e, weqStringS_refl e.path (by omega)]
  have b1 : (e.dir != e.dir) = false := by simp
  have b2 : (e.what != e.what) = false := by simp
  have b3 : (e.mode != e.mode) = false := by simp
  have b4 : (e.data == e.data) = true := by simp
  simp (disch := omega) only [pvS, pvT, pvC, pvL, pvR, pvN, b1, b2, b3, b4, weqEntry.p9]
  try simp
theorem weqUpper_refl (u : Upper) (hw : wU u ≤ 1048576) : weqUpper [vU u, vU u] [] = rB true := by
  unfold wU at hw
  have h1 := wL_len wP u.gone
  have h2 := wL_len wE u.puts
  have e1 := weqStringSS_of u.gone (by omega) (fun p hp => weqStringS_refl p (by have := wL_mem wP u.gone p hp; have := wP_len p; omega))
  have e2 := weqEntryS_of u.puts (by omega) (fun p hp => weqEntry_refl p (by have := wL_mem wE u.puts p hp; omega))
  rw [weqUpper.e, e1, Option.bind_some]
  simp (disch := omega) only [pvS, pvT, pvC, pvL, pvR, pvN, e2]
end Go.PVx
namespace Go.PVx
open Go.PV Go.Proofs
def kindB (e : Entry) : Bool :=
  if e.what = 1 then !e.dir && (e.mode == 0 && e.data == []) else if e.what = 2 then !e.dir || e.data == [] else if e.what = 3 then !e.dir && e.data == [] else if e.what = 4 then !e.dir && e.mode == 0 else false
def entB (e : Entry) : Bool := pathB (if e.what = 3 then 0 else 1) e.path && (inB e.mode 0 7 && (decide (e.data.length ≤ 24) && kindB e))
theorem pathB0 (p : List Str) (h : p ≠ []) : pathB 0 p = pathB 1 p := by
  have : 0 < p.length := List.length_pos_iff.2 h
  unfold pathB inB
  rw [show decide ((0 : Int) ≤ (p.length : Int)) = true from decide_eq_true (by omega), show decide ((1 : Int) ≤ (p.length : Int)) = true from decide_eq_true (by omega)]
theorem pathB_nil0 : pathB 0 [] = true := rfl
theorem pathB_nil1 : pathB 1 [] = false := rfl
theorem sl3EntryOk_ok (e : Entry) (h : OE e) : sl3EntryOk [vE e] [] = rB (entB e) := by
  obtain ⟨p, k, d, m, s⟩ := e
  have h1 := sl2PathOk_ok p h.path
  have hd := h.data
  unfold sS at hd
  simp only at hd h1
  rw [sl3EntryOk.e]
  unfold entB kindB
  by_cases hp : p = []
  · subst hp
    simp (disch := omega) only [pvS, pvT, pvC, pvL, pvR, pvN, List.map_nil, h1, sl1In_ok, sl3EntryOk.p2, sl3EntryOk.p3, pathB_nil1]
    grind [pathB_nil0, pathB_nil1]
  · have : 0 < p.length := List.length_pos_iff.2 hp
    simp (disch := omega) only [pvS, pvT, pvC, pvL, pvR, pvN, h1, sl1In_ok, sl3EntryOk.p2, sl3EntryOk.p3]
    have h0 := pathB0 p hp
    grind
theorem ientryOk_ok (e : Entry) (h : OE e) : ientryOk [vE e] [] = rB (entB e) := by
  obtain ⟨p, k, d, m, s⟩ := e
  have h1 := inamesOk_ok p h.path 1
  have h2 := inamesOk_ok p h.path 0
  have hd := h.data
  unfold sS at hd
  simp only at hd h1 h2
  rw [ientryOk.e]
  unfold entB kindB
  simp (disch := omega) only [pvS, pvT, pvC, pvL, pvR, pvN, h1, h2, imodeOk_ok, ientryOk.p4, ientryOk.p5, ientryOk.p6]
  grind
end Go.PVx
namespace Go.PVx
open Go.PV Go.Proofs
def lineT (d : Bool) (m : Int) (s : Str) (p : List Str) : Str :=
  bif d then [100, 105, 114, 32] ++ pt p ++ [32] ++ dec m.toNat ++ [10] else [102, 105, 108, 101, 32] ++ pt p ++ [32] ++ dec m.toNat ++ [32] ++ dataT s ++ [10]
theorem lineT_len (d : Bool) (m : Int) (s : Str) (p : List Str) (h : m ≤ 1000000) : (lineT d m s p).length ≤ 17 + wP p + 2 * s.length := by
  have h1 := pt_len p
  have h2 := dec_len_int m h
  have h3 := dataT_len s
  unfold lineT
  cases d <;> simp only [cond_true, cond_false, List.length_append, List.length_cons, List.length_nil] <;> omega
theorem sl1Line_n_ok (d : Bool) (m : Int) (s : Str) (p : List Str) (h0 : 0 ≤ m) (h1 : m ≤ 1000000) (hp : wP p ≤ 1048576) (hs : s.length ≤ 1048576) :
    sl1Line [vS (pt p), .g [.v (.bool d), .v (.int .i64 m), .v (.string (mkS s)), .v (.slice none 0 0), .v (.slice none 0 0)]] [] = rS (lineT d m s p) := by
  have e1 := pt_len p
  have e2 := dec_len_int m h1
  have e3 := dataT_len s
  have e4 := sl1Hex_ok s hs
  rw [sl1Line_n.e]
  unfold lineT
  cases d <;> simp (disch := omega) only [pvS, pvT, pvC, pvL, pvR, pvN, sl1Dec_int, e4]
theorem iTree_line_n_ok (d : Bool) (m : Int) (s : Str) (p : List Str) (h0 : 0 ≤ m) (h1 : m ≤ 1000000) (hp : wP p ≤ 1048576) (hs : s.length ≤ 1048576) :
    iTree_line [.g [.v (.bool d), .v (.int .i64 m), .v (.string (mkS s)), .v (.slice none 0 0), .v (.slice none 0 0)], vP p] [] = rS (lineT d m s p) := by
  have e1 := pt_len p
  have e2 := dec_len_int m h1
  have e3 := dataT_len s
  have e4 := idataText_ok s hs
  have e5 := ipathText_ok p hp
  have e6 := strconv_Itoa_ok m.toNat (by omega)
  rw [show ((m.toNat : Nat) : Int) = m by omega] at e6
  rw [iTree_line_n.e]
  unfold lineT
  cases d <;> simp (disch := omega) only [pvS, pvT, pvC, pvL, pvR, pvN, e4, e5, e6]
def putB (e : Entry) : Bool := e.what == 2 && bif e.path == [] then e.dir && (e.data == [] && inB e.mode 0 7) else entB e
def putL (e : Entry) : Str := lineT e.dir e.mode e.data e.path
def goneL (g : List Str) : Str := [104, 105, 100, 101, 32] ++ pt g ++ [10]
def fin2 : Str → List Entry → Str
  | acc, [] => if acc.length ≤ 4000 then acc else []
  | acc, e :: es => if putB e = true then fin2 (acc ++ putL e) es else []
def fin1 (es : List Entry) : Str → List (List Str) → Str
  | acc, [] => fin2 acc es
  | acc, g :: gs => if pathB 1 g = true then fin1 es (acc ++ goneL g) gs else []
def upT (u : Upper) : Str := fin1 u.puts [] u.gone
theorem putB_mode {e : Entry} (h : putB e = true) : 0 ≤ e.mode ∧ e.mode ≤ 7 := by
  unfold putB entB inB at h
  grind
theorem putL_len (e : Entry) (h : putB e = true) : (putL e).length ≤ 20 + 20 * wE e := by
  have := lineT_len e.dir e.mode e.data e.path (by have := (putB_mode h).2; omega)
  unfold putL wE
  omega
theorem goneL_len (g : List Str) : (goneL g).length ≤ 20 + 20 * wP g := by
  have := pt_len g
  unfold goneL
  simp only [List.length_append, List.length_cons, List.length_nil]
  omega
end Go.PVx
namespace Go.PVx
open Go.PV Go.Proofs
theorem sUpperWrite.put (e : Entry) (h : OE e) (l : List Entry) (gs : List (List D)) (k : Nat) (hk : k < l.length) (he : l[k] = e) (hl : l.length ≤ 9223372036854775807) (acc : Str) :
    sUpperWrite.L9 (mkS acc) (k : Int) gs (l.map eE) = sUpperWrite.P13 (mkS acc) (k : Int) (!putB e) gs (l.map eE) (eSs e.path) e.what e.dir e.mode (mkS e.data) := by
  have h1 := sl3EntryOk_ok e h
  have hd := h.path.1
  have hd2 := h.data
  obtain ⟨p, w, d, m, s⟩ := e
  unfold sS at hd2
  simp only at h1 hd hd2
  rw [sUpperWrite.s9]
  unfold putB
  by_cases hw : w = 2
  · subst hw
    by_cases hp : p = []
    · subst hp
      simp (disch := omega) only [pvS, pvT, pvC, pvL, pvR, pvN, entry_at hk, he, List.map_nil, sl1In_ok]
      cases d <;> cases hs : (s == []) <;> simp [hs]
    · have : 0 < p.length := List.length_pos_iff.2 hp
      have hp' : (p == []) = false := by simpa using hp
      simp (disch := omega) only [pvS, pvT, pvC, pvL, pvR, pvN, entry_at hk, he, h1, hp']
      generalize entB ⟨p, 2, d, m, s⟩ = bb
      cases bb <;> simp only [pvL]
  · have hw' : (w == 2) = false := by simpa using hw
    simp (disch := omega) only [pvS, pvT, pvC, pvL, pvR, pvN, entry_at hk, he, hw']
theorem sUpperWrite.l9 (u : Upper) (h : OU u) (hw : wU u ≤ 1048576) : ∀ k, k ≤ u.puts.length → ∀ acc : Str, acc.length + 20 * wL wE (u.puts.drop k) ≤ 100000000 →
    (sUpperWrite.L9 (mkS acc) (k : Int) (u.gone.map ePa) (u.puts.map eE)).bind sUpperWrite.A9 = rS (fin2 acc (u.puts.drop k)) := by
  have hl := h.puts.1
  refine up u.puts.length ?_ fun k hk ih acc hacc => ?_
  · intro acc hacc
    rw [sUpperWrite.s9]
    simp (disch := omega) only [pvS, pvT, pvC, pvL, pvR, pvN, sUpperWrite.a9x9, List.drop_length, fin2]
    by_cases h4 : acc.length ≤ 4000
    · rw [if_pos h4]; simp (disch := omega) only [pvL, pvN]
    · rw [if_neg h4]; simp (disch := omega) only [pvL, pvN, pvC]
  · have hd := drop_cons u.puts k hk
    rw [hd] at hacc ⊢
    simp only [wL] at hacc
    have hE := h.puts.2 _ (List.getElem_mem hk)
    have hwE := wL_at wE hk
    unfold wU at hw
    rw [sUpperWrite.put _ hE u.puts _ k hk rfl hl acc, sUpperWrite.p13]
    generalize u.puts[k] = e at *
    cases hp : putB e with
    | false => simp (disch := omega) only [pvC, pvL, fin2, hp, sUpperWrite.a9q9, if_false, Bool.false_eq_true]
    | true =>
      have h5 := putL_len e hp
      have h6 := putB_mode hp
      have hwe : wE e = wP e.path + e.data.length := rfl
      have ih' := ih (acc ++ putL e) (by rw [List.length_append]; omega)
      have h3 := sl3Name_ok e.path (by omega)
      have h4 := sl1Line_n_ok e.dir e.mode e.data e.path (by omega) (by omega) (by omega) (by omega)
      unfold putL at h5 ih'
      simp (disch := omega) only [pvS, pvC, pvL, pvN, sUpperWrite.p14, h3, h4, fin2, hp, if_true, putL, ih']
theorem sUpperWrite.l3 (u : Upper) (h : OU u) (hw : wU u ≤ 1048576) : ∀ k, k ≤ u.gone.length → ∀ acc : Str, acc.length + 20 * wL wP (u.gone.drop k) + 20 * wL wE u.puts ≤ 100000000 →
    (sUpperWrite.L3 (mkS acc) (k : Int) (u.gone.map ePa) (u.puts.map eE)).bind sUpperWrite.A3 = rS (fin1 u.puts acc (u.gone.drop k)) := by
  have hl := h.gone.1
  refine up u.gone.length ?_ fun k hk ih acc hacc => ?_
  · intro acc hacc
    rw [sUpperWrite.s3]
    have := sUpperWrite.l9 u h hw 0 (by omega) acc (by rw [List.drop_length] at hacc; simp only [wL] at hacc; rw [List.drop_zero]; omega)
    rw [List.drop_zero] at this
    simp (disch := omega) only [pvS, pvT, pvC, pvL, pvR, pvN, sUpperWrite.a3x3, List.drop_length, fin1]
    exact this
  · have hd := drop_cons u.gone k hk
    rw [hd] at hacc ⊢
    simp only [wL] at hacc
    have hE := h.gone.2 _ (List.getElem_mem hk)
    have hwE := wL_at wP hk
    unfold wU at hw
    have h1 := sl2PathOk_ok _ hE
    have h3 := sl3Name_ok u.gone[k] (by omega)
    have h5 := goneL_len u.gone[k]
    have hpt := pt_len u.gone[k]
    rw [sUpperWrite.s3]
    simp (disch := omega) only [pvS, pvT, pvC, pvL, pvR, pvN, paths_at hk, h1, h3]
    generalize u.gone[k] = g at *
    cases hp : pathB 1 g with
    | false => simp (disch := omega) only [pvC, pvL, fin1, hp, sUpperWrite.a3q3, if_false, Bool.false_eq_true]
    | true =>
      have ih' := ih (acc ++ goneL g) (by rw [List.length_append]; omega)
      have e : acc ++ [104, 105, 100, 101, 32] ++ pt g ++ [10] = acc ++ goneL g := by simp [goneL]
      simp (disch := omega) only [pvS, pvC, pvL, pvN, fin1, hp, if_true, e, ih']
theorem sUpperWrite_ok (u : Upper) (h : OU u) (hw : wU u ≤ 1048576) : sUpperWrite [vU u] [] = rS (upT u) := by
  have := sUpperWrite.l3 u h hw 0 (by omega) [] (by unfold wU at hw; rw [List.drop_zero]; simp only [List.length_nil]; omega)
  rw [List.drop_zero] at this
  rw [sUpperWrite.e]
  exact this
end Go.PVx
namespace Go.PVx
open Go.PV Go.Proofs
theorem bwrite (a s : Str) (h : a.length + s.length ≤ 140737488355328) : strings_Builder_WriteString [.one (.p true 0 [] 0), vS s] [⟨.bld 170 5, [.v (.string (mkS a)), .h], [.deep, .deep]⟩] =
    some ⟨[.v (.int .i64 s.length), .d], [⟨.bld 170 5, [.v (.string (mkS (a ++ s))), .h], [.deep, .deep]⟩]⟩ := by
  rw [strings_Builder_WriteString.ext]
  unfold extBWrite
  simp (disch := omega) only [pvC, pvL, pvN]
theorem blen (a : Str) : strings_Builder_Len [.one (.p true 0 [] 0)] [⟨.bld 170 5, [.v (.string (mkS a)), .h], [.deep, .deep]⟩] =
    some ⟨[.v (.int .i64 a.length)], [⟨.bld 170 5, [.v (.string (mkS a)), .h], [.deep, .deep]⟩]⟩ := by
  rw [strings_Builder_Len.ext]
  unfold extBLen
  simp (disch := omega) only [pvC, pvL, pvN]
theorem bstring (a : Str) : strings_Builder_String [.one (.p true 0 [] 0)] [⟨.bld 170 5, [.v (.string (mkS a)), .h], [.deep, .deep]⟩] =
    some ⟨[.v (.string (mkS a))], [⟨.bld 170 5, [.v (.string (mkS a)), .h], [.deep, .deep]⟩]⟩ := by
  rw [strings_Builder_String.ext]
  unfold extBString
  simp (disch := omega) only [pvC, pvL, pvN]
theorem iUpperWrite.put (e : Entry) (h : OE e) (l : List Entry) (k : Nat) (hk : k < l.length) (he : l[k] = e) (hl : l.length ≤ 9223372036854775807) (acc : Str) :
    iUpperWrite.L10 (l.map eE) (l.length : Int) (k : Int) (mkS acc) = iUpperWrite.P14 (l.map eE) (l.length : Int) (k : Int) (!putB e) (mkS acc) (eSs e.path) e.what e.dir e.mode (mkS e.data) := by
  have h1 := ientryOk_ok e h
  have hd := h.path.1
  have hd2 := h.data
  obtain ⟨p, w, d, m, s⟩ := e
  unfold sS at hd2
  simp only at h1 hd hd2
  rw [iUpperWrite.s10]
  unfold putB
  by_cases hp : p = []
  · subst hp
    have h1' : ientryOk [.g [.s [], .v (.int .i64 w), .v (.bool d), .v (.int .i64 m), .v (.string (mkS s))]] [] = rB (entB ⟨[], w, d, m, s⟩) := h1
    have h2 : w = 2 → entB ⟨[], w, d, m, s⟩ = false := fun hw => by
      subst hw
      unfold entB
      simp [pathB_nil1]
    simp (disch := omega) only [pvS, pvT, pvC, pvL, pvR, pvN, entry_at hk, he, List.map_nil, imodeOk_ok, iUpperWrite.p13, h1']
    by_cases hw : w = 2
    · subst hw
      have h2 := h2 rfl
      have e22 : ((2 : Int) == 2) = true := by simp
      have e23 : ((2 : Int) != 2) = false := by simp
      have hn : (([] : List Str) == []) = true := by simp
      simp only [h2, e22, e23, hn]
      generalize inB m 0 7 = y
      cases d
      · simp only [pvL]
      · cases hs : (s == []) <;> cases y <;> simp only [pvL]
    · have hw' : (w == 2) = false := by simpa using hw
      have hw2 : (w != 2) = true := by simpa using hw
      simp (disch := omega) only [pvC, pvL, pvN, hw', hw2]
      generalize entB ⟨[], w, d, m, s⟩ = bb
      cases bb <;> simp only [pvL]
  · have : 0 < p.length := List.length_pos_iff.2 hp
    have hp' : (p == []) = false := by simpa using hp
    simp (disch := omega) only [pvS, pvT, pvC, pvL, pvR, pvN, entry_at hk, he, h1, hp', iUpperWrite.p13]
    by_cases hw : w = 2
    · subst hw
      generalize entB ⟨p, 2, d, m, s⟩ = bb
      have e22 : ((2 : Int) != 2) = false := by simp
      cases bb <;> simp only [pvL, e22]
    · have hw' : (w == 2) = false := by simpa using hw
      have hw2 : (w != 2) = true := by simpa using hw
      simp only [hw', hw2]
      generalize entB ⟨p, w, d, m, s⟩ = bb
      cases bb <;> simp only [pvL]
theorem iUpperWrite.l10 (u : Upper) (h : OU u) (hw : wU u ≤ 1048576) : ∀ k, k ≤ u.puts.length → ∀ acc : Str, acc.length + 20 * wL wE (u.puts.drop k) ≤ 100000000 →
    (iUpperWrite.L10 (u.puts.map eE) (u.puts.length : Int) (k : Int) (mkS acc)).bind iUpperWrite.A10 = rS (fin2 acc (u.puts.drop k)) := by
  have hl := h.puts.1
  refine up u.puts.length ?_ fun k hk ih acc hacc => ?_
  · intro acc hacc
    rw [iUpperWrite.s10]
    simp (disch := omega) only [pvS, pvT, pvC, pvL, pvR, pvN, pvO, iUpperWrite.a10x10, List.drop_length, fin2, blen, bstring]
    by_cases h4 : acc.length ≤ 4000
    · rw [if_pos h4]; simp (disch := omega) only [pvL, pvN, pvC]
    · rw [if_neg h4]; simp (disch := omega) only [pvL, pvN, pvC]
  · have hd := drop_cons u.puts k hk
    rw [hd] at hacc ⊢
    simp only [wL] at hacc
    have hE := h.puts.2 _ (List.getElem_mem hk)
    have hwE := wL_at wE hk
    unfold wU at hw
    rw [iUpperWrite.put _ hE u.puts k hk rfl hl acc, iUpperWrite.p14]
    generalize u.puts[k] = e at *
    cases hp : putB e with
    | false => simp (disch := omega) only [pvC, pvL, fin2, hp, iUpperWrite.a10q10, if_false, Bool.false_eq_true]
    | true =>
      have h5 := putL_len e hp
      have h6 := putB_mode hp
      have hwe : wE e = wP e.path + e.data.length := rfl
      have ih' := ih (acc ++ putL e) (by rw [List.length_append]; omega)
      have h4 := iTree_line_n_ok e.dir e.mode e.data e.path (by omega) (by omega) (by omega) (by omega)
      unfold putL at h5 ih'
      have h7 := bwrite acc (lineT e.dir e.mode e.data e.path) (by omega)
      simp (disch := omega) only [pvS, pvC, pvL, pvN, pvO, iUpperWrite.p15, h4, h7, fin2, hp, if_true, putL, ih']
theorem iUpperWrite.l3 (u : Upper) (h : OU u) (hw : wU u ≤ 1048576) : ∀ k, k ≤ u.gone.length → ∀ acc : Str, acc.length + 20 * wL wP (u.gone.drop k) + 20 * wL wE u.puts ≤ 100000000 →
    (iUpperWrite.L3 (u.gone.map ePa) (u.gone.length : Int) (k : Int) (u.gone.map ePa) (u.puts.map eE) (mkS acc)).bind iUpperWrite.A3 = rS (fin1 u.puts acc (u.gone.drop k)) := by
  have hl := h.gone.1
  refine up u.gone.length ?_ fun k hk ih acc hacc => ?_
  · intro acc hacc
    rw [iUpperWrite.s3]
    have := iUpperWrite.l10 u h hw 0 (by omega) acc (by rw [List.drop_length] at hacc; simp only [wL] at hacc; rw [List.drop_zero]; omega)
    rw [List.drop_zero] at this
    simp (disch := omega) only [pvS, pvT, pvC, pvL, pvR, pvN, iUpperWrite.a3x3, List.drop_length, fin1]
    exact this
  · have hd := drop_cons u.gone k hk
    rw [hd] at hacc ⊢
    simp only [wL] at hacc
    have hE := h.gone.2 _ (List.getElem_mem hk)
    have hwE := wL_at wP hk
    unfold wU at hw
    have h1 := inamesOk_ok _ hE 1
    have h3 := ipathText_ok u.gone[k] (by omega)
    have h5 := goneL_len u.gone[k]
    have hpt := pt_len u.gone[k]
    rw [iUpperWrite.s3]
    simp (disch := omega) only [pvS, pvT, pvC, pvL, pvR, pvN, paths_at hk, h1, h3]
    generalize u.gone[k] = g at *
    cases hp : pathB 1 g with
    | false => simp (disch := omega) only [pvC, pvL, fin1, hp, iUpperWrite.a3q3, if_false, Bool.false_eq_true]
    | true =>
      have ih' := ih (acc ++ goneL g) (by rw [List.length_append]; omega)
      have e : [104, 105, 100, 101, 32] ++ pt g ++ [10] = goneL g := rfl
      have h7 := bwrite acc (goneL g) (by omega)
      simp (disch := omega) only [pvS, pvC, pvL, pvN, pvO, fin1, hp, if_true, e, h7, ih']
theorem iUpperWrite_ok (u : Upper) (h : OU u) (hw : wU u ≤ 1048576) : iUpperWrite [vU u] [] = rS (upT u) := by
  have := iUpperWrite.l3 u h hw 0 (by omega) [] (by unfold wU at hw; rw [List.drop_zero]; simp only [List.length_nil]; omega)
  rw [List.drop_zero] at this
  rw [iUpperWrite.e]
  simp only [List.length_map]
  exact this
end Go.PVx
namespace Go.PVx
open Go.PV Go.Proofs
def cutAt (b : UInt8) : Str → List Str
  | [] => [[]]
  | c :: s => if c = b then [] :: cutAt b s else ((c :: (cutAt b s).headD []) :: (cutAt b s).tail)
theorem cutAt_ne (b : UInt8) : ∀ s, cutAt b s ≠ []
  | [] => by simp [cutAt]
  | c :: s => by unfold cutAt; split <;> simp
theorem cutAt_cons (b : UInt8) (s : Str) : cutAt b s = (cutAt b s).headD [] :: (cutAt b s).tail := by
  cases h : cutAt b s with
  | nil => exact absurd h (cutAt_ne b s)
  | cons x l => rfl
theorem index_one_nil (b : UInt8) : Lib.index [] [b] = -1 := rfl
theorem index_one_eq (b : UInt8) (s : Str) : Lib.index (b :: s) [b] = 0 := by simp [Lib.index]
theorem index_one_ne (b c : UInt8) (s : Str) (h : c ≠ b) : Lib.index (c :: s) [b] = if Lib.index s [b] == -1 then -1 else Lib.index s [b] + 1 := by
  have : ([b] : List UInt8).isPrefixOf (c :: s) = false := by show ((b == c) && _) = false; rw [beq_eq_false_iff_ne.2 (Ne.symm h)]; rfl
  simp only [Lib.index, this]
  rfl
theorem splitK_one (b : UInt8) : ∀ (s : Str), Lib.splitK [b] 0 (Lib.count s [b]) s = cutAt b s
  | [] => by
    rw [Lib.count_miss (index_one_nil b)]
    rfl
  | c :: s => by
    have ih := splitK_one b s
    by_cases h : c = b
    · subst h
      rw [Lib.count_cons_eq, Nat.add_comm, Lib.splitK, index_one_eq]
      simp only [cutAt, if_true]
      rw [if_neg (by decide)]
      have : List.drop ((0 : Int).toNat + [c].length) (c :: s) = s := rfl
      rw [this, ih]
      rfl
    · rw [Lib.count_cons_ne c b s h]
      have hi := index_one_ne b c s h
      cases hc : Lib.count s [b] with
      | zero =>
        rw [hc] at ih
        have h1 : Lib.splitK [b] 0 0 s = [s] := rfl
        rw [h1] at ih
        rw [cutAt, if_neg h, ← ih]
        rfl
      | succ k =>
        rw [hc] at ih
        have hne : Lib.index s [b] ≠ -1 := fun h0 => by rw [Lib.count_miss h0] at hc; exact absurd hc (by simp)
        have hge := Lib.index_ge s [b]
        obtain ⟨i, hi0⟩ : ∃ i : Nat, Lib.index s [b] = i := ⟨(Lib.index s [b]).toNat, by omega⟩
        rw [hi0] at hi hne
        have hb : ((i : Int) == -1) = false := beq_eq_false_iff_ne.2 hne
        rw [hb] at hi
        rw [cutAt, if_neg h, ← ih, Lib.splitK, Lib.splitK, hi, hi0, hb]
        have hb2 : (((i : Int) + 1) == -1) = false := beq_eq_false_iff_ne.2 (by omega)
        simp only [Bool.false_eq_true, if_false, hb2]
        have e1 : ((i : Int) + 1).toNat = i + 1 := by omega
        simp only [e1, Int.toNat_natCast, List.headD_cons, List.tail_cons, List.length_cons, List.length_nil, Nat.add_zero, Nat.zero_add]
        rw [show i + 1 + 1 = (i + 1) + 1 from rfl, List.take_succ_cons, List.drop_succ_cons]
theorem splitB_one (b : UInt8) (s : Str) : Lib.splitB (mkS [b]) 0 (Lib.countB (mkS s) (mkS [b])) (mkS s) = (cutAt b s).map mkS := by
  have h1 := Lib.splitB_data (mkS [b]) 0 (Lib.countB (mkS s) (mkS [b])) (mkS s)
  have h2 : Lib.countB (mkS s) (mkS [b]) = Lib.count s [b] := rfl
  have h3 : (mkS s).data.toList = s := by simp
  have h4 : (mkS [b]).data.toList = [b] := rfl
  rw [h3, h4, h2, splitK_one] at h1
  rw [h2, ← h1, List.map_map]
  have : (mkS ∘ fun x : ByteArray => x.data.toList) = id := by funext x; exact mkS_of x
  rw [this, List.map_id]
theorem strings_Split_ok (s : Str) (b : UInt8) (hs : s.length ≤ 1048576) : strings_Split [vS s, vS [b]] [] = some ⟨[.o .deep (eSs (cutAt b s))], []⟩ := by
  rw [strings_Split.ext]
  have e1 : decide ((mkS s).size < 4294967281) = true := by simp; omega
  have e2 : decide (1 ≤ (mkS [b]).size) = true := rfl
  simp only [extSplit, e1, e2, Bool.and_self, cond_true, splitB_one]
  simp [eSs, eS, List.map_map, Function.comp_def]
theorem cutAt_len (b : UInt8) : ∀ s : Str, (cutAt b s).length ≤ s.length + 1
  | [] => by simp [cutAt]
  | c :: s => by
    have := cutAt_len b s
    unfold cutAt
    split
    · simp; omega
    · simp; omega
theorem cutAt_pos (b : UInt8) (s : Str) : 1 ≤ (cutAt b s).length := by
  rw [cutAt_cons]; simp
theorem ilinesOf_ok (s : Str) (hs : s.length ≤ 1048576) : ilinesOf [vS s] [] = some ⟨[.s (eSs (cutAt 10 s).dropLast)], []⟩ := by
  rw [ilinesOf.e]
  have h := strings_Split_ok s 10 hs
  have b1 : (ByteArray.mk #[10]) = mkS [10] := rfl
  have hl := cutAt_len 10 s
  have hp := cutAt_pos 10 s
  have hw : IntKind.i64.wrap (((cutAt 10 s).length : Int) - 1) = (((cutAt 10 s).length - 1 : Nat) : Int) := by rw [wrap_in _ (by omega)]; omega
  rw [b1, h]
  simp only [Option.bind_some, List.getD_cons_zero, TC.es, List.length_map, hw]
  have e2 : decide ((((cutAt 10 s).length - 1 : Nat) : Int) ≤ ((cutAt 10 s).length : Int)) = true := by simp
  have e3 : decide ((none : Option Int).getD 0 ≤ (((cutAt 10 s).length - 1 : Nat) : Int)) = true := by simp
  simp only [e2, e3, Bool.and_self, cond_true, Int.toNat_natCast]
  simp [fitsCells, List.dropLast_eq_take, eSs, List.map_take]
def glue (p : Str) (l : List Str) : List Str := (p ++ l.headD []) :: l.tail
theorem sl1Cut_ok (s : Str) (b : UInt8) (hs : s.length ≤ 1048576) : sl1Cut [vS s, .one (.v (.int .u8 b.toNat))] [] = some ⟨[.o .deep (eSs (cutAt b s))], []⟩ := by
  have key : ∀ i, i ≤ s.length → ∀ (f : Nat) (acc : List Str), f ≤ i → acc.length ≤ f → (sl1Cut.L4 (mkS s) b.toNat (f : Int) (i : Int) (eSs acc)).bind sl1Cut.A4 = some ⟨[.o .deep (eSs (acc ++ glue ((s.take i).drop f) (cutAt b (s.drop i))))], []⟩ := by
    have rl : ∀ l : List Str, rowsLen 1 (eSs l) = true := fun l => by simp [rowsLen, eSs, eS]
    have sn : ∀ (l : List Str) (x : Str), eSs l ++ [[D.v (.string (mkS x))]] = eSs (l ++ [x]) := fun l x => by simp [eSs, eS]
    refine up s.length ?_ fun i hi ih => ?_
    · intro f acc hf ha
      rw [sl1Cut.s4]
      have e1 : decide (((f : Nat) : Int) ≤ (s.length : Int)) = true := by simp; omega
      have e2 : decide ((acc.length + 1) * 17 ≤ 70368744177664) = true := by simp; omega
      have e3 : (eSs acc).length = acc.length := by simp
      simp only [size_mkS, Int.lt_irrefl, decide_false, cond_false, Option.bind_some, sl1Cut.a4x4, e1, e2, e3, rl, Int.toNat_natCast, extract_mkS]
      simp [sn, glue, cutAt]
    · intro f acc hf ha
      have hb : (s.drop i) = s[i] :: s.drop (i + 1) := drop_cons s i hi
      have hw : IntKind.i64.wrap ((i : Int) + 1) = ((i + 1 : Nat) : Int) := wrap_nat i (by omega)
      have e1 : decide (((f : Nat) : Int) ≤ (i : Int)) = true := by simp; omega
      have e2 : decide ((acc.length + 1) * 17 ≤ 70368744177664) = true := by simp; omega
      have e3 : (eSs acc).length = acc.length := by simp
      have e4 : decide ((i : Int) < (s.length : Int)) = true := by simp; omega
      have e5 : decide ((i : Int) ≤ (s.length : Int)) = true := by simp; omega
      have e6 : decide ((0 : Int) ≤ (i : Int)) = true := by simp
      have e7 : decide ((0 : Int) ≤ (f : Int)) = true := by simp
      rw [sl1Cut.s4]
      simp only [size_mkS, e1, e2, e3, e4, e5, e6, e7, rl, Int.toNat_natCast, byteAt_lt s i hi, extract_mkS, hw, Bool.and_self, cond_true, sn]
      by_cases h : s[i] = b
      · have hbe : (((s[i].toNat : Nat) : Int) == ((b.toNat : Nat) : Int)) = true := by simp [h]
        rw [hbe, cond_true, ih (i + 1) _ (by omega) (by simp; omega)]
        have : cutAt b (s.drop i) = [] :: cutAt b (s.drop (i + 1)) := by rw [hb, cutAt, if_pos h]
        rw [this]
        have h0 : (s.take (i + 1)).drop (i + 1) = [] := by simp
        rw [h0]
        simp only [glue, List.headD_cons, List.tail_cons, List.append_nil, List.nil_append, List.append_assoc, List.cons_append]
        rw [← cutAt_cons]
      · have hbe : (((s[i].toNat : Nat) : Int) == ((b.toNat : Nat) : Int)) = false := by
          refine beq_eq_false_iff_ne.2 fun h1 => h (UInt8.toNat_inj.1 (by omega))
        rw [hbe, cond_false, ih f acc (by omega) ha]
        have : cutAt b (s.drop i) = (s[i] :: (cutAt b (s.drop (i + 1))).headD []) :: (cutAt b (s.drop (i + 1))).tail := by rw [hb, cutAt, if_neg h]
        rw [this]
        have h1 : (s.take (i + 1)).drop f = (s.take i).drop f ++ [s[i]] := by
          rw [take_snoc s i hi, List.drop_append_of_le_length (by simp; omega)]
        rw [h1]
        simp [glue]
  rw [sl1Cut.e]
  have := key 0 (by omega) 0 [] (by omega) (by simp)
  have h0 : (sl1Cut.L4 (mkS s) b.toNat 0 0 []).bind sl1Cut.A4 = _ := this
  rw [h0]
  simp only [glue, List.take_zero, List.drop_zero, List.drop_nil, List.nil_append]
  rw [← cutAt_cons]
end Go.PVx
namespace Go.PVx
open Go.PV Go.Proofs
theorem cutAt_at (b : UInt8) (y : Str) : ∀ x : Str, b ∉ x → cutAt b (x ++ b :: y) = x :: cutAt b y
  | [], _ => by simp [cutAt]
  | c :: x, h => by
    have hc : c ≠ b := fun e => h (by simp [e])
    have ih := cutAt_at b y x (fun e => h (by simp [e]))
    rw [List.cons_append, cutAt, if_neg hc, ih]
    rfl
theorem cutAt_no (b : UInt8) : ∀ x : Str, b ∉ x → cutAt b x = [x]
  | [], _ => rfl
  | c :: x, h => by
    have hc : c ≠ b := fun e => h (by simp [e])
    have ih := cutAt_no b x (fun e => h (by simp [e]))
    rw [cutAt, if_neg hc, ih]
    rfl
theorem cutAt_list (b : UInt8) : ∀ l : List Str, (∀ x ∈ l, b ∉ x) → cutAt b (l.map fun x => x ++ [b]).flatten = l ++ [[]]
  | [], _ => rfl
  | x :: l, h => by
    have ih := cutAt_list b l fun y hy => h y (by simp [hy])
    rw [List.map_cons, List.flatten_cons, List.append_assoc, List.singleton_append, cutAt_at b _ x (h x (by simp)), ih]
    rfl
theorem cutAt_tail : ∀ p : List Str, p ≠ [] → (∀ x ∈ p, (47 : UInt8) ∉ x) → cutAt 47 (Lib.joinTail [47] p) = [] :: p
  | [], h, _ => absurd rfl h
  | [x], _, h => by
    have : Lib.joinTail [47] [x] = [] ++ 47 :: x := by simp [Lib.joinTail]
    rw [this, cutAt_at 47 x [] (by simp), cutAt_no 47 x (h x (by simp))]
  | x :: y :: p, _, h => by
    have ih := cutAt_tail (y :: p) (by simp) fun z hz => h z (by simp only [List.mem_cons] at hz ⊢; exact .inr hz)
    have e1 : Lib.joinTail [47] (x :: y :: p) = [] ++ 47 :: (x ++ Lib.joinTail [47] (y :: p)) := by simp [Lib.joinTail]
    have e2 : Lib.joinTail [47] (y :: p) = 47 :: (y ++ Lib.joinTail [47] p) := by simp [Lib.joinTail]
    have e3 : cutAt 47 (y ++ Lib.joinTail [47] p) = y :: p := by
      have := ih
      rw [e2] at this
      rw [cutAt, if_pos rfl] at this
      exact (List.cons.inj this).2
    rw [e1, cutAt_at 47 _ [] (by simp), e2, cutAt_at 47 _ x (h x (by simp)), e3]
theorem okc_ne {b : UInt8} (h : okc b = true) : b ≠ 10 ∧ b ≠ 32 ∧ b ≠ 47 := by
  refine ⟨?_, ?_, ?_⟩ <;> (rintro rfl; simp [okc] at h)
theorem name_no {s : Str} (h : nameB s = true) : (10 : UInt8) ∉ s ∧ (32 : UInt8) ∉ s ∧ (47 : UInt8) ∉ s := by
  simp only [nameB, Bool.and_eq_true, List.all_eq_true] at h
  exact ⟨fun e => (okc_ne (h.1 _ e)).1 rfl, fun e => (okc_ne (h.1 _ e)).2.1 rfl, fun e => (okc_ne (h.1 _ e)).2.2 rfl⟩
theorem dec_digit (n : Nat) : ∀ c ∈ dec n, 48 ≤ c.toNat ∧ c.toNat ≤ 57 := by
  induction n using Nat.strongRecOn with
  | _ n ih =>
    intro c hc
    unfold dec at hc ih
    rw [Lib.decDigits] at hc
    split at hc
    · rename_i h
      simp only [List.mem_singleton] at hc
      subst hc
      rw [UInt8.toNat_ofNat']
      omega
    · rename_i h
      rcases List.mem_append.1 hc with h1 | h1
      · exact ih (n / 10) (by omega) c h1
      · simp only [List.mem_singleton] at h1
        subst h1
        rw [UInt8.toNat_ofNat']
        omega
theorem dec_no (n : Nat) : (10 : UInt8) ∉ dec n ∧ (32 : UInt8) ∉ dec n ∧ (47 : UInt8) ∉ dec n := by
  refine ⟨fun h => ?_, fun h => ?_, fun h => ?_⟩ <;> (have := dec_digit n _ h; simp at this)
theorem tail_no (b : UInt8) (hb : b ≠ 47) : ∀ p : List Str, (∀ x ∈ p, b ∉ x) → b ∉ Lib.joinTail [47] p
  | [], _ => by simp [Lib.joinTail]
  | x :: p, h => by
    have ih := tail_no b hb p fun y hy => h y (by simp [hy])
    have : Lib.joinTail [47] (x :: p) = 47 :: (x ++ Lib.joinTail [47] p) := by simp [Lib.joinTail]
    rw [this]
    simp only [List.mem_cons, List.mem_append, not_or]
    exact ⟨hb, h x (by simp), ih⟩
def valS : Int → Str → Int
  | a, [] => a
  | a, c :: r => if (c.toNat : Int) < 48 ∨ (c.toNat : Int) > 57 then -1 else valS (a * 10 + ((c.toNat : Int) - 48)) r
def numS (s : Str) : Int := if inB s.length 1 5 = false ∨ (1 < s.length ∧ s.headD 0 = 48) then -1 else valS 0 s
end Go.PVx
namespace Go.PVx
open Go.PV Go.Proofs
def digN (a : Nat) (l : Str) : Nat := l.foldl (fun a c => a * 10 + (c.toNat - 48)) a
theorem dec_small {n : Nat} (h : n < 10) : dec n = [UInt8.ofNat (48 + n)] := by
  unfold dec; rw [Lib.decDigits, dif_pos h]
theorem dec_big {n : Nat} (h : ¬ n < 10) : dec n = dec (n / 10) ++ [UInt8.ofNat (48 + n % 10)] := by
  show Lib.decDigits n = Lib.decDigits (n / 10) ++ _
  rw [Lib.decDigits, dif_neg h]
theorem digN_dec (n : Nat) : digN 0 (dec n) = n := by
  induction n using Nat.strongRecOn with
  | _ n ih =>
    by_cases h : n < 10
    · rw [dec_small h]
      simp only [digN, List.foldl_cons, List.foldl_nil, UInt8.toNat_ofNat']
      omega
    · have := ih (n / 10) (by omega)
      rw [dec_big h]
      unfold digN at this ⊢
      rw [List.foldl_append, this]
      simp only [List.foldl_cons, List.foldl_nil, UInt8.toNat_ofNat']
      omega
theorem dec_len5 (n : Nat) (h : n ≤ 99999) : 1 ≤ (dec n).length ∧ (dec n).length ≤ 5 := by
  have key : ∀ (k m : Nat), m < 10 ^ (k + 1) → 1 ≤ (dec m).length ∧ (dec m).length ≤ k + 1 := by
    intro k
    induction k with
    | zero => intro m hm; rw [dec_small (by simpa using hm)]; simp
    | succ k ih =>
      intro m hm
      by_cases h10 : m < 10
      · rw [dec_small h10]; simp
      · have := ih (m / 10) (by rw [Nat.pow_succ] at hm; omega)
        rw [dec_big h10]
        simp only [List.length_append, List.length_cons, List.length_nil]
        omega
  exact key 4 n (by omega)
theorem parse_dig : ∀ (l : Str) (a : Nat), (∀ c ∈ l, 48 ≤ c.toNat ∧ c.toNat ≤ 57) → (a + 1) * 10 ^ l.length ≤ 10 ^ 18 → Lib.parseUint10 a l = .ok (digN a l) ∧ digN a l < 10 ^ 18
  | [], a, _, h => ⟨rfl, by simp only [digN, List.foldl_nil, List.length_nil, Nat.pow_zero, Nat.mul_one] at h ⊢; omega⟩
  | c :: l, a, hd, h => by
    have hc := hd c (by simp)
    have h10 : 1 ≤ 10 ^ l.length := Nat.pow_pos (by omega)
    rw [List.length_cons, Nat.pow_succ] at h
    have h3 : (a * 10 + (c.toNat - 48) + 1) * 10 ^ l.length ≤ 10 ^ 18 := by
      refine Nat.le_trans (Nat.mul_le_mul_right _ (show a * 10 + (c.toNat - 48) + 1 ≤ (a + 1) * 10 by omega)) ?_
      rw [Nat.mul_assoc, Nat.mul_comm 10]; exact h
    have h4 : a * 10 + (c.toNat - 48) + 1 ≤ 10 ^ 18 := by
      refine Nat.le_trans ?_ h3
      exact Nat.le_mul_of_pos_right _ h10
    obtain ⟨h5, h6⟩ := parse_dig l (a * 10 + (c.toNat - 48)) (fun d hd' => hd d (by simp [hd'])) h3
    have e : digN a (c :: l) = digN (a * 10 + (c.toNat - 48)) l := rfl
    rw [e, Lib.parseUint10, if_pos hc, if_neg (by omega), if_neg (by omega)]
    exact ⟨h5, h6⟩
theorem atoiN_dec (n : Nat) (h : n ≤ 99999) : atoiN (dec n) = n := by
  have hl := dec_len5 n h
  have hd := dec_digit n
  obtain ⟨h1, h2⟩ := parse_dig (dec n) 0 hd (by
    refine Nat.le_trans (Nat.mul_le_mul_left _ (Nat.pow_le_pow_right (by omega) (show (dec n).length ≤ 18 by omega))) ?_
    omega)
  rw [digN_dec] at h1
  cases hx : dec n with
  | nil => rw [hx] at hl; simp at hl
  | cons c r =>
    have hc := hd c (by rw [hx]; simp)
    have h3 : Lib.atoiAll (c :: r) = .ok (n : Int) := by
      rw [hx] at h1
      rw [Lib.atoiAll_plain c r (by omega) (by omega)]
      have hm : Lib.parseMag (c :: r) = .ok n := by
        unfold Lib.parseMag
        rw [if_neg (by simp)]
        exact h1
      rw [hm]
      simp only [Lib.signless]
      rw [if_neg (by omega)]
    unfold atoiN
    rw [h3]
end Go.PVx
namespace Go.PVx
open Go.PV Go.Proofs
def pathI (s : Str) : List Str := if Lib.trimPrefix s [47] = [] then [] else cutAt 47 (Lib.trimPrefix s [47])
theorem pathI_pt (p : List Str) (h0 : p ≠ []) (hn : ∀ x ∈ p, nameB x = true) : pathI (pt p) = p := by
  have h1 := cutAt_tail p h0 fun x hx => (name_no (hn x hx)).2.2
  have h2 : pt p = Lib.joinTail [47] p := by unfold pt; rw [if_neg h0]
  obtain ⟨t, ht⟩ : ∃ t, Lib.joinTail [47] p = 47 :: t := by
    cases p with
    | nil => exact absurd rfl h0
    | cons x r => exact ⟨x ++ Lib.joinTail [47] r, by simp [Lib.joinTail]⟩
  rw [ht, cutAt, if_pos rfl] at h1
  have h1 := (List.cons.inj h1).2
  have h3 : Lib.trimPrefix (pt p) [47] = t := by
    rw [h2, ht]
    simp [Lib.trimPrefix, Lib.hasPrefix]
  unfold pathI
  rw [h3, if_neg, h1]
  intro e
  rw [e] at h1
  have h4 : p = [[]] := h1.symm
  have := hn [] (by rw [h4]; simp)
  simp [nameB, inB] at this
def parseS : Nat → Int → List NodeOf → List Str → Option Nodes
  | _, nx, acc, [] => some ⟨nx, acc⟩
  | i, nx, acc, l :: ls =>
    if (cutAt 32 l).length ≠ 2 ∨ 30 < i then none
    else if i = 0 then parseS (i + 1) (numS ((cutAt 32 l).getD 1 [])) acc ls
    else parseS (i + 1) nx (acc ++ [⟨numS ((cutAt 32 l).getD 0 []), (cutAt 47 ((cutAt 32 l).getD 1 [])).drop 1⟩]) ls
def linesT (s : Str) : List Str := (cutAt 10 s).dropLast
def RS (s : Str) : Option Nodes := match parseS 0 0 [] (linesT s) with
  | some n => if okB n = true ∧ nodesText n = s then some n else none
  | none => none
theorem pathB_spec {p : List Str} (h : pathB 1 p = true) : p ≠ [] ∧ ∀ x ∈ p, nameB x = true := by
  simp only [pathB, Bool.and_eq_true, List.all_eq_true, inB_iff] at h
  exact ⟨fun e => by rw [e] at h; simp at h, h.1⟩
theorem pt_no (b : UInt8) (hb : b ≠ 47) {p : List Str} (h0 : p ≠ []) (h : ∀ x ∈ p, b ∉ x) : b ∉ pt p := by
  unfold pt
  rw [if_neg h0]
  exact tail_no b hb p h
end Go.PVx
namespace Go.PVx
open Go.PV Go.Proofs
theorem wL_cut (b : UInt8) : ∀ s : Str, wL List.length (cutAt b s) = s.length + 1
  | [] => rfl
  | c :: s => by
    have ih := wL_cut b s
    unfold cutAt
    split
    · simp only [wL, ih, List.length_nil, List.length_cons]; omega
    · rw [cutAt_cons b s] at ih
      simp only [wL, List.length_cons] at ih ⊢
      omega
theorem wL_dropLast {α : Type} (w : α → Nat) : ∀ l : List α, wL w l.dropLast ≤ wL w l - 1
  | [] => by simp [wL]
  | [x] => by simp [wL]
  | x :: y :: l => by
    have ih := wL_dropLast w (y :: l)
    simp only [List.dropLast_cons_cons, wL] at ih ⊢
    omega
theorem wL_lines (s : Str) : wL List.length (linesT s) ≤ s.length := by
  have h1 := wL_cut 10 s
  have h2 := wL_dropLast List.length (cutAt 10 s)
  unfold linesT
  omega
theorem oP_of {p : List Str} (h : wP p ≤ 1048576) : oP p := by
  unfold wP at h
  refine ⟨?_, fun x hx => ?_⟩
  · have := wL_len List.length p; omega
  · have := wL_mem List.length p x hx
    unfold sS
    omega
theorem trim_len (s p : Str) : (Lib.trimPrefix s p).length ≤ s.length := by
  unfold Lib.trimPrefix
  split
  · simp
  · exact Nat.le_refl _
theorem inumRead_ok (l : Str) (hl : l.length ≤ 1048576) : inumRead [vS l] [] = rI (atoiN l) := by
  have h : strconv_Atoi [vS l] [] = some ⟨[.v (.int .i64 (atoiN l)), .d], []⟩ := by
    rw [strconv_Atoi.ext]
    have e1 : decide ((mkS l).size ≤ 281474976710656) = true := by simp; omega
    have h3 : (mkS l).data.toList = l := by simp
    simp only [extAtoi, e1, cond_true, h3]
  rw [inumRead.e, h]
  rfl
theorem ipathRead_ok (l : Str) (hl : l.length ≤ 1048576) : ipathRead [vS l] [] = some ⟨[.o .deep (eSs (pathI l))], []⟩ := by
  have h : strings_TrimPrefix [vS l, vS [47]] [] = rS (Lib.trimPrefix l [47]) := by
    rw [strings_TrimPrefix.ext]
    have h3 : (mkS l).data.toList = l := by simp
    have h4 : (mkS [47]).data.toList = [47] := rfl
    simp only [extTrimPrefix, h3, h4]
    rfl
  have b1 : (ByteArray.mk #[47]) = mkS [47] := rfl
  have ht := trim_len l [47]
  have hS := strings_Split_ok (Lib.trimPrefix l [47]) 47 (by omega)
  rw [ipathRead.e, b1, h]
  unfold pathI
  by_cases h0 : Lib.trimPrefix l [47] = []
  · simp [h0]
  · have hi : (Lib.trimPrefix l [47]).isEmpty = false := by cases h : Lib.trimPrefix l [47] with
      | nil => exact absurd h h0
      | cons x r => rfl
    simp [h0, hS, hi, fitsCells, TC.es]
end Go.PVx
namespace Go.PVx
open Go.PV Go.Proofs
theorem wL_drop1 {α : Type} (w : α → Nat) (l : List α) : wL w (l.drop 1) ≤ wL w l := by
  cases l with
  | nil => simp
  | cons x l => simp [wL]
def finS (s : Str) : Option Nodes → Option Res
  | some n => if okB n = true ∧ nodesText n = s then some ⟨[.v (.int .i64 n.next), .o .deep (n.list.map eN), .v (.bool true)], []⟩ else some ⟨[.v (.int .i64 0), .o .deep [], .v (.bool false)], []⟩
  | none => some ⟨[.v (.int .i64 0), .o .deep [], .v (.bool false)], []⟩
theorem nthC {s : Str} {i : Nat} (h : i < (linesT s).length) : (eSs (cutAt 10 s)).getD i [] = [D.v (.string (mkS (linesT s)[i]))] := by
  have hl : (linesT s).length = (cutAt 10 s).length - 1 := by simp [linesT]
  have h2 : i < (cutAt 10 s).length := by omega
  rw [getD_map eS (cutAt 10 s) i h2]
  have : (linesT s)[i] = (cutAt 10 s)[i] := by simp [linesT]
  rw [this]
  rfl
theorem lenC (s : Str) : (cutAt 10 s).length = (linesT s).length + 1 := by
  have := cutAt_pos 10 s
  simp [linesT]
  omega
theorem cut32 (l : Str) (h : l.length ≤ 1048576) : sl1Cut [vS l, .one (.v (.int .u8 32))] [] = some ⟨[.o .deep (eSs (cutAt 32 l))], []⟩ := sl1Cut_ok l 32 h
theorem cut47 (l : Str) (h : l.length ≤ 1048576) : sl1Cut [vS l, .one (.v (.int .u8 47))] [] = some ⟨[.o .deep (eSs (cutAt 47 l))], []⟩ := sl1Cut_ok l 47 h
end Go.PVx
namespace Go.PVx
open Go.PV Go.Proofs
def nibV (x : Int) : Int := if 48 ≤ x ∧ x ≤ 57 then x - 48 else if 97 ≤ x ∧ x ≤ 102 then x - 87 else if 65 ≤ x ∧ x ≤ 70 then x - 55 else -1
def digV (x : Int) : Int := if 48 ≤ x ∧ x ≤ 57 then x - 48 else if 97 ≤ x ∧ x ≤ 102 then x - 87 else 99
theorem inibble_ok (x : Int) (h0 : 0 ≤ x) (h1 : x ≤ 255) : inibble [AV.one (A1.v (Value.int .u8 x))] [] = rI (nibV x) := by
  rw [inibble.e]
  unfold nibV
  by_cases a : 48 ≤ x <;> by_cases b : x ≤ 57 <;> by_cases c : 97 ≤ x <;> by_cases d : x ≤ 102 <;> by_cases e : 65 ≤ x <;> by_cases f : x ≤ 70 <;>
    first | omega | (simp (disch := omega) only [pvS, pvT, pvC, pvL, pvR, pvN, inibble.p2, inibble.p4, inibble.p6]; simp [a, b, c, d, e, f]; try omega)
theorem sl1Digit_ok (x : Int) (h0 : 0 ≤ x) (h1 : x ≤ 255) : sl1Digit [AV.one (A1.v (Value.int .u8 x))] [] = rI (digV x) := by
  rw [sl1Digit.e]
  unfold digV
  by_cases a : 48 ≤ x <;> by_cases b : x ≤ 57 <;> by_cases c : 97 ≤ x <;> by_cases d : x ≤ 102 <;>
    first | omega | (simp (disch := omega) only [pvS, pvT, pvC, pvL, pvR, pvN, sl1Digit.p2, sl1Digit.p4]; simp [a, b, c, d]; try omega)
theorem nibV_le (x : Int) : -1 ≤ nibV x ∧ nibV x ≤ 15 := by unfold nibV; (repeat' split) <;> omega
theorem digV_le (x : Int) : 0 ≤ digV x ∧ (digV x ≤ 15 ∨ digV x = 99) := by unfold digV; (repeat' split) <;> omega
def hx (a b : Int) : UInt8 := UInt8.ofNat (16 * a + b).toNat
theorem hx_row (a b : Int) (h : 0 ≤ 16 * a + b) (h2 : 16 * a + b ≤ 255) : [D.v (Value.int .u8 (16 * a + b))] = byteRow (hx a b) := by
  unfold byteRow hx
  rw [UInt8.toNat_ofNat', Nat.mod_eq_of_lt (by omega), Int.toNat_of_nonneg h]
def unhexI : Str → Str
  | a :: b :: s => if 0 ≤ nibV a.toNat ∧ 0 ≤ nibV b.toNat then hx (nibV a.toNat) (nibV b.toNat) :: unhexI s else []
  | _ => []
theorem unhexI_len : ∀ s : Str, (unhexI s).length ≤ s.length
  | [] => by simp [unhexI]
  | [a] => by simp [unhexI]
  | a :: b :: s => by
    have := unhexI_len s
    unfold unhexI
    split <;> simp <;> omega
theorem two {α : Type} (s : List α) (k : Nat) (h : k + 1 < s.length) : s.drop k = s[k] :: s[k + 1] :: s.drop (k + 2) := by
  rw [drop_cons s k (by omega), drop_cons s (k + 1) h]
theorem iunhex_l (s : Str) (hs : s.length ≤ 1048576) : ∀ (n k : Nat) (acc : Str), s.length - k ≤ n → k ≤ s.length → acc.length ≤ k →
    iunhex.L3 (mkS s) (k : Int) (acc.map byteRow) = some (iunhex.x3 ((acc ++ unhexI (s.drop k)).map byteRow)) := by
  intro n
  induction n with
  | zero =>
    intro k acc h1 h2 h3
    rw [iunhex.s3]
    simp (disch := omega) only [pvS, pvT, pvC, pvL, pvR, pvN]
    rw [show s.drop k = [] from List.drop_eq_nil_of_le (by omega), unhexI.eq_2 _ (by simp), List.append_nil]
  | succ n ih =>
    intro k acc h1 h2 h3
    by_cases h : k + 1 < s.length
    · have b1 : s[k].toNat < 256 := s[k].toNat_lt
      have b2 : s[k + 1].toNat < 256 := s[k + 1].toNat_lt
      have n1 := nibV_le s[k].toNat
      have n2 := nibV_le s[k + 1].toNat
      have e2 : (k : Int) + 2 = ((k + 2 : Nat) : Int) := rfl
      rw [two s k h, unhexI]
      by_cases c1 : 0 ≤ nibV s[k].toNat
      · by_cases c2 : 0 ≤ nibV s[k + 1].toNat
        · have := ih (k + 2) (acc ++ [hx (nibV s[k].toNat) (nibV s[k + 1].toNat)]) (by omega) (by omega) (by simp; omega)
          rw [iunhex.s3]
          simp (disch := omega) only [pvS, pvT, pvC, pvL, pvR, pvN, inibble_ok, iunhex.p5, rowsLen_bytes, hx_row, e2]
          simp only [List.map_append, List.map_cons, List.map_nil, List.append_assoc, List.singleton_append] at this
          rw [this, if_pos ⟨c1, c2⟩, List.map_append, List.map_cons]
        · rw [iunhex.s3]
          simp (disch := omega) only [pvS, pvT, pvC, pvL, pvR, pvN, inibble_ok]
          rw [if_neg (fun h => c2 h.2), List.append_nil]
      · rw [iunhex.s3]
        simp (disch := omega) only [pvS, pvT, pvC, pvL, pvR, pvN, inibble_ok]
        rw [if_neg (fun h => c1 h.1), List.append_nil]
    · rw [iunhex.s3]
      simp (disch := omega) only [pvS, pvT, pvC, pvL, pvR, pvN]
      have : unhexI (s.drop k) = [] := by
        have hl : (s.drop k).length ≤ 1 := by simp; omega
        match hd : s.drop k, hl with
        | [], _ => rfl
        | [a], _ => rfl
      rw [this, List.append_nil]
theorem idataRead_ok (s : Str) (hs : s.length ≤ 1048576) : idataRead [vS s] [] = rS (unhexI s) := by
  have h := iunhex_l s hs s.length 0 [] (by omega) (by omega) (by simp)
  have h0 : iunhex [vS s] [] = rS (unhexI s) := by
    rw [iunhex.e]
    have h' : iunhex.L3 (mkS s) 0 [] = _ := h
    rw [h', Option.bind_some, iunhex.a3x3]
    simp only [List.nil_append, List.drop_zero, bytesB_bytes, strOf_bytes, cond_true]
  rw [idataRead.e, h0]
  simp (disch := omega) only [pvS, pvT, pvC, pvL, pvR, pvN]
def bytesV : Str → Option Str
  | [] => some []
  | [_] => none
  | a :: b :: s => if digV a.toNat ≤ 15 ∧ digV b.toNat ≤ 15 then (bytesV s).map (hx (digV a.toNat) (digV b.toNat) :: ·) else none
def bytesS (s : Str) : Option Str := if s = [45] then some [] else if s.length % 2 = 1 ∨ s = [] then none else bytesV s
def rBy (o : Option Str) : Option Res := some ⟨[.v (.string (mkS (o.getD []))), .v (.bool o.isSome)], []⟩
theorem sl1Bytes_l (s : Str) (hs : s.length ≤ 1048576) (hp : s.length % 2 = 0) : ∀ (n k : Nat) (acc : Str), s.length - k ≤ n → k ≤ s.length → k % 2 = 0 → acc.length ≤ k →
    (sl1Bytes.L7 (mkS s) (k : Int) (acc.map byteRow)).bind sl1Bytes.A7 = rBy ((bytesV (s.drop k)).map (acc ++ ·)) := by
  intro n
  induction n with
  | zero =>
    intro k acc h1 h2 h0 h3
    rw [sl1Bytes.s7]
    simp (disch := omega) only [pvS, pvT, pvC, pvL, pvR, pvN]
    rw [show s.drop k = [] from List.drop_eq_nil_of_le (by omega), sl1Bytes.a7x7, bytesB_bytes, strOf_bytes]
    simp [bytesV, rBy]
  | succ n ih =>
    intro k acc h1 h2 h0 h3
    by_cases h : k < s.length
    · have h : k + 1 < s.length := by omega
      have b1 : s[k].toNat < 256 := s[k].toNat_lt
      have b2 : s[k + 1].toNat < 256 := s[k + 1].toNat_lt
      have n1 := digV_le s[k].toNat
      have n2 := digV_le s[k + 1].toNat
      have e2 : (k : Int) + 2 = ((k + 2 : Nat) : Int) := rfl
      rw [two s k h, bytesV]
      by_cases c1 : digV s[k].toNat ≤ 15
      · by_cases c2 : digV s[k + 1].toNat ≤ 15
        · have := ih (k + 2) (acc ++ [hx (digV s[k].toNat) (digV s[k + 1].toNat)]) (by omega) (by omega) (by omega) (by simp; omega)
          rw [sl1Bytes.s7]
          simp (disch := omega) only [pvS, pvT, pvC, pvL, pvR, pvN, sl1Digit_ok, sl1Bytes.p12, sl1Bytes.p13, rowsLen_bytes, hx_row, e2]
          simp only [List.map_append, List.map_cons, List.map_nil] at this
          rw [this, if_pos ⟨c1, c2⟩]
          cases bytesV (s.drop (k + 2)) <;> simp [rBy]
        · rw [sl1Bytes.s7]
          simp (disch := omega) only [pvS, pvT, pvC, pvL, pvR, pvN, sl1Digit_ok, sl1Bytes.p12, sl1Bytes.a7q7]
          rw [if_neg (fun h => c2 h.2)]
          rfl
      · rw [sl1Bytes.s7]
        simp (disch := omega) only [pvS, pvT, pvC, pvL, pvR, pvN, sl1Digit_ok, sl1Bytes.p12, sl1Bytes.a7q7]
        rw [if_neg (fun h => c1 h.1)]
        rfl
    · rw [sl1Bytes.s7]
      simp (disch := omega) only [pvS, pvT, pvC, pvL, pvR, pvN]
      rw [show s.drop k = [] from List.drop_eq_nil_of_le (by omega), sl1Bytes.a7x7, bytesB_bytes, strOf_bytes]
      simp [bytesV, rBy]
theorem sl1Bytes_ok (s : Str) (hs : s.length ≤ 1048576) : sl1Bytes [vS s] [] = rBy (bytesS s) := by
  rw [sl1Bytes.e]
  unfold bytesS
  by_cases h1 : s = [45]
  · subst h1
    have e1 : (([45] : Str) == [45]) = true := rfl
    simp (disch := omega) only [pvS, pvT, pvC, pvL, pvR, pvN, e1, if_true]
    rfl
  · have e1 : (s == [45]) = false := beq_eq_false_iff_ne.2 h1
    by_cases h2 : s.length % 2 = 1
    · simp (disch := omega) only [pvS, pvT, pvC, pvL, pvR, pvN, e1, sl1Bytes.p5, h1, h2]
      simp [rBy]
    · by_cases h3 : s = []
      · subst h3; simp (disch := omega) only [pvS, pvT, pvC, pvL, pvR, pvN, sl1Bytes.p5, if_true, or_true]; rfl
      · have e3 : (s == []) = false := beq_eq_false_iff_ne.2 h3
        have := sl1Bytes_l s hs (by omega) s.length 0 [] (by omega) (by omega) (by omega) (by simp)
        have h0 : sl1Bytes.L7 (mkS s) 0 [] = sl1Bytes.L7 (mkS s) ((0 : Nat) : Int) (([] : Str).map byteRow) := rfl
        simp (disch := omega) only [pvS, pvT, pvC, pvL, pvR, pvN, e1, e3, sl1Bytes.p5, sl1Bytes.p6]
        rw [h0, this, List.drop_zero, if_neg h1, if_neg (by simp [h2, h3])]
        cases bytesV s <;> simp
end Go.PVx
namespace Go.PVx
open Go.PV Go.Proofs
theorem cut32' (l : Str) (h : l.length ≤ 1048576) : sl1Cut [AV.one (A1.v (Value.string (mkS l))), AV.one (A1.v (Value.int .u8 32))] [] = some ⟨[.o .deep (eSs (cutAt 32 l))], []⟩ := sl1Cut_ok l 32 h
theorem cut47' (l : Str) (h : l.length ≤ 1048576) : sl1Cut [AV.one (A1.v (Value.string (mkS l))), AV.one (A1.v (Value.int .u8 47))] [] = some ⟨[.o .deep (eSs (cutAt 47 l))], []⟩ := sl1Cut_ok l 47 h
theorem split32 (s : Str) (hs : s.length ≤ 1048576) : strings_Split [AV.one (A1.v (Value.string (mkS s))), AV.one (A1.v (Value.string (mkS [32])))] [] = some ⟨[.o .deep (eSs (cutAt 32 s))], []⟩ := strings_Split_ok s 32 hs
theorem wL_drop1' {α : Type} (w : α → Nat) (l : List α) (h : l ≠ []) : wL w (l.drop 1) + 1 ≤ wL w l := by
  cases l with
  | nil => exact absurd rfl h
  | cons x l => simp [wL]; omega
def pathS (s : Str) : List Str × Bool :=
  if s = [47] then ([], true) else if s = [] ∨ s.headD 0 ≠ 47 then ([], false) else ((cutAt 47 s).drop 1, pathB 1 ((cutAt 47 s).drop 1))
def rPB (x : List Str × Bool) : Option Res := some ⟨[.s (eSs x.1), .v (.bool x.2)], []⟩
theorem sl41PathOf_ok (s : Str) (hs : s.length ≤ 1048576) : sl41PathOf [AV.one (A1.v (Value.string (mkS s)))] [] = rPB (pathS s) := by
  have hw := wL_cut 47 s
  have hd := wL_drop1' List.length (cutAt 47 s) (cutAt_ne 47 s)
  have ho : oP ((cutAt 47 s).drop 1) := oP_of (by unfold wP; omega)
  have hok := sl2PathOk_ok _ ho
  have hl := cutAt_pos 47 s
  rw [sl41PathOf.e]
  unfold pathS
  by_cases h1 : s = [47]
  · subst h1
    have e1 : (([47] : Str) == [47]) = true := rfl
    simp (disch := omega) only [pvS, pvT, pvC, pvL, pvR, pvN, e1, if_true]
    rfl
  have e1 : (s == [47]) = false := beq_eq_false_iff_ne.2 h1
  cases s with
  | nil =>
    simp (disch := omega) only [pvS, pvT, pvC, pvL, pvR, pvN, sl41PathOf.p4, e1]
    rfl
  | cons b r =>
    have e3 : ((b :: r) == ([] : Str)) = false := rfl
    have e4 : byteAt (mkS (b :: r)) 0 = (b.toNat : Int) := byteAt_lt (b :: r) 0 (by simp)
    have e5 : (0 : Int) < (((b :: r).length : Nat) : Int) := by simp
    by_cases h2 : b = 47
    · have e6 : (((b.toNat : Int) != 47)) = false := by subst h2; rfl
      rw [if_neg h1, if_neg (by simp [h2])]
      have e7 : (1 : Int) ≤ ((cutAt 47 (b :: r)).length : Int) := by omega
      have e8 : ((eSs (cutAt 47 (b :: r))).getD 0 []).length = 1 := by rw [getD_map eS _ 0 (by omega)]; rfl
      simp (disch := omega) only [pvS, pvT, pvC, pvL, pvR, pvN, sl41PathOf.p4, e1, e3, e4, e6, sl41PathOf.p5, cut47', e7, e8, hok]
      rfl
    · have e6 : (((b.toNat : Int) != 47)) = true := by
        have : b.toNat ≠ 47 := fun h => h2 (UInt8.toNat_inj.1 h)
        simp; omega
      rw [if_neg h1, if_pos (.inr (by simpa using h2))]
      have e9 : decide ((0 : Int) < (((b :: r).length : Nat) : Int)) = true := decide_eq_true e5
      simp (disch := omega) only [pvS, pvT, pvC, pvL, pvR, pvN, sl41PathOf.p4, e1, e3, e4, e6] at e9 ⊢
      rfl
theorem pathI_w (l : Str) : wP (pathI l) ≤ l.length + 1 ∧ (l = [] → wP (pathI l) = 0) := by
  have h1 := trim_len l [47]
  unfold pathI wP
  refine ⟨?_, fun h => by rw [h]; rfl⟩
  split
  · simp [wL]
  · rw [wL_cut]; omega
theorem pathS_w (l : Str) : wP (pathS l).1 ≤ l.length := by
  have n1 : wP ([] : List Str) = 0 := rfl
  unfold pathS
  split
  · simp only [n1]; omega
  · split
    · simp only [n1]; omega
    · have h := wL_cut 47 l
      have := wL_drop1' List.length (cutAt 47 l) (cutAt_ne 47 l)
      simp only [wP]; omega
theorem bytesV_w : ∀ s : Str, ∀ t, bytesV s = some t → t.length ≤ s.length
  | [], t, h => by simp only [bytesV, Option.some.injEq] at h; subst h; simp
  | [_], t, h => by simp [bytesV] at h
  | a :: b :: s, t, h => by
    unfold bytesV at h
    split at h
    · cases hb : bytesV s with
      | none => rw [hb] at h; simp at h
      | some u =>
        rw [hb] at h
        have := bytesV_w s u hb
        simp only [Option.map_some, Option.some.injEq] at h
        subst h
        simp only [List.length_cons]; omega
    · simp at h
theorem bytesS_w (l : Str) : ((bytesS l).getD []).length ≤ l.length := by
  unfold bytesS
  split
  · simp
  · split
    · simp
    · cases h : bytesV l with
      | none => simp
      | some t => simpa using bytesV_w l t h
end Go.PVx
namespace Go.PVx
open Go.PV Go.Proofs
theorem dig_hex : ∀ i : Fin 16, (48 ≤ (dig i.val).toNat ∧ (dig i.val).toNat ≤ 57 ∧ nibV (dig i.val).toNat = i.val ∧ digV (dig i.val).toNat = i.val) ∨ (97 ≤ (dig i.val).toNat ∧ (dig i.val).toNat ≤ 102 ∧ nibV (dig i.val).toNat = i.val ∧ digV (dig i.val).toNat = i.val) := by decide
theorem dig_ge {i : Nat} (h : i < 16) : 48 ≤ (dig i).toNat ∧ nibV (dig i).toNat = i ∧ digV (dig i).toNat = i := by
  have := dig_hex ⟨i, h⟩
  simp only at this
  omega
theorem hexS_cons (b : UInt8) (s : Str) : hexS (b :: s) = dig (b.toNat / 16) :: dig (b.toNat % 16) :: hexS s := by simp [hexS, hexB]
theorem hexS_ge : ∀ (s : Str), ∀ c ∈ hexS s, 48 ≤ c.toNat
  | [], c, h => by simp [hexS] at h
  | b :: s, c, h => by
    have hb : b.toNat < 256 := b.toNat_lt
    rw [hexS_cons] at h
    rcases List.mem_cons.1 h with rfl | h
    · exact (dig_ge (by omega)).1
    rcases List.mem_cons.1 h with rfl | h
    · exact (dig_ge (by omega)).1
    exact hexS_ge s c h
theorem dataT_ge (s : Str) : ∀ c ∈ dataT s, 45 ≤ c.toNat := fun c h => by
  unfold dataT at h
  split at h
  · simp at h; subst h; decide
  · have := hexS_ge s c h; omega
theorem dataT_no (s : Str) (b : UInt8) (hb : b.toNat < 45) : b ∉ dataT s := fun h => by
  have := dataT_ge s b h; omega
theorem hx_of (b : UInt8) : hx ((b.toNat / 16 : Nat) : Int) ((b.toNat % 16 : Nat) : Int) = b := by
  have hb : b.toNat < 256 := b.toNat_lt
  unfold hx
  rw [show (16 * ((b.toNat / 16 : Nat) : Int) + ((b.toNat % 16 : Nat) : Int)).toNat = b.toNat by omega]
  simp
theorem unhexI_hex : ∀ s : Str, unhexI (hexS s) = s
  | [] => rfl
  | b :: s => by
    have hb : b.toNat < 256 := b.toNat_lt
    have d1 := dig_ge (i := b.toNat / 16) (by omega)
    have d2 := dig_ge (i := b.toNat % 16) (by omega)
    rw [hexS_cons, unhexI, d1.2.1, d2.2.1, if_pos (by omega), unhexI_hex s, hx_of]
theorem bytesV_hex : ∀ s : Str, bytesV (hexS s) = some s
  | [] => rfl
  | b :: s => by
    have hb : b.toNat < 256 := b.toNat_lt
    have d1 := dig_ge (i := b.toNat / 16) (by omega)
    have d2 := dig_ge (i := b.toNat % 16) (by omega)
    rw [hexS_cons, bytesV, d1.2.2, d2.2.2, if_pos (by omega), bytesV_hex s, hx_of]
    rfl
theorem unhexI_data (s : Str) : unhexI (dataT s) = s := by
  unfold dataT
  split
  · rename_i h; subst h; rfl
  · exact unhexI_hex s
theorem bytesS_data (s : Str) : bytesS (dataT s) = some s := by
  unfold dataT
  split
  · rename_i h; subst h; rfl
  · rename_i h
    have hl := hexS_len s
    have h1 : hexS s ≠ [45] := fun e => by rw [e] at hl; simp at hl; omega
    have h2 : hexS s ≠ [] := fun e => by
      rw [e] at hl
      simp only [List.length_nil] at hl
      exact h (List.length_eq_zero_iff.1 (by omega))
    unfold bytesS
    rw [if_neg h1, if_neg (by simp [h2]; omega), bytesV_hex]
theorem pathS_pt (p : List Str) (h : pathB 1 p = true) : pathS (pt p) = (p, true) := by
  obtain ⟨h0, hn⟩ := pathB_spec h
  have h1 := cutAt_tail p h0 fun x hx => (name_no (hn x hx)).2.2
  have h2 : pt p = Lib.joinTail [47] p := by unfold pt; rw [if_neg h0]
  have h3 : cutAt 47 (pt p) = [] :: p := by rw [h2]; exact h1
  unfold pathS
  have e1 : pt p ≠ [47] := fun e => by
    rw [e] at h3
    have : cutAt 47 [47] = [[], []] := rfl
    rw [this] at h3
    obtain ⟨_, h4⟩ := List.cons.inj h3
    have := hn [] (by rw [← h4]; simp)
    simp [nameB, inB] at this
  have e2 : ¬ (pt p = [] ∨ (pt p).headD 0 ≠ 47) := by
    rw [h2]
    cases p with
    | nil => exact absurd rfl h0
    | cons x p => simp [Lib.joinTail]
  rw [if_neg e1, if_neg e2, h3]
  simp [h]
theorem cut_words (x : Str) (l : List Str) (hx : (32 : UInt8) ∉ x) (hl : ∀ y ∈ l, (32 : UInt8) ∉ y) : cutAt 32 (x ++ (l.map fun y => 32 :: y).flatten) = x :: l := by
  induction l generalizing x with
  | nil => simp [cutAt_no 32 x hx]
  | cons y l ih =>
    rw [List.map_cons, List.flatten_cons, List.cons_append, cutAt_at 32 _ x hx, ih y (hl y (by simp)) fun z hz => hl z (by simp [hz])]
end Go.PVx
namespace Go.PVx
open Go.PV Go.Proofs
def hideW : Str := [104, 105, 100, 101]
def gl (g : List Str) : Str := hideW ++ 32 :: pt g
def pl (e : Entry) : Str := bif e.dir then [100, 105, 114] ++ ([pt e.path, dec e.mode.toNat].map fun y => 32 :: y).flatten else [102, 105, 108, 101] ++ ([pt e.path, dec e.mode.toNat, dataT e.data].map fun y => 32 :: y).flatten
theorem goneL_gl (g : List Str) : goneL g = gl g ++ [10] := by simp [goneL, gl, hideW]
theorem putL_pl (e : Entry) : putL e = pl e ++ [10] := by
  unfold putL pl lineT
  cases e.dir <;> simp
structure UpOk (u : Upper) : Prop where
  gone : ∀ g ∈ u.gone, pathB 1 g = true
  puts : ∀ e ∈ u.puts, putB e = true
theorem fin2_spec : ∀ (es : List Entry) (acc : Str), fin2 acc es ≠ [] → (∀ e ∈ es, putB e = true) ∧ fin2 acc es = acc ++ (es.map putL).flatten
  | [], acc, h => by
    unfold fin2 at h ⊢
    split at h
    · rename_i h4; rw [if_pos h4]; simp
    · exact absurd rfl h
  | e :: es, acc, h => by
    unfold fin2 at h ⊢
    split at h
    · rename_i hp
      rw [if_pos hp]
      obtain ⟨h1, h2⟩ := fin2_spec es _ h
      refine ⟨fun x hx => ?_, by rw [h2]; simp⟩
      rcases List.mem_cons.1 hx with rfl | hx
      · exact hp
      · exact h1 x hx
    · exact absurd rfl h
theorem fin1_spec (es : List Entry) : ∀ (gs : List (List Str)) (acc : Str), fin1 es acc gs ≠ [] → (∀ g ∈ gs, pathB 1 g = true) ∧ (∀ e ∈ es, putB e = true) ∧ fin1 es acc gs = acc ++ (gs.map goneL).flatten ++ (es.map putL).flatten
  | [], acc, h => by
    unfold fin1 at h ⊢
    obtain ⟨h1, h2⟩ := fin2_spec es acc h
    exact ⟨by simp, h1, by rw [h2]; simp⟩
  | g :: gs, acc, h => by
    unfold fin1 at h ⊢
    split at h
    · rename_i hp
      rw [if_pos hp]
      obtain ⟨h1, h2, h3⟩ := fin1_spec es gs _ h
      refine ⟨fun x hx => ?_, h2, by rw [h3]; simp⟩
      rcases List.mem_cons.1 hx with rfl | hx
      · exact hp
      · exact h1 x hx
    · exact absurd rfl h
theorem upT_ok {u : Upper} (h : upT u ≠ []) : UpOk u ∧ upT u = ((u.gone.map gl ++ u.puts.map pl).map fun x => x ++ [10]).flatten := by
  obtain ⟨h1, h2, h3⟩ := fin1_spec u.puts u.gone [] h
  refine ⟨⟨h1, h2⟩, ?_⟩
  unfold upT
  rw [h3, List.map_append, List.flatten_append, List.map_map, List.map_map, List.nil_append]
  have e1 : u.gone.map goneL = u.gone.map ((fun x => x ++ [10]) ∘ gl) := List.map_congr_left fun g _ => goneL_gl g
  have e2 : u.puts.map putL = u.puts.map ((fun x => x ++ [10]) ∘ pl) := List.map_congr_left fun e _ => putL_pl e
  rw [e1, e2]
theorem putB_spec {e : Entry} (h : putB e = true) : e.what = 2 ∧ (e.dir = true → e.data = []) ∧ (e.dir = false → e.path ≠ []) ∧ (e.path ≠ [] → pathB 1 e.path = true) ∧ 0 ≤ e.mode ∧ e.mode ≤ 7 := by
  have hm := putB_mode h
  refine ⟨?_, ?_, ?_, ?_, hm⟩
  all_goals
    unfold putB entB kindB at h
    grind
theorem ptno {p : List Str} (h : p ≠ [] → pathB 1 p = true) (b : UInt8) (hb : b ≠ 47) (hx : ∀ x, nameB x = true → b ∉ x) : b ∉ pt p := by
  by_cases h0 : p = []
  · subst h0
    unfold pt
    rw [if_pos rfl]
    simp only [List.mem_cons, List.not_mem_nil, or_false]
    exact hb
  · exact pt_no b hb h0 fun x hm => hx x ((pathB_spec (h h0)).2 x hm)
theorem lines_upT {u : Upper} (h : upT u ≠ []) : linesT (upT u) = u.gone.map gl ++ u.puts.map pl := by
  obtain ⟨hu, e⟩ := upT_ok h
  unfold linesT
  rw [e, cutAt_list 10, List.dropLast_concat]
  intro x hx
  rcases List.mem_append.1 hx with hx | hx
  · obtain ⟨g, hg, rfl⟩ := List.mem_map.1 hx
    have := ptno (fun _ => hu.gone g hg) 10 (by decide) fun x hx => (name_no hx).1
    simp only [gl, hideW, List.mem_append, List.mem_cons, List.not_mem_nil, or_false, not_or]
    exact ⟨⟨by decide, by decide, by decide, by decide⟩, by decide, this⟩
  · obtain ⟨a, ha, rfl⟩ := List.mem_map.1 hx
    obtain ⟨h1, h2, h3, h4, h5, h6⟩ := putB_spec (hu.puts a ha)
    have hp := ptno h4 10 (by decide) fun x hx => (name_no hx).1
    have hd := dataT_no a.data 10 (by decide)
    have hm := (dec_no a.mode.toNat).1
    unfold pl
    cases a.dir with
    | true =>
      simp only [cond_true, List.map_cons, List.map_nil, List.flatten_cons, List.flatten_nil, List.mem_append, List.mem_cons, List.not_mem_nil, or_false, not_or]
      exact ⟨⟨by decide, by decide, by decide⟩, ⟨by decide, hp⟩, by decide, hm⟩
    | false =>
      simp only [cond_false, List.map_cons, List.map_nil, List.flatten_cons, List.flatten_nil, List.mem_append, List.mem_cons, List.not_mem_nil, or_false, not_or]
      exact ⟨⟨by decide, by decide, by decide, by decide⟩, ⟨by decide, hp⟩, ⟨by decide, hm⟩, by decide, hd⟩
def wordsP (e : Entry) : List Str := if e.dir = true then [[100, 105, 114], pt e.path, dec e.mode.toNat] else [[102, 105, 108, 101], pt e.path, dec e.mode.toNat, dataT e.data]
theorem cut_gl {g : List Str} (h : pathB 1 g = true) : cutAt 32 (gl g) = [hideW, pt g] := by
  have hp := ptno (fun _ => h) 32 (by decide) fun x hx => (name_no hx).2.1
  unfold gl
  rw [cutAt_at 32 _ _ (by decide), cutAt_no 32 _ hp]
theorem cut_pl {e : Entry} (h : putB e = true) : cutAt 32 (pl e) = wordsP e := by
  obtain ⟨h1, h2, h3, h4, h5, h6⟩ := putB_spec h
  have hp := ptno h4 32 (by decide) fun x hx => (name_no hx).2.1
  have hd := dataT_no e.data 32 (by decide)
  have hm := (dec_no e.mode.toNat).2.1
  unfold pl wordsP
  cases e.dir with
  | true =>
    rw [if_pos rfl, cond_true]
    refine cut_words _ _ (by decide) fun y hy => ?_
    simp only [List.mem_cons, List.not_mem_nil, or_false] at hy
    rcases hy with rfl | rfl
    · exact hp
    · exact hm
  | false =>
    rw [if_neg (by simp), cond_false]
    refine cut_words _ _ (by decide) fun y hy => ?_
    simp only [List.mem_cons, List.not_mem_nil, or_false] at hy
    rcases hy with rfl | rfl | rfl
    · exact hp
    · exact hm
    · exact hd
def putI (l : Str) : Entry :=
  let w := cutAt 32 l ++ [[], [], []]
  ⟨pathI (w.getD 1 []), 2, w.getD 0 [] == [100, 105, 114], atoiN (w.getD 2 []), bif w.getD 0 [] == [100, 105, 114] then [] else unhexI (w.getD 3 [])⟩
def isHide (l : Str) : Bool := l.take 5 == [104, 105, 100, 101, 32]
def lineI (u : Upper) (l : Str) : Upper := bif isHide l then ⟨u.gone ++ [pathI (l.drop 5)], u.puts⟩ else ⟨u.gone, u.puts ++ [putI l]⟩
def readI (u : Upper) (ls : List Str) : Upper := ls.foldl lineI u
def UI (s : Str) : Option Upper := if s.length ≤ 4000 ∧ upT (readI ⟨[], []⟩ (linesT s)) = s then some (readI ⟨[], []⟩ (linesT s)) else none
theorem pathI_pt' {p : List Str} (h : p ≠ [] → pathB 1 p = true) : pathI (pt p) = p := by
  by_cases h0 : p = []
  · subst h0; rfl
  · exact pathI_pt p h0 (pathB_spec (h h0)).2
theorem putI_pl {e : Entry} (h : putB e = true) : putI (pl e) = e := by
  obtain ⟨h1, h2, h3, h4, h5, h6⟩ := putB_spec h
  have hp := pathI_pt' h4
  have hm := atoiN_dec e.mode.toNat (by omega)
  unfold putI
  rw [cut_pl h]
  unfold wordsP
  obtain ⟨p, w, d, m, s⟩ := e
  simp only at h1 h2 h3 h4 h5 h6 hp hm
  subst h1
  cases d with
  | true =>
    have h2 := h2 rfl
    subst h2
    have e1 : ((m.toNat : Nat) : Int) = m := by omega
    simp [hp, hm, e1]
  | false =>
    have e1 : ((m.toNat : Nat) : Int) = m := by omega
    simp [hp, hm, e1, unhexI_data]
theorem isHide_gl (g : List Str) : isHide (gl g) = true := by simp [isHide, gl, hideW]
theorem isHide_pl (e : Entry) : isHide (pl e) = false := by
  unfold pl isHide
  cases e.dir <;> simp
theorem readI_gone : ∀ (gs : List (List Str)) (u : Upper), (∀ g ∈ gs, pathB 1 g = true) → readI u (gs.map gl) = ⟨u.gone ++ gs, u.puts⟩
  | [], u, _ => by simp [readI]
  | g :: gs, u, h => by
    have ih := readI_gone gs ⟨u.gone ++ [g], u.puts⟩ fun x hx => h x (by simp [hx])
    have e : lineI u (gl g) = ⟨u.gone ++ [g], u.puts⟩ := by
      have e2 : (gl g).drop 5 = pt g := by simp [gl, hideW]
      unfold lineI
      rw [isHide_gl, cond_true, e2, pathI_pt' fun _ => h g (by simp)]
    show readI (lineI u (gl g)) (gs.map gl) = _
    rw [e, ih]
    simp
theorem readI_puts : ∀ (es : List Entry) (u : Upper), (∀ e ∈ es, putB e = true) → readI u (es.map pl) = ⟨u.gone, u.puts ++ es⟩
  | [], u, _ => by simp [readI]
  | e :: es, u, h => by
    have ih := readI_puts es ⟨u.gone, u.puts ++ [e]⟩ fun x hx => h x (by simp [hx])
    have e1 : lineI u (pl e) = ⟨u.gone, u.puts ++ [e]⟩ := by
      unfold lineI
      rw [isHide_pl, cond_false, putI_pl (h e (by simp))]
    show readI (lineI u (pl e)) (es.map pl) = _
    rw [e1, ih]
    simp
theorem readI_text {u : Upper} (h : upT u ≠ []) : readI ⟨[], []⟩ (linesT (upT u)) = u := by
  obtain ⟨hu, _⟩ := upT_ok h
  rw [lines_upT h]
  unfold readI
  rw [List.foldl_append]
  have h1 := readI_gone u.gone ⟨[], []⟩ hu.gone
  have h2 := readI_puts u.puts ⟨[] ++ u.gone, []⟩ hu.puts
  unfold readI at h1 h2
  rw [h1, h2]
  simp
def partS (w : List Str) : Option (Bool × Int × Str) :=
  if (w.getD 0 [] ≠ [102, 105, 108, 101] ∧ w.getD 0 [] ≠ [100, 105, 114]) ∨ w.length ≠ (if w.getD 0 [] = [102, 105, 108, 101] then 4 else 3) ∨ (w.getD 2 []).length ≠ 1 ∨ ((w.getD 2 []).headD 0).toNat < 48 ∨ 55 < ((w.getD 2 []).headD 0).toNat then none
  else if w.getD 0 [] = [100, 105, 114] then some (true, (((w.getD 2 []).headD 0).toNat : Int) - 48, [])
  else (bytesS (w.getD 3 [])).map fun d => (false, (((w.getD 2 []).headD 0).toNat : Int) - 48, d)
def lineS (u : Upper) (l : Str) : Option Upper :=
  let w := cutAt 32 l
  if w.length < 2 ∨ (pathS (w.getD 1 [])).2 = false then none
  else if w.getD 0 [] = hideW then some ⟨u.gone ++ [(pathS (w.getD 1 [])).1], u.puts⟩
  else (partS w).map fun t => ⟨u.gone, u.puts ++ [⟨(pathS (w.getD 1 [])).1, 2, t.1, t.2.1, t.2.2⟩]⟩
def readS : Upper → List Str → Option Upper
  | u, [] => some u
  | u, l :: ls => (lineS u l).bind fun v => readS v ls
def US (s : Str) : Option Upper := (readS ⟨[], []⟩ (linesT s)).bind fun u => if upT u = s then some u else none
theorem pathS_pt' {p : List Str} (h : p ≠ [] → pathB 1 p = true) : pathS (pt p) = (p, true) := by
  by_cases h0 : p = []
  · subst h0; rfl
  · exact pathS_pt p (h h0)
theorem lineS_gl {g : List Str} (h : pathB 1 g = true) (u : Upper) : lineS u (gl g) = some ⟨u.gone ++ [g], u.puts⟩ := by
  unfold lineS
  rw [cut_gl h]
  have := pathS_pt' (p := g) fun _ => h
  simp [this]
theorem lineS_pl {e : Entry} (h : putB e = true) (u : Upper) : lineS u (pl e) = some ⟨u.gone, u.puts ++ [e]⟩ := by
  obtain ⟨h1, h2, h3, h4, h5, h6⟩ := putB_spec h
  have hp := pathS_pt' h4
  have hb := bytesS_data e.data
  unfold lineS
  rw [cut_pl h]
  unfold wordsP
  obtain ⟨p, w, d, m, s⟩ := e
  simp only at h1 h2 h3 h4 h5 h6 hp hb
  subst h1
  have hdec : dec m.toNat = [UInt8.ofNat (48 + m.toNat)] := dec_small (by omega)
  have hn : (UInt8.ofNat (48 + m.toNat)).toNat = 48 + m.toNat := by
    simp
    omega
  have e1 : ((48 + m.toNat : Nat) : Int) - 48 = m := by omega
  cases d with
  | true =>
    have h2 := h2 rfl
    subst h2
    have : partS [[100, 105, 114], pt p, dec m.toNat] = some (true, m, []) := by
      unfold partS
      rw [hdec]
      simp [hn, e1]
      omega
    simp [hp, this, hideW]
  | false =>
    have : partS [[102, 105, 108, 101], pt p, dec m.toNat, dataT s] = some (false, m, s) := by
      unfold partS
      rw [hdec]
      simp [hn, e1, hb]
      omega
    simp [hp, this, hideW]
theorem readS_gone : ∀ (gs : List (List Str)) (u : Upper) (ls : List Str), (∀ g ∈ gs, pathB 1 g = true) → readS u (gs.map gl ++ ls) = readS ⟨u.gone ++ gs, u.puts⟩ ls
  | [], u, ls, _ => by simp
  | g :: gs, u, ls, h => by
    have ih := readS_gone gs ⟨u.gone ++ [g], u.puts⟩ ls fun x hx => h x (by simp [hx])
    simp only [List.map_cons, List.cons_append, readS, lineS_gl (h g (by simp)), Option.bind_some, ih]
    simp
theorem readS_puts : ∀ (es : List Entry) (u : Upper), (∀ e ∈ es, putB e = true) → readS u (es.map pl) = some ⟨u.gone, u.puts ++ es⟩
  | [], u, _ => by simp [readS]
  | e :: es, u, h => by
    have ih := readS_puts es ⟨u.gone, u.puts ++ [e]⟩ fun x hx => h x (by simp [hx])
    simp only [List.map_cons, readS, lineS_pl (h e (by simp)), Option.bind_some, ih]
    simp
theorem readS_text {u : Upper} (h : upT u ≠ []) : readS ⟨[], []⟩ (linesT (upT u)) = some u := by
  obtain ⟨hu, _⟩ := upT_ok h
  rw [lines_upT h, readS_gone u.gone _ _ hu.gone, readS_puts u.puts _ hu.puts]
  simp
theorem fin2_len : ∀ (es : List Entry) (acc : Str), (fin2 acc es).length ≤ 4000
  | [], acc => by unfold fin2; split <;> simp_all
  | e :: es, acc => by unfold fin2; split; exact fin2_len es _; simp
theorem fin1_len (es : List Entry) : ∀ (gs : List (List Str)) (acc : Str), (fin1 es acc gs).length ≤ 4000
  | [], acc => fin2_len es acc
  | g :: gs, acc => by unfold fin1; split; exact fin1_len es gs _; simp
theorem UI_US (s : Str) : UI s = US s := by
  by_cases hs : s = []
  · subst hs; rfl
  have h1 : ∀ u, UI s = some u → US s = some u := fun u h => by
    unfold UI at h
    split at h
    · rename_i hc
      obtain rfl := Option.some.inj h
      have := readS_text (u := readI ⟨[], []⟩ (linesT s)) (by rw [hc.2]; exact hs)
      rw [hc.2] at this
      unfold US
      rw [this, Option.bind_some, if_pos hc.2]
    · simp at h
  have h2 : ∀ u, US s = some u → UI s = some u := fun u h => by
    unfold US at h
    rw [Option.bind_eq_some_iff] at h
    obtain ⟨v, _, h⟩ := h
    split at h
    · rename_i hc
      obtain rfl := Option.some.inj h
      have h3 := readI_text (u := v) (by rw [hc]; exact hs)
      rw [hc] at h3
      have h4 := fin1_len v.puts v.gone []
      have h5 : (fin1 v.puts [] v.gone) = s := hc
      unfold UI
      rw [h3, if_pos ⟨by rw [← h5]; exact h4, hc⟩]
    · simp at h
  cases h : UI s with
  | some u => exact (h1 u h).symm
  | none =>
    cases h' : US s with
    | none => rfl
    | some u => rw [h2 u h'] at h; simp at h
end Go.PVx
namespace Go.PVx
open Go.PV Go.Proofs
theorem strings_CutPrefix_ok (l : Str) : strings_CutPrefix [vS l, vS [104, 105, 100, 101, 32]] [] = some ⟨[.v (.string (mkS (bif isHide l then l.drop 5 else l))), .v (.bool (isHide l))], []⟩ := by
  rw [strings_CutPrefix.e, internal_stringslite_CutPrefix.e, internal_stringslite_HasPrefix.e]
  unfold isHide
  by_cases h : 5 ≤ l.length
  · simp (disch := omega) only [pvS, pvC, pvL, pvN]
    cases hb : (l.take 5 == [104, 105, 100, 101, 32]) <;> simp (disch := omega) only [pvS, pvC, pvL, pvN]
  · have hb : (l.take 5 == [104, 105, 100, 101, 32]) = false := by
      rw [beq_eq_false_iff_ne]
      intro e
      have := congrArg List.length e
      simp at this
      omega
    simp (disch := omega) only [pvS, pvC, pvL, pvN, hb]
theorem word_len (l : Str) (i : Nat) : ((cutAt 32 l ++ [[], [], []]).getD i []).length ≤ l.length := by
  have h := wL_cut 32 l
  by_cases hi : i < (cutAt 32 l).length
  · rw [List.getD_eq_getElem?_getD, List.getElem?_append_left hi, List.getElem?_eq_getElem hi, Option.getD_some]
    have := wL_at List.length hi
    omega
  · rw [List.getD_eq_getElem?_getD, List.getElem?_append_right (by omega)]
    generalize i - (cutAt 32 l).length = j
    match j with
    | 0 => simp
    | 1 => simp
    | 2 => simp
    | j + 3 => simp
theorem ipartRead_ok (l : Str) (hl : l.length ≤ 1048576) : ipartRead [vS l] [] =
    some ⟨[.o .deep (eSs (putI l).path), .v (.bool (putI l).dir), .v (.int .i64 (putI l).mode), .v (.string (mkS (putI l).data)), .s [], .s []], []⟩ := by
  have hs := split32 l hl
  have hp := cutAt_pos 32 l
  have hcl := cutAt_len 32 l
  have hW : eSs (cutAt 32 l) ++ [[D.v (Value.string (mkS []))], [D.v (Value.string (mkS []))], [D.v (Value.string (mkS []))]] = (cutAt 32 l ++ [[], [], []]).map eS := by simp [eS]
  have hWl : (cutAt 32 l ++ [[], [], []]).length = (cutAt 32 l).length + 3 := by simp
  obtain ⟨W, hWe⟩ : ∃ W, W = cutAt 32 l ++ [[], [], []] := ⟨_, rfl⟩
  have hput : putI l = ⟨pathI (W.getD 1 []), 2, W.getD 0 [] == [100, 105, 114], atoiN (W.getD 2 []), bif W.getD 0 [] == [100, 105, 114] then [] else unhexI (W.getD 3 [])⟩ := by rw [hWe]; rfl
  rw [← hWe] at hW hWl
  have hw : ∀ i, (W.getD i []).length ≤ l.length := fun i => by rw [hWe]; exact word_len l i
  clear hWe
  rw [hput, ipartRead.e]
  have g : ∀ i (h : i < W.length), W.getD i [] = W[i] := fun i h => by rw [List.getD_eq_getElem?_getD, List.getElem?_eq_getElem h, Option.getD_some]
  have h0 := g 0 (by omega); have h1 := g 1 (by omega); have h2 := g 2 (by omega); have h3 := g 3 (by omega)
  have l1 := hw 1; have l2 := hw 2; have l3 := hw 3
  rw [h1] at l1; rw [h2] at l2; rw [h3] at l3
  have e1 := ipathRead_ok W[1] (by omega)
  have e2 := inumRead_ok W[2] (by omega)
  have e3 := idataRead_ok W[3] (by omega)
  have b0 : (mkS [100, 105, 114]).get! 0 = 100 := rfl
  have b1 : (mkS [100, 105, 114]).get! 1 = 105 := rfl
  have b2 : (mkS [100, 105, 114]).get! 2 = 114 := rfl
  simp (disch := omega) only [pvS, pvT, pvC, pvL, pvR, pvN, hs, hW, e1, e2, e3, b0, b1, b2, h0, h1, h2, h3, ipartRead.p5]
  cases hb : (W[0] == [100, 105, 114]) <;> simp (disch := omega) only [pvS, pvT, pvC, pvL, pvR, pvN, e1, e2, e3, h0, h1, h2, h3, ipartRead.p5]
theorem iUpperRead.l5 (s : Str) (ls : List Str) (hls : ls.length ≤ 1048576) (hl : ∀ l ∈ ls, l.length ≤ 1048576) : ∀ k, k ≤ ls.length → ∀ u : Upper, u.gone.length + u.puts.length ≤ k →
    iUpperRead.L5 (mkS s) (eSs ls) (ls.length : Int) (k : Int) [] [] (u.gone.map ePa) (u.puts.map eE) =
      some (iUpperRead.x5 (mkS s) [] [] ((readI u (ls.drop k)).gone.map ePa) ((readI u (ls.drop k)).puts.map eE)) := by
  refine up ls.length ?_ fun k hk ih u hu => ?_
  · intro u hu
    rw [iUpperRead.s5]
    simp (disch := omega) only [pvL, pvN, List.drop_length]
    rfl
  · have hd := drop_cons ls k hk
    rw [hd]
    have hlk := hl _ (List.getElem_mem hk)
    have h1 := strings_CutPrefix_ok ls[k]
    have h2 := ipathRead_ok (ls[k].drop 5) (by rw [List.length_drop]; omega)
    have h3 := ipartRead_ok ls[k] hlk
    rw [iUpperRead.s5]
    show _ = some (iUpperRead.x5 (mkS s) [] [] ((readI (lineI u ls[k]) (ls.drop (k + 1))).gone.map ePa) ((readI (lineI u ls[k]) (ls.drop (k + 1))).puts.map eE))
    unfold lineI
    simp (disch := omega) only [pvS, pvT, pvC, pvL, pvR, pvN, str_at hk, h1]
    cases hb : isHide ls[k] with
    | true =>
      have ih' := ih ⟨u.gone ++ [pathI (ls[k].drop 5)], u.puts⟩ (by simp only [List.length_append, List.length_cons, List.length_nil]; omega)
      have e : u.gone.map ePa ++ [[D.s (eSs (pathI (ls[k].drop 5)))]] = (u.gone ++ [pathI (ls[k].drop 5)]).map ePa := by simp [ePa]
      simp (disch := omega) only [pvS, pvT, pvC, pvL, pvN, h2, e, ih']
    | false =>
      have ih' := ih ⟨u.gone, u.puts ++ [putI ls[k]]⟩ (by simp only [List.length_append, List.length_cons, List.length_nil]; omega)
      have e : u.puts.map eE ++ [[D.s (eSs (putI ls[k]).path), D.v (Value.int IntKind.i64 2), D.v (Value.bool (putI ls[k]).dir), D.v (Value.int IntKind.i64 (putI ls[k]).mode), D.v (Value.string (mkS (putI ls[k]).data))]] = (u.puts ++ [putI ls[k]]).map eE := by
        rw [List.map_append]
        rfl
      simp (disch := omega) only [pvS, pvT, pvC, pvL, pvN, h3, iUpperRead.p11, e, ih']
end Go.PVx
namespace Go.PVx
open Go.PV Go.Proofs
theorem wU_lineI (u : Upper) (l : Str) : wU (lineI u l) ≤ wU u + 2 * (1 + l.length) := by
  unfold lineI
  cases h : isHide l with
  | true =>
    have h1 := (pathI_w (l.drop 5)).1
    rw [List.length_drop] at h1
    have h5 : 5 ≤ l.length := by
      unfold isHide at h
      have := congrArg List.length (eq_of_beq h)
      simp at this
      omega
    simp only [cond_true, wU, wL_append, wL]
    omega
  | false =>
    have h1 := (pathI_w ((cutAt 32 l ++ [[], [], []]).getD 1 [])).1
    have h2 := word_len l 1
    have h3 := word_len l 3
    have h4 := unhexI_len ((cutAt 32 l ++ [[], [], []]).getD 3 [])
    have h5 : (putI l).data.length ≤ l.length := by
      unfold putI
      simp only
      cases ((cutAt 32 l ++ [[], [], []]).getD 0 [] == [100, 105, 114]) <;> simp only [cond_true, cond_false, List.length_nil] <;> omega
    have h6 : wP (putI l).path ≤ l.length + 1 := by
      unfold putI
      simp only
      omega
    simp only [cond_false, wU, wL_append, wL, wE]
    omega
theorem wU_readI : ∀ (ls : List Str) (u : Upper), wU (readI u ls) ≤ wU u + 2 * wL List.length ls
  | [], u => by simp [readI]
  | l :: ls, u => by
    have h1 := wU_readI ls (lineI u l)
    have h2 := wU_lineI u l
    simp only [wL]
    have : readI u (l :: ls) = readI (lineI u l) ls := rfl
    rw [this]
    omega
theorem OU_of {u : Upper} (h : wU u ≤ 1048576) : OU u := by
  unfold wU at h
  have h1 := wL_len wP u.gone
  have h2 := wL_len wE u.puts
  refine ⟨⟨by omega, fun p hp => oP_of (by have := wL_mem wP u.gone p hp; omega)⟩, ⟨by omega, fun e he => ?_⟩⟩
  have h3 := wL_mem wE u.puts e he
  have h4 : wE e = wP e.path + e.data.length := rfl
  exact ⟨oP_of (by omega), by unfold sS; omega⟩
def rUB : Option Upper → Option Res
  | some u => some ⟨[.o .deep (u.gone.map ePa), .o .deep (u.puts.map eE), .v (.bool true)], []⟩
  | none => some ⟨[.o .deep [], .o .deep [], .v (.bool false)], []⟩
theorem iUpperRead_ok (s : Str) (hs : s.length ≤ 1048576) : iUpperRead [vS s] [] = rUB (UI s) := by
  rw [iUpperRead.e]
  unfold UI
  by_cases h4 : s.length ≤ 4000
  · have h1 := ilinesOf_ok s hs
    have hw := wL_lines s
    have hl : ∀ l ∈ linesT s, l.length ≤ 1048576 := fun l hm => by have := wL_mem List.length (linesT s) l hm; omega
    have hn := wL_len List.length (linesT s)
    have key := iUpperRead.l5 s (linesT s) (by omega) hl 0 (by omega) ⟨[], []⟩ (by simp)
    rw [List.drop_zero] at key
    have hu := wU_readI (linesT s) ⟨[], []⟩
    have h0 : wU ⟨[], []⟩ = 0 := rfl
    generalize readI ⟨[], []⟩ (linesT s) = u at *
    have h2 := iUpperWrite_ok u (OU_of (by omega)) (by omega)
    have e : (cutAt 10 s).dropLast = linesT s := rfl
    rw [e] at h1
    simp only [List.map_nil] at key
    have key' : iUpperRead.L5 (mkS s) (eSs (linesT s)) ((linesT s).length : Int) 0 [] [] [] [] = _ := key
    simp (disch := omega) only [pvS, pvT, pvC, pvL, pvN, h1, key', iUpperRead.a5x5, h2]
    by_cases he : upT u = s
    · have hb : (upT u == s) = true := by simp [he]
      rw [if_pos ⟨h4, he⟩]
      simp only [hb, pvL]
      rfl
    · have hb : (upT u == s) = false := by simpa using he
      rw [if_neg (fun h => he h.2)]
      simp only [hb, pvL]
      rfl
  · rw [if_neg (fun h => h4 h.1)]
    simp (disch := omega) only [pvS, pvT, pvC, pvL, pvN]
    rfl
end Go.PVx
namespace Go.PVx
open Go.PV Go.Proofs
def modeW (w : List Str) : Int := (((w.getD 2 []).headD 0).toNat : Int) - 48
def partR (w : List Str) : (Bool × Int × Str) × Bool :=
  if (w.getD 0 [] ≠ [102, 105, 108, 101] ∧ w.getD 0 [] ≠ [100, 105, 114]) ∨ w.length ≠ (if w.getD 0 [] = [102, 105, 108, 101] then 4 else 3) ∨ (w.getD 2 []).length ≠ 1 ∨ ((w.getD 2 []).headD 0).toNat < 48 ∨ 55 < ((w.getD 2 []).headD 0).toNat then ((false, 0, []), false)
  else if w.getD 0 [] = [100, 105, 114] then ((true, modeW w, []), true)
  else ((false, modeW w, (bytesS (w.getD 3 [])).getD []), (bytesS (w.getD 3 [])).isSome)
def badP (w : List Str) : Prop := (w.getD 0 [] ≠ [102, 105, 108, 101] ∧ w.getD 0 [] ≠ [100, 105, 114]) ∨ w.length ≠ (if w.getD 0 [] = [102, 105, 108, 101] then 4 else 3) ∨ (w.getD 2 []).length ≠ 1 ∨ ((w.getD 2 []).headD 0).toNat < 48 ∨ 55 < ((w.getD 2 []).headD 0).toNat
theorem partR_bad {w : List Str} (h : badP w) : partR w = ((false, 0, []), false) := if_pos h
theorem partR_good {w : List Str} (h : ¬ badP w) : partR w = if w.getD 0 [] = [100, 105, 114] then ((true, modeW w, []), true) else ((false, modeW w, (bytesS (w.getD 3 [])).getD []), (bytesS (w.getD 3 [])).isSome) := if_neg h
theorem partS_bad {w : List Str} (h : badP w) : partS w = none := if_pos h
theorem partS_good {w : List Str} (h : ¬ badP w) : partS w = if w.getD 0 [] = [100, 105, 114] then some (true, modeW w, []) else (bytesS (w.getD 3 [])).map fun d => (false, modeW w, d) := if_neg h
theorem partS_R (w : List Str) : partS w = bif (partR w).2 then some (partR w).1 else none := by
  by_cases h : badP w
  · rw [partR_bad h, partS_bad h]; rfl
  · rw [partR_good h, partS_good h]
    by_cases h2 : w.getD 0 [] = [100, 105, 114]
    · rw [if_pos h2, if_pos h2]; rfl
    · rw [if_neg h2, if_neg h2]
      cases bytesS (w.getD 3 []) <;> rfl
def rPart (x : (Bool × Int × Str) × Bool) : Option Res := some ⟨[.v (.bool x.1.1), .v (.int .i64 x.1.2.1), .v (.string (mkS x.1.2.2)), .o .deep [], .o .deep [], .v (.bool x.2)], []⟩
theorem sl1Part_ok (W : List Str) (hW : 1 ≤ W.length) (hl : W.length ≤ 1048577) (hw : ∀ x ∈ W, x.length ≤ 1048576) : sl1Part [vP W] [] = rPart (partR W) := by
  have g : ∀ i (h : i < W.length), W.getD i [] = W[i] := fun i h => by rw [List.getD_eq_getElem?_getD, List.getElem?_eq_getElem h, Option.getD_some]
  have g0 := g 0 (by omega)
  have b0 : (mkS [102, 105, 108, 101]).get! 0 = 102 := rfl
  have b1 : (mkS [102, 105, 108, 101]).get! 1 = 105 := rfl
  have b2 : (mkS [102, 105, 108, 101]).get! 2 = 108 := rfl
  have b3 : (mkS [102, 105, 108, 101]).get! 3 = 101 := rfl
  have c0 : (mkS [100, 105, 114]).get! 0 = 100 := rfl
  have c1 : (mkS [100, 105, 114]).get! 1 = 105 := rfl
  have c2 : (mkS [100, 105, 114]).get! 2 = 114 := rfl
  have key : ∀ n : Int, n = (if W[0] = [102, 105, 108, 101] then 4 else 3) → sl1Part.P5 (eSs W) n false 0 (mkS []) [] [] false 0 (mkS []) [] [] = rPart (partR W) := by
    intro n hn
    rw [sl1Part.p5]
    by_cases hf : W[0] = [102, 105, 108, 101] ∨ W[0] = [100, 105, 114]
    · by_cases hlen : (W.length : Int) = n
      · have hW3 : 2 < W.length := by split at hn <;> omega
        have g2 := g 2 hW3
        by_cases h1 : W[2].length = 1
        · obtain ⟨c, hc⟩ : ∃ c, W[2] = [c] := List.length_eq_one_iff.1 h1
          have hcb := c.toNat_lt
          have hby : byteAt (mkS [c]) 0 = (c.toNat : Int) := rfl
          by_cases h48 : c.toNat < 48 ∨ 55 < c.toNat
          · have hbad : badP W := by
              right; right; right
              rw [g2, hc]
              exact h48
            rw [partR_bad hbad]
            rcases hf with h0 | h0 <;> rcases h48 with h48 | h48 <;>
            · simp (disch := omega) only [pvS, pvT, pvC, pvL, pvR, pvN, h0, hc, hby, b0, b1, b2, b3, c0, c1, c2, sl1Part.p6, hlen]
              simp [rPart]
          · have hgood : ¬ badP W := by
              unfold badP
              rw [g0, g2, hc]
              have h1 : ¬ (W[0] ≠ [102, 105, 108, 101] ∧ W[0] ≠ [100, 105, 114]) := by grind
              have h2 : ¬ (W.length ≠ (if W[0] = [102, 105, 108, 101] then 4 else 3)) := by split at hn <;> simp_all <;> omega
              rintro (hh | hh | hh | hh | hh)
              · exact h1 hh
              · exact h2 hh
              · exact hh rfl
              · exact h48 (.inl hh)
              · exact h48 (.inr hh)
            rw [partR_good hgood]
            unfold modeW
            rw [g0, g2, hc]
            rcases hf with h0 | h0
            · rw [if_pos h0] at hn
              subst hn
              have g3 := g 3 (by omega)
              have e3 := sl1Bytes_ok W[3] (hw _ (List.getElem_mem _))
              unfold rBy at e3
              simp (disch := omega) only [pvS, pvT, pvC, pvL, pvR, pvN, h0, hc, hby, b0, b1, b2, b3, c0, c1, c2, sl1Part.p6, sl1Part.p7, sl1Part.p12, e3, g3]
              simp [rPart]
            · have : W[0] ≠ [102, 105, 108, 101] := by rw [h0]; simp
              rw [if_neg this] at hn
              subst hn
              simp (disch := omega) only [pvS, pvT, pvC, pvL, pvR, pvN, h0, hc, hby, b0, b1, b2, b3, c0, c1, c2, sl1Part.p6, sl1Part.p7, sl1Part.p12]
              simp [rPart]
        · have hbad : badP W := by
            right; right; left
            rw [g2]
            exact h1
          rw [partR_bad hbad]
          rcases hf with h0 | h0 <;>
          · simp (disch := omega) only [pvS, pvT, pvC, pvL, pvR, pvN, h0, b0, b1, b2, b3, c0, c1, c2, sl1Part.p6, hlen]
            simp [rPart]
      · have hbad : badP W := by
          right; left
          rw [g0]
          split at hn <;> simp_all <;> omega
        rw [partR_bad hbad]
        rcases hf with h0 | h0 <;>
        · simp (disch := omega) only [pvS, pvT, pvC, pvL, pvR, pvN, h0, b0, b1, b2, b3, c0, c1, c2, sl1Part.p6]
          simp [rPart]
    · have hbad : badP W := by
        left
        rw [g0]
        grind
      rw [partR_bad hbad]
      have q1 : (W[0] == [102, 105, 108, 101]) = false := by grind
      have q2 : (W[0] == [100, 105, 114]) = false := by grind
      simp (disch := omega) only [pvS, pvT, pvC, pvL, pvR, pvN, b0, b1, b2, b3, c0, c1, c2, q1, q2, sl1Part.p6]
      simp [rPart]
  rw [sl1Part.e]
  simp (disch := omega) only [pvS, pvT, pvC, pvL, pvR, pvN, b0, b1, b2, b3]
  by_cases h0 : W[0] = [102, 105, 108, 101]
  · have q : (W[0] == [102, 105, 108, 101]) = true := by simp [h0]
    simp only [q, pvL]
    exact key 4 (by rw [if_pos h0])
  · have q : (W[0] == [102, 105, 108, 101]) = false := by simpa using h0
    simp only [q, pvL]
    exact key 3 (by rw [if_neg h0])
end Go.PVx
namespace Go.PVx
open Go.PV Go.Proofs
theorem sl41Copy.l3 (u : Upper) (hw : wU u ≤ 1048576) : ∀ k, k ≤ u.gone.length →
    sl41Copy.L3 (k : Int) (u.gone.map ePa) (u.puts.map eE) [] [] ((u.gone.take k).map ePa) [] = some (sl41Copy.x3 (u.gone.map ePa) (u.puts.map eE) [] [] (u.gone.map ePa) []) := by
  unfold wU at hw
  have hn := wL_len wP u.gone
  refine up u.gone.length ?_ fun k hk ih => ?_
  · rw [sl41Copy.s3]
    simp (disch := omega) only [pvL, pvN]
  · have hwE := wL_at wP hk
    have hp := wP_len u.gone[k]
    rw [sl41Copy.s3]
    have e : (u.gone.take k).map ePa ++ [[D.s (eSs u.gone[k])]] = (u.gone.take (k + 1)).map ePa := by
      rw [take_snoc u.gone k hk, List.map_append]
      rfl
    have hmin : min k u.gone.length = k := by omega
    simp (disch := omega) only [pvS, pvT, pvC, pvL, pvN, paths_at hk, hmin, e]
    exact ih
theorem sl41Copy.l7 (u : Upper) (hw : wU u ≤ 1048576) : ∀ k, k ≤ u.puts.length →
    sl41Copy.L7 (k : Int) (u.gone.map ePa) (u.puts.map eE) [] [] (u.gone.map ePa) ((u.puts.take k).map eE) = some (sl41Copy.x7 [] [] (u.gone.map ePa) (u.puts.map eE)) := by
  unfold wU at hw
  have hn := wL_len wE u.puts
  refine up u.puts.length ?_ fun k hk ih => ?_
  · rw [sl41Copy.s7]
    simp (disch := omega) only [pvL, pvN]
  · have hwE := wL_at wE hk
    have hp := wP_len u.puts[k].path
    have he' : wE u.puts[k] = wP u.puts[k].path + u.puts[k].data.length := rfl
    rw [sl41Copy.s7]
    have e : (u.puts.take k).map eE ++ [[D.s (eSs u.puts[k].path), D.v (Value.int IntKind.i64 u.puts[k].what), D.v (Value.bool u.puts[k].dir), D.v (Value.int IntKind.i64 u.puts[k].mode), D.v (Value.string (mkS u.puts[k].data))]] = (u.puts.take (k + 1)).map eE := by
      rw [take_snoc u.puts k hk, List.map_append]
      rfl
    have hmin : min k u.puts.length = k := by omega
    simp (disch := omega) only [pvS, pvT, pvC, pvL, pvN, entry_at hk, hmin, e]
    exact ih
theorem sl41Copy_ok (u : Upper) (hw : wU u ≤ 1048576) : sl41Copy [vU u] [] = rU u := by
  have h1 := sl41Copy.l3 u hw 0 (by omega)
  have h2 := sl41Copy.l7 u hw 0 (by omega)
  rw [List.take_zero, List.map_nil] at h1 h2
  have h1' : sl41Copy.L3 0 (u.gone.map ePa) (u.puts.map eE) [] [] [] [] = _ := h1
  have h2' : sl41Copy.L7 0 (u.gone.map ePa) (u.puts.map eE) [] [] (u.gone.map ePa) [] = _ := h2
  rw [sl41Copy.e, h1', Option.bind_some, sl41Copy.a3x3, h2', Option.bind_some, sl41Copy.a7x7]
def finS' (s : Str) (o : Option Upper) : Option Res := rUB (o.bind fun u => if upT u = s then some u else none)
theorem sUpperRead.fin (s : Str) (u : Upper) (hw : wU u ≤ 1048576) :
    ((sUpperWrite [AV.g [A1.s (u.gone.map ePa), A1.s (u.puts.map eE)]] []).bind fun val =>
      bif fitsCells [R1.str] val.1 && true then
        bif !(val.1.getD 0 TC.d).str.toList == (mkS s).toList then some { cells := [TC.o Own.deep [], TC.o Own.deep [], TC.v (Value.bool false)], objs := [] }
        else
          (sl41Copy [AV.g [A1.s (u.gone.map ePa), A1.s (u.puts.map eE)]] []).bind fun val =>
            bif fitsCells [R1.own Own.deep, R1.own Own.deep] val.1 && true then
              some { cells := [TC.o Own.deep (val.1.getD 0 TC.d).es, TC.o Own.deep (val.1.getD 1 TC.d).es, TC.v (Value.bool true)], objs := [] }
            else none
      else none) = finS' s (some u) := by
  have h1 := sUpperWrite_ok u (OU_of hw) hw
  have h2 := sl41Copy_ok u hw
  unfold finS'
  rw [Option.bind_some]
  by_cases he : upT u = s
  · have hb : (upT u == s) = true := by simp [he]
    rw [if_pos he]
    simp (disch := omega) only [pvS, pvT, pvC, pvL, pvN, h1, h2, hb]
    rfl
  · have hb : (upT u == s) = false := by simpa using he
    rw [if_neg he]
    simp (disch := omega) only [pvS, pvT, pvC, pvL, pvN, h1, hb]
    rfl
theorem sUpperRead.x (s : Str) (u : Upper) (hw : wU u ≤ 1048576) :
    sUpperRead.A4 (sUpperRead.x4 (mkS s) [] [] (u.gone.map ePa) (u.puts.map eE)) = finS' s (some u) ∧ sUpperRead.A4 (sUpperRead.x4b (mkS s) [] [] (u.gone.map ePa) (u.puts.map eE)) = finS' s (some u) ∧
    sUpperRead.A4 (sUpperRead.x4c (mkS s) [] [] (u.gone.map ePa) (u.puts.map eE)) = finS' s (some u) ∧ sUpperRead.A4 (sUpperRead.x4d (mkS s) [] [] (u.gone.map ePa) (u.puts.map eE)) = finS' s (some u) :=
  ⟨(sUpperRead.a4x4 _ _ _ _ _).trans (sUpperRead.fin s u hw), (sUpperRead.a4x4b _ _ _ _ _).trans (sUpperRead.fin s u hw), (sUpperRead.a4x4c _ _ _ _ _).trans (sUpperRead.fin s u hw), (sUpperRead.a4x4d _ _ _ _ _).trans (sUpperRead.fin s u hw)⟩
end Go.PVx
namespace Go.PVx
open Go.PV Go.Proofs
theorem words13 (l : Str) : ((cutAt 32 l).getD 1 []).length + ((cutAt 32 l).getD 3 []).length ≤ l.length := by
  have h := wL_cut 32 l
  generalize cutAt 32 l = w at *
  match w, h with
  | [], h => simp
  | [a], h => simp
  | [a, b], h => simp [wL] at h ⊢; omega
  | [a, b, c], h => simp [wL] at h ⊢; omega
  | a :: b :: c :: d :: w, h => simp [wL] at h ⊢; omega
theorem partS_len {w : List Str} {t : Bool × Int × Str} (h : partS w = some t) : t.2.2.length ≤ (w.getD 3 []).length := by
  by_cases hb : badP w
  · rw [partS_bad hb] at h; simp at h
  · rw [partS_good hb] at h
    split at h
    · obtain rfl := Option.some.inj h; simp
    · rw [Option.map_eq_some_iff] at h
      obtain ⟨d, h1, rfl⟩ := h
      have := bytesS_w (w.getD 3 [])
      rw [h1] at this
      simpa using this
theorem wU_lineS {u v : Upper} {l : Str} (h : lineS u l = some v) : wU v ≤ wU u + (1 + l.length) := by
  have h13 := words13 l
  have hp := pathS_w ((cutAt 32 l).getD 1 [])
  unfold lineS at h
  simp only at h
  split at h
  · simp at h
  · split at h
    · obtain rfl := Option.some.inj h
      simp only [wU, wL_append, wL]
      omega
    · rw [Option.map_eq_some_iff] at h
      obtain ⟨t, h1, rfl⟩ := h
      have := partS_len h1
      simp only [wU, wL_append, wL, wE]
      omega
theorem sUpperRead.step (s : Str) (hs : s.length ≤ 1048576) (k : Nat) (hk : k < (linesT s).length) (u : Upper) (hu : wU u + wL List.length ((linesT s).drop k) ≤ 1048576)
    (ihh : ∀ v : Upper, wU v + wL List.length ((linesT s).drop (k + 1)) ≤ 1048576 → (sUpperRead.L4b (mkS s) ((k + 1 : Nat) : Int) [] [] (v.gone.map ePa) (v.puts.map eE) (eSs (cutAt 10 s))).bind sUpperRead.A4 = finS' s (readS v ((linesT s).drop (k + 1))))
    (ihp : ∀ v : Upper, wU v + wL List.length ((linesT s).drop (k + 1)) ≤ 1048576 → (sUpperRead.L4c (mkS s) ((k + 1 : Nat) : Int) [] [] (v.gone.map ePa) (v.puts.map eE) (eSs (cutAt 10 s))).bind sUpperRead.A4 = finS' s (readS v ((linesT s).drop (k + 1)))) :
    (sUpperRead.L4 (mkS s) (k : Int) [] [] (u.gone.map ePa) (u.puts.map eE) (eSs (cutAt 10 s))).bind sUpperRead.A4 = finS' s (readS u ((linesT s).drop k)) := by
  have hd := drop_cons (linesT s) k hk
  have hn := nthC hk
  have hlc := lenC s
  have hll := wL_len List.length (linesT s)
  have hwl := wL_lines s
  have hlk := wL_at List.length hk
  have hv := @wU_lineS u
  have hug := wL_len wP u.gone
  have hup := wL_len wE u.puts
  have huw : wU u = wL wP u.gone + wL wE u.puts := rfl
  rw [hd] at hu ⊢
  simp only [wL] at hu
  show _ = finS' s ((lineS u (linesT s)[k]).bind fun v => readS v ((linesT s).drop (k + 1)))
  rw [sUpperRead.s4]
  generalize (linesT s)[k] = l at *
  have hc := cut32' l (by omega)
  have hcw := wL_cut 32 l
  have hcl := cutAt_len 32 l
  have hv := fun v => @hv v l
  unfold lineS at hv ⊢
  simp only at hv ⊢
  generalize cutAt 32 l = w at *
  simp (disch := omega) only [pvS, pvT, pvC, pvL, pvN, hn, hc]
  by_cases h2 : w.length < 2
  · rw [if_pos (.inl h2)]
    simp (disch := omega) only [pvL, pvN, sUpperRead.a4q4]
    rfl
  · have g : ∀ i (h : i < w.length), w.getD i [] = w[i] := fun i h => by rw [List.getD_eq_getElem?_getD, List.getElem?_eq_getElem h, Option.getD_some]
    have g0 := g 0 (by omega)
    have g1 := g 1 (by omega)
    have hwl : ∀ x ∈ w, x.length ≤ 1048576 := fun x hx => by have := wL_mem List.length w x hx; omega
    have hp := sl41PathOf_ok w[1] (hwl _ (List.getElem_mem _))
    unfold rPB at hp
    have hpart := sl1Part_ok w (by omega) (by omega) hwl
    unfold rPart at hpart
    have hb0 : (mkS [104, 105, 100, 101]).get! 0 = 104 := rfl
    have hb1 : (mkS [104, 105, 100, 101]).get! 1 = 105 := rfl
    have hb2 : (mkS [104, 105, 100, 101]).get! 2 = 100 := rfl
    have hb3 : (mkS [104, 105, 100, 101]).get! 3 = 101 := rfl
    rw [g1, g0] at hv
    rw [g1, g0]
    cases hpb : (pathS w[1]).2 with
    | false =>
      rw [if_pos (.inr rfl)]
      simp (disch := omega) only [pvS, pvT, pvC, pvL, pvR, pvN, hp, hpb, sUpperRead.p10, sUpperRead.a4q4]
      rfl
    | true =>
      rw [hpb] at hv
      have hif : ¬ (w.length < 2 ∨ true = false) := by simp; omega
      rw [if_neg hif] at hv
      rw [if_neg hif]
      by_cases h0 : w[0] = hideW
      · rw [if_pos h0] at hv ⊢
        have hv' := hv _ rfl
        have ih := ihh ⟨u.gone ++ [(pathS w[1]).1], u.puts⟩ (by omega)
        have q : (w[0] == [104, 105, 100, 101]) = true := by rw [h0]; rfl
        have e : u.gone.map ePa ++ [[D.s (eSs (pathS w[1]).1)]] = (u.gone ++ [(pathS w[1]).1]).map ePa := by simp [ePa]
        simp (disch := omega) only [pvS, pvT, pvC, pvL, pvR, pvN, hp, hpb, sUpperRead.p10, hb0, hb1, hb2, hb3, q, e]
        exact ih
      · have q : (w[0] == [104, 105, 100, 101]) = false := by simpa [hideW] using h0
        rw [if_neg h0] at hv ⊢
        have hR := partS_R w
        simp (disch := omega) only [pvS, pvT, pvC, pvL, pvR, pvN, hp, hpb, sUpperRead.p10, hb0, hb1, hb2, hb3, q, hpart, sUpperRead.p16]
        cases hok : (partR w).2 with
        | false =>
          rw [hok, cond_false] at hR
          rw [hR]
          simp (disch := omega) only [pvL, sUpperRead.a4q4]
          rfl
        | true =>
          rw [hok, cond_true] at hR
          rw [hR] at hv ⊢
          have hv' : wU ⟨u.gone, u.puts ++ [(⟨(pathS w[1]).1, 2, (partR w).1.1, (partR w).1.2.1, (partR w).1.2.2⟩ : Entry)]⟩ ≤ wU u + (1 + l.length) := hv _ rfl
          have ih := ihp ⟨u.gone, u.puts ++ [(⟨(pathS w[1]).1, 2, (partR w).1.1, (partR w).1.2.1, (partR w).1.2.2⟩ : Entry)]⟩ (by omega)
          have e : u.puts.map eE ++ [[D.s (eSs (pathS w[1]).1), D.v (Value.int IntKind.i64 2), D.v (Value.bool (partR w).1.1), D.v (Value.int IntKind.i64 (partR w).1.2.1), D.v (Value.string (mkS (partR w).1.2.2))]] = (u.puts ++ [(⟨(pathS w[1]).1, 2, (partR w).1.1, (partR w).1.2.1, (partR w).1.2.2⟩ : Entry)]).map eE := by
            rw [List.map_append]
            rfl
          simp (disch := omega) only [pvS, pvT, pvC, pvL, pvN, e]
          exact ih
theorem sUpperRead.stepb (s : Str) (hs : s.length ≤ 1048576) (k : Nat) (hk : k < (linesT s).length) (u : Upper) (hu : wU u + wL List.length ((linesT s).drop k) ≤ 1048576)
    (ihh : ∀ v : Upper, wU v + wL List.length ((linesT s).drop (k + 1)) ≤ 1048576 → (sUpperRead.L4b (mkS s) ((k + 1 : Nat) : Int) [] [] (v.gone.map ePa) (v.puts.map eE) (eSs (cutAt 10 s))).bind sUpperRead.A4 = finS' s (readS v ((linesT s).drop (k + 1))))
    (ihp : ∀ v : Upper, wU v + wL List.length ((linesT s).drop (k + 1)) ≤ 1048576 → (sUpperRead.L4d (mkS s) ((k + 1 : Nat) : Int) [] [] (v.gone.map ePa) (v.puts.map eE) (eSs (cutAt 10 s))).bind sUpperRead.A4 = finS' s (readS v ((linesT s).drop (k + 1)))) :
    (sUpperRead.L4b (mkS s) (k : Int) [] [] (u.gone.map ePa) (u.puts.map eE) (eSs (cutAt 10 s))).bind sUpperRead.A4 = finS' s (readS u ((linesT s).drop k)) := by
  have hd := drop_cons (linesT s) k hk
  have hn := nthC hk
  have hlc := lenC s
  have hll := wL_len List.length (linesT s)
  have hwl := wL_lines s
  have hlk := wL_at List.length hk
  have hv := @wU_lineS u
  have hug := wL_len wP u.gone
  have hup := wL_len wE u.puts
  have huw : wU u = wL wP u.gone + wL wE u.puts := rfl
  rw [hd] at hu ⊢
  simp only [wL] at hu
  show _ = finS' s ((lineS u (linesT s)[k]).bind fun v => readS v ((linesT s).drop (k + 1)))
  rw [sUpperRead.s4b]
  generalize (linesT s)[k] = l at *
  have hc := cut32' l (by omega)
  have hcw := wL_cut 32 l
  have hcl := cutAt_len 32 l
  have hv := fun v => @hv v l
  unfold lineS at hv ⊢
  simp only at hv ⊢
  generalize cutAt 32 l = w at *
  simp (disch := omega) only [pvS, pvT, pvC, pvL, pvN, hn, hc]
  by_cases h2 : w.length < 2
  · rw [if_pos (.inl h2)]
    simp (disch := omega) only [pvL, pvN, sUpperRead.a4q4b]
    rfl
  · have g : ∀ i (h : i < w.length), w.getD i [] = w[i] := fun i h => by rw [List.getD_eq_getElem?_getD, List.getElem?_eq_getElem h, Option.getD_some]
    have g0 := g 0 (by omega)
    have g1 := g 1 (by omega)
    have hwl : ∀ x ∈ w, x.length ≤ 1048576 := fun x hx => by have := wL_mem List.length w x hx; omega
    have hp := sl41PathOf_ok w[1] (hwl _ (List.getElem_mem _))
    unfold rPB at hp
    have hpart := sl1Part_ok w (by omega) (by omega) hwl
    unfold rPart at hpart
    have hb0 : (mkS [104, 105, 100, 101]).get! 0 = 104 := rfl
    have hb1 : (mkS [104, 105, 100, 101]).get! 1 = 105 := rfl
    have hb2 : (mkS [104, 105, 100, 101]).get! 2 = 100 := rfl
    have hb3 : (mkS [104, 105, 100, 101]).get! 3 = 101 := rfl
    rw [g1, g0] at hv
    rw [g1, g0]
    cases hpb : (pathS w[1]).2 with
    | false =>
      rw [if_pos (.inr rfl)]
      simp (disch := omega) only [pvS, pvT, pvC, pvL, pvR, pvN, hp, hpb, sUpperRead.p10b, sUpperRead.a4q4b]
      rfl
    | true =>
      rw [hpb] at hv
      have hif : ¬ (w.length < 2 ∨ true = false) := by simp; omega
      rw [if_neg hif] at hv
      rw [if_neg hif]
      by_cases h0 : w[0] = hideW
      · rw [if_pos h0] at hv ⊢
        have hv' := hv _ rfl
        have ih := ihh ⟨u.gone ++ [(pathS w[1]).1], u.puts⟩ (by omega)
        have q : (w[0] == [104, 105, 100, 101]) = true := by rw [h0]; rfl
        have e : u.gone.map ePa ++ [[D.s (eSs (pathS w[1]).1)]] = (u.gone ++ [(pathS w[1]).1]).map ePa := by simp [ePa]
        simp (disch := omega) only [pvS, pvT, pvC, pvL, pvR, pvN, hp, hpb, sUpperRead.p10b, hb0, hb1, hb2, hb3, q, e]
        exact ih
      · have q : (w[0] == [104, 105, 100, 101]) = false := by simpa [hideW] using h0
        rw [if_neg h0] at hv ⊢
        have hR := partS_R w
        simp (disch := omega) only [pvS, pvT, pvC, pvL, pvR, pvN, hp, hpb, sUpperRead.p10b, hb0, hb1, hb2, hb3, q, hpart, sUpperRead.p16b]
        cases hok : (partR w).2 with
        | false =>
          rw [hok, cond_false] at hR
          rw [hR]
          simp (disch := omega) only [pvL, sUpperRead.a4q4b]
          rfl
        | true =>
          rw [hok, cond_true] at hR
          rw [hR] at hv ⊢
          have hv' : wU ⟨u.gone, u.puts ++ [(⟨(pathS w[1]).1, 2, (partR w).1.1, (partR w).1.2.1, (partR w).1.2.2⟩ : Entry)]⟩ ≤ wU u + (1 + l.length) := hv _ rfl
          have ih := ihp ⟨u.gone, u.puts ++ [(⟨(pathS w[1]).1, 2, (partR w).1.1, (partR w).1.2.1, (partR w).1.2.2⟩ : Entry)]⟩ (by omega)
          have e : u.puts.map eE ++ [[D.s (eSs (pathS w[1]).1), D.v (Value.int IntKind.i64 2), D.v (Value.bool (partR w).1.1), D.v (Value.int IntKind.i64 (partR w).1.2.1), D.v (Value.string (mkS (partR w).1.2.2))]] = (u.puts ++ [(⟨(pathS w[1]).1, 2, (partR w).1.1, (partR w).1.2.1, (partR w).1.2.2⟩ : Entry)]).map eE := by
            rw [List.map_append]
            rfl
          simp (disch := omega) only [pvS, pvT, pvC, pvL, pvN, e]
          exact ih
theorem sUpperRead.stepc (s : Str) (hs : s.length ≤ 1048576) (k : Nat) (hk : k < (linesT s).length) (u : Upper) (hu : wU u + wL List.length ((linesT s).drop k) ≤ 1048576)
    (ihh : ∀ v : Upper, wU v + wL List.length ((linesT s).drop (k + 1)) ≤ 1048576 → (sUpperRead.L4d (mkS s) ((k + 1 : Nat) : Int) [] [] (v.gone.map ePa) (v.puts.map eE) (eSs (cutAt 10 s))).bind sUpperRead.A4 = finS' s (readS v ((linesT s).drop (k + 1))))
    (ihp : ∀ v : Upper, wU v + wL List.length ((linesT s).drop (k + 1)) ≤ 1048576 → (sUpperRead.L4c (mkS s) ((k + 1 : Nat) : Int) [] [] (v.gone.map ePa) (v.puts.map eE) (eSs (cutAt 10 s))).bind sUpperRead.A4 = finS' s (readS v ((linesT s).drop (k + 1)))) :
    (sUpperRead.L4c (mkS s) (k : Int) [] [] (u.gone.map ePa) (u.puts.map eE) (eSs (cutAt 10 s))).bind sUpperRead.A4 = finS' s (readS u ((linesT s).drop k)) := by
  have hd := drop_cons (linesT s) k hk
  have hn := nthC hk
  have hlc := lenC s
  have hll := wL_len List.length (linesT s)
  have hwl := wL_lines s
  have hlk := wL_at List.length hk
  have hv := @wU_lineS u
  have hug := wL_len wP u.gone
  have hup := wL_len wE u.puts
  have huw : wU u = wL wP u.gone + wL wE u.puts := rfl
  rw [hd] at hu ⊢
  simp only [wL] at hu
  show _ = finS' s ((lineS u (linesT s)[k]).bind fun v => readS v ((linesT s).drop (k + 1)))
  rw [sUpperRead.s4c]
  generalize (linesT s)[k] = l at *
  have hc := cut32' l (by omega)
  have hcw := wL_cut 32 l
  have hcl := cutAt_len 32 l
  have hv := fun v => @hv v l
  unfold lineS at hv ⊢
  simp only at hv ⊢
  generalize cutAt 32 l = w at *
  simp (disch := omega) only [pvS, pvT, pvC, pvL, pvN, hn, hc]
  by_cases h2 : w.length < 2
  · rw [if_pos (.inl h2)]
    simp (disch := omega) only [pvL, pvN, sUpperRead.a4q4c]
    rfl
  · have g : ∀ i (h : i < w.length), w.getD i [] = w[i] := fun i h => by rw [List.getD_eq_getElem?_getD, List.getElem?_eq_getElem h, Option.getD_some]
    have g0 := g 0 (by omega)
    have g1 := g 1 (by omega)
    have hwl : ∀ x ∈ w, x.length ≤ 1048576 := fun x hx => by have := wL_mem List.length w x hx; omega
    have hp := sl41PathOf_ok w[1] (hwl _ (List.getElem_mem _))
    unfold rPB at hp
    have hpart := sl1Part_ok w (by omega) (by omega) hwl
    unfold rPart at hpart
    have hb0 : (mkS [104, 105, 100, 101]).get! 0 = 104 := rfl
    have hb1 : (mkS [104, 105, 100, 101]).get! 1 = 105 := rfl
    have hb2 : (mkS [104, 105, 100, 101]).get! 2 = 100 := rfl
    have hb3 : (mkS [104, 105, 100, 101]).get! 3 = 101 := rfl
    rw [g1, g0] at hv
    rw [g1, g0]
    cases hpb : (pathS w[1]).2 with
    | false =>
      rw [if_pos (.inr rfl)]
      simp (disch := omega) only [pvS, pvT, pvC, pvL, pvR, pvN, hp, hpb, sUpperRead.p10c, sUpperRead.a4q4c]
      rfl
    | true =>
      rw [hpb] at hv
      have hif : ¬ (w.length < 2 ∨ true = false) := by simp; omega
      rw [if_neg hif] at hv
      rw [if_neg hif]
      by_cases h0 : w[0] = hideW
      · rw [if_pos h0] at hv ⊢
        have hv' := hv _ rfl
        have ih := ihh ⟨u.gone ++ [(pathS w[1]).1], u.puts⟩ (by omega)
        have q : (w[0] == [104, 105, 100, 101]) = true := by rw [h0]; rfl
        have e : u.gone.map ePa ++ [[D.s (eSs (pathS w[1]).1)]] = (u.gone ++ [(pathS w[1]).1]).map ePa := by simp [ePa]
        simp (disch := omega) only [pvS, pvT, pvC, pvL, pvR, pvN, hp, hpb, sUpperRead.p10c, hb0, hb1, hb2, hb3, q, e]
        exact ih
      · have q : (w[0] == [104, 105, 100, 101]) = false := by simpa [hideW] using h0
        rw [if_neg h0] at hv ⊢
        have hR := partS_R w
        simp (disch := omega) only [pvS, pvT, pvC, pvL, pvR, pvN, hp, hpb, sUpperRead.p10c, hb0, hb1, hb2, hb3, q, hpart, sUpperRead.p16c]
        cases hok : (partR w).2 with
        | false =>
          rw [hok, cond_false] at hR
          rw [hR]
          simp (disch := omega) only [pvL, sUpperRead.a4q4c]
          rfl
        | true =>
          rw [hok, cond_true] at hR
          rw [hR] at hv ⊢
          have hv' : wU ⟨u.gone, u.puts ++ [(⟨(pathS w[1]).1, 2, (partR w).1.1, (partR w).1.2.1, (partR w).1.2.2⟩ : Entry)]⟩ ≤ wU u + (1 + l.length) := hv _ rfl
          have ih := ihp ⟨u.gone, u.puts ++ [(⟨(pathS w[1]).1, 2, (partR w).1.1, (partR w).1.2.1, (partR w).1.2.2⟩ : Entry)]⟩ (by omega)
          have e : u.puts.map eE ++ [[D.s (eSs (pathS w[1]).1), D.v (Value.int IntKind.i64 2), D.v (Value.bool (partR w).1.1), D.v (Value.int IntKind.i64 (partR w).1.2.1), D.v (Value.string (mkS (partR w).1.2.2))]] = (u.puts ++ [(⟨(pathS w[1]).1, 2, (partR w).1.1, (partR w).1.2.1, (partR w).1.2.2⟩ : Entry)]).map eE := by
            rw [List.map_append]
            rfl
          simp (disch := omega) only [pvS, pvT, pvC, pvL, pvN, e]
          exact ih
theorem sUpperRead.stepd (s : Str) (hs : s.length ≤ 1048576) (k : Nat) (hk : k < (linesT s).length) (u : Upper) (hu : wU u + wL List.length ((linesT s).drop k) ≤ 1048576)
    (ihh : ∀ v : Upper, wU v + wL List.length ((linesT s).drop (k + 1)) ≤ 1048576 → (sUpperRead.L4d (mkS s) ((k + 1 : Nat) : Int) [] [] (v.gone.map ePa) (v.puts.map eE) (eSs (cutAt 10 s))).bind sUpperRead.A4 = finS' s (readS v ((linesT s).drop (k + 1))))
    (ihp : ∀ v : Upper, wU v + wL List.length ((linesT s).drop (k + 1)) ≤ 1048576 → (sUpperRead.L4d (mkS s) ((k + 1 : Nat) : Int) [] [] (v.gone.map ePa) (v.puts.map eE) (eSs (cutAt 10 s))).bind sUpperRead.A4 = finS' s (readS v ((linesT s).drop (k + 1)))) :
    (sUpperRead.L4d (mkS s) (k : Int) [] [] (u.gone.map ePa) (u.puts.map eE) (eSs (cutAt 10 s))).bind sUpperRead.A4 = finS' s (readS u ((linesT s).drop k)) := by
  have hd := drop_cons (linesT s) k hk
  have hn := nthC hk
  have hlc := lenC s
  have hll := wL_len List.length (linesT s)
  have hwl := wL_lines s
  have hlk := wL_at List.length hk
  have hv := @wU_lineS u
  have hug := wL_len wP u.gone
  have hup := wL_len wE u.puts
  have huw : wU u = wL wP u.gone + wL wE u.puts := rfl
  rw [hd] at hu ⊢
  simp only [wL] at hu
  show _ = finS' s ((lineS u (linesT s)[k]).bind fun v => readS v ((linesT s).drop (k + 1)))
  rw [sUpperRead.s4d]
  generalize (linesT s)[k] = l at *
  have hc := cut32' l (by omega)
  have hcw := wL_cut 32 l
  have hcl := cutAt_len 32 l
  have hv := fun v => @hv v l
  unfold lineS at hv ⊢
  simp only at hv ⊢
  generalize cutAt 32 l = w at *
  simp (disch := omega) only [pvS, pvT, pvC, pvL, pvN, hn, hc]
  by_cases h2 : w.length < 2
  · rw [if_pos (.inl h2)]
    simp (disch := omega) only [pvL, pvN, sUpperRead.a4q4d]
    rfl
  · have g : ∀ i (h : i < w.length), w.getD i [] = w[i] := fun i h => by rw [List.getD_eq_getElem?_getD, List.getElem?_eq_getElem h, Option.getD_some]
    have g0 := g 0 (by omega)
    have g1 := g 1 (by omega)
    have hwl : ∀ x ∈ w, x.length ≤ 1048576 := fun x hx => by have := wL_mem List.length w x hx; omega
    have hp := sl41PathOf_ok w[1] (hwl _ (List.getElem_mem _))
    unfold rPB at hp
    have hpart := sl1Part_ok w (by omega) (by omega) hwl
    unfold rPart at hpart
    have hb0 : (mkS [104, 105, 100, 101]).get! 0 = 104 := rfl
    have hb1 : (mkS [104, 105, 100, 101]).get! 1 = 105 := rfl
    have hb2 : (mkS [104, 105, 100, 101]).get! 2 = 100 := rfl
    have hb3 : (mkS [104, 105, 100, 101]).get! 3 = 101 := rfl
    rw [g1, g0] at hv
    rw [g1, g0]
    cases hpb : (pathS w[1]).2 with
    | false =>
      rw [if_pos (.inr rfl)]
      simp (disch := omega) only [pvS, pvT, pvC, pvL, pvR, pvN, hp, hpb, sUpperRead.p10d, sUpperRead.a4q4d]
      rfl
    | true =>
      rw [hpb] at hv
      have hif : ¬ (w.length < 2 ∨ true = false) := by simp; omega
      rw [if_neg hif] at hv
      rw [if_neg hif]
      by_cases h0 : w[0] = hideW
      · rw [if_pos h0] at hv ⊢
        have hv' := hv _ rfl
        have ih := ihh ⟨u.gone ++ [(pathS w[1]).1], u.puts⟩ (by omega)
        have q : (w[0] == [104, 105, 100, 101]) = true := by rw [h0]; rfl
        have e : u.gone.map ePa ++ [[D.s (eSs (pathS w[1]).1)]] = (u.gone ++ [(pathS w[1]).1]).map ePa := by simp [ePa]
        simp (disch := omega) only [pvS, pvT, pvC, pvL, pvR, pvN, hp, hpb, sUpperRead.p10d, hb0, hb1, hb2, hb3, q, e]
        exact ih
      · have q : (w[0] == [104, 105, 100, 101]) = false := by simpa [hideW] using h0
        rw [if_neg h0] at hv ⊢
        have hR := partS_R w
        simp (disch := omega) only [pvS, pvT, pvC, pvL, pvR, pvN, hp, hpb, sUpperRead.p10d, hb0, hb1, hb2, hb3, q, hpart, sUpperRead.p16d]
        cases hok : (partR w).2 with
        | false =>
          rw [hok, cond_false] at hR
          rw [hR]
          simp (disch := omega) only [pvL, sUpperRead.a4q4d]
          rfl
        | true =>
          rw [hok, cond_true] at hR
          rw [hR] at hv ⊢
          have hv' : wU ⟨u.gone, u.puts ++ [(⟨(pathS w[1]).1, 2, (partR w).1.1, (partR w).1.2.1, (partR w).1.2.2⟩ : Entry)]⟩ ≤ wU u + (1 + l.length) := hv _ rfl
          have ih := ihp ⟨u.gone, u.puts ++ [(⟨(pathS w[1]).1, 2, (partR w).1.1, (partR w).1.2.1, (partR w).1.2.2⟩ : Entry)]⟩ (by omega)
          have e : u.puts.map eE ++ [[D.s (eSs (pathS w[1]).1), D.v (Value.int IntKind.i64 2), D.v (Value.bool (partR w).1.1), D.v (Value.int IntKind.i64 (partR w).1.2.1), D.v (Value.string (mkS (partR w).1.2.2))]] = (u.puts ++ [(⟨(pathS w[1]).1, 2, (partR w).1.1, (partR w).1.2.1, (partR w).1.2.2⟩ : Entry)]).map eE := by
            rw [List.map_append]
            rfl
          simp (disch := omega) only [pvS, pvT, pvC, pvL, pvN, e]
          exact ih
end Go.PVx
namespace Go.PVx
open Go.PV Go.Proofs
theorem sUpperRead.l (s : Str) (hs : s.length ≤ 1048576) : ∀ k, k ≤ (linesT s).length → ∀ u : Upper, wU u + wL List.length ((linesT s).drop k) ≤ 1048576 →
    (sUpperRead.L4 (mkS s) (k : Int) [] [] (u.gone.map ePa) (u.puts.map eE) (eSs (cutAt 10 s))).bind sUpperRead.A4 = finS' s (readS u ((linesT s).drop k)) ∧
    (sUpperRead.L4b (mkS s) (k : Int) [] [] (u.gone.map ePa) (u.puts.map eE) (eSs (cutAt 10 s))).bind sUpperRead.A4 = finS' s (readS u ((linesT s).drop k)) ∧
    (sUpperRead.L4c (mkS s) (k : Int) [] [] (u.gone.map ePa) (u.puts.map eE) (eSs (cutAt 10 s))).bind sUpperRead.A4 = finS' s (readS u ((linesT s).drop k)) ∧
    (sUpperRead.L4d (mkS s) (k : Int) [] [] (u.gone.map ePa) (u.puts.map eE) (eSs (cutAt 10 s))).bind sUpperRead.A4 = finS' s (readS u ((linesT s).drop k)) := by
  have hlc := lenC s
  have hll := wL_len List.length (linesT s)
  have hwl := wL_lines s
  refine up (linesT s).length ?_ fun k hk ih u hu => ?_
  · intro u hu
    obtain ⟨x1, x2, x3, x4⟩ := sUpperRead.x s u (by omega)
    rw [List.drop_length]
    refine ⟨?_, ?_, ?_, ?_⟩
    · rw [sUpperRead.s4]; simp (disch := omega) only [pvL, pvN]; exact x1
    · rw [sUpperRead.s4b]; simp (disch := omega) only [pvL, pvN]; exact x2
    · rw [sUpperRead.s4c]; simp (disch := omega) only [pvL, pvN]; exact x3
    · rw [sUpperRead.s4d]; simp (disch := omega) only [pvL, pvN]; exact x4
  · exact ⟨sUpperRead.step s hs k hk u hu (fun v hv => (ih v hv).2.1) (fun v hv => (ih v hv).2.2.1), sUpperRead.stepb s hs k hk u hu (fun v hv => (ih v hv).2.1) (fun v hv => (ih v hv).2.2.2),
      sUpperRead.stepc s hs k hk u hu (fun v hv => (ih v hv).2.2.2) (fun v hv => (ih v hv).2.2.1), sUpperRead.stepd s hs k hk u hu (fun v hv => (ih v hv).2.2.2) (fun v hv => (ih v hv).2.2.2)⟩
theorem sUpperRead_ok (s : Str) (hs : s.length ≤ 1048576) : sUpperRead [vS s] [] = rUB (US s) := by
  have hwl := wL_lines s
  have h0 : wU ⟨[], []⟩ = 0 := rfl
  have key := (sUpperRead.l s hs 0 (by omega) ⟨[], []⟩ (by rw [List.drop_zero]; omega)).1
  rw [List.drop_zero] at key
  have hc := sl1Cut_ok s 10 hs
  have hc' : sl1Cut [AV.one (A1.v (Value.string (mkS s))), AV.one (A1.v (Value.int IntKind.u8 10))] [] = some ⟨[.o .deep (eSs (cutAt 10 s))], []⟩ := hc
  rw [sUpperRead.e, hc', Option.bind_some]
  simp (disch := omega) only [pvS, pvT, pvC, pvL, pvN]
  exact key
end Go.PVx
namespace Go.PVx
open Go.PV Go.Proofs
noncomputable def mPs : Int → List (List Str) → List (List Str)
  | _, [] => []
  | k, p :: l => mP k p :: mPs (k + p.length) l
def cPs : List (List Str) → Nat
  | [] => 0
  | p :: l => p.length + cPs l
@[simp] theorem mPs_len : ∀ (l : List (List Str)) (k : Int), (mPs k l).length = l.length
  | [], _ => rfl
  | p :: l, k => by simp [mPs, mPs_len l]
theorem wmarkStringSS_ok (l : List (List Str)) (hl : l.length ≤ 1048576) (k : Int) (h0 : 0 ≤ k) (h1 : k + cPs l ≤ Top) :
    wmarkStringSS [.one (.r 0 [] 0), vI k] [gV (l.map ePa)] = rM (k + cPs l) ((mPs k l).map ePa) := by
  have hT : Top = 1000000000000 := rfl
  have key : ∀ j, j ≤ l.length → ∀ (m : List (List Str)) (k : Int), m.length = j → 0 ≤ k → k + cPs (l.drop j) ≤ Top →
      (wmarkStringSS.L2 k (j : Int) (m.map ePa ++ (l.drop j).map ePa)).bind wmarkStringSS.A2 = rM (k + cPs (l.drop j)) ((m ++ mPs k (l.drop j)).map ePa) := by
    refine up l.length ?_ fun j hj ih m k hm h0 h1 => ?_
    · intro m k hm h0 h1
      rw [wmarkStringSS.s2]
      simp [hm, wmarkStringSS.a2x2, mPs, cPs]
    · have hd := drop_cons l j hj
      have hg := turn_get ePa ePa l m j hj hm
      have hlen := turn_len ePa ePa l m j (by omega) hm
      have hmp : mPs k (l.drop j) = mP k l[j] :: mPs (k + l[j].length) (l.drop (j + 1)) := by rw [hd, mPs]
      have hcp : cPs (l.drop j) = l[j].length + cPs (l.drop (j + 1)) := by rw [hd, cPs]
      rw [hcp] at h1 ⊢
      rw [hmp]
      have hs := turn_set ePa ePa l m j hj hm (mP k l[j])
      have ht := wmarkStringS_ok l[j] k h0 (by omega)
      have ih' := ih (m ++ [mP k l[j]]) (k + l[j].length) (by simp [hm]) (by omega) (by omega)
      rw [wmarkStringSS.s2]
      have hs' : List.set (m.map ePa ++ (l.drop j).map ePa) j ((ePa l[j]).set 0 (D.s (eSs (mP k l[j])))) = _ := hs
      have he : (ePa l[j]).getD 0 D.h = D.s (eSs l[j]) := rfl
      have hle : (ePa l[j]).length = 1 := rfl
      rw [show m ++ mP k l[j] :: mPs (k + l[j].length) (l.drop (j + 1)) = m ++ [mP k l[j]] ++ mPs (k + l[j].length) (l.drop (j + 1)) from by simp]
      rw [show k + ((l[j].length + cPs (l.drop (j + 1)) : Nat) : Int) = k + l[j].length + (cPs (l.drop (j + 1)) : Nat) by omega, ← ih']
      have hfr : fitsRow [CK.sl] (ePa l[j]) 0 = true := rfl
      simp (disch := omega) only [pvS, pvC, pvL, pvN, pvO, hg, hlen, he, hle, ht, hs', hfr]
  rw [wmarkStringSS.e]
  have := key 0 (by omega) [] k rfl h0 (by simpa using h1)
  simpa using this
theorem ePa_len' (p : List Str) : (ePa p).length = 1 := rfl
theorem ePa_get' (p : List Str) : (ePa p).getD 0 D.h = D.s (eSs p) := rfl
theorem get_mid {α : Type} (f : α → List D) (a b : List α) (x : α) : ((a ++ x :: b).map f).getD a.length [] = f x := by
  rw [getD_map f _ _ (by simp)]
  simp
theorem wheldStringSS_l : ∀ (l pre : List (List Str)) (k : Int), 0 ≤ k → k + cPs l ≤ Top → pre.length + l.length ≤ 1048576 →
    (wheldStringSS.L2 ((pre ++ mPs k l).map ePa) k (pre.length : Int)).bind wheldStringSS.A2 = rI (k + cPs l)
  | [], pre, k, h0, h1, hl => by
    rw [wheldStringSS.s2]
    simp [mPs, cPs, wheldStringSS.a2x2]
  | p :: l, pre, k, h0, h1, hl => by
    have hT : Top = 1000000000000 := rfl
    simp only [cPs] at h1
    simp only [List.length_cons] at hl
    have ih := wheldStringSS_l l (pre ++ [mP k p]) (k + p.length) (by omega) (by omega) (by simp only [List.length_append, List.length_cons, List.length_nil]; omega)
    have ht := wheldStringS_ok p k h0 (by omega)
    have hg := get_mid ePa pre (mPs (k + p.length) l) (mP k p)
    rw [List.append_assoc, List.singleton_append] at ih
    have hlen := mPs_len l (k + p.length)
    rw [wheldStringSS.s2, mPs, cPs]
    simp (disch := omega) only [pvS, pvC, pvL, pvN, hg, hlen, ht, ePa_len', ePa_get']
    simp only [List.length_append, List.length_cons, List.length_nil] at ih
    rw [show k + ((p.length + cPs l : Nat) : Int) = k + p.length + (cPs l : Nat) by omega, ← ih]
theorem wheldStringSS_ok (l : List (List Str)) (hl : l.length ≤ 1048576) (k : Int) (h0 : 0 ≤ k) (h1 : k + cPs l ≤ Top) :
    wheldStringSS [.one (.s ((mPs k l).map ePa)), vI k] [] = rI (k + cPs l) := by
  rw [wheldStringSS.e]
  exact wheldStringSS_l l [] k h0 h1 (by simpa using hl)
end Go.PVx
namespace Go.PVx
open Go.PV Go.Proofs
theorem set_mid {α : Type} (f : α → List D) (m : List α) (x y : List D) (r : List (List D)) : (m.map f ++ x :: r).set m.length y = m.map f ++ y :: r := by
  rw [List.set_append_right _ _ (by simp), List.length_map, Nat.sub_self, List.set_cons_zero]
theorem get_mid' {α : Type} (f : α → List D) (m : List α) (x : List D) (r : List (List D)) : (m.map f ++ x :: r).getD m.length [] = x := by
  rw [List.getD_eq_getElem?_getD, List.getElem?_append_right (by simp)]
  simp
noncomputable def mks {α : Type} (c : α → Nat) (mk : Int → α → α) : Int → List α → List α
  | _, [] => []
  | k, a :: l => mk k a :: mks c mk (k + c a) l
@[simp] theorem mks_len {α : Type} (c : α → Nat) (mk : Int → α → α) : ∀ (l : List α) (k : Int), (mks c mk k l).length = l.length
  | [], _ => rfl
  | _ :: l, k => by simp [mks, mks_len c mk l]
theorem mark_l {α X : Type} (e : α → List D) (c : α → Nat) (mk : Int → α → α) (p : α → Prop) (L : Int → Int → List (List D) → Option X) (R : Int → List (List D) → Option X)
    (hs : ∀ (m l : List α) (a : α) (k : Int), p a → 0 ≤ k → k + c a ≤ Top → m.length + l.length + 1 ≤ 1048576 →
      L k m.length (m.map e ++ e a :: l.map e) = L (k + c a) ((m.length + 1 : Nat) : Int) (m.map e ++ e (mk k a) :: l.map e))
    (he : ∀ (m : List α) (k : Int), L k m.length (m.map e) = R k (m.map e)) :
    ∀ (l m : List α) (k : Int), (∀ a ∈ l, p a) → 0 ≤ k → k + (sumW c l : Nat) ≤ Top → m.length + l.length ≤ 1048576 →
      L k m.length (m.map e ++ l.map e) = R (k + (sumW c l : Nat)) ((m ++ mks c mk k l).map e)
  | [], m, k, _, h0, h1, hl => by simp [mks, sumW, he]
  | a :: l, m, k, hp, h0, h1, hl => by
    simp only [sumW] at h1
    simp only [List.length_cons] at hl
    have := mark_l e c mk p L R hs he l (m ++ [mk k a]) (k + c a) (fun b hb => hp b (by simp [hb])) (by omega) (by push_cast at h1 ⊢; omega) (by simp only [List.length_append, List.length_cons, List.length_nil]; omega)
    simp only [List.map_cons, mks, sumW]
    rw [hs m l a k (hp a (by simp)) h0 (by push_cast at h1; omega) (by omega)]
    rw [show m ++ mk k a :: mks c mk (k + c a) l = m ++ [mk k a] ++ mks c mk (k + c a) l from by simp]
    rw [show k + ((c a + sumW c l : Nat) : Int) = k + c a + (sumW c l : Nat) by push_cast; omega, ← this]
    simp
theorem held_l {α X : Type} (e : α → List D) (c : α → Nat) (mk : Int → α → α) (p : α → Prop) (L : List (List D) → Int → Int → Option X) (R : Int → Option X)
    (hs : ∀ (m l : List α) (a : α) (k : Int), p a → 0 ≤ k → k + c a ≤ Top → m.length + l.length + 1 ≤ 1048576 →
      L (m.map e ++ e (mk k a) :: l.map e) k m.length = L (m.map e ++ e (mk k a) :: l.map e) (k + c a) ((m.length + 1 : Nat) : Int))
    (he : ∀ (m : List α) (k : Int), L (m.map e) k m.length = R k) :
    ∀ (l m : List α) (k : Int), (∀ a ∈ l, p a) → 0 ≤ k → k + (sumW c l : Nat) ≤ Top → m.length + l.length ≤ 1048576 →
      L (m.map e ++ (mks c mk k l).map e) k m.length = R (k + (sumW c l : Nat))
  | [], m, k, _, h0, h1, hl => by simp [mks, sumW, he]
  | a :: l, m, k, hp, h0, h1, hl => by
    simp only [sumW] at h1
    simp only [List.length_cons] at hl
    have := held_l e c mk p L R hs he l (m ++ [mk k a]) (k + c a) (fun b hb => hp b (by simp [hb])) (by omega) (by push_cast at h1 ⊢; omega) (by simp only [List.length_append, List.length_cons, List.length_nil]; omega)
    simp only [List.map_cons, mks, sumW]
    rw [hs m (mks c mk (k + c a) l) a k (hp a (by simp)) h0 (by push_cast at h1; omega) (by simp; omega)]
    rw [show k + ((c a + sumW c l : Nat) : Int) = k + c a + (sumW c l : Nat) by push_cast; omega, ← this]
    simp
end Go.PVx
namespace Go.PVx
open Go.PV Go.Proofs
def cE (e : Entry) : Nat := e.path.length + 4
noncomputable def mE (k : Int) (e : Entry) : Entry :=
  ⟨mP k e.path, k + e.path.length, (k + e.path.length + 1).tmod 3 == 0, k + e.path.length + 2, mt (k + e.path.length + 3)⟩
theorem wmarkEntryS_ok (l : List Entry) (k : Int) (h0 : 0 ≤ k) (h1 : k + (sumW cE l : Nat) ≤ Top) (hl : l.length ≤ 1048576) :
    wmarkEntryS [.one (.r 0 [] 0), vI k] [gV (l.map eE)] = rM (k + (sumW cE l : Nat)) ((mks cE mE k l).map eE) := by
  have hT : Top = 1000000000000 := rfl
  rw [wmarkEntryS.e]
  have key := mark_l eE cE mE (fun _ => True) (fun k j r => (wmarkEntryS.L2 k j r).bind wmarkEntryS.A2) (fun k r => rM k r) ?_ ?_ l [] k (fun _ _ => trivial) h0 h1 (by simpa using hl)
  · simpa using key
  · intro m l a k _ h0 h1 hl
    unfold cE at h1
    have ht := wmarkText_ok (k + a.path.length + 3) (by omega) (by omega)
    have hS := wmarkStringS_ok a.path k (by omega) (by omega)
    have e1 : k + a.path.length + 1 + 1 = k + a.path.length + 2 := by omega
    have e2 : k + a.path.length + 2 + 1 = k + a.path.length + 3 := by omega
    have e3 : k + a.path.length + 3 + 1 = k + (cE a : Nat) := by unfold cE; omega
    have hfr : fitsRow [CK.sl] (eE a) 0 = true := rfl
    rw [wmarkEntryS.s2]
    simp (disch := omega) only [pvS, pvT, pvC, pvL, pvN, pvR, pvO, Nat.sub_self, set_mid, ht, hS, e1, e2, e3, List.set_cons_zero, List.take_succ_cons, List.take_zero, List.drop_succ_cons, List.drop_zero, List.cons_append, List.nil_append, wmarkEntryS.p8, mE]
  · intro m k
    rw [wmarkEntryS.s2]
    simp (disch := omega) only [pvL, pvN, wmarkEntryS.a2x2]
theorem wheldEntryS_ok (l : List Entry) (k : Int) (h0 : 0 ≤ k) (h1 : k + (sumW cE l : Nat) ≤ Top) (hl : l.length ≤ 1048576) :
    wheldEntryS [.one (.s ((mks cE mE k l).map eE)), vI k] [] = rI (k + (sumW cE l : Nat)) := by
  have hT : Top = 1000000000000 := rfl
  rw [wheldEntryS.e]
  have key := held_l eE cE mE (fun _ => True) (fun r k j => (wheldEntryS.L2 r k j).bind wheldEntryS.A2) (fun k => rI k) ?_ ?_ l [] k (fun _ _ => trivial) h0 h1 (by simpa using hl)
  · simpa using key
  · intro m l a k _ h0 h1 hl
    unfold cE at h1
    have ht := wmarkText_ok (k + a.path.length + 3) (by omega) (by omega)
    have hS := wheldStringS_ok a.path k (by omega) (by omega)
    have e1 : k + a.path.length + 1 + 1 = k + a.path.length + 2 := by omega
    have e2 : k + a.path.length + 2 + 1 = k + a.path.length + 3 := by omega
    have e3 : k + a.path.length + 3 + 1 = k + (cE a : Nat) := by unfold cE; omega
    rw [wheldEntryS.s2]
    simp (disch := omega) only [pvS, pvT, pvC, pvL, pvN, pvR, pvO, Nat.sub_self, ht, hS, e1, e2, e3, wheldEntryS.p10, wheldEntryS.p17, mE, beq_self_eq_true]
  · intro m k
    rw [wheldEntryS.s2]
    simp (disch := omega) only [pvL, pvN, wheldEntryS.a2x2]
def cU (u : Upper) : Nat := cPs u.gone + sumW cE u.puts
theorem wmarkUpper_ok (u : Upper) (k : Int) (h0 : 0 ≤ k) (h1 : k + (cU u : Nat) ≤ Top) (hg : u.gone.length ≤ 1048576) (hp : u.puts.length ≤ 1048576) :
    wmarkUpper [.g [.r 0 [] 0, .r 0 [] 1], vI k] [⟨.virt, [.s (u.gone.map ePa), .s (u.puts.map eE)], [.deep, .deep]⟩] =
      some ⟨[.v (.int .i64 (k + (cU u : Nat)))], [⟨.virt, [.s ((mPs k u.gone).map ePa), .s ((mks cE mE (k + cPs u.gone) u.puts).map eE)], [.deep, .deep]⟩]⟩ := by
  have hT : Top = 1000000000000 := rfl
  unfold cU at *
  have m1 := wmarkStringSS_ok u.gone hg k (by omega) (by omega)
  have m2 := wmarkEntryS_ok u.puts (k + cPs u.gone) (by omega) (by push_cast at h1; omega) hp
  rw [wmarkUpper.e]
  simp (disch := omega) only [pvS, pvT, pvC, pvL, pvR, pvN, pvO, m1, m2]
  rw [show k + ((cPs u.gone + sumW cE u.puts : Nat) : Int) = k + cPs u.gone + (sumW cE u.puts : Nat) by push_cast; omega]
theorem wheldUpper_ok (u : Upper) (k : Int) (h0 : 0 ≤ k) (h1 : k + (cU u : Nat) ≤ Top) (hg : u.gone.length ≤ 1048576) (hp : u.puts.length ≤ 1048576) :
    wheldUpper [.g [.s ((mPs k u.gone).map ePa), .s ((mks cE mE (k + cPs u.gone) u.puts).map eE)], vI k] [] = rI (k + (cU u : Nat)) := by
  have hT : Top = 1000000000000 := rfl
  unfold cU at *
  have m1 := wheldStringSS_ok u.gone hg k (by omega) (by omega)
  have m2 := wheldEntryS_ok u.puts (k + cPs u.gone) (by omega) (by push_cast at h1; omega) hp
  rw [wheldUpper.e]
  simp (disch := omega) only [pvS, pvT, pvC, pvL, pvR, pvN, pvO, m1, m2]
  rw [show k + ((cPs u.gone + sumW cE u.puts : Nat) : Int) = k + cPs u.gone + (sumW cE u.puts : Nat) by push_cast; omega]
end Go.PVx
namespace Go.PVx
open Go.PV Go.Proofs
theorem cPs_le : ∀ l : List (List Str), cPs l ≤ wL wP l
  | [] => Nat.le_refl _
  | p :: l => by have := cPs_le l; have := wP_len p; simp only [cPs, wL]; omega
theorem cEs_le : ∀ l : List Entry, sumW cE l ≤ 4 * wL wE l
  | [] => by simp [sumW]
  | e :: l => by
    have := cEs_le l
    have := wP_len e.path
    simp only [sumW, wL, cE, wE]
    omega
theorem cU_le (u : Upper) : cU u ≤ 4 * wU u := by
  have := cPs_le u.gone
  have := cEs_le u.puts
  unfold cU wU
  omega
theorem wU_UI {s : Str} {u : Upper} (h : UI s = some u) : wU u ≤ 8000 := by
  unfold UI at h
  split at h
  · rename_i hc
    obtain rfl := Option.some.inj h
    have h1 := wU_readI (linesT s) ⟨[], []⟩
    have h2 := wL_lines s
    have h0 : wU ⟨[], []⟩ = 0 := rfl
    omega
  · exact absurd h (by simp)
theorem wFnExactUpperRead_ok (s : Str) : wFnExactUpperRead [vS s] [] = rB true := by
  rw [wFnExactUpperRead.e]
  by_cases hs : s.length ≤ 1048576
  · have h1 := sUpperRead_ok s hs
    have h2 := iUpperRead_ok s hs
    have hw : wU ((US s).getD ⟨[], []⟩) ≤ 8000 := by
      rw [← UI_US]
      cases h : UI s with
      | none => simp [wU, wL]
      | some u => exact wU_UI h
    rw [UI_US] at h2
    have e1 : rUB (US s) = some ⟨[.o .deep (((US s).getD ⟨[], []⟩).gone.map ePa), .o .deep (((US s).getD ⟨[], []⟩).puts.map eE), .v (.bool (US s).isSome)], []⟩ := by
      cases US s <;> rfl
    rw [e1] at h1 h2
    generalize (US s).getD ⟨[], []⟩ = u at *
    generalize (US s).isSome = b at *
    have hT : Top = 1000000000000 := rfl
    have hc := cU_le u
    have hg := wL_len wP u.gone
    have hp := wL_len wE u.puts
    have hw' := hw
    unfold wU at hw'
    have h3 := weqUpper_refl u (by omega)
    have h4 := wmarkUpper_ok u 1 (by omega) (by omega) (by omega) (by omega)
    have h5 := wheldUpper_ok u 1 (by omega) (by omega) (by omega) (by omega)
    have b1 : ((!b) == b) = false := by cases b <;> rfl
    have b2 : (!(b == b)) = false := by cases b <;> rfl
    simp (disch := omega) only [pvS, pvT, pvC, pvL, pvR, pvN, pvO, h1, h2, h3, h4, h5, wFnExactUpperRead.p6, wFnExactUpperRead.p7, wFnExactUpperRead.p16, wFnExactUpperRead.p17, wFnExactUpperRead.p18, b1, b2]
  · simp (disch := omega) only [pvS, pvT, pvC, pvL, pvR, pvN]
end Go.PVx
