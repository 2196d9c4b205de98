/- A part of the proof: PvExt, PvExtS, PvExtT. -/
import Derived.Test.YtkaclcgkndbppaaGreatDoorTy
import Derived.Lib.Join
import Derived.Lib.ItoaMem
import Derived.Below
import Derived.Lib.SplitLaws
import Derived.Lib.AtoiAll
import Derived.Lib.Strings
import Derived.Lib.IndexMore
import Derived.Lib.ConvBytes
set_option linter.unusedSimpArgs false
set_option linter.unusedVariables false
namespace Go.PV
open Go.RowKit
theorem Rel.v_eq {w : World} {Q : QP} {u x : Value} (h : Rel w Q u (.v x)) : u = x := by cases h; rfl
def zo1 : List D → Option ByteArray
 | [.v (.string s)] => some s
 | _ => none
def zew : List (List D) → Option (List ByteArray)
 | [] => some []
 | r :: rs => match zo1 r, zew rs with
  | some s, some l => some (s :: l)
  | _, _ => none
def joinD (xs : List ByteArray) (sep : ByteArray) : ByteArray := ⟨(Lib.join (xs.map (·.data.toList)) sep.data.toList).toArray⟩
def zfo : List AV → List Obj → Option Res
 | [.one (.s es), .one (.v (.string sep))], [] => match zew es with
  | some xs => bif decide (xs.length ≤ 140737488355328) && decide ((Lib.join (xs.map (·.data.toList)) sep.data.toList).length ≤ 140737488355328) then some ⟨[.v (.string (joinD xs sep))], []⟩ else none
  | none => none
 | _, _ => none
def zgz : List AV → List Obj → Option Res
 | [.one (.v (.int .i64 n))], [] => bif decide (-9223372036854775808 ≤ n) && decide (n ≤ 9223372036854775807) then some ⟨[.v (.string ⟨(Lib.itoa n).toArray⟩)], []⟩ else none
 | _, _ => none
theorem zfF : ∀ {es : List (List D)} {xs : List ByteArray}, zew es = some xs → es.length = xs.length ∧ ∀ i (h : i < es.length) (h' : i < xs.length), es[i] = [.v (.string xs[i])]
 | [], xs, h => by simp only [zew, Option.some.injEq] at h; subst h; exact ⟨rfl, fun i h => absurd h (by simp)⟩
 | r :: rs, xs, h => by
  simp only [zew] at h
  split at h
  case h_2 => exact absurd h (by simp)
  rename_i s l h1 h2
  simp only [Option.some.injEq] at h
  subst h
  obtain ⟨h3, h4⟩ := zfF h2
  refine ⟨by simp [h3], fun i h h' => ?_⟩
  cases i with
  | zero =>
   simp only [List.getElem_cons_zero]
   unfold zo1 at h1
   split at h1
   · simp only [Option.some.injEq] at h1; rw [h1]
   · exact absurd h1 (by simp)
  | succ i => exact h4 i (by simpa using h) (by simpa using h')
theorem zec {w w' : World} {G : Ghost} {pl : zaw} {gl : List (Nat × List D)} {args : Array Value} {as : List AV} {rs : RS} {v : Value} {rv : Res} (E : Entry gl w G [] pl args as) (h : Below w.heap.size w w') (ho : rv.objs = [])
 (hr : ∃ us, ResAt rs v us ∧ ∀ i (h : i < rv.cells.length), TCOk ⟨G, obOf [], pl, gl⟩ w' G (obOf rv.objs) pl 0 i (us i) (rv.cells[i])) :
 Left w ⟨G, obOf [], pl, gl⟩ [] rs w' v rv G pl := by
 have hlt : ∀ b x, G b = some x → b < w.heap.size := fun b x hx => by
  exact (E.own b x hx).lt
 refine { os := h.os, output := h.output, tape := h.tape, hsize := h.size, base := fun b hb h0 => ⟨h.block b hb, h0⟩, fr := fun b π hb h0 => ⟨h.block b hb, rfl⟩,
          out := fun n b off ob hn => absurd hn (by simp), own := fun b x hx => ?_, dom := fun b x hx => ?_, okObjs := fun n ob hob => ?_, olen := by rw [ho], start := fun n ob hn => absurd hn (by simp), res := by obtain ⟨us, h1, h2⟩ := hr; exact ⟨us, .inl h1, h2⟩ }
 · exact (E.own b x hx).heap (h.block b (hlt b x hx))
 · rcases E.nolim b x hx with h | h
   · exact absurd h (by simp)
   · exact .inr h
 · rw [ho] at hob; simp [obOf] at hob
theorem zic (w : World) (k : Nat) (os : Array Go.Obj) : Below w.heap.size w (Go.Sort.grow (w.drewN k) os) :=
 ⟨rfl, rfl, rfl, by simp [Go.Sort.grow, World.drewN], fun i hi => by simp [Go.Sort.grow, World.drewN, Array.getElem?_append, hi]⟩
theorem zlG {Y : Prm} {f : FuncId} {fn : Func} (hf : Y.P.funcs[f]? = some fn) (hb : fn.body.isSome = true) (hn : (fn.name == "runtime.NumGoroutine") = false) (hres : (Y.sig f).res = .one .str)
 (h0 : ∀ (a : Option Addr) (c : Nat) (sep : ByteArray) (w : World), Calls Y.P f #[.slice a 0 c, .string sep] w fun e w' => e = .returned (.string ⟨#[]⟩) ∧ w' = w)
 (h1 : ∀ (bk o c : Nat) (xs : List ByteArray) (sep : ByteArray) (w : World), (∀ (j : Nat) x, xs[j]? = some x → w.cell? ⟨bk, o + j, none⟩ = some (.string x)) → bk < w.heap.size → xs.length ≤ 140737488355328 → xs.length ≤ c →
   (Lib.join (xs.map (·.data.toList)) sep.data.toList).length ≤ 140737488355328 →
   Calls Y.P f #[.slice (some ⟨bk, o, none⟩) xs.length c, .string sep] w fun e w' => e = .returned (.string ⟨(Lib.join (xs.map (·.data.toList)) sep.data.toList).toArray⟩) ∧ Below w.heap.size w w') :
 ExtOk Y f zfo := by
 intro as objs rv h
 unfold zfo at h
 split at h
 case h_2 => exact absurd h (by simp)
 rename_i es sep
 split at h
 case h_2 => exact absurd h (by simp)
 rename_i xs hxs
 rw [cond_eq_ite] at h
 split at h
 case isFalse => exact absurd h (by simp)
 rename_i hc
 simp only [Bool.and_eq_true, decide_eq_true_eq] at hc
 simp only [Option.some.injEq] at h
 subst h
 refine ⟨⟨fn, hf, hb, hn⟩, fun w G pl args E => ?_⟩
 have hsz : args.size = 2 := E.size
 have hv0 : V1 w G (obOf []) pl (args.getD 0 undef) (.s es) := E.vals 0 (by simp)
 have hv1 : V1 w G (obOf []) pl (args.getD 1 undef) (.v (.string sep)) := E.vals 1 (by simp)
 have hv0 : Rel w (QSh G) (args.getD 0 undef) (.s es) := hv0
 have hv1 : args.getD 1 undef = .string sep := hv1
 have hargs : args = #[args.getD 0 undef, args.getD 1 undef] := by
  apply Array.ext
  · simp [hsz]
  · intro i h1 h2
    have : i = 0 ∨ i = 1 := by simp at h2; omega
    rcases this with rfl | rfl <;> simp [h1]
 obtain ⟨hlen, hrows⟩ := zfF hxs
 have fin : ∀ w', Below w.heap.size w w' → PV.Left w ⟨G, obOf [], pl, Y.gl⟩ [] (Y.sig f).res w' (.string (joinD xs sep)) ⟨[.v (.string (joinD xs sep))], []⟩ G pl := fun w' hB => by
  refine zec E hB rfl ⟨fun _ => .string (joinD xs sep), ?_, fun i hi => ?_⟩
  · rw [hres]; rfl
  · have : i = 0 := by simpa using hi
    subst this
    rfl
 rw [hargs, hv1]
 obtain ⟨ao, cap, news, hu, hnl, hcell, hnil, hrel⟩ := ziM hv0 (sz := 1) (fun i h => by rw [hrows i h (by omega)]; rfl) (by omega)
 rw [hu]
 cases hes : es with
 | nil =>
  have hx0 : xs = [] := by
   have : xs.length = 0 := by rw [← hlen, hes]; rfl
   exact List.length_eq_zero_iff.1 this
  subst hx0
  refine (h0 ao cap sep w).mono ?_
  rintro e w' ⟨rfl, rfl⟩
  exact ⟨_, G, pl, rfl, fin w' (Below.refl _ _)⟩
 | cons r rs =>
  rcases hv0.slice with ⟨h3, _⟩ | ⟨ad, cap', sz', uf, hu', hl, hs, hbk, _⟩
  · rw [hes] at h3; exact absurd h3 (by simp)
  · rw [hu] at hu'
    simp only [Value.slice.injEq] at hu'
    obtain ⟨rfl, _, rfl⟩ := hu'
    have had : ad = ⟨ad.block, ad.off, none⟩ := by cases ad; simp at hs; subst hs; rfl
    rw [← hes, hlen]
    rw [had]
    refine (h1 ad.block ad.off cap xs sep w (fun j x hj => ?_) hbk hc.1 (by rw [← hlen]; exact hl.1) hc.2).mono ?_
    · have hjl : j < xs.length := (List.getElem?_eq_some_iff.1 hj).1
      have hje : j < es.length := by omega
      have hrow := hrows j hje hjl
      have h4 := hrel j 0 hje (by rw [hrow]; simp)
      have hx : xs[j] = x := by rw [List.getElem?_eq_getElem hjl] at hj; exact Option.some.inj hj
      have h5 : news.getD (j * 1 + 0) undef = .string x := by
       have h6 : (es[j])[0]'(by rw [hrow]; simp) = .v (.string x) := by simp [hrow, hx]
       rw [h6] at h4
       exact h4.v_eq
      have h7 : news[j]? = some (.string x) := by
       have : j < news.length := by omega
       rw [List.getElem?_eq_getElem this]
       simp only [Nat.mul_one, Nat.add_zero, List.getD_eq_getElem?_getD, List.getElem?_eq_getElem this, Option.getD_some] at h5
       rw [h5]
      have h8 := hcell ad rfl j _ h7
      rw [had] at h8
      have h9 : (⟨ad.block, ad.off, none⟩ : Addr).add j = ⟨ad.block, ad.off + j, none⟩ := by
       simp only [Addr.add]
       split
       · rename_i h0; subst h0; rfl
       · rfl
      rw [h9] at h8
      exact h8
    · rintro e w' ⟨rfl, hB⟩
      exact ⟨_, G, pl, rfl, fin w' hB⟩
theorem zlH {Y : Prm} {f : FuncId} {fn : Func} (hf : Y.P.funcs[f]? = some fn) (hb : fn.body.isSome = true) (hn : (fn.name == "runtime.NumGoroutine") = false) (hres : (Y.sig f).res = .one .str)
 {g : Nat} (hg : Y.P.globalNamed "internal/strconv.uint64pow10" = some g) (hgl : glGet Y.gl g = some (Lib.pow10Tab.map fun z => .v (.int .u64 z)))
 (h1 : ∀ (n : Int), -9223372036854775808 ≤ n → n ≤ 9223372036854775807 → ∀ w : World, Lib.TabIs Y.P w "internal/strconv.uint64pow10" .u64 Lib.pow10Tab →
   Calls Y.P f #[.int .i64 n] w fun e w' => e = .returned (.string ⟨(Lib.itoa n).toArray⟩) ∧ ∃ k os, w' = Go.Sort.grow (w.drewN k) os) :
 ExtOk Y f zgz := by
 intro as objs rv h
 unfold zgz at h
 split at h
 case h_2 => exact absurd h (by simp)
 rename_i n
 rw [cond_eq_ite] at h
 split at h
 case isFalse => exact absurd h (by simp)
 rename_i hc
 simp only [Bool.and_eq_true, decide_eq_true_eq] at hc
 simp only [Option.some.injEq] at h
 subst h
 refine ⟨⟨fn, hf, hb, hn⟩, fun w G pl args E => ?_⟩
 have hsz : args.size = 1 := E.size
 have hv0 : args.getD 0 undef = .int .i64 n := E.vals 0 (by simp)
 have hargs : args = #[args.getD 0 undef] := by
  apply Array.ext
  · simp [hsz]
  · intro i h1 h2
    have : i = 0 := by simpa using h2
    subst this
    simp [h1]
 have htab : Lib.TabIs Y.P w "internal/strconv.uint64pow10" .u64 Lib.pow10Tab := by
  obtain ⟨hd, hro, cs, ty, e, h2, h3⟩ := E.glob g _ hgl
  unfold Lib.TabIs World.var?
  rw [hg]
  simp only [Option.bind_some, h2]
  congr 1
  apply Array.ext
  · rw [h3]; simp
  · intro i h4 h5
    have hi : i < (Lib.pow10Tab.map fun z => D.v (.int .u64 z)).length := by rw [← h3]; exact h4
    have hi' : i < Lib.pow10Tab.length := by simpa using hi
    have h6 := hro.cell i hi
    have h7 := hro.rel i hi
    simp only [List.getElem_map] at h7
    rw [Nat.zero_add] at h6
    have h6 : w.cell? ⟨g, i, none⟩ = some (hd i) := h6
    rw [h7.v_eq] at h6
    simp only [World.cell?, h2] at h6
    simp only [Array.getElem?_eq_getElem h4] at h6
    simpa using h6
 rw [hargs, hv0]
 refine (h1 n hc.1 hc.2 w htab).mono ?_
 rintro e w' ⟨rfl, k, os, rfl⟩
 refine ⟨_, G, pl, rfl, zec E (zic w k os) rfl ⟨fun _ => .string ⟨(Lib.itoa n).toArray⟩, ?_, fun i hi => ?_⟩⟩
 · rw [hres]; rfl
 · have : i = 0 := by simpa using hi
   subst this
   rfl
end Go.PV
namespace Go.PV
open Go.RowKit
def mkB (l : List UInt8) : ByteArray := ⟨l.toArray⟩
def zeR : List AV → List Obj → Option Res
 | [.one (.v (.string s)), .one (.v (.string sep))], [] =>
  bif decide (s.size < 4294967281) && decide (1 ≤ sep.size) then
   some ⟨[.o .deep ((Lib.splitB sep 0 (Lib.countB s sep) s).map fun x => [.v (.string x)])], []⟩ else none
 | _, _ => none
def zcw : List AV → List Obj → Option Res
 | [.one (.v (.string s)), .one (.v (.string p))], [] => some ⟨[.v (.string (mkB (Lib.trimPrefix s.data.toList p.data.toList)))], []⟩
 | _, _ => none
def atoiN (l : List UInt8) : Int := match Lib.atoiAll l with
 | .ok v => v
 | .range => Lib.atoiSat l
 | _ => 0
def zgA : List AV → List Obj → Option Res
 | [.one (.v (.string s))], [] => bif decide (s.size ≤ 281474976710656) then some ⟨[.v (.int .i64 (atoiN s.data.toList)), .d], []⟩ else none
 | _, _ => none
theorem args1 {args : Array Value} (h : args.size = 1) : args = #[args.getD 0 undef] := by
 apply Array.ext
 · simp [h]
 · intro i h1 h2
   have : i = 0 := by simpa using h2
   subst this
   simp [h1]
theorem args2 {args : Array Value} (h : args.size = 2) : args = #[args.getD 0 undef, args.getD 1 undef] := by
 apply Array.ext
 · simp [h]
 · intro i h1 h2
   have : i = 0 ∨ i = 1 := by simp at h2; omega
   rcases this with rfl | rfl <;> simp [h1]
theorem Rel.uk {w : World} {Q : QP} {u : Value} {t : Bool} (h : Rel w Q u (.u t)) : ukOk t u := by
 cases h
 assumption
theorem zm9 {gl : List (Nat × List D)} {w : World} {G : Ghost} (h : GlOk gl w G) {g : Nat} {t : Bool} (hg : glGet gl g = some [.u t]) : ∃ x, w.cell? ⟨g, 0, none⟩ = some x ∧ ukOk t x := by
 obtain ⟨hd, hro, _⟩ := h g _ hg
 refine ⟨hd 0, by simpa using hro.cell 0 (by simp), ?_⟩
 exact Rel.uk (hro.rel 0 (by simp))
theorem zki (w : World) (bt : TypeId) (t : ByteArray) : Below w.heap.size w (Lib.bytesWorld w bt t) :=
 ⟨rfl, rfl, rfl, by simp [Lib.bytesWorld, World.freeze, World.alloc, World.drew, -World.alloc_eq, -World.drew_eq], fun i hi => Lib.bytesWorld_at_old w bt t i hi⟩
theorem zlI {gl : List (Nat × List D)} {w : World} {G : Ghost} {pl : zaw} {args : Array Value} {as : List AV} (E : Entry gl w G [] pl args as) (xs : List ByteArray) (ty : TypeId) :
 ∃ G', PV.Left w ⟨G, obOf [], pl, gl⟩ [] (.one (.own .deep)) (w.alloc (.cells (xs.map Value.string).toArray ty)) (.slice (some ⟨w.heap.size, 0, none⟩) xs.length xs.length) ⟨[.o .deep (xs.map fun x => [.v (.string x)])], []⟩ G' pl := by
 have hlt : ∀ b x, G b = some x → b < w.heap.size := fun b x hx => by
  exact (E.own b x hx).lt
 have hold : ∀ b, b < w.heap.size → (w.alloc (.cells (xs.map Value.string).toArray ty)).heap[b]? = w.heap[b]? := fun b hb => by
  simp only [World.alloc, Array.getElem?_push, if_neg (Nat.ne_of_lt hb)]
 have hnew : (w.alloc (.cells (xs.map Value.string).toArray ty)).heap[w.heap.size]? = some (.cells (xs.map Value.string).toArray ty) := by
  simp only [World.alloc, Array.getElem?_push, if_true]
 have hG : ∀ b, b < w.heap.size → (if b = w.heap.size then some (0, [0]) else G b) = G b := fun b hb => if_neg (Nat.ne_of_lt hb)
 refine ⟨fun b => if b = w.heap.size then some (0, [0]) else G b, ?_⟩
 refine { os := rfl, output := rfl, tape := rfl, hsize := by simp only [World.alloc, Array.size_push]; omega, base := fun b hb h0 => ⟨hold b hb, (hG b hb).trans h0⟩, fr := fun b π hb h0 => ⟨hold b hb, hG b hb⟩,
          out := fun n b off ob hn => absurd hn (by simp), own := fun b x hx => ?_, dom := fun b x hx => ?_, okObjs := fun n ob hob => by simp [obOf] at hob, olen := rfl, start := fun n ob hn => absurd hn (by simp),
          res := ⟨fun _ => .slice (some ⟨w.heap.size, 0, none⟩) xs.length xs.length, .inl rfl, fun i hi => ?_⟩ }
 · by_cases h : b = w.heap.size
   · subst h
     exact .of ⟨_, _, hnew⟩
   · simp only [if_neg h] at hx
     exact (E.own b x hx).heap (hold b (hlt b x hx))
 · by_cases h : b = w.heap.size
   · simp only [if_pos h, Option.some.injEq] at hx
     subst hx
     exact .inl (by simp)
   · simp only [if_neg h] at hx
     rcases E.nolim b x hx with h | h
     · exact absurd h (by simp)
     · exact .inr h
 · have : i = 0 := by simpa using hi
   subst this
   have hcell : ∀ i (h : i < xs.length), (w.alloc (.cells (xs.map Value.string).toArray ty)).cell? ⟨w.heap.size, 0 + i, none⟩ = some (.string xs[i]) := fun i h => by
    simp only [World.cell?, hnew]
    simp [h]
   have hl : (xs.map fun x => [D.v (.string x)]).length = xs.length := by simp
   show Rel _ (QCell _ 0 0 .deep) (.slice (some ⟨w.heap.size, 0, none⟩) xs.length xs.length) (.s (xs.map fun x => [.v (.string x)]))
   have key := Rel.s (w := w.alloc (.cells (xs.map Value.string).toArray ty)) (QCell (fun b => if b = w.heap.size then some (0, [0]) else G b) 0 0 .deep) ⟨w.heap.size, 0, none⟩ xs.length 1 (xs.map fun x => [D.v (.string x)])
    (fun i _ => .string (xs.getD i ByteArray.empty)) (by simp) (fun h => by simp at h; exact .inl (by rw [h]; rfl)) rfl (by simp only [World.alloc, Array.size_push]; omega) (by simp [QCell]) (fun k hk => by rw [hcell k (by omega)]; rfl)
    (fun i h => by simp) (fun i j hi hj => by
     have hi' : i < xs.length := by simpa using hi
     have : j = 0 := by omega
     subst this
     rw [Nat.mul_one, Nat.add_zero, hcell i hi']
     simp [List.getD_eq_getElem?_getD, hi'])
    (fun i j hi hj => by
      have hi' : i < xs.length := by simpa using hi
      have : j = 0 := by simp at hj; omega
      subst this
      have e1 : ((xs.map fun x => [D.v (.string x)])[i]'hi)[0]'hj = D.v (.string (xs.getD i ByteArray.empty)) := by simp [List.getD_eq_getElem?_getD, hi']
      rw [e1]
      exact .v _ _)
   rw [hl] at key
   exact key
theorem zkj {Y : Prm} {f : FuncId} {fn : Func} (hf : Y.P.funcs[f]? = some fn) (hb : fn.body.isSome = true) (hn : (fn.name == "runtime.NumGoroutine") = false) (hres : (Y.sig f).res = .one (.own .deep)) {ty : TypeId}
 {g : Nat} (hgl : glGet Y.gl g = some [.u false])
 (h1 : ∀ (s sep : ByteArray) (m : Int) (w : World), s.size < 4294967281 → w.cell? ⟨g, 0, none⟩ = some (.int .i64 m) → 1 ≤ sep.size →
   Calls Y.P f #[.string s, .string sep] w fun e w' => e = .returned (.slice (some ⟨w.heap.size, 0, none⟩) (Lib.countB s sep + 1) (Lib.countB s sep + 1)) ∧ w' = w.alloc (.cells ((Lib.splitB sep 0 (Lib.countB s sep) s).map Value.string).toArray ty)) : ExtOk Y f zeR := by
 intro as objs rv h
 unfold zeR at h
 split at h
 case h_2 => exact absurd h (by simp)
 rename_i s sep
 rw [cond_eq_ite] at h
 split at h
 case isFalse => exact absurd h (by simp)
 rename_i hc
 simp only [Bool.and_eq_true, decide_eq_true_eq] at hc
 simp only [Option.some.injEq] at h
 subst h
 refine ⟨⟨fn, hf, hb, hn⟩, fun w G pl args E => ?_⟩
 have hv0 : args.getD 0 undef = .string s := E.vals 0 (by simp)
 have hv1 : args.getD 1 undef = .string sep := E.vals 1 (by simp)
 rw [args2 E.size, hv0, hv1]
 obtain ⟨x, hx, m, rfl⟩ := zm9 E.glob hgl
 refine (h1 s sep m w hc.1 hx hc.2).mono ?_
 rintro e w' ⟨rfl, rfl⟩
 obtain ⟨G', hL⟩ := zlI E (Lib.splitB sep 0 (Lib.countB s sep) s) ty
 rw [Lib.splitB_all sep hc.2 0 _ s rfl] at hL
 exact ⟨_, G', pl, rfl, by rw [hres]; exact hL⟩
theorem zfL {Y : Prm} {f : FuncId} {fn : Func} (hf : Y.P.funcs[f]? = some fn) (hb : fn.body.isSome = true) (hn : (fn.name == "runtime.NumGoroutine") = false) (hres : (Y.sig f).res = .one .str)
 (h1 : ∀ (s p : ByteArray) (w : World), Calls Y.P f #[.string s, .string p] w fun e w' => e = .returned (.string ⟨(Lib.trimPrefix s.data.toList p.data.toList).toArray⟩) ∧ w' = w) : ExtOk Y f zcw := by
 intro as objs rv h
 unfold zcw at h
 split at h
 case h_2 => exact absurd h (by simp)
 rename_i s p
 simp only [Option.some.injEq] at h
 subst h
 refine ⟨⟨fn, hf, hb, hn⟩, fun w G pl args E => ?_⟩
 have hv0 : args.getD 0 undef = .string s := E.vals 0 (by simp)
 have hv1 : args.getD 1 undef = .string p := E.vals 1 (by simp)
 rw [args2 E.size, hv0, hv1]
 refine (h1 s p w).mono ?_
 rintro e w' ⟨rfl, rfl⟩
 refine ⟨_, G, pl, rfl, zec E (Below.refl _ _) rfl ⟨fun _ => .string ⟨(Lib.trimPrefix s.data.toList p.data.toList).toArray⟩, ?_, fun i hi => ?_⟩⟩
 · rw [hres]; rfl
 · have : i = 0 := by simpa using hi
   subst this
   rfl
theorem zlJ {Y : Prm} {f : FuncId} {fn : Func} (hf : Y.P.funcs[f]? = some fn) (hb : fn.body.isSome = true) (hn : (fn.name == "runtime.NumGoroutine") = false) (hres : (Y.sig f).res = .tup [(false, [.int .i64]), (false, [.any])])
 {g1 g2 : Nat} (hg1 : glGet Y.gl g1 = some [.u true]) (hg2 : glGet Y.gl g2 = some [.u true]) {bt : TypeId}
 (h0 : ∀ (s : ByteArray) (v : Int), s.size ≤ 9223372036854775806 → Lib.atoiAll s.data.toList = .ok v → ∀ w : World,
   Calls Y.P f #[.string s] w fun e w' => e = .returned (.tuple #[.int .i64 v, .nilIface]) ∧ (w' = w ∨ ∃ t, w' = Lib.bytesWorld w bt t))
 (h1 : ∀ (s : ByteArray), s.size ≤ 281474976710656 → (∀ v, Lib.atoiAll s.data.toList ≠ .ok v) → Lib.atoiAll s.data.toList ≠ .range → ∀ (ev : Value) (w : World), w.cell? ⟨g1, 0, none⟩ = some ev → (ev = .nilIface ∨ ∃ te pe, ev = .iface te pe) →
   Calls Y.P f #[.string s] w fun e w' => ∃ x, e = .returned (.tuple #[.int .i64 0, x]) ∧ Below w.heap.size w w')
 (h2 : ∀ (s : ByteArray), s.size ≤ 281474976710656 → Lib.atoiAll s.data.toList = .range → ∀ (ev : Value) (w : World), w.cell? ⟨g2, 0, none⟩ = some ev → (ev = .nilIface ∨ ∃ te pe, ev = .iface te pe) →
   Calls Y.P f #[.string s] w fun e w' => ∃ x, e = .returned (.tuple #[.int .i64 (Lib.atoiSat s.data.toList), x]) ∧ Below w.heap.size w w') : ExtOk Y f zgA := by
 intro as objs rv h
 unfold zgA at h
 split at h
 case h_2 => exact absurd h (by simp)
 rename_i s
 rw [cond_eq_ite] at h
 split at h
 case isFalse => exact absurd h (by simp)
 rename_i hc
 simp only [decide_eq_true_eq] at hc
 simp only [Option.some.injEq] at h
 subst h
 refine ⟨⟨fn, hf, hb, hn⟩, fun w G pl args E => ?_⟩
 have hv0 : args.getD 0 undef = .string s := E.vals 0 (by simp)
 rw [args1 E.size, hv0]
 have fin : ∀ w' x, Below w.heap.size w w' → PV.Left w ⟨G, obOf [], pl, Y.gl⟩ [] (Y.sig f).res w' (.tuple #[.int .i64 (atoiN s.data.toList), x]) ⟨[.v (.int .i64 (atoiN s.data.toList)), .d], []⟩ G pl := fun w' x hB => by
  refine zec E hB rfl ⟨fun i => #[Value.int .i64 (atoiN s.data.toList), x].getD i undef, ?_, fun i hi => ?_⟩
  · rw [hres]
    exact ⟨_, rfl, ⟨rfl, rfl⟩, ⟨rfl, rfl⟩, trivial⟩
  · have : i = 0 ∨ i = 1 := by simp at hi; omega
    rcases this with rfl | rfl
    · rfl
    · exact trivial
 cases hat : Lib.atoiAll s.data.toList with
 | ok v =>
  have ha : atoiN s.data.toList = v := by simp only [atoiN, hat]
  refine (h0 s v (by omega) hat w).mono ?_
  rintro e w' ⟨rfl, hw⟩
  have hB : Below w.heap.size w w' := by
   rcases hw with rfl | ⟨t, rfl⟩
   · exact Below.refl _ _
   · exact zki w bt t
  exact ⟨_, G, pl, rfl, by have := fin w' .nilIface hB; rwa [ha] at this ⊢⟩
 | range =>
  have ha : atoiN s.data.toList = Lib.atoiSat s.data.toList := by simp only [atoiN, hat]
  obtain ⟨x, hx, hk⟩ := zm9 E.glob hg2
  refine (h2 s hc hat x w hx hk).mono ?_
  rintro e w' ⟨y, rfl, hB⟩
  exact ⟨_, G, pl, rfl, by have := fin w' y hB; rwa [ha] at this ⊢⟩
 | _ =>
  have ha : atoiN s.data.toList = 0 := by simp only [atoiN, hat]
  obtain ⟨x, hx, hk⟩ := zm9 E.glob hg1
  refine (h1 s hc (fun v hv => by rw [hat] at hv; cases hv) (fun hv => by rw [hat] at hv; cases hv) x w hx hk).mono ?_
  rintro e w' ⟨y, rfl, hB⟩
  exact ⟨_, G, pl, rfl, by have := fin w' y hB; rwa [ha] at this ⊢⟩
end Go.PV
namespace Go.PV
open Go.RowKit
end Go.PV
