/- A part of the proof: PvY1, PvW0, PvW1, PvW2, PvN1, PvN2, PvN3, PvN4, PvN5, PvN6, PvY2, PvY3, PvY4, PvX1, PvX4. -/
import Derived.Test.YtkaclcgkndbppaaGreatDoorDat
import Derived.Test.YtkaclcgkndbppaaGreatDoorTy
import Derived.Test.YtkaclcgkndbppaaGreatDoorExt
import Derived.Lib.AtoiAllCases
set_option linter.unusedSimpArgs false
set_option linter.unusedVariables false
namespace Go.PVx
open Go.PV Go.Proofs
theorem zgL (s : Str) : (dataT s).length ≤ 1 + 2 * s.length := by
 unfold dataT
 split
 · simp
 · rw [zeV]; omega
theorem zlP (a : Int) (h0 : 0 ≤ a) (h1 : a ≤ 1000000) : zcP [AV.one (A1.v (Value.int IntKind.i64 a))] [] = rS (dec a.toNat) := by
 have := zni a.toNat (by omega)
 rwa [show ((a.toNat : Nat) : Int) = a by omega] at this
theorem zex (a : Int) (h1 : a ≤ 1000000) : (dec a.toNat).length ≤ 7 := znh a.toNat (by omega)
end Go.PVx
namespace Go.PVx
open Go.PV Go.Proofs
end Go.PVx
namespace Go.PVx
open Go.PV Go.Proofs
def kindB (e : Entry) : Bool :=
 if e.what = 1 then !e.dir && (e.mode == 0 && e.data == []) else if e.what = 2 then !e.dir || e.data == [] else if e.what = 3 then !e.dir && e.data == [] else if e.what = 4 then !e.dir && e.mode == 0 else false
def entB (e : Entry) : Bool := pathB (if e.what = 3 then 0 else 1) e.path && (inB e.mode 0 7 && (decide (e.data.length ≤ 24) && kindB e))
end Go.PVx
namespace Go.PVx
open Go.PV Go.Proofs
def lineT (d : Bool) (m : Int) (s : Str) (p : List Str) : Str :=
 bif d then [100, 105, 114, 32] ++ pt p ++ [32] ++ dec m.toNat ++ [10] else [102, 105, 108, 101, 32] ++ pt p ++ [32] ++ dec m.toNat ++ [32] ++ dataT s ++ [10]
theorem zno (d : Bool) (m : Int) (s : Str) (p : List Str) (h : m ≤ 1000000) : (lineT d m s p).length ≤ 17 + wP p + 2 * s.length := by
 have h1 := zk9 p
 have h2 := zex m h
 have h3 := zgL s
 unfold lineT
 cases d <;> simp only [cond_true, cond_false, List.length_append, List.length_cons, List.length_nil] <;> omega
def putB (e : Entry) : Bool := e.what == 2 && bif e.path == [] then e.dir && (e.data == [] && inB e.mode 0 7) else entB e
def putL (e : Entry) : Str := lineT e.dir e.mode e.data e.path
theorem znp {e : Entry} (h : putB e = true) : 0 ≤ e.mode ∧ e.mode ≤ 7 := by
 unfold putB entB inB at h
 grind
end Go.PVx
namespace Go.PVx
open Go.PV Go.Proofs
def cutAt (b : UInt8) : Str → List Str
 | [] => [[]]
 | c :: s => if c = b then [] :: cutAt b s else ((c :: (cutAt b s).headD []) :: (cutAt b s).tail)
theorem zoA (b : UInt8) : ∀ s, cutAt b s ≠ []
 | [] => by simp [cutAt]
 | c :: s => by unfold cutAt; split <;> simp
theorem zed (b : UInt8) (s : Str) : cutAt b s = (cutAt b s).headD [] :: (cutAt b s).tail := by
 cases h : cutAt b s with
 | nil => exact absurd h (zoA b s)
 | cons x l => rfl
theorem zig (b : UInt8) : Lib.index [] [b] = -1 := rfl
theorem zjw (b : UInt8) (s : Str) : Lib.index (b :: s) [b] = 0 := by simp [Lib.index]
theorem zjx (b c : UInt8) (s : Str) (h : c ≠ b) : Lib.index (c :: s) [b] = if Lib.index s [b] == -1 then -1 else Lib.index s [b] + 1 := by
 have : ([b] : List UInt8).isPrefixOf (c :: s) = false := by show ((b == c) && _) = false; rw [beq_eq_false_iff_ne.2 (Ne.symm h)]; rfl
 simp only [Lib.index, this]
 rfl
theorem zhz (b : UInt8) : ∀ (s : Str), Lib.splitK [b] 0 (Lib.count s [b]) s = cutAt b s
 | [] => by
  rw [Lib.count_miss (zig b)]
  rfl
 | c :: s => by
  have ih := zhz b s
  by_cases h : c = b
  · subst h
    rw [Lib.count_cons_eq, Nat.add_comm, Lib.splitK, zjw]
    simp only [cutAt, if_true]
    rw [if_neg (by decide)]
    have : List.drop ((0 : Int).toNat + [c].length) (c :: s) = s := rfl
    rw [this, ih]
    rfl
  · rw [Lib.count_cons_ne c b s h]
    have hi := zjx b c s h
    cases hc : Lib.count s [b] with
    | zero =>
     rw [hc] at ih
     have h1 : Lib.splitK [b] 0 0 s = [s] := rfl
     rw [h1] at ih
     rw [cutAt, if_neg h, ← ih]
     rfl
    | succ k =>
     rw [hc] at ih
     have hne : Lib.index s [b] ≠ -1 := fun h0 => by rw [Lib.count_miss h0] at hc; exact absurd hc (by simp)
     have hge := Lib.index_ge s [b]
     obtain ⟨i, hi0⟩ : ∃ i : Nat, Lib.index s [b] = i := ⟨(Lib.index s [b]).toNat, by omega⟩
     rw [hi0] at hi hne
     have hb : ((i : Int) == -1) = false := beq_eq_false_iff_ne.2 hne
     rw [hb] at hi
     rw [cutAt, if_neg h, ← ih, Lib.splitK, Lib.splitK, hi, hi0, hb]
     have hb2 : (((i : Int) + 1) == -1) = false := beq_eq_false_iff_ne.2 (by omega)
     simp only [Bool.false_eq_true, if_false, hb2]
     have e1 : ((i : Int) + 1).toNat = i + 1 := by omega
     simp only [e1, Int.toNat_natCast, List.headD_cons, List.tail_cons, List.length_cons, List.length_nil, Nat.add_zero, Nat.zero_add]
     rw [show i + 1 + 1 = (i + 1) + 1 from rfl, List.take_succ_cons, List.drop_succ_cons]
theorem zlQ (b : UInt8) (s : Str) : Lib.splitB (mkS [b]) 0 (Lib.countB (mkS s) (mkS [b])) (mkS s) = (cutAt b s).map mkS := by
 have h1 := Lib.splitB_data (mkS [b]) 0 (Lib.countB (mkS s) (mkS [b])) (mkS s)
 have h2 : Lib.countB (mkS s) (mkS [b]) = Lib.count s [b] := rfl
 have h3 : (mkS s).data.toList = s := by simp
 have h4 : (mkS [b]).data.toList = [b] := rfl
 rw [h3, h4, h2, zhz] at h1
 rw [h2, ← h1, List.map_map]
 have : (mkS ∘ fun x : ByteArray => x.data.toList) = id := by funext x; exact mkS_of x
 rw [this, List.map_id]
theorem zcS (s : Str) (b : UInt8) (hs : s.length ≤ 1048576) : strings_Split [vS s, vS [b]] [] = some ⟨[.o .deep (eSs (cutAt b s))], []⟩ := by
 rw [strings_Split.ext]
 have e1 : decide ((mkS s).size < 4294967281) = true := by simp; omega
 have e2 : decide (1 ≤ (mkS [b]).size) = true := rfl
 simp only [zeR, e1, e2, Bool.and_self, cond_true, zlQ]
 simp [eSs, eS, List.map_map, Function.comp_def]
theorem zcQ (b : UInt8) : ∀ s : Str, (cutAt b s).length ≤ s.length + 1
 | [] => by simp [cutAt]
 | c :: s => by
  have := zcQ b s
  unfold cutAt
  split
  · simp; omega
  · simp; omega
theorem zc9 (b : UInt8) (s : Str) : 1 ≤ (cutAt b s).length := by
 rw [zed]; simp
theorem zkp (s : Str) (hs : s.length ≤ 1048576) : zb6 [vS s] [] = some ⟨[.s (eSs (cutAt 10 s).dropLast)], []⟩ := by
 rw [zb6.e]
 have h := zcS s 10 hs
 have b1 : (ByteArray.mk #[10]) = mkS [10] := rfl
 have hl := zcQ 10 s
 have hp := zc9 10 s
 have hw : IntKind.i64.wrap (((cutAt 10 s).length : Int) - 1) = (((cutAt 10 s).length - 1 : Nat) : Int) := by rw [zc8 _ (by omega)]; omega
 rw [b1, h]
 simp only [Option.bind_some, List.getD_cons_zero, TC.es, List.length_map, hw]
 have e2 : decide ((((cutAt 10 s).length - 1 : Nat) : Int) ≤ ((cutAt 10 s).length : Int)) = true := by simp
 have e3 : decide ((none : Option Int).getD 0 ≤ (((cutAt 10 s).length - 1 : Nat) : Int)) = true := by simp
 simp only [e2, e3, Bool.and_self, cond_true, Int.toNat_natCast]
 simp [zae, List.dropLast_eq_take, eSs, List.map_take]
def glue (p : Str) (l : List Str) : List Str := (p ++ l.headD []) :: l.tail
theorem zd2 (s : Str) (b : UInt8) (hs : s.length ≤ 1048576) : za0 [vS s, .one (.v (.int .u8 b.toNat))] [] = some ⟨[.o .deep (eSs (cutAt b s))], []⟩ := by
 have key : ∀ i, i ≤ s.length → ∀ (f : Nat) (acc : List Str), f ≤ i → acc.length ≤ f → (za0.L4 (mkS s) b.toNat (f : Int) (i : Int) (eSs acc)).bind za0.A4 = some ⟨[.o .deep (eSs (acc ++ glue ((s.take i).drop f) (cutAt b (s.drop i))))], []⟩ := by
  have rl : ∀ l : List Str, zaA 1 (eSs l) = true := fun l => by simp [zaA, eSs, eS]
  have sn : ∀ (l : List Str) (x : Str), eSs l ++ [[D.v (.string (mkS x))]] = eSs (l ++ [x]) := fun l x => by simp [eSs, eS]
  refine up s.length ?_ fun i hi ih => ?_
  · intro f acc hf ha
    rw [za0.s4]
    have e1 : decide (((f : Nat) : Int) ≤ (s.length : Int)) = true := by simp; omega
    have e2 : decide ((acc.length + 1) * 17 ≤ 70368744177664) = true := by simp; omega
    have e3 : (eSs acc).length = acc.length := by simp
    simp only [zdl, Int.lt_irrefl, decide_false, cond_false, Option.bind_some, za0.a4x4, e1, e2, e3, rl, Int.toNat_natCast, zdN]
    simp [sn, glue, cutAt]
  · intro f acc hf ha
    have hb : (s.drop i) = s[i] :: s.drop (i + 1) := zbf s i hi
    have hw : IntKind.i64.wrap ((i : Int) + 1) = ((i + 1 : Nat) : Int) := zbY i (by omega)
    have e1 : decide (((f : Nat) : Int) ≤ (i : Int)) = true := by simp; omega
    have e2 : decide ((acc.length + 1) * 17 ≤ 70368744177664) = true := by simp; omega
    have e3 : (eSs acc).length = acc.length := by simp
    have e4 : decide ((i : Int) < (s.length : Int)) = true := by simp; omega
    have e5 : decide ((i : Int) ≤ (s.length : Int)) = true := by simp; omega
    have e6 : decide ((0 : Int) ≤ (i : Int)) = true := by simp
    have e7 : decide ((0 : Int) ≤ (f : Int)) = true := by simp
    rw [za0.s4]
    simp only [zdl, e1, e2, e3, e4, e5, e6, e7, rl, Int.toNat_natCast, zdC s i hi, zdN, hw, Bool.and_self, cond_true, sn]
    by_cases h : s[i] = b
    · have hbe : (((s[i].toNat : Nat) : Int) == ((b.toNat : Nat) : Int)) = true := by simp [h]
      rw [hbe, cond_true, ih (i + 1) _ (by omega) (by simp; omega)]
      have : cutAt b (s.drop i) = [] :: cutAt b (s.drop (i + 1)) := by rw [hb, cutAt, if_pos h]
      rw [this]
      have h0 : (s.take (i + 1)).drop (i + 1) = [] := by simp
      rw [h0]
      simp only [glue, List.headD_cons, List.tail_cons, List.append_nil, List.nil_append, List.append_assoc, List.cons_append]
      rw [← zed]
    · have hbe : (((s[i].toNat : Nat) : Int) == ((b.toNat : Nat) : Int)) = false := by
       refine beq_eq_false_iff_ne.2 fun h1 => h (UInt8.toNat_inj.1 (by omega))
      rw [hbe, cond_false, ih f acc (by omega) ha]
      have : cutAt b (s.drop i) = (s[i] :: (cutAt b (s.drop (i + 1))).headD []) :: (cutAt b (s.drop (i + 1))).tail := by rw [hb, cutAt, if_neg h]
      rw [this]
      have h1 : (s.take (i + 1)).drop f = (s.take i).drop f ++ [s[i]] := by
       rw [zje s i hi, List.drop_append_of_le_length (by simp; omega)]
      rw [h1]
      simp [glue]
 rw [za0.e]
 have := key 0 (by omega) 0 [] (by omega) (by simp)
 have h0 : (za0.L4 (mkS s) b.toNat 0 0 []).bind za0.A4 = _ := this
 rw [h0]
 simp only [glue, List.take_zero, List.drop_zero, List.drop_nil, List.nil_append]
 rw [← zed]
end Go.PVx
namespace Go.PVx
open Go.PV Go.Proofs
theorem zee (b : UInt8) (y : Str) : ∀ x : Str, b ∉ x → cutAt b (x ++ b :: y) = x :: cutAt b y
 | [], _ => by simp [cutAt]
 | c :: x, h => by
  have hc : c ≠ b := fun e => h (by simp [e])
  have ih := zee b y x (fun e => h (by simp [e]))
  rw [List.cons_append, cutAt, if_neg hc, ih]
  rfl
theorem zih (b : UInt8) : ∀ x : Str, b ∉ x → cutAt b x = [x]
 | [], _ => rfl
 | c :: x, h => by
  have hc : c ≠ b := fun e => h (by simp [e])
  have ih := zih b x (fun e => h (by simp [e]))
  rw [cutAt, if_neg hc, ih]
  rfl
theorem zhA (b : UInt8) : ∀ l : List Str, (∀ x ∈ l, b ∉ x) → cutAt b (l.map fun x => x ++ [b]).flatten = l ++ [[]]
 | [], _ => rfl
 | x :: l, h => by
  have ih := zhA b l fun y hy => h y (by simp [hy])
  rw [List.map_cons, List.flatten_cons, List.append_assoc, List.singleton_append, zee b _ x (h x (by simp)), ih]
  rfl
theorem zfr : ∀ p : List Str, p ≠ [] → (∀ x ∈ p, (47 : UInt8) ∉ x) → cutAt 47 (Lib.joinTail [47] p) = [] :: p
 | [], h, _ => absurd rfl h
 | [x], _, h => by
  have : Lib.joinTail [47] [x] = [] ++ 47 :: x := by simp [Lib.joinTail]
  rw [this, zee 47 x [] (by simp), zih 47 x (h x (by simp))]
 | x :: y :: p, _, h => by
  have ih := zfr (y :: p) (by simp) fun z hz => h z (by simp only [List.mem_cons] at hz ⊢; exact .inr hz)
  have e1 : Lib.joinTail [47] (x :: y :: p) = [] ++ 47 :: (x ++ Lib.joinTail [47] (y :: p)) := by simp [Lib.joinTail]
  have e2 : Lib.joinTail [47] (y :: p) = 47 :: (y ++ Lib.joinTail [47] p) := by simp [Lib.joinTail]
  have e3 : cutAt 47 (y ++ Lib.joinTail [47] p) = y :: p := by
   have := ih
   rw [e2] at this
   rw [cutAt, if_pos rfl] at this
   exact (List.cons.inj this).2
  rw [e1, zee 47 _ [] (by simp), e2, zee 47 _ x (h x (by simp)), e3]
theorem znq {b : UInt8} (h : okc b = true) : b ≠ 10 ∧ b ≠ 32 ∧ b ≠ 47 := by
 refine ⟨?_, ?_, ?_⟩ <;> (rintro rfl; simp [okc] at h)
theorem zii {s : Str} (h : nameB s = true) : (10 : UInt8) ∉ s ∧ (32 : UInt8) ∉ s ∧ (47 : UInt8) ∉ s := by
 simp only [nameB, Bool.and_eq_true, List.all_eq_true] at h
 exact ⟨fun e => (znq (h.1 _ e)).1 rfl, fun e => (znq (h.1 _ e)).2.1 rfl, fun e => (znq (h.1 _ e)).2.2 rfl⟩
theorem zjy (n : Nat) : ∀ c ∈ dec n, 48 ≤ c.toNat ∧ c.toNat ≤ 57 := by
 induction n using Nat.strongRecOn with
 | _ n ih =>
  intro c hc
  unfold dec at hc ih
  rw [Lib.decDigits] at hc
  split at hc
  · rename_i h
    simp only [List.mem_singleton] at hc
    subst hc
    rw [UInt8.toNat_ofNat']
    omega
  · rename_i h
    rcases List.mem_append.1 hc with h1 | h1
    · exact ih (n / 10) (by omega) c h1
    · simp only [List.mem_singleton] at h1
      subst h1
      rw [UInt8.toNat_ofNat']
      omega
theorem zo7 (n : Nat) : (10 : UInt8) ∉ dec n ∧ (32 : UInt8) ∉ dec n ∧ (47 : UInt8) ∉ dec n := by
 refine ⟨fun h => ?_, fun h => ?_, fun h => ?_⟩ <;> (have := zjy n _ h; simp at this)
theorem znr (b : UInt8) (hb : b ≠ 47) : ∀ p : List Str, (∀ x ∈ p, b ∉ x) → b ∉ Lib.joinTail [47] p
 | [], _ => by simp [Lib.joinTail]
 | x :: p, h => by
  have ih := znr b hb p fun y hy => h y (by simp [hy])
  have : Lib.joinTail [47] (x :: p) = 47 :: (x ++ Lib.joinTail [47] p) := by simp [Lib.joinTail]
  rw [this]
  simp only [List.mem_cons, List.mem_append, not_or]
  exact ⟨hb, h x (by simp), ih⟩
def valS : Int → Str → Int
 | a, [] => a
 | a, c :: r => if (c.toNat : Int) < 48 ∨ (c.toNat : Int) > 57 then -1 else valS (a * 10 + ((c.toNat : Int) - 48)) r
def numS (s : Str) : Int := if inB s.length 1 5 = false ∨ (1 < s.length ∧ s.headD 0 = 48) then -1 else valS 0 s
end Go.PVx
namespace Go.PVx
open Go.PV Go.Proofs
def digN (a : Nat) (l : Str) : Nat := l.foldl (fun a c => a * 10 + (c.toNat - 48)) a
theorem zeW {n : Nat} (h : n < 10) : dec n = [UInt8.ofNat (48 + n)] := by
 unfold dec; rw [Lib.decDigits, dif_pos h]
theorem zns {n : Nat} (h : ¬ n < 10) : dec n = dec (n / 10) ++ [UInt8.ofNat (48 + n % 10)] := by
 show Lib.decDigits n = Lib.decDigits (n / 10) ++ _
 rw [Lib.decDigits, dif_neg h]
theorem zoB (n : Nat) : digN 0 (dec n) = n := by
 induction n using Nat.strongRecOn with
 | _ n ih =>
  by_cases h : n < 10
  · rw [zeW h]
    simp only [digN, List.foldl_cons, List.foldl_nil, UInt8.toNat_ofNat']
    omega
  · have := ih (n / 10) (by omega)
    rw [zns h]
    unfold digN at this ⊢
    rw [List.foldl_append, this]
    simp only [List.foldl_cons, List.foldl_nil, UInt8.toNat_ofNat']
    omega
theorem zoC (n : Nat) (h : n ≤ 99999) : 1 ≤ (dec n).length ∧ (dec n).length ≤ 5 := by
 have key : ∀ (k m : Nat), m < 10 ^ (k + 1) → 1 ≤ (dec m).length ∧ (dec m).length ≤ k + 1 := by
  intro k
  induction k with
  | zero => intro m hm; rw [zeW (by simpa using hm)]; simp
  | succ k ih =>
   intro m hm
   by_cases h10 : m < 10
   · rw [zeW h10]; simp
   · have := ih (m / 10) (by rw [Nat.pow_succ] at hm; omega)
     rw [zns h10]
     simp only [List.length_append, List.length_cons, List.length_nil]
     omega
 exact key 4 n (by omega)
theorem zjz : ∀ (l : Str) (a : Nat), (∀ c ∈ l, 48 ≤ c.toNat ∧ c.toNat ≤ 57) → (a + 1) * 10 ^ l.length ≤ 10 ^ 18 → Lib.parseUint10 a l = .ok (digN a l) ∧ digN a l < 10 ^ 18
 | [], a, _, h => ⟨rfl, by simp only [digN, List.foldl_nil, List.length_nil, Nat.pow_zero, Nat.mul_one] at h ⊢; omega⟩
 | c :: l, a, hd, h => by
  have hc := hd c (by simp)
  have h10 : 1 ≤ 10 ^ l.length := Nat.pow_pos (by omega)
  rw [List.length_cons, Nat.pow_succ] at h
  have h3 : (a * 10 + (c.toNat - 48) + 1) * 10 ^ l.length ≤ 10 ^ 18 := by
   refine Nat.le_trans (Nat.mul_le_mul_right _ (show a * 10 + (c.toNat - 48) + 1 ≤ (a + 1) * 10 by omega)) ?_
   rw [Nat.mul_assoc, Nat.mul_comm 10]; exact h
  have h4 : a * 10 + (c.toNat - 48) + 1 ≤ 10 ^ 18 := by
   refine Nat.le_trans ?_ h3
   exact Nat.le_mul_of_pos_right _ h10
  obtain ⟨h5, h6⟩ := zjz l (a * 10 + (c.toNat - 48)) (fun d hd' => hd d (by simp [hd'])) h3
  have e : digN a (c :: l) = digN (a * 10 + (c.toNat - 48)) l := rfl
  rw [e, Lib.parseUint10, if_pos hc, if_neg (by omega), if_neg (by omega)]
  exact ⟨h5, h6⟩
theorem znt (n : Nat) (h : n ≤ 99999) : atoiN (dec n) = n := by
 have hl := zoC n h
 have hd := zjy n
 obtain ⟨h1, h2⟩ := zjz (dec n) 0 hd (by
  refine Nat.le_trans (Nat.mul_le_mul_left _ (Nat.pow_le_pow_right (by omega) (show (dec n).length ≤ 18 by omega))) ?_
  omega)
 rw [zoB] at h1
 cases hx : dec n with
 | nil => rw [hx] at hl; simp at hl
 | cons c r =>
  have hc := hd c (by rw [hx]; simp)
  have h3 : Lib.atoiAll (c :: r) = .ok (n : Int) := by
   rw [hx] at h1
   rw [Lib.atoiAll_plain c r (by omega) (by omega)]
   have hm : Lib.parseMag (c :: r) = .ok n := by
    unfold Lib.parseMag
    rw [if_neg (by simp)]
    exact h1
   rw [hm]
   simp only [Lib.signless]
   rw [if_neg (by omega)]
  unfold atoiN
  rw [h3]
end Go.PVx
namespace Go.PVx
open Go.PV Go.Proofs
def pathI (s : Str) : List Str := if Lib.trimPrefix s [47] = [] then [] else cutAt 47 (Lib.trimPrefix s [47])
theorem pathI_pt (p : List Str) (h0 : p ≠ []) (hn : ∀ x ∈ p, nameB x = true) : pathI (pt p) = p := by
 have h1 := zfr p h0 fun x hx => (zii (hn x hx)).2.2
 have h2 : pt p = Lib.joinTail [47] p := by unfold pt; rw [if_neg h0]
 obtain ⟨t, ht⟩ : ∃ t, Lib.joinTail [47] p = 47 :: t := by
  cases p with
  | nil => exact absurd rfl h0
  | cons x r => exact ⟨x ++ Lib.joinTail [47] r, by simp [Lib.joinTail]⟩
 rw [ht, cutAt, if_pos rfl] at h1
 have h1 := (List.cons.inj h1).2
 have h3 : Lib.trimPrefix (pt p) [47] = t := by
  rw [h2, ht]
  simp [Lib.trimPrefix, Lib.hasPrefix]
 unfold pathI
 rw [h3, if_neg, h1]
 intro e
 rw [e] at h1
 have h4 : p = [[]] := h1.symm
 have := hn [] (by rw [h4]; simp)
 simp [nameB, inB] at this
def znu : Nat → Int → List NodeOf → List Str → Option Nodes
 | _, nx, acc, [] => some ⟨nx, acc⟩
 | i, nx, acc, l :: ls =>
  if (cutAt 32 l).length ≠ 2 ∨ 30 < i then none
  else if i = 0 then znu (i + 1) (numS ((cutAt 32 l).getD 1 [])) acc ls
  else znu (i + 1) nx (acc ++ [⟨numS ((cutAt 32 l).getD 0 []), (cutAt 47 ((cutAt 32 l).getD 1 [])).drop 1⟩]) ls
def zbo (s : Str) : List Str := (cutAt 10 s).dropLast
def RS (s : Str) : Option Nodes := match znu 0 0 [] (zbo s) with
 | some n => if okB n = true ∧ znj n = s then some n else none
 | none => none
theorem zfs {p : List Str} (h : pathB 1 p = true) : p ≠ [] ∧ ∀ x ∈ p, nameB x = true := by
 simp only [pathB, Bool.and_eq_true, List.all_eq_true, zpP] at h
 exact ⟨fun e => by rw [e] at h; simp at h, h.1⟩
theorem pt_no (b : UInt8) (hb : b ≠ 47) {p : List Str} (h0 : p ≠ []) (h : ∀ x ∈ p, b ∉ x) : b ∉ pt p := by
 unfold pt
 rw [if_neg h0]
 exact znr b hb p h
end Go.PVx
namespace Go.PVx
open Go.PV Go.Proofs
theorem zeX (b : UInt8) : ∀ s : Str, wL List.length (cutAt b s) = s.length + 1
 | [] => rfl
 | c :: s => by
  have ih := zeX b s
  unfold cutAt
  split
  · simp only [wL, ih, List.length_nil, List.length_cons]; omega
  · rw [zed b s] at ih
    simp only [wL, List.length_cons] at ih ⊢
    omega
theorem zgM {α : Type} (w : α → Nat) : ∀ l : List α, wL w l.dropLast ≤ wL w l - 1
 | [] => by simp [wL]
 | [x] => by simp [wL]
 | x :: y :: l => by
  have ih := zgM w (y :: l)
  simp only [List.dropLast_cons_cons, wL] at ih ⊢
  omega
theorem zij (s : Str) : wL List.length (zbo s) ≤ s.length := by
 have h1 := zeX 10 s
 have h2 := zgM List.length (cutAt 10 s)
 unfold zbo
 omega
theorem oP_of {p : List Str} (h : wP p ≤ 1048576) : oP p := by
 unfold wP at h
 refine ⟨?_, fun x hx => ?_⟩
 · have := zcU List.length p; omega
 · have := zeQ List.length p x hx
   unfold sS
   omega
theorem zla (s p : Str) : (Lib.trimPrefix s p).length ≤ s.length := by
 unfold Lib.trimPrefix
 split
 · simp
 · exact Nat.le_refl _
theorem zkq (l : Str) (hl : l.length ≤ 1048576) : zb7 [vS l] [] = rI (atoiN l) := by
 have h : zcp [vS l] [] = some ⟨[.v (.int .i64 (atoiN l)), .d], []⟩ := by
  rw [zcp.ext]
  have e1 : decide ((mkS l).size ≤ 281474976710656) = true := by simp; omega
  have h3 : (mkS l).data.toList = l := by simp
  simp only [zgA, e1, cond_true, h3]
 rw [zb7.e, h]
 rfl
theorem zjA (l : Str) (hl : l.length ≤ 1048576) : zbM [vS l] [] = some ⟨[.o .deep (eSs (pathI l))], []⟩ := by
 have h : strings_TrimPrefix [vS l, vS [47]] [] = rS (Lib.trimPrefix l [47]) := by
  rw [strings_TrimPrefix.ext]
  have h3 : (mkS l).data.toList = l := by simp
  have h4 : (mkS [47]).data.toList = [47] := rfl
  simp only [zcw, h3, h4]
  rfl
 have b1 : (ByteArray.mk #[47]) = mkS [47] := rfl
 have ht := zla l [47]
 have hS := zcS (Lib.trimPrefix l [47]) 47 (by omega)
 rw [zbM.e, b1, h]
 unfold pathI
 by_cases h0 : Lib.trimPrefix l [47] = []
 · simp [h0]
 · have hi : (Lib.trimPrefix l [47]).isEmpty = false := by cases h : Lib.trimPrefix l [47] with
    | nil => exact absurd h h0
    | cons x r => rfl
   simp [h0, hS, hi, zae, TC.es]
end Go.PVx
namespace Go.PVx
open Go.PV Go.Proofs
theorem cut32 (l : Str) (h : l.length ≤ 1048576) : za0 [vS l, .one (.v (.int .u8 32))] [] = some ⟨[.o .deep (eSs (cutAt 32 l))], []⟩ := zd2 l 32 h
theorem cut47 (l : Str) (h : l.length ≤ 1048576) : za0 [vS l, .one (.v (.int .u8 47))] [] = some ⟨[.o .deep (eSs (cutAt 47 l))], []⟩ := zd2 l 47 h
end Go.PVx
namespace Go.PVx
open Go.PV Go.Proofs
def nibV (x : Int) : Int := if 48 ≤ x ∧ x ≤ 57 then x - 48 else if 97 ≤ x ∧ x ≤ 102 then x - 87 else if 65 ≤ x ∧ x ≤ 70 then x - 55 else -1
def digV (x : Int) : Int := if 48 ≤ x ∧ x ≤ 57 then x - 48 else if 97 ≤ x ∧ x ≤ 102 then x - 87 else 99
theorem zft (x : Int) (h0 : 0 ≤ x) (h1 : x ≤ 255) : zaT [AV.one (A1.v (Value.int .u8 x))] [] = rI (nibV x) := by
 rw [zaT.e]
 unfold nibV
 by_cases a : 48 ≤ x <;> by_cases b : x ≤ 57 <;> by_cases c : 97 ≤ x <;> by_cases d : x ≤ 102 <;> by_cases e : 65 ≤ x <;> by_cases f : x ≤ 70 <;>
  first | omega | (simp (disch := omega) only [pvS, pvT, pvC, pvL, pvR, pvN, zaT.p2, zaT.p4, zaT.p6]; simp [a, b, c, d, e, f]; try omega)
theorem zey (x : Int) (h0 : 0 ≤ x) (h1 : x ≤ 255) : zaZ [AV.one (A1.v (Value.int .u8 x))] [] = rI (digV x) := by
 rw [zaZ.e]
 unfold digV
 by_cases a : 48 ≤ x <;> by_cases b : x ≤ 57 <;> by_cases c : 97 ≤ x <;> by_cases d : x ≤ 102 <;>
  first | omega | (simp (disch := omega) only [pvS, pvT, pvC, pvL, pvR, pvN, zaZ.p2, zaZ.p4]; simp [a, b, c, d]; try omega)
theorem znv (x : Int) : -1 ≤ nibV x ∧ nibV x ≤ 15 := by unfold nibV; (repeat' split) <;> omega
theorem znw (x : Int) : 0 ≤ digV x ∧ (digV x ≤ 15 ∨ digV x = 99) := by unfold digV; (repeat' split) <;> omega
def hx (a b : Int) : UInt8 := UInt8.ofNat (16 * a + b).toNat
theorem zo8 (a b : Int) (h : 0 ≤ 16 * a + b) (h2 : 16 * a + b ≤ 255) : [D.v (Value.int .u8 (16 * a + b))] = zbQ (hx a b) := by
 unfold zbQ hx
 rw [UInt8.toNat_ofNat', Nat.mod_eq_of_lt (by omega), Int.toNat_of_nonneg h]
def zcW : Str → Str
 | a :: b :: s => if 0 ≤ nibV a.toNat ∧ 0 ≤ nibV b.toNat then hx (nibV a.toNat) (nibV b.toNat) :: zcW s else []
 | _ => []
theorem zhB : ∀ s : Str, (zcW s).length ≤ s.length
 | [] => by simp [zcW]
 | [a] => by simp [zcW]
 | a :: b :: s => by
  have := zhB s
  unfold zcW
  split <;> simp <;> omega
theorem two {α : Type} (s : List α) (k : Nat) (h : k + 1 < s.length) : s.drop k = s[k] :: s[k + 1] :: s.drop (k + 2) := by
 rw [zbf s k (by omega), zbf s (k + 1) h]
theorem zoD (s : Str) (hs : s.length ≤ 1048576) : ∀ (n k : Nat) (acc : Str), s.length - k ≤ n → k ≤ s.length → acc.length ≤ k →
 zaY.L3 (mkS s) (k : Int) (acc.map zbQ) = some (zaY.x3 ((acc ++ zcW (s.drop k)).map zbQ)) := by
 intro n
 induction n with
 | zero =>
  intro k acc h1 h2 h3
  rw [zaY.s3]
  simp (disch := omega) only [pvS, pvT, pvC, pvL, pvR, pvN]
  rw [show s.drop k = [] from List.drop_eq_nil_of_le (by omega), zcW.eq_2 _ (by simp), List.append_nil]
 | succ n ih =>
  intro k acc h1 h2 h3
  by_cases h : k + 1 < s.length
  · have b1 : s[k].toNat < 256 := s[k].toNat_lt
    have b2 : s[k + 1].toNat < 256 := s[k + 1].toNat_lt
    have n1 := znv s[k].toNat
    have n2 := znv s[k + 1].toNat
    have e2 : (k : Int) + 2 = ((k + 2 : Nat) : Int) := rfl
    rw [two s k h, zcW]
    by_cases c1 : 0 ≤ nibV s[k].toNat
    · by_cases c2 : 0 ≤ nibV s[k + 1].toNat
      · have := ih (k + 2) (acc ++ [hx (nibV s[k].toNat) (nibV s[k + 1].toNat)]) (by omega) (by omega) (by simp; omega)
        rw [zaY.s3]
        simp (disch := omega) only [pvS, pvT, pvC, pvL, pvR, pvN, zft, zaY.p5, zdS, zo8, e2]
        simp only [List.map_append, List.map_cons, List.map_nil, List.append_assoc, List.singleton_append] at this
        rw [this, if_pos ⟨c1, c2⟩, List.map_append, List.map_cons]
      · rw [zaY.s3]
        simp (disch := omega) only [pvS, pvT, pvC, pvL, pvR, pvN, zft]
        rw [if_neg (fun h => c2 h.2), List.append_nil]
    · rw [zaY.s3]
      simp (disch := omega) only [pvS, pvT, pvC, pvL, pvR, pvN, zft]
      rw [if_neg (fun h => c1 h.1), List.append_nil]
  · rw [zaY.s3]
    simp (disch := omega) only [pvS, pvT, pvC, pvL, pvR, pvN]
    have : zcW (s.drop k) = [] := by
     have hl : (s.drop k).length ≤ 1 := by simp; omega
     match hd : s.drop k, hl with
     | [], _ => rfl
     | [a], _ => rfl
    rw [this, List.append_nil]
theorem zjB (s : Str) (hs : s.length ≤ 1048576) : zbO [vS s] [] = rS (zcW s) := by
 have h := zoD s hs s.length 0 [] (by omega) (by omega) (by simp)
 have h0 : zaY [vS s] [] = rS (zcW s) := by
  rw [zaY.e]
  have h' : zaY.L3 (mkS s) 0 [] = _ := h
  rw [h', Option.bind_some, zaY.a3x3]
  simp only [List.nil_append, List.drop_zero, zdm, zdR, cond_true]
 rw [zbO.e, h0]
 simp (disch := omega) only [pvS, pvT, pvC, pvL, pvR, pvN]
def zdo : Str → Option Str
 | [] => some []
 | [_] => none
 | a :: b :: s => if digV a.toNat ≤ 15 ∧ digV b.toNat ≤ 15 then (zdo s).map (hx (digV a.toNat) (digV b.toNat) :: ·) else none
def zdH (s : Str) : Option Str := if s = [45] then some [] else if s.length % 2 = 1 ∨ s = [] then none else zdo s
def rBy (o : Option Str) : Option Res := some ⟨[.v (.string (mkS (o.getD []))), .v (.bool o.isSome)], []⟩
theorem zlR (s : Str) (hs : s.length ≤ 1048576) (hp : s.length % 2 = 0) : ∀ (n k : Nat) (acc : Str), s.length - k ≤ n → k ≤ s.length → k % 2 = 0 → acc.length ≤ k →
 (zak.L7 (mkS s) (k : Int) (acc.map zbQ)).bind zak.A7 = rBy ((zdo (s.drop k)).map (acc ++ ·)) := by
 intro n
 induction n with
 | zero =>
  intro k acc h1 h2 h0 h3
  rw [zak.s7]
  simp (disch := omega) only [pvS, pvT, pvC, pvL, pvR, pvN]
  rw [show s.drop k = [] from List.drop_eq_nil_of_le (by omega), zak.a7x7, zdm, zdR]
  simp [zdo, rBy]
 | succ n ih =>
  intro k acc h1 h2 h0 h3
  by_cases h : k < s.length
  · have h : k + 1 < s.length := by omega
    have b1 : s[k].toNat < 256 := s[k].toNat_lt
    have b2 : s[k + 1].toNat < 256 := s[k + 1].toNat_lt
    have n1 := znw s[k].toNat
    have n2 := znw s[k + 1].toNat
    have e2 : (k : Int) + 2 = ((k + 2 : Nat) : Int) := rfl
    rw [two s k h, zdo]
    by_cases c1 : digV s[k].toNat ≤ 15
    · by_cases c2 : digV s[k + 1].toNat ≤ 15
      · have := ih (k + 2) (acc ++ [hx (digV s[k].toNat) (digV s[k + 1].toNat)]) (by omega) (by omega) (by omega) (by simp; omega)
        rw [zak.s7]
        simp (disch := omega) only [pvS, pvT, pvC, pvL, pvR, pvN, zey, zak.p12, zak.p13, zdS, zo8, e2]
        simp only [List.map_append, List.map_cons, List.map_nil] at this
        rw [this, if_pos ⟨c1, c2⟩]
        cases zdo (s.drop (k + 2)) <;> simp [rBy]
      · rw [zak.s7]
        simp (disch := omega) only [pvS, pvT, pvC, pvL, pvR, pvN, zey, zak.p12, zak.a7q7]
        rw [if_neg (fun h => c2 h.2)]
        rfl
    · rw [zak.s7]
      simp (disch := omega) only [pvS, pvT, pvC, pvL, pvR, pvN, zey, zak.p12, zak.a7q7]
      rw [if_neg (fun h => c1 h.1)]
      rfl
  · rw [zak.s7]
    simp (disch := omega) only [pvS, pvT, pvC, pvL, pvR, pvN]
    rw [show s.drop k = [] from List.drop_eq_nil_of_le (by omega), zak.a7x7, zdm, zdR]
    simp [zdo, rBy]
theorem zkr (s : Str) (hs : s.length ≤ 1048576) : zak [vS s] [] = rBy (zdH s) := by
 rw [zak.e]
 unfold zdH
 by_cases h1 : s = [45]
 · subst h1
   have e1 : (([45] : Str) == [45]) = true := rfl
   simp (disch := omega) only [pvS, pvT, pvC, pvL, pvR, pvN, e1, if_true]
   rfl
 · have e1 : (s == [45]) = false := beq_eq_false_iff_ne.2 h1
   by_cases h2 : s.length % 2 = 1
   · simp (disch := omega) only [pvS, pvT, pvC, pvL, pvR, pvN, e1, zak.p5, h1, h2]
     simp [rBy]
   · by_cases h3 : s = []
     · subst h3; simp (disch := omega) only [pvS, pvT, pvC, pvL, pvR, pvN, zak.p5, if_true, or_true]; rfl
     · have e3 : (s == []) = false := beq_eq_false_iff_ne.2 h3
       have := zlR s hs (by omega) s.length 0 [] (by omega) (by omega) (by omega) (by simp)
       have h0 : zak.L7 (mkS s) 0 [] = zak.L7 (mkS s) ((0 : Nat) : Int) (([] : Str).map zbQ) := rfl
       simp (disch := omega) only [pvS, pvT, pvC, pvL, pvR, pvN, e1, e3, zak.p5, zak.p6]
       rw [h0, this, List.drop_zero, if_neg h1, if_neg (by simp [h2, h3])]
       cases zdo s <;> simp
end Go.PVx
namespace Go.PVx
open Go.PV Go.Proofs
theorem cut32' (l : Str) (h : l.length ≤ 1048576) : za0 [AV.one (A1.v (Value.string (mkS l))), AV.one (A1.v (Value.int .u8 32))] [] = some ⟨[.o .deep (eSs (cutAt 32 l))], []⟩ := zd2 l 32 h
theorem cut47' (l : Str) (h : l.length ≤ 1048576) : za0 [AV.one (A1.v (Value.string (mkS l))), AV.one (A1.v (Value.int .u8 47))] [] = some ⟨[.o .deep (eSs (cutAt 47 l))], []⟩ := zd2 l 47 h
theorem zpS (l : Str) : wP (pathI l) ≤ l.length + 1 ∧ (l = [] → wP (pathI l) = 0) := by
 have h1 := zla l [47]
 unfold pathI wP
 refine ⟨?_, fun h => by rw [h]; rfl⟩
 split
 · simp [wL]
 · rw [zeX]; omega
end Go.PVx
namespace Go.PVx
open Go.PV Go.Proofs
theorem zpT : ∀ i : Fin 16, (48 ≤ (dig i.val).toNat ∧ (dig i.val).toNat ≤ 57 ∧ nibV (dig i.val).toNat = i.val ∧ digV (dig i.val).toNat = i.val) ∨ (97 ≤ (dig i.val).toNat ∧ (dig i.val).toNat ≤ 102 ∧ nibV (dig i.val).toNat = i.val ∧ digV (dig i.val).toNat = i.val) := by decide
theorem zhC {i : Nat} (h : i < 16) : 48 ≤ (dig i).toNat ∧ nibV (dig i).toNat = i ∧ digV (dig i).toNat = i := by
 have := zpT ⟨i, h⟩
 simp only at this
 omega
theorem zgN (b : UInt8) (s : Str) : hexS (b :: s) = dig (b.toNat / 16) :: dig (b.toNat % 16) :: hexS s := by simp [hexS, hexB]
theorem znx : ∀ (s : Str), ∀ c ∈ hexS s, 48 ≤ c.toNat
 | [], c, h => by simp [hexS] at h
 | b :: s, c, h => by
  have hb : b.toNat < 256 := b.toNat_lt
  rw [zgN] at h
  rcases List.mem_cons.1 h with rfl | h
  · exact (zhC (by omega)).1
  rcases List.mem_cons.1 h with rfl | h
  · exact (zhC (by omega)).1
  exact znx s c h
theorem zoE (s : Str) : ∀ c ∈ dataT s, 45 ≤ c.toNat := fun c h => by
 unfold dataT at h
 split at h
 · simp at h; subst h; decide
 · have := znx s c h; omega
theorem zlb (s : Str) (b : UInt8) (hb : b.toNat < 45) : b ∉ dataT s := fun h => by
 have := zoE s b h; omega
theorem hx_of (b : UInt8) : hx ((b.toNat / 16 : Nat) : Int) ((b.toNat % 16 : Nat) : Int) = b := by
 have hb : b.toNat < 256 := b.toNat_lt
 unfold hx
 rw [show (16 * ((b.toNat / 16 : Nat) : Int) + ((b.toNat % 16 : Nat) : Int)).toNat = b.toNat by omega]
 simp
theorem zhD : ∀ s : Str, zcW (hexS s) = s
 | [] => rfl
 | b :: s => by
  have hb : b.toNat < 256 := b.toNat_lt
  have d1 := zhC (i := b.toNat / 16) (by omega)
  have d2 := zhC (i := b.toNat % 16) (by omega)
  rw [zgN, zcW, d1.2.1, d2.2.1, if_pos (by omega), zhD s, hx_of]
theorem zhE : ∀ s : Str, zdo (hexS s) = some s
 | [] => rfl
 | b :: s => by
  have hb : b.toNat < 256 := b.toNat_lt
  have d1 := zhC (i := b.toNat / 16) (by omega)
  have d2 := zhC (i := b.toNat % 16) (by omega)
  rw [zgN, zdo, d1.2.2, d2.2.2, if_pos (by omega), zhE s, hx_of]
  rfl
theorem zks (s : Str) : zcW (dataT s) = s := by
 unfold dataT
 split
 · rename_i h; subst h; rfl
 · exact zhD s
theorem zkt (s : Str) : zdH (dataT s) = some s := by
 unfold dataT
 split
 · rename_i h; subst h; rfl
 · rename_i h
   have hl := zeV s
   have h1 : hexS s ≠ [45] := fun e => by rw [e] at hl; simp at hl; omega
   have h2 : hexS s ≠ [] := fun e => by
    rw [e] at hl
    simp only [List.length_nil] at hl
    exact h (List.length_eq_zero_iff.1 (by omega))
   unfold zdH
   rw [if_neg h1, if_neg (by simp [h2]; omega), zhE]
theorem zjC (x : Str) (l : List Str) (hx : (32 : UInt8) ∉ x) (hl : ∀ y ∈ l, (32 : UInt8) ∉ y) : cutAt 32 (x ++ (l.map fun y => 32 :: y).flatten) = x :: l := by
 induction l generalizing x with
 | nil => simp [zih 32 x hx]
 | cons y l ih =>
  rw [List.map_cons, List.flatten_cons, List.cons_append, zee 32 _ x hx, ih y (hl y (by simp)) fun z hz => hl z (by simp [hz])]
end Go.PVx
namespace Go.PVx
open Go.PV Go.Proofs
def hideW : Str := [104, 105, 100, 101]
def gl (g : List Str) : Str := hideW ++ 32 :: pt g
def pl (e : Entry) : Str := bif e.dir then [100, 105, 114] ++ ([pt e.path, dec e.mode.toNat].map fun y => 32 :: y).flatten else [102, 105, 108, 101] ++ ([pt e.path, dec e.mode.toNat, dataT e.data].map fun y => 32 :: y).flatten
theorem zpU (e : Entry) : putL e = pl e ++ [10] := by
 unfold putL pl lineT
 cases e.dir <;> simp
theorem zd3 {e : Entry} (h : putB e = true) : e.what = 2 ∧ (e.dir = true → e.data = []) ∧ (e.dir = false → e.path ≠ []) ∧ (e.path ≠ [] → pathB 1 e.path = true) ∧ 0 ≤ e.mode ∧ e.mode ≤ 7 := by
 have hm := znp h
 refine ⟨?_, ?_, ?_, ?_, hm⟩
 all_goals
  unfold putB entB kindB at h
  grind
theorem ptno {p : List Str} (h : p ≠ [] → pathB 1 p = true) (b : UInt8) (hb : b ≠ 47) (hx : ∀ x, nameB x = true → b ∉ x) : b ∉ pt p := by
 by_cases h0 : p = []
 · subst h0
   unfold pt
   rw [if_pos rfl]
   simp only [List.mem_cons, List.not_mem_nil, or_false]
   exact hb
 · exact pt_no b hb h0 fun x hm => hx x ((zfs (h h0)).2 x hm)
def zhF (e : Entry) : List Str := if e.dir = true then [[100, 105, 114], pt e.path, dec e.mode.toNat] else [[102, 105, 108, 101], pt e.path, dec e.mode.toNat, dataT e.data]
theorem zny {e : Entry} (h : putB e = true) : cutAt 32 (pl e) = zhF e := by
 obtain ⟨h1, h2, h3, h4, h5, h6⟩ := zd3 h
 have hp := ptno h4 32 (by decide) fun x hx => (zii hx).2.1
 have hd := zlb e.data 32 (by decide)
 have hm := (zo7 e.mode.toNat).2.1
 unfold pl zhF
 cases e.dir with
 | true =>
  rw [if_pos rfl, cond_true]
  refine zjC _ _ (by decide) fun y hy => ?_
  simp only [List.mem_cons, List.not_mem_nil, or_false] at hy
  rcases hy with rfl | rfl
  · exact hp
  · exact hm
 | false =>
  rw [if_neg (by simp), cond_false]
  refine zjC _ _ (by decide) fun y hy => ?_
  simp only [List.mem_cons, List.not_mem_nil, or_false] at hy
  rcases hy with rfl | rfl | rfl
  · exact hp
  · exact hm
  · exact hd
def putI (l : Str) : Entry :=
 let w := cutAt 32 l ++ [[], [], []]
 ⟨pathI (w.getD 1 []), 2, w.getD 0 [] == [100, 105, 114], atoiN (w.getD 2 []), bif w.getD 0 [] == [100, 105, 114] then [] else zcW (w.getD 3 [])⟩
theorem pathI_pt' {p : List Str} (h : p ≠ [] → pathB 1 p = true) : pathI (pt p) = p := by
 by_cases h0 : p = []
 · subst h0; rfl
 · exact pathI_pt p h0 (zfs (h h0)).2
theorem znz {e : Entry} (h : putB e = true) : putI (pl e) = e := by
 obtain ⟨h1, h2, h3, h4, h5, h6⟩ := zd3 h
 have hp := pathI_pt' h4
 have hm := znt e.mode.toNat (by omega)
 unfold putI
 rw [zny h]
 unfold zhF
 obtain ⟨p, w, d, m, s⟩ := e
 simp only at h1 h2 h3 h4 h5 h6 hp hm
 subst h1
 cases d with
 | true =>
  have h2 := h2 rfl
  subst h2
  have e1 : ((m.toNat : Nat) : Int) = m := by omega
  simp [hp, hm, e1]
 | false =>
  have e1 : ((m.toNat : Nat) : Int) = m := by omega
  simp [hp, hm, e1, zks]
def partS (w : List Str) : Option (Bool × Int × Str) :=
 if (w.getD 0 [] ≠ [102, 105, 108, 101] ∧ w.getD 0 [] ≠ [100, 105, 114]) ∨ w.length ≠ (if w.getD 0 [] = [102, 105, 108, 101] then 4 else 3) ∨ (w.getD 2 []).length ≠ 1 ∨ ((w.getD 2 []).headD 0).toNat < 48 ∨ 55 < ((w.getD 2 []).headD 0).toNat then none
 else if w.getD 0 [] = [100, 105, 114] then some (true, (((w.getD 2 []).headD 0).toNat : Int) - 48, [])
 else (zdH (w.getD 3 [])).map fun d => (false, (((w.getD 2 []).headD 0).toNat : Int) - 48, d)
end Go.PVx
namespace Go.PVx
open Go.PV Go.Proofs
def modeW (w : List Str) : Int := (((w.getD 2 []).headD 0).toNat : Int) - 48
def partR (w : List Str) : (Bool × Int × Str) × Bool :=
 if (w.getD 0 [] ≠ [102, 105, 108, 101] ∧ w.getD 0 [] ≠ [100, 105, 114]) ∨ w.length ≠ (if w.getD 0 [] = [102, 105, 108, 101] then 4 else 3) ∨ (w.getD 2 []).length ≠ 1 ∨ ((w.getD 2 []).headD 0).toNat < 48 ∨ 55 < ((w.getD 2 []).headD 0).toNat then ((false, 0, []), false)
 else if w.getD 0 [] = [100, 105, 114] then ((true, modeW w, []), true)
 else ((false, modeW w, (zdH (w.getD 3 [])).getD []), (zdH (w.getD 3 [])).isSome)
def badP (w : List Str) : Prop := (w.getD 0 [] ≠ [102, 105, 108, 101] ∧ w.getD 0 [] ≠ [100, 105, 114]) ∨ w.length ≠ (if w.getD 0 [] = [102, 105, 108, 101] then 4 else 3) ∨ (w.getD 2 []).length ≠ 1 ∨ ((w.getD 2 []).headD 0).toNat < 48 ∨ 55 < ((w.getD 2 []).headD 0).toNat
theorem zda {w : List Str} (h : badP w) : partR w = ((false, 0, []), false) := if_pos h
theorem zfu {w : List Str} (h : ¬ badP w) : partR w = if w.getD 0 [] = [100, 105, 114] then ((true, modeW w, []), true) else ((false, modeW w, (zdH (w.getD 3 [])).getD []), (zdH (w.getD 3 [])).isSome) := if_neg h
theorem znA {w : List Str} (h : badP w) : partS w = none := if_pos h
theorem zlS {w : List Str} (h : ¬ badP w) : partS w = if w.getD 0 [] = [100, 105, 114] then some (true, modeW w, []) else (zdH (w.getD 3 [])).map fun d => (false, modeW w, d) := if_neg h
theorem zpV (w : List Str) : partS w = bif (partR w).2 then some (partR w).1 else none := by
 by_cases h : badP w
 · rw [zda h, znA h]; rfl
 · rw [zfu h, zlS h]
   by_cases h2 : w.getD 0 [] = [100, 105, 114]
   · rw [if_pos h2, if_pos h2]; rfl
   · rw [if_neg h2, if_neg h2]
     cases zdH (w.getD 3 []) <;> rfl
def rPart (x : (Bool × Int × Str) × Bool) : Option Res := some ⟨[.v (.bool x.1.1), .v (.int .i64 x.1.2.1), .v (.string (mkS x.1.2.2)), .o .deep [], .o .deep [], .v (.bool x.2)], []⟩
theorem zhG (W : List Str) (hW : 1 ≤ W.length) (hl : W.length ≤ 1048577) (hw : ∀ x ∈ W, x.length ≤ 1048576) : zaC [vP W] [] = rPart (partR W) := by
 have g : ∀ i (h : i < W.length), W.getD i [] = W[i] := fun i h => by rw [List.getD_eq_getElem?_getD, List.getElem?_eq_getElem h, Option.getD_some]
 have g0 := g 0 (by omega)
 have b0 : (mkS [102, 105, 108, 101]).get! 0 = 102 := rfl
 have b1 : (mkS [102, 105, 108, 101]).get! 1 = 105 := rfl
 have b2 : (mkS [102, 105, 108, 101]).get! 2 = 108 := rfl
 have b3 : (mkS [102, 105, 108, 101]).get! 3 = 101 := rfl
 have c0 : (mkS [100, 105, 114]).get! 0 = 100 := rfl
 have c1 : (mkS [100, 105, 114]).get! 1 = 105 := rfl
 have c2 : (mkS [100, 105, 114]).get! 2 = 114 := rfl
 have key : ∀ n : Int, n = (if W[0] = [102, 105, 108, 101] then 4 else 3) → zaC.P5 (eSs W) n false 0 (mkS []) [] [] false 0 (mkS []) [] [] = rPart (partR W) := by
  intro n hn
  rw [zaC.p5]
  by_cases hf : W[0] = [102, 105, 108, 101] ∨ W[0] = [100, 105, 114]
  · by_cases hlen : (W.length : Int) = n
    · have hW3 : 2 < W.length := by split at hn <;> omega
      have g2 := g 2 hW3
      by_cases h1 : W[2].length = 1
      · obtain ⟨c, hc⟩ : ∃ c, W[2] = [c] := List.length_eq_one_iff.1 h1
        have hcb := c.toNat_lt
        have hby : zaS (mkS [c]) 0 = (c.toNat : Int) := rfl
        by_cases h48 : c.toNat < 48 ∨ 55 < c.toNat
        · have hbad : badP W := by
           right; right; right
           rw [g2, hc]
           exact h48
          rw [zda hbad]
          rcases hf with h0 | h0 <;> rcases h48 with h48 | h48 <;>
          · simp (disch := omega) only [pvS, pvT, pvC, pvL, pvR, pvN, h0, hc, hby, b0, b1, b2, b3, c0, c1, c2, zaC.p6, hlen]
            simp [rPart]
        · have hgood : ¬ badP W := by
           unfold badP
           rw [g0, g2, hc]
           have h1 : ¬ (W[0] ≠ [102, 105, 108, 101] ∧ W[0] ≠ [100, 105, 114]) := by grind
           have h2 : ¬ (W.length ≠ (if W[0] = [102, 105, 108, 101] then 4 else 3)) := by split at hn <;> simp_all <;> omega
           rintro (hh | hh | hh | hh | hh)
           · exact h1 hh
           · exact h2 hh
           · exact hh rfl
           · exact h48 (.inl hh)
           · exact h48 (.inr hh)
          rw [zfu hgood]
          unfold modeW
          rw [g0, g2, hc]
          rcases hf with h0 | h0
          · rw [if_pos h0] at hn
            subst hn
            have g3 := g 3 (by omega)
            have e3 := zkr W[3] (hw _ (List.getElem_mem _))
            unfold rBy at e3
            simp (disch := omega) only [pvS, pvT, pvC, pvL, pvR, pvN, h0, hc, hby, b0, b1, b2, b3, c0, c1, c2, zaC.p6, zaC.p7, zaC.p12, e3, g3]
            simp [rPart]
          · have : W[0] ≠ [102, 105, 108, 101] := by rw [h0]; simp
            rw [if_neg this] at hn
            subst hn
            simp (disch := omega) only [pvS, pvT, pvC, pvL, pvR, pvN, h0, hc, hby, b0, b1, b2, b3, c0, c1, c2, zaC.p6, zaC.p7, zaC.p12]
            simp [rPart]
      · have hbad : badP W := by
         right; right; left
         rw [g2]
         exact h1
        rw [zda hbad]
        rcases hf with h0 | h0 <;>
        · simp (disch := omega) only [pvS, pvT, pvC, pvL, pvR, pvN, h0, b0, b1, b2, b3, c0, c1, c2, zaC.p6, hlen]
          simp [rPart]
    · have hbad : badP W := by
       right; left
       rw [g0]
       split at hn <;> simp_all <;> omega
      rw [zda hbad]
      rcases hf with h0 | h0 <;>
      · simp (disch := omega) only [pvS, pvT, pvC, pvL, pvR, pvN, h0, b0, b1, b2, b3, c0, c1, c2, zaC.p6]
        simp [rPart]
  · have hbad : badP W := by
     left
     rw [g0]
     grind
    rw [zda hbad]
    have q1 : (W[0] == [102, 105, 108, 101]) = false := by grind
    have q2 : (W[0] == [100, 105, 114]) = false := by grind
    simp (disch := omega) only [pvS, pvT, pvC, pvL, pvR, pvN, b0, b1, b2, b3, c0, c1, c2, q1, q2, zaC.p6]
    simp [rPart]
 rw [zaC.e]
 simp (disch := omega) only [pvS, pvT, pvC, pvL, pvR, pvN, b0, b1, b2, b3]
 by_cases h0 : W[0] = [102, 105, 108, 101]
 · have q : (W[0] == [102, 105, 108, 101]) = true := by simp [h0]
   simp only [q, pvL]
   exact key 4 (by rw [if_pos h0])
 · have q : (W[0] == [102, 105, 108, 101]) = false := by simpa using h0
   simp only [q, pvL]
   exact key 3 (by rw [if_neg h0])
end Go.PVx
