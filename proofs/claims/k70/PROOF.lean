import PyProof.Rows.All
import KE.KBits
import Wide.All
import OpenK.AllK
import Wide.FinOn
import KE.KStateDown
import HandS.ForMost
import HandS.Exc
import HandS.WordsExc
import HandS.Wide
import HandS.Flow
import HandS.Defaults
import HandS.Head0
import HandS.Head1
import HandS.Head2
import HandS.HeadEnd
import HandS.HeadHook1
import HandS.HeadHook2
import KE.KUnpack
import PyProof.CollectIter
import KE.GoesEnum
import KE.GoesEnumKw
import HandS.Walk
import HandS.ExcInit
import HandS.ExcIs
import PyProof.ExcAttrAll.RuntimeError
import KE.KExcLine
import KE.KExcIs
import HandS.DictComp
import HandS.Style
import PySem.Challenge.RW_brookworks_k70_whole_each_number_of_figu
import HandS.Sort
import PyProof.Rows.SortKeyStr
import KE.KEqNest
import KE.KSortTup
import HandS.MakeKwOnly
import PyProof.FitsReplace
import HandS.Conv
import HandS.IsInst
import HandS.More
import HandS.Zip
set_option Elab.async false
set_option linter.all false
set_option maxRecDepth 100000
set_option maxHeartbeats 4000000
/-! K70, part A: NUMBERs as rationals whose denominator is a power of two; cuts; sizes. Plain Lean. -/
namespace K70
open PySem PySem.W
/-! ### the lowest bit -/
theorem band_compl : ∀ (m : Nat) (x : Int), x.natAbs ≤ m → Builtin.bitAnd x (-x - 1) = 0 := by
  intro m
  induction m with
  | zero =>
    intro x hx
    have : x = 0 := by omega
    subst this
    decide
  | succ m ih =>
    intro x hx
    by_cases h0 : x = 0
    · subst h0
      decide
    by_cases h1 : x = -1
    · subst h1
      decide
    rw [kbt_halves]
    have e : (-x - 1) / 2 = -(x / 2) - 1 := by omega
    rw [e, ih (x / 2) (by omega), if_neg (by omega)]
    rfl
theorem low_gcd : ∀ (m : Nat) (x : Int) (k : Nat), x ≠ 0 → x.natAbs ≤ m → 1 ≤ Builtin.bitAnd x (-x) ∧ min ((2 : Int) ^ k) (Builtin.bitAnd x (-x)) = ((Nat.gcd (2 ^ k) x.natAbs : Nat) : Int) := by
  intro m
  induction m with
  | zero =>
    intro x k h0 hx
    omega
  | succ m ih =>
    intro x k h0 hx
    have hk : (1 : Int) ≤ 2 ^ k := by
      have := Int.pow_pos (n := 2) (m := k) (by decide)
      omega
    by_cases h1 : x % 2 = 1
    · have e : Builtin.bitAnd x (-x) = 1 := by
        rw [kbt_halves]
        have e : (-x) / 2 = -(x / 2) - 1 := by omega
        rw [e, band_compl _ (x / 2) (Nat.le_refl _), if_pos (by omega)]
        rfl
      rw [e]
      refine ⟨Int.le_refl _, ?_⟩
      have g : Nat.gcd (2 ^ k) x.natAbs = 1 := by
        have h2 : Nat.gcd 2 x.natAbs = 1 := by
          have h3 : x.natAbs % 2 = 1 := by omega
          rw [Nat.gcd_rec, h3]
          rfl
        exact Nat.Coprime.pow_left k h2
      rw [g]
      omega
    · have hx2 : x / 2 ≠ 0 := by omega
      have e : Builtin.bitAnd x (-x) = 2 * Builtin.bitAnd (x / 2) (-(x / 2)) := by
        rw [kbt_halves, if_neg (by omega)]
        have e : (-x) / 2 = -(x / 2) := by omega
        rw [e, Int.add_zero]
      cases k with
      | zero =>
        have q := (ih (x / 2) 0 hx2 (by omega)).1
        rw [e]
        refine ⟨by omega, ?_⟩
        rw [Nat.pow_zero, Nat.gcd_one_left]
        show min (1 : Int) _ = 1
        omega
      | succ k =>
        obtain ⟨q1, q2⟩ := ih (x / 2) k hx2 (by omega)
        rw [e]
        refine ⟨by omega, ?_⟩
        have ex : x.natAbs = 2 * (x / 2).natAbs := by omega
        rw [Nat.pow_succ, Nat.mul_comm, ex, Nat.gcd_mul_left, Int.pow_succ, Int.natCast_mul, ← q2]
        rw [Int.mul_comm ((2 : Int) ^ k) 2]
        show min (2 * (2 : Int) ^ k) (2 * Builtin.bitAnd (x / 2) (-(x / 2))) = 2 * min ((2 : Int) ^ k) (Builtin.bitAnd (x / 2) (-(x / 2)))
        omega
/-! ### NUMBERs -/
/-- a rational that a NUMBER can be -/
def Dy (q : Rat) : Prop := ∃ k, q.den = 2 ^ k
theorem num_of_eq {n p : Int} {k : Nat} (hp : p = 2 ^ k) (hn : n ≠ 0) :
    n / min p (Builtin.bitAnd n (-n)) = (mkRat n (2 ^ k)).num ∧ p / min p (Builtin.bitAnd n (-n)) = ((mkRat n (2 ^ k)).den : Int) ∧ 0 < min p (Builtin.bitAnd n (-n)) ∧ min p (Builtin.bitAnd n (-n)) ≤ p := by
  have h2 : (2 : Nat) ^ k ≠ 0 := Nat.ne_of_gt (Nat.two_pow_pos k)
  subst hp
  obtain ⟨g1, g2⟩ := low_gcd n.natAbs n k hn (Nat.le_refl _)
  have g3 : (0 : Int) < 2 ^ k := Int.pow_pos (by decide)
  refine ⟨?_, ?_, by omega, by omega⟩
  · rw [Rat.num_mkRat, if_neg h2, g2]
  · rw [Rat.den_mkRat, if_neg h2, g2, Int.natCast_ediv]
    congr 1
theorem dvd_pow_two : ∀ (k d : Nat), d ∣ 2 ^ k → ∃ j, j ≤ k ∧ d = 2 ^ j := by
  intro k
  induction k with
  | zero =>
    intro d h
    exact ⟨0, Nat.le_refl _, Nat.dvd_one.mp h⟩
  | succ k ih =>
    intro d h
    by_cases hd : d % 2 = 0
    · obtain ⟨c, rfl⟩ := Nat.dvd_of_mod_eq_zero hd
      rw [Nat.pow_succ, Nat.mul_comm (2 ^ k) 2] at h
      obtain ⟨j, hj, e⟩ := ih c (Nat.dvd_of_mul_dvd_mul_left (by decide) h)
      exact ⟨j + 1, by omega, by rw [e, Nat.pow_succ, Nat.mul_comm]⟩
    · have g : Nat.Coprime d 2 := by
        have h3 : d % 2 = 1 := by omega
        have : Nat.gcd 2 d = 1 := by
          rw [Nat.gcd_rec, h3]
          rfl
        rw [Nat.coprime_iff_gcd_eq_one, Nat.gcd_comm]
        exact this
      rw [Nat.pow_succ] at h
      obtain ⟨j, hj, e⟩ := ih d (Nat.Coprime.dvd_of_dvd_mul_right g h)
      exact ⟨j, by omega, e⟩
theorem dy_of_dvd {q : Rat} {k : Nat} (h : q.den ∣ 2 ^ k) : Dy q := by
  obtain ⟨j, _, e⟩ := dvd_pow_two k _ h
  exact ⟨j, e⟩
theorem mkRat_den_dvd (n : Int) (k : Nat) : (mkRat n (2 ^ k)).den ∣ 2 ^ k := by
  rw [Rat.den_mkRat]
  split
  · exact Nat.one_dvd _
  · exact Nat.div_dvd_of_dvd (Nat.gcd_dvd_left _ _)
/-- a NUMBER of at most d figures, from -2 ^ k to 2 ^ k -/
def Sz (d k : Nat) (q : Rat) : Prop := q.den ∣ 2 ^ d ∧ -(2 : Rat) ^ k ≤ q ∧ q ≤ (2 : Rat) ^ k
theorem pow_le_two (k : Nat) : (2 : Rat) ^ k + (2 : Rat) ^ k = (2 : Rat) ^ (k + 1) := by
  rw [Rat.pow_succ]
  grind
theorem pow_pos_two (k : Nat) : (0 : Rat) < (2 : Rat) ^ k := Rat.pow_pos (by decide)
theorem pow_mono_two {j k : Nat} (h : j ≤ k) : (2 : Rat) ^ j ≤ (2 : Rat) ^ k := by
  induction h with
  | refl => exact Rat.le_refl
  | @step m h ih =>
    have := pow_pos_two m
    have e := pow_le_two m
    grind
theorem pow_add_two (j k : Nat) : (2 : Rat) ^ j * (2 : Rat) ^ k = (2 : Rat) ^ (j + k) := by
  induction k with
  | zero =>
    rw [Rat.pow_zero, Rat.mul_one]
    rfl
  | succ k ih => rw [Rat.pow_succ, ← Rat.mul_assoc, ih, ← Nat.add_assoc, Rat.pow_succ]
theorem Sz.mono {c d j k : Nat} {q : Rat} (h : Sz c j q) (hd : c ≤ d) (hk : j ≤ k) : Sz d k q := by
  obtain ⟨h1, h2, h3⟩ := h
  have := pow_mono_two hk
  exact ⟨Nat.dvd_trans h1 (Nat.pow_dvd_pow 2 hd), by grind, by grind⟩
theorem den_mkRat_dvd (n : Int) (d : Nat) : (mkRat n d).den ∣ d := by
  rw [Rat.den_mkRat]
  split
  · rename_i h
    exact h ▸ Nat.one_dvd _
  · exact Nat.div_dvd_of_dvd (Nat.gcd_dvd_left _ _)
theorem add_den {k : Nat} {a b : Rat} (ha : a.den ∣ 2 ^ k) (hb : b.den ∣ 2 ^ k) : (a + b).den ∣ 2 ^ k := by
  obtain ⟨c, hc⟩ := ha
  obtain ⟨d, hd⟩ := hb
  have h2 : (2 : Nat) ^ k ≠ 0 := Nat.ne_of_gt (Nat.two_pow_pos k)
  have e1 : a = mkRat (a.num * c) (2 ^ k) := by
    conv => lhs; rw [← Rat.mkRat_self a]
    rw [hc, Rat.mkRat_mul_right]
    intro h
    rw [h, Nat.mul_zero] at hc
    exact h2 hc
  have e2 : b = mkRat (b.num * d) (2 ^ k) := by
    conv => lhs; rw [← Rat.mkRat_self b]
    rw [hd, Rat.mkRat_mul_right]
    intro h
    rw [h, Nat.mul_zero] at hd
    exact h2 hd
  have e3 : a + b = mkRat (a.num * c + b.num * d) (2 ^ k) := by
    conv => lhs; rw [e1, e2]
    rw [Rat.mkRat_add_mkRat _ _ h2 h2, ← Int.add_mul, Rat.mkRat_mul_right h2]
  rw [e3]
  exact mkRat_den_dvd _ _
theorem mul_den {j k : Nat} {a b : Rat} (ha : a.den ∣ 2 ^ j) (hb : b.den ∣ 2 ^ k) : (a * b).den ∣ 2 ^ (j + k) := by
  rw [Rat.mul_def', Nat.pow_add]
  exact Nat.dvd_trans (den_mkRat_dvd _ _) (Nat.mul_dvd_mul ha hb)
theorem Sz.add {d k : Nat} {a b : Rat} (ha : Sz d k a) (hb : Sz d k b) : Sz d (k + 1) (a + b) := by
  obtain ⟨h1, h2, h3⟩ := ha
  obtain ⟨g1, g2, g3⟩ := hb
  have e := pow_le_two k
  exact ⟨add_den h1 g1, by grind, by grind⟩
theorem Sz.neg {d k : Nat} {a : Rat} (ha : Sz d k a) : Sz d k (-a) := by
  obtain ⟨h1, h2, h3⟩ := ha
  exact ⟨h1, by grind, by grind⟩
theorem Sz.sub {d k : Nat} {a b : Rat} (ha : Sz d k a) (hb : Sz d k b) : Sz d (k + 1) (a - b) := by
  rw [Rat.sub_eq_add_neg]
  exact ha.add hb.neg
theorem mul_range {x a b c : Rat} (h1 : -b ≤ a) (h2 : a ≤ b) (h3 : -c ≤ x) (h4 : x ≤ c) : -(b * c) ≤ a * x ∧ a * x ≤ b * c := by
  have hb : 0 ≤ b := by grind
  have hc : 0 ≤ c := by grind
  have p1 := Rat.mul_nonneg (show 0 ≤ b - a by grind) (show 0 ≤ c - x by grind)
  have p2 := Rat.mul_nonneg (show 0 ≤ b - a by grind) (show 0 ≤ c + x by grind)
  have p3 := Rat.mul_nonneg (show 0 ≤ b + a by grind) (show 0 ≤ c - x by grind)
  have p4 := Rat.mul_nonneg (show 0 ≤ b + a by grind) (show 0 ≤ c + x by grind)
  constructor <;> grind
theorem Sz.mul {c d j k : Nat} {a b : Rat} (ha : Sz c j a) (hb : Sz d k b) : Sz (c + d) (j + k) (a * b) := by
  obtain ⟨h1, h2, h3⟩ := ha
  obtain ⟨g1, g2, g3⟩ := hb
  have e := mul_range h2 h3 g2 g3
  rw [pow_add_two] at e
  exact ⟨mul_den h1 g1, e.1, e.2⟩
theorem Sz.zero (d k : Nat) : Sz d k 0 := by
  have := pow_pos_two k
  exact ⟨Nat.one_dvd _, by grind, by grind⟩
theorem Sz.one (d k : Nat) : Sz d k 1 := by
  have q := pow_mono_two (Nat.zero_le k)
  rw [Rat.pow_zero] at q
  exact ⟨Nat.one_dvd _, by grind, q⟩
/-- what the walks ask of a NUMBER: it is one, and not too great -/
structure Bd (q : Rat) : Prop where
  den : q.den ∣ 2 ^ 2000
  num : q.num.natAbs < 2 ^ 400000
theorem Bd.dy {q : Rat} (h : Bd q) : Dy q := dy_of_dvd h.den
theorem Bd.exp {q : Rat} (h : Bd q) : ∃ k, k ≤ 2000 ∧ q.den = 2 ^ k := dvd_pow_two _ _ h.den
theorem natCast_pow_two (k : Nat) : (((2 ^ k : Nat) : Int) : Rat) = (2 : Rat) ^ k := by
  induction k with
  | zero => rfl
  | succ k ih =>
    rw [Nat.pow_succ, Int.natCast_mul, Rat.intCast_mul, ih, Rat.pow_succ]
    rfl
theorem Sz.bd {d k : Nat} {q : Rat} (h : Sz d k q) (hd : d ≤ 2000) (hk : k ≤ 390000) : Bd q := by
  obtain ⟨h1, h2, h3⟩ := h
  refine ⟨Nat.dvd_trans h1 (Nat.pow_dvd_pow 2 hd), ?_⟩
  have hp : (2 ^ k : Rat).num = ((2 ^ k : Nat) : Int) ∧ (2 ^ k : Rat).den = 1 := by
    rw [← natCast_pow_two]
    exact ⟨rfl, rfl⟩
  rw [Rat.le_iff] at h2 h3
  rw [Rat.neg_num, Rat.neg_den, hp.1, hp.2] at h2
  rw [hp.1, hp.2] at h3
  have h4 := Nat.le_of_dvd (Nat.two_pow_pos d) h1
  have e1 : q.num.natAbs ≤ 2 ^ k * q.den := by
    have : ((2 ^ k * q.den : Nat) : Int) = ((2 ^ k : Nat) : Int) * (q.den : Int) := Int.natCast_mul _ _
    have n2 : -((2 ^ k : Nat) : Int) * (q.den : Int) = -(((2 ^ k : Nat) : Int) * (q.den : Int)) := Int.neg_mul _ _
    omega
  have e2 : 2 ^ k * q.den ≤ 2 ^ k * 2 ^ d := Nat.mul_le_mul_left _ h4
  rw [← Nat.pow_add] at e2
  exact Nat.lt_of_le_of_lt (Nat.le_trans e1 e2) (Nat.pow_lt_pow_right (by decide) (by omega))
theorem Bd.neg {q : Rat} (h : Bd q) : Bd (-q) := ⟨h.den, by rw [Rat.neg_num, Int.natAbs_neg]; exact h.num⟩
theorem Bd.zero : Bd 0 := (Sz.zero 0 0).bd (by decide) (by decide)
theorem Bd.one : Bd 1 := (Sz.one 0 0).bd (by decide) (by decide)
/-! ### cuts -/
def cutR (f : Nat) (q : Rat) : Rat := mkRat (q.num * 2 ^ f / q.den) (2 ^ f)
end K70
/-! K70, part R: rules that the layer lacks: a star in a target. -/
namespace K70
open PySem PySem.Spec PyProof.Rows L2
/-- a list's iterator from its i0-th turn on -/
theorem walksFrom {prog : Program} {w : World} {A : Around} (hh : A.handled = none) (I ax : Addr) (hne : ax ≠ I) (items : Array Value) (i0 : Nat) (h0 : i0 ≤ items.size) :
    Walks prog w A I [I, ax] [I] (items.size - i0) (fun i v => items[i0 + i]? = some v) (fun i h => h.IsListIter I ax (i0 + i) ∧ h.IsList ax items) := by
  have W := Walks.list (prog := prog) (w := w) hh I ax hne items
  exact ⟨W.sub, fun i h h' st hk => W.frame (i0 + i) h h' st hk, fun i s Q E hi st hQ => W.item (i0 + i) s Q E (by omega) st fun v h' tk hP st' hk => hQ v h' tk hP st' hk,
    fun s Q E st hQ => W.done s Q E (by rw [show i0 + (items.size - i0) = items.size by omega] at st; exact st) hQ, fun i s Q E st q => W.self (i0 + i) s Q E st q⟩
theorem items_from {items acc : Array Value} {i0 : Nat} (h0 : i0 ≤ items.size) (h : ItemsOf (fun i v => items[i0 + i]? = some v) acc (items.size - i0)) : acc.toList = items.toList.drop i0 := by
  apply List.ext_getElem?
  intro i
  rw [List.getElem?_drop, Array.getElem?_toList, Array.getElem?_toList]
  by_cases hi : i < acc.size
  · have e := h.2 i acc[i] (by simp [hi])
    rw [e]
    simp [hi]
  · have h1 := h.1
    rw [Array.getElem?_eq_none (by omega), Array.getElem?_eq_none (by omega)]
section
variable {prog : Program} {w : World} {A : Around} {E : Value → Shared → Prop} {s : Shared}
theorem unpack_one_star {l : Addr} {x : Value} {r : List Value} {Q : List Value → Shared → Prop} (hh : A.handled = none) (hl : s.heap.IsList l (x :: r).toArray) (hz : r.length ≤ sizeLine)
    (hQ : ∀ s' : Shared, (∀ b o, s.heap.get? b = some o → s'.heap.get? b = some o) → s'.gens = s.gens → s'.drawn = s.drawn → s'.os = s.os →
      Q [x, .ref s'.heap.objs.size] { s' with heap := s'.heap.push { cls := .type "list", data := .seq r.toArray } }) : wpAny (model prog w) A (unpackItems (.ref l) 2 (some 1)) Q E s := by
  have hlt : l ≠ s.heap.objs.size := by
    obtain ⟨o, ho, _⟩ := hl
    exact Nat.ne_of_lt (Heap.lt_size ho)
  have hls : l < s.heap.objs.size := by
    obtain ⟨o, ho, _⟩ := hl
    exact Heap.lt_size ho
  unfold unpackItems
  refine wpAny_bind ?_
  unfold notIterableAtAll
  refine wpAny_bind (wpAny_specialOf hl.typeIs slot_list_iter.lookup (wpAny_pure ?_))
  rw [if_neg (by decide)]
  refine wpAny_bind (wpAny_holding (wpAny_pyIter_list hl ?_))
  refine wpAny_bind (wpAny_holding (PySem.W.kun_draw hlt 1 0 _ _ ⟨_, Heap.get?_push_size _ rfl, rfl, rfl⟩ (hl.push _) (by simp) fun h1 hit1 hs1 => ?_))
  have e1 : (((x :: r).toArray.toList.drop 0).take 1) = [x] := by simp
  rw [e1, if_neg (show ¬ [x].length < 1 from Nat.lt_irrefl 1)]
  have hl1 : h1.IsList l (x :: r).toArray := (hl.push _).extBut hs1.extBut hlt
  have hI1 : s.heap.objs.size < h1.objs.size := by
    obtain ⟨o, ho, _⟩ := hit1
    exact Heap.lt_size ho
  have hl2 : l < h1.objs.size := by
    obtain ⟨o, ho, _⟩ := hl1
    exact Heap.lt_size ho
  refine wpAny_bind (wpAny_holding ?_)
  have W := walksFrom (prog := prog) (w := w) (A := A.in1) hh s.heap.objs.size l hlt (x :: r).toArray 1 (by simp)
  refine wpAny_collect_iter (T := "list_iterator") (.inr (.inr (.inl rfl))) W.toS (fun i s' st => ?_) ⟨hit1, hl1⟩ (fun b hb => ?_) (List.mem_cons_self) (fun s' acc hm hacc => ?_) (by simp; omega)
  · obtain ⟨⟨o, e, c, _⟩, _⟩ := st
    exact ⟨o, e, c⟩
  · rcases List.mem_cons.mp hb with e | hb
    · rw [e]
      exact hI1
    · rw [List.mem_singleton.mp hb]
      exact hl2
  · have e2 : acc.toList = r := by
      rw [items_from (by simp) hacc]
      simp
    rw [e2]
    show wpAny _ _ (if r.length < 0 then _ else _) _ _ _
    rw [if_neg (by omega)]
    have e3 : List.take (r.length - (2 - 1 - 1)) r = r := by simp
    have e4 : List.drop (r.length - (2 - 1 - 1)) r = [] := by simp
    show wpAny _ _ (newList (List.take (r.length - (2 - 1 - 1)) r) >>= fun u => pure ([x] ++ [u] ++ List.drop (r.length - (2 - 1 - 1)) r)) _ _ _
    rw [e3, e4]
    refine wpAny_bind (wpAny_newObj_type (wpAny_pure ?_) (by size_fits))
    have k1 : ∀ b o, s.heap.get? b = some o → s'.heap.get? b = some o := fun b o e =>
      hm.heap b o (fun q => Nat.ne_of_lt (Heap.lt_size e) (List.mem_singleton.mp q)) (hs1.extBut b o (Nat.ne_of_lt (Heap.lt_size e)) (Heap.get?_push_of_some _ e))
    exact hQ s' k1 hm.gens hm.drawn hm.os
end
section
variable {X : Cx}
theorem pgs_star {e : Expr} {t : TG} {p : Pos} (h : PG X e t) (hs : (assignEach [.Starred e p] X.env).map (·.2) = [assign e X.env] := by rfl) : PGs X [.Starred e p] (gCons t gNil) := by
  refine ⟨fun pins s σ H vs us Q I r z => ?_⟩
  obtain ⟨v, vr, e1, z⟩ := z
  subst e1
  cases r with
  | cons r rr =>
    rw [hs]
    refine assignInOrder_cons (thn (h.run pins s σ H _ _ _ I r z) fun _ s1 ⟨σ1, H1, I1, q1⟩ => ?_)
    obtain ⟨e2, q1⟩ := q1
    subst e2
    cases rr
    exact assignInOrder_nil ⟨σ1, H1, I1, q1⟩
/-- (a, *b) = a list of one or more -/
def gOneStar (K : PySem.W.Frag) (t : TGs) : TG := fun v σ H Q => ∃ a x xs, v = .ref a ∧ SqL K H a (x :: xs) ∧ ∀ p, H p = none → t [x, .ref p] σ (upd H p (.lst xs)) Q
theorem pg_oneStar {e1 e2 : Expr} {k : Nat} {p pos : Pos} {t : TGs} (hc : X.calm = true) (h : PGs X [e1, .Starred e2 p] t)
    (hn : (assignEach [e1, .Starred e2 p] X.env).length = 2 := by rfl) (hst : (assignEach [e1, .Starred e2 p] X.env).findIdx? (·.1) = some 1 := by rfl) : PG X (.Tuple [e1, .Starred e2 p] k pos) (gOneStar X.K t) := by
  refine ⟨fun pins s σ H v u Q I r hw => ?_⟩
  obtain ⟨a, x, xs, e1, hq, hw⟩ := hw
  subst e1
  cases r
  obtain ⟨its, rv, pl, hz⟩ := I.list hq
  cases rv with
  | @cons _ y _ ys rx rxs =>
  have hl' : s.heap.IsList a (y :: ys).toArray := by
    obtain ⟨o, m, e, c, d, q⟩ := pl
    exact ⟨o, e, c, m, q⟩
  have hz' : ys.length ≤ sizeLine := by
    have e := rxs.length
    simp at hz
    omega
  rw [PyProof.Rows.assign_Tuple]
  refine wpAny_bind (wpAny_standAt ?_)
  unfold unpack
  rw [hn, hst]
  refine wpAny_bind (wpAny_holding (unpack_one_star (I.ok.hd hc) hl' hz' fun s' k g1 g2 g3 => ?_))
  have es : s' = { s with heap := s'.heap, toks := s'.toks } := by
    obtain ⟨h', g', d', t', o'⟩ := s'
    subst g1 g2 g3
    rfl
  have I1 : Inv X pins σ H { s with heap := s'.heap, toks := s'.toks } := I.kept k
  have hsz : s'.heap.objs.size ≤ s'.heap.objs.size := Nat.le_refl _
  have hn0 : H s'.heap.objs.size = none := I1.hok.fresh hsz
  have I2 : Inv X pins σ (upd H s'.heap.objs.size (.lst xs)) { s with heap := s'.heap.push { cls := .type "list", data := .seq ys.toArray }, toks := s'.toks } :=
    I1.laid (t' := s'.toks) (fun b o e => Heap.get?_push_of_some _ e) hsz ⟨by rw [rxs.length]; exact hz', ys, 0, rxs, Heap.get?_push_size _ rfl⟩
  rw [es]
  exact h.run pins _ σ _ [x, .ref s'.heap.objs.size] _ Q I2 (.cons rx (.cons rfl .nil)) (hw _ hn0)
end
end K70
/-! K70, part R2: enumerate over a tuple. -/
namespace K70
open PySem PySem.Spec PyProof.Rows L2
/-- the tuple at a as it stands at each turn, each item in a new pair with its place -/
def IteT (K : PySem.W.Frag) (a : Addr) : It where
  go := fun i H => ∃ (xs : List V) (x : V), SqT K H a xs ∧ xs[i]? = some x
  yld := fun i H v H' => ∃ T x, v = .ref T ∧ H T = none ∧ H' = upd H T (.tup [.int (i : Nat), x]) ∧ ∀ xs, SqT K H a xs → xs[i]? = some x
  stop := fun i H => ∃ xs : List V, SqT K H a xs ∧ xs.length ≤ i
theorem enum_new1 {v : Value} {o : Obj} {H : Heap → Prop} (B : Begins v o H) :
    Meets (Builtin.«enumerate.__new__» ⟨[.type "enumerate", v], []⟩) (fun _ R s => H s.heap ∧
      R (.ok (.ret (.ref (s.heap.push o).objs.size))) { s with heap := (s.heap.push o).push { cls := .type "enumerate", data := .fields #[.none, .bool false, .ref s.heap.objs.size, rawInt 0, .none, .none] } }) :=
  .of_wp fun prog w A R s h => by
    obtain ⟨hp, g, d, tk, os⟩ := s
    obtain ⟨h1, h⟩ := h
    have hsub := sub_enumerate
    have it : ∀ {A' : Around} {E : Value → Shared → Prop} {Q : Value → Shared → Prop}, Q (.ref hp.objs.size) ⟨hp.push o, g, d, tk, os⟩ → wpAny (model prog w) A' (pyIter v) Q E ⟨hp, g, d, tk, os⟩ :=
      fun q => B.iter prog w _ _ ⟨hp, g, d, tk, os⟩ _ h1 q
    wp_walk using it
    refine wpAny_stack_any fun st => wpAny_pure ?_
    split
    · rename_i c _ _ _ _ _
      cases (c == Value.type "enumerate") <;> (wp_walk using it; exact ⟨_, rfl, h⟩)
    · wp_walk using it
      exact ⟨_, rfl, h⟩
section
variable {prog : Program} {w : World} {A : Around} {E : Value → Shared → Prop} {s : Shared}
theorem call_enum1 {v : Value} {o : Obj} {H : Heap → Prop} {Q : Value → Shared → Prop} (B : Begins v o H) (h1 : H s.heap)
    (h : ∀ h', IsEnum h' (s.heap.objs.size + 1) s.heap.objs.size 0 .none → h'.get? s.heap.objs.size = some o → (∀ b o, s.heap.get? b = some o → h'.get? b = some o) → Q (.ref (s.heap.objs.size + 1)) { s with heap := h' }) :
    wpAny (model prog w) A (call (.type "enumerate") [v]) Q E s := by
  refine callType_new F.called_enumerate (by decide) (F.typeCall_enumerate_1 _) (F.newCall_enumerate_1 _) (fun obj => F.args_object_init_2 obj _) F.entry_enumerate_new (enum_new1 B) ⟨h1, ?_⟩
  have hz : (s.heap.push o).objs.size = s.heap.objs.size + 1 := Heap.size_push ..
  show _ ∧ _
  rw [hz]
  have he : IsEnum ((s.heap.push o).push { cls := .type "enumerate", data := .fields #[.none, .bool false, .ref s.heap.objs.size, rawInt 0, .none, .none] }) (s.heap.objs.size + 1) s.heap.objs.size 0 .none := by
    have q := Heap.get?_push_size (s.heap.push o) (o := { cls := .type "enumerate", data := .fields #[.none, .bool false, .ref s.heap.objs.size, rawInt 0, .none, .none] }) rfl
    rw [hz] at q
    exact q
  exact ⟨⟨_, he, rfl⟩, h _ he (Heap.get?_push_of_some _ (Heap.get?_push_size _ B.free)) fun b o x => Heap.get?_push_of_some _ (Heap.get?_push_of_some _ x)⟩
theorem next_enum_endT {e it t : Addr} {i : Nat} {items : Array Value} {k : Int} {old : Value} {Q : Option Value → Shared → Prop} (hh : A.handled = none) (he : IsEnum s.heap e it k old) (hit : s.heap.IsTupleIter it t i) (ht : s.heap.IsTuple t items) (hx : items[i]? = none)
    (hQ : ∀ h', Heap.ExtBut it s.heap h' → Q none { s with heap := h' }) : wpAny (model prog w) A (pyNext (.ref e)) Q E s := by
  have hT : s.TypeIs (.ref e) "enumerate" := ⟨_, he, rfl⟩
  unfold pyNext
  refine wpAny_bind (wpAny_attempt (wpAny_callSpecial?_slot (name := Str.ofString "__next__") hT F.slot_enumerate_next (wpAny_call_entry F.slot_enumerate_next hT F.entry_enumerate_next ?_ (F.args_enumerate_next_1 _))))
  show wpAny _ _ (field (.ref e) 2 >>= _) _ _ _
  refine wpAny_bind (wpAny_field he rfl (x := .ref it) rfl (wpAny_bind (wpAny_nextOf_tuple_end hh hit ht hx fun h' x he' hx' => ?_)))
  obtain ⟨o, ho, hc⟩ := hx'
  exact wpAny_bind (wpAny_isInstance (T := "StopIteration") (b := true) ⟨o, ho, hc⟩ isSubtype_stop (wpAny_pure (hQ _ he')))
end
theorem turn_enumT {P : Program} {w : World} {K : PySem.W.Frag} {elts : List Expr} {kk : Nat} {tpos : Pos} (a e it : Addr) :
    Turn P w K (.Tuple elts kk tpos) (IteT K a) [e, it] e (fun i h => (∃ old, IsEnum h e it ((i : Nat) : Int) old) ∧ h.IsTupleIter it a i ∧ e ≠ it ∧ e ≠ a ∧ a ≠ it) where
  mem := by simp
  obj := fun i h st b hb => by
    obtain ⟨⟨old, he⟩, ⟨o, ho, hc, hd⟩, _⟩ := st
    rcases List.mem_cons.mp hb with z | hb
    · rw [z]
      exact ⟨_, he, fun v q => nomatch q⟩
    · rw [List.mem_singleton.mp hb]
      exact ⟨o, ho, fun v q => by
        rw [hd] at q
        cases q⟩
  keep := fun i h h' st k => by
    obtain ⟨⟨old, he⟩, hi, hne⟩ := st
    exact ⟨⟨old, k e (by simp) _ he⟩, hi.at fun o q => k it (by simp) o q, hne⟩
  item := by
    intro X hP hw hK hc i pins s σ H E I hf st hg
    subst hP hw hK
    obtain ⟨⟨old, he⟩, hit, hne, hea, hai⟩ := st
    obtain ⟨xs, x, hq, hx⟩ := hg
    obtain ⟨its, rv, p, hz⟩ := I.tuple hq
    obtain ⟨u, hu, ru⟩ := rv.get hx
    have hel : e < s.heap.objs.size := Heap.lt_size he
    have hil : it < s.heap.objs.size := by
      obtain ⟨_, q, _⟩ := hit
      exact Heap.lt_size q
    have hlt : i < its.toArray.size := by
      have q := (List.getElem?_eq_some_iff.mp hu).1
      simpa using q
    have D := Draws.tuple (prog := X.prog) (w := X.w) (A := X.A.in1) (I.ok.hd hc) it a hai its.toArray
    refine wpAny_pyNext_enum_itemD D he ⟨hit, p⟩ hlt hne (by simp [hne, hea]) fun y h' tk hy ho st' hT hsz hk => ?_
    have ey : y = u := by
      have hu' : its.toArray[i]? = some u := by simpa using hu
      exact Option.some.inj (hy.symm.trans hu')
    subst ey
    refine ⟨_, rfl, wpAny_letOwnedTupleGo_enum (s := { s with heap := h', toks := tk + 1 }) ho fun h'' he' sb => ?_⟩
    have hT2 : h''.get? s.heap.objs.size = some { cls := .type "tuple", data := .seq #[.int i tk, y] } := (sb.2 _ (Nat.ne_of_gt hel)).trans hT
    have new : ObjOk X.prog X.w (upd H s.heap.objs.size (.tup [.int (i : Nat), x])) h'' s.heap.objs.size (.tup [.int (i : Nat), x]) :=
      ⟨by show 2 ≤ sizeLine; decide, [.int i tk, y], .cons ⟨_, rfl⟩ (.cons ru .nil), ⟨_, hT2, rfl, _, rfl⟩⟩
    have I1 : Inv X pins σ (upd H s.heap.objs.size (.tup [.int (i : Nat), x])) { s with heap := h'', toks := tk + 1 } :=
      I.turnedNew (ch := [e, it]) (fun b ob hb q => (sb.2 b (fun z => hb (by simp [z]))).trans (hk b ob (fun z => hb (by simp [z])) (fun z => hb (by simp [z])) q)) hf (Nat.le_refl _) new
    refine ⟨.ref s.heap.objs.size, _, I1, rfl, ⟨_, x, rfl, I.hok.fresh (Nat.le_refl _), rfl, fun ys hy => ?_⟩, ⟨⟨y, ?_⟩, st'.1.at fun o q => (sb.2 it (Ne.symm hne)).trans q, hne, hea, hai⟩, fun b hb => ?_⟩
    · rw [I.tuple_inj hy hq]
      exact hx
    · have e1 : ((i + 1 : Nat) : Int) = (i : Int) + 1 := by omega
      rw [e1]
      exact he'
    · have hb' : b < s.heap.objs.size := by
        rcases List.mem_cons.mp hb with z | hb
        · rw [z]
          exact hel
        · rw [List.mem_singleton.mp hb]
          exact hil
      rw [upd_ne (Nat.ne_of_lt hb')]
      exact (hf b hb).1
  done := by
    intro X hP hw hK hc i pins s σ H E I hf st hg
    subst hP hw hK
    obtain ⟨⟨old, he⟩, hit, hne, hea, hai⟩ := st
    obtain ⟨xs, hq, hx⟩ := hg
    obtain ⟨its, rv, p, hz⟩ := I.tuple hq
    obtain ⟨f0, f1, f2, f3, f4, f5⟩ := hf it (by simp)
    have hl := rv.length
    exact next_enum_endT (I.ok.hd hc) he hit p (by simp; omega) fun h' eb => ⟨rfl, I.turned (t' := s.toks) (fun b o hb q => eb b o hb q) f0 f1 f3 f4 f5⟩
  self := fun A i s Q E st h => by
    obtain ⟨⟨_, he⟩, _⟩ := st
    exact wpAny_pyIter_enum he h
def iEnumT (K : PySem.W.Frag) (ta : TA) : TI := fun σ H R => ta σ H fun vs H1 => ∃ a xs, vs = [.ref a] ∧ SqT K H1 a xs ∧ R (IteT K a) H1
theorem pi_enumT {X : Cx} {e : Expr} {ta : TA} {p pos tpos : Pos} {elts : List Expr} {kk : Nat} (hg : Gl X "enumerate") (hm : X.mg "enumerate" = none) (ha : PA X [e] ta) (hs : starEach [e] X.env = [(false, eval e X.env)] := by rfl) :
    PI X (.Tuple elts kk tpos) (.Call (.Name "enumerate" p) [e] [] pos) (iEnumT X.K ta) := by
  refine ⟨fun pins s σ H R I h => Call_ (ld_blt I hg hm boot_enumerate (PyProof.Rows.callWith_type1 (thn (ha.run pos pins s σ H _ I h) fun us s1 ⟨vs, H1, I1, r1, q1⟩ => ?_) hs rfl))⟩
  obtain ⟨a, xs, ex, hq, q⟩ := q1
  subst ex
  cases r1 with
  | cons r rr =>
    cases rr
    cases r
    obtain ⟨its, rv, p', hz⟩ := I1.tuple hq
    have hal : a < s1.heap.objs.size := by
      obtain ⟨o, ho, _⟩ := p'
      exact Heap.lt_size ho
    refine call_enum1 (begins_tuple a its.toArray) p' fun h' he hit hk => wpAny_pyIter_enum he ?_
    have I2 : Inv X pins σ H1 { s1 with heap := h' } := I1.kept (t' := s1.toks) hk
    refine ⟨s1.heap.objs.size + 1, [s1.heap.objs.size + 1, s1.heap.objs.size], _, _, H1, rfl, I2, turn_enumT a (s1.heap.objs.size + 1) s1.heap.objs.size, ⟨⟨.none, he⟩, ⟨_, hit, rfl, rfl⟩, Nat.succ_ne_self _, Nat.ne_of_gt (Nat.lt_succ_of_lt hal), Nat.ne_of_lt hal⟩, fun b hb => ?_, q⟩
    have hle : s1.heap.objs.size ≤ b := by
      rcases List.mem_cons.mp hb with z | hb
      · rw [z]
        exact Nat.le_add_right _ _
      · rw [List.mem_singleton.mp hb]
        exact Nat.le_refl _
    exact I1.fpOk hle (I1.hok.fresh hle)
end K70
/-! K70, part R3: zip(xs, ys, strict=True) of two lists of one length. -/
namespace K70
open PySem PySem.Spec PyProof.Rows L2
/-- a zip object that is strict -/
abbrev IsZipS (h : Heap) (z TI TO : Addr) (f0 : Value) : Prop :=
  h.get? z = some { cls := .type "zip", dict := none, data := .fields #[f0, .bool false, .bool true, .ref TI, .ref TO], slots := #[] }
section
variable {prog : Program} {w : World} {A : Around} {E : Value → Shared → Prop} {s : Shared}
theorem orEnd_item {it l : Addr} {i : Nat} {items : Array Value} {x : Value} {Q : Option Value → Shared → Prop} (hit : s.heap.IsListIter it l i) (hl : s.heap.IsList l items) (hx : items[i]? = some x)
    (hQ : ∀ h', h'.IsListIter it l (i + 1) → Heap.SameBut it s.heap h' → Q (some x) { s with heap := h' }) : wpAny (model prog w) A (Builtin.SmallTypes.nextOrEnd (.ref it)) Q E s := by
  unfold Builtin.SmallTypes.nextOrEnd
  exact wpAny_bind (wpAny_attempt (wpAny_nextOf_list_item hit hl hx fun h' a b => wpAny_pure (hQ h' a b)))
theorem orEnd_end {it l : Addr} {i : Nat} {items : Array Value} {Q : Option Value → Shared → Prop} (hh : A.handled = none) (hit : s.heap.IsListIter it l i) (hl : s.heap.IsList l items) (hx : items[i]? = none)
    (hQ : ∀ h', Heap.ExtBut it s.heap h' → Q none { s with heap := h' }) : wpAny (model prog w) A (Builtin.SmallTypes.nextOrEnd (.ref it)) Q E s := by
  unfold Builtin.SmallTypes.nextOrEnd
  refine wpAny_bind (wpAny_attempt (wpAny_nextOf_list_end hh hit hl hx fun h' x he hx' => ?_))
  obtain ⟨o, ho, hc⟩ := hx'
  exact wpAny_bind (wpAny_isInstance (T := "StopIteration") (b := true) ⟨o, ho, hc⟩ isSubtype_stop (wpAny_pure (hQ _ he)))
theorem zipS_item {z TI TO i1 i2 l1 l2 : Addr} {k1 k2 : Nat} {xs ys : Array Value} {x y a b : Value} {Q : Value → Shared → Prop} (D : ZipApart z TI TO i1 i2 l1 l2)
    (hz : IsZipS s.heap z TI TO .none) (hTI : IsPair s.heap TI (.ref i1) (.ref i2)) (hTO : IsPair s.heap TO a b)
    (h1 : s.heap.IsListIter i1 l1 k1) (h2 : s.heap.IsListIter i2 l2 k2) (hl1 : s.heap.IsList l1 xs) (hl2 : s.heap.IsList l2 ys) (hx : xs[k1]? = some x) (hy : ys[k2]? = some y)
    (hQ : ∀ h', IsZipS h' z TI TO (rawInt s.heap.objs.size) → IsPair h' TO x y → h'.IsListIter i1 l1 (k1 + 1) → h'.IsListIter i2 l2 (k2 + 1) → IsPair h' s.heap.objs.size x y → h'.objs.size = s.heap.objs.size + 1 →
      (∀ c o, c ≠ z → c ≠ TO → c ≠ i1 → c ≠ i2 → s.heap.get? c = some o → h'.get? c = some o) → Q (.ref s.heap.objs.size) { s with heap := h' }) :
    wpAny (model prog w) A (Builtin.«zip.__next__» ⟨[.ref z], []⟩) (fun fin s' => ∃ v, fin = .done (.ret v) ∧ Q v s') E s := by
  show wpAny _ _ (field (.ref z) 2 >>= _) _ _ _
  refine wpAny_bind (wpAny_field hz rfl (x := .bool true) rfl ?_)
  show wpAny _ _ (field (.ref z) 3 >>= _) _ _ _
  refine wpAny_bind (wpAny_field hz rfl (x := .ref TI) rfl (wpAny_bind (wpAny_seqItems hTI rfl ?_)))
  show wpAny _ _ (Builtin.SmallTypes.ownedTupleIsFree (.ref z) >>= _) _ _ _
  refine wpAny_bind ?_
  unfold Builtin.SmallTypes.ownedTupleIsFree
  refine wpAny_bind (wpAny_field hz rfl (x := .none) rfl (wpAny_pure ?_))
  simp only [if_true]
  refine wpAny_bind (wpAny_rule (wpAny_bind (wpAny_field hz rfl (x := .ref TO) rfl (wpAny_bind (wpAny_setField_rec hz (by simp) fun ha za sa => ?_)))))
  replace za : IsZipS ha z TI TO .ellipsis := za
  refine wpAny_bind ?_
  simp only [List.zipIdx_cons, List.zipIdx_nil, List.forIn_cons, List.forIn_nil]
  refine wpAny_bind (wpAny_bind (wpAny_onRaise ?_))
  show wpAny _ _ (Builtin.SmallTypes.nextOrEnd (.ref i1)) _ _ _
  refine orEnd_item (h1.extBut sa.extBut D.i1z) (hl1.extBut sa.extBut D.l1z) hx fun hb p2 sb => ?_
  have tb : IsPair hb TO a b := sb.extBut _ _ D.TOi1 (sa.extBut _ _ D.TOz hTO)
  refine wpAny_bind (wpAny_seqItems tb rfl (wpAny_bind (wpAny_updateSeq_pair tb fun hc tc sc => ?_)))
  replace tc : IsPair hc TO x b := tc
  refine wpAny_bind (wpAny_letGo (wpAny_pure (wpAny_bind (wpAny_bind (wpAny_onRaise ?_)))))
  show wpAny _ _ (Builtin.SmallTypes.nextOrEnd (.ref i2)) _ _ _
  refine orEnd_item (((h2.extBut sa.extBut D.i2z).extBut sb.extBut D.i12.symm).extBut sc.extBut D.TOi2.symm) (((hl2.extBut sa.extBut D.l2z).extBut sb.extBut D.l2i1).extBut sc.extBut D.l2TO) hy fun hd q4 sd => ?_
  have td : IsPair hd TO x b := sd.extBut _ _ D.TOi2 tc
  refine wpAny_bind (wpAny_seqItems td rfl (wpAny_bind (wpAny_updateSeq_pair td fun he te se => ?_)))
  replace te : IsPair he TO x y := te
  refine wpAny_bind (wpAny_letGo (wpAny_pure (wpAny_pure (wpAny_bind (wpAny_seqItems te rfl (wpAny_bind (wpAny_newTuple ?_)))))))
  have hsz : he.objs.size = s.heap.objs.size := by rw [se.1, sd.1, sc.1, sb.1, sa.1]
  have ze : IsZipS he z TI TO .ellipsis := se.extBut _ _ D.TOz.symm (sd.extBut _ _ D.i2z.symm (sc.extBut _ _ D.TOz.symm (sb.extBut _ _ D.i1z.symm za)))
  have ke : ∀ c o, c ≠ z → c ≠ TO → c ≠ i1 → c ≠ i2 → s.heap.get? c = some o → he.get? c = some o := fun c o c1 c2 c3 c4 e =>
    se.extBut _ _ c2 (sd.extBut _ _ c4 (sc.extBut _ _ c2 (sb.extBut _ _ c3 (sa.extBut _ _ c1 e))))
  have p5 : he.IsListIter i1 l1 (k1 + 1) := ((p2.extBut sc.extBut D.TOi1.symm).extBut sd.extBut D.i12).extBut se.extBut D.TOi1.symm
  have q5 : he.IsListIter i2 l2 (k2 + 1) := q4.extBut se.extBut D.TOi2.symm
  have hzlt : z < he.objs.size := Heap.lt_size ze
  show wpAny _ _ (Builtin.SmallTypes.ownedTupleHandOut (.ref z) (.ref he.objs.size) >>= _) _ _ _
  refine wpAny_bind ?_
  unfold Builtin.SmallTypes.ownedTupleHandOut
  have zf : IsZipS (he.push { cls := .type "tuple", data := .seq #[x, y] }) z TI TO .ellipsis := Heap.get?_push_of_some _ ze
  refine wpAny_bind (wpAny_setField_rec zf (by simp) fun hg zg sg => ?_)
  replace zg : IsZipS hg z TI TO (rawInt he.objs.size) := zg
  refine wpAny_setField_rec zg (by simp) fun hi zi si => ?_
  replace zi : IsZipS hi z TI TO (rawInt he.objs.size) := zi
  have up : ∀ c o, c ≠ z → he.get? c = some o → hi.get? c = some o := fun c o c1 e => si.extBut _ _ c1 (sg.extBut _ _ c1 (Heap.get?_push_of_some _ e))
  have tti : IsPair hi he.objs.size x y := si.extBut _ _ (Nat.ne_of_gt hzlt) (sg.extBut _ _ (Nat.ne_of_gt hzlt) (Heap.get?_push_size _ rfl))
  have hz8 : hi.objs.size = he.objs.size + 1 := by rw [si.1, sg.1, Heap.size_push]
  rw [hsz] at zi tti hz8
  refine wpAny_pure ⟨_, rfl, ?_⟩
  show Q (.ref he.objs.size) _
  rw [hsz]
  exact hQ hi zi (up _ _ D.TOz te) (p5.at fun o e => up _ o D.i1z e) (q5.at fun o e => up _ o D.i2z e) tti hz8 fun c o c1 c2 c3 c4 e => up c o c1 (ke c o c1 c2 c3 c4 e)
theorem zipS_end {z TI TO i1 i2 l1 l2 : Addr} {k1 k2 : Nat} {xs ys : Array Value} {a b : Value} {Q : Fin → Shared → Prop} (hh : A.handled = none) (D : ZipApart z TI TO i1 i2 l1 l2)
    (hz : IsZipS s.heap z TI TO .none) (hTI : IsPair s.heap TI (.ref i1) (.ref i2)) (hTO : IsPair s.heap TO a b)
    (h1 : s.heap.IsListIter i1 l1 k1) (h2 : s.heap.IsListIter i2 l2 k2) (hl1 : s.heap.IsList l1 xs) (hl2 : s.heap.IsList l2 ys) (hx : xs[k1]? = none) (hy : ys[k2]? = none)
    (hE : ∀ h' e, (∀ c o, c ≠ z → c ≠ i1 → c ≠ i2 → s.heap.get? c = some o → h'.get? c = some o) → (∃ o, h'.get? e = some o ∧ o.cls = .type "StopIteration") → E (.ref e) { s with heap := h' }) :
    wpAny (model prog w) A (Builtin.«zip.__next__» ⟨[.ref z], []⟩) Q E s := by
  show wpAny _ _ (field (.ref z) 2 >>= _) _ _ _
  refine wpAny_bind (wpAny_field hz rfl (x := .bool true) rfl ?_)
  show wpAny _ _ (field (.ref z) 3 >>= _) _ _ _
  refine wpAny_bind (wpAny_field hz rfl (x := .ref TI) rfl (wpAny_bind (wpAny_seqItems hTI rfl ?_)))
  show wpAny _ _ (Builtin.SmallTypes.ownedTupleIsFree (.ref z) >>= _) _ _ _
  refine wpAny_bind ?_
  unfold Builtin.SmallTypes.ownedTupleIsFree
  refine wpAny_bind (wpAny_field hz rfl (x := .none) rfl (wpAny_pure ?_))
  simp only [if_true]
  refine wpAny_bind (wpAny_rule (wpAny_bind (wpAny_field hz rfl (x := .ref TO) rfl (wpAny_bind (wpAny_setField_rec hz (by simp) fun ha za sa => ?_)))))
  replace za : IsZipS ha z TI TO .ellipsis := za
  refine wpAny_bind ?_
  simp only [List.zipIdx_cons, List.zipIdx_nil, List.forIn_cons, List.forIn_nil]
  refine wpAny_bind (wpAny_bind (wpAny_onRaise ?_))
  show wpAny _ _ (Builtin.SmallTypes.nextOrEnd (.ref i1)) _ _ _
  refine orEnd_end hh (h1.extBut sa.extBut D.i1z) (hl1.extBut sa.extBut D.l1z) hx fun hb sb => ?_
  have zb : IsZipS hb z TI TO .ellipsis := sb _ _ D.i1z.symm za
  refine wpAny_bind (wpAny_setField_rec zb (by simp) fun hc zc sc => ?_)
  have h2c : hc.IsListIter i2 l2 k2 := ((h2.extBut sa.extBut D.i2z).extBut sb D.i12.symm).extBut sc.extBut D.i2z
  have l2c : hc.IsList l2 ys := ((hl2.extBut sa.extBut D.l2z).extBut sb D.l2i1).extBut sc.extBut D.l2z
  have kc : ∀ c o, c ≠ z → c ≠ i1 → s.heap.get? c = some o → hc.get? c = some o := fun c o c1 c2 e => sc.extBut _ _ c1 (sb _ _ c2 (sa.extBut _ _ c1 e))
  refine wpAny_bind ?_
  wp_delta
  rw [if_neg (show ¬ (0 : Nat) > 0 from Nat.lt_irrefl 0)]
  show wpAny _ _ (forIn ([(Value.ref i2, 1)] : List (Value × Nat)) PUnit.unit _ >>= _) _ _ _
  refine wpAny_bind ?_
  simp only [List.forIn_cons, List.forIn_nil]
  refine wpAny_bind (wpAny_bind (orEnd_end hh h2c l2c hy fun hd sd => ?_))
  rw [if_neg (by decide)]
  refine wpAny_pure (wpAny_pure (wpAny_bind (wpAny_rule ?_)))
  unfold Builtin.SmallTypes.stopIteration
  refine wpAny_bind ?_
  simp only [newExc, newTuple]
  refine wpAny_bind (wpAny_newObj_type ?_ (by size_fits))
  refine wpAny_bind (m := firstArgMember _ _) (wpAny_of_eq (a := Value.none) (by first | rfl | (simp only [firstArgMember]; rfl)) ?_)
  refine wpAny_newObj_type ?_ (by size_fits)
  simp only [raiseNew]
  refine wpAny_bind (wpAny_handled ?_)
  first | rw [show A.in1.handled = none from hh] | rw [hh]
  refine wpAny_bind (wpAny_pure (wpAny_throw ?_))
  exact hE _ _ (fun c o c1 c2 c3 x => Heap.get?_push_of_some _ (Heap.get?_push_of_some _ (sd _ _ c3 (kc c o c1 c2 x)))) ⟨_, Heap.get?_push_size _ rfl, rfl⟩
theorem next_zipS_item {z TI TO i1 i2 l1 l2 : Addr} {k1 k2 : Nat} {xs ys : Array Value} {x y a b : Value} {Q : Option Value → Shared → Prop} (D : ZipApart z TI TO i1 i2 l1 l2)
    (hz : IsZipS s.heap z TI TO .none) (hTI : IsPair s.heap TI (.ref i1) (.ref i2)) (hTO : IsPair s.heap TO a b)
    (h1 : s.heap.IsListIter i1 l1 k1) (h2 : s.heap.IsListIter i2 l2 k2) (hl1 : s.heap.IsList l1 xs) (hl2 : s.heap.IsList l2 ys) (hx : xs[k1]? = some x) (hy : ys[k2]? = some y)
    (hQ : ∀ h', IsZipS h' z TI TO (rawInt s.heap.objs.size) → IsPair h' TO x y → h'.IsListIter i1 l1 (k1 + 1) → h'.IsListIter i2 l2 (k2 + 1) → IsPair h' s.heap.objs.size x y → h'.objs.size = s.heap.objs.size + 1 →
      (∀ c o, c ≠ z → c ≠ TO → c ≠ i1 → c ≠ i2 → s.heap.get? c = some o → h'.get? c = some o) → Q (some (.ref s.heap.objs.size)) { s with heap := h' }) : wpAny (model prog w) A (pyNext (.ref z)) Q E s := by
  have ty : s.TypeIs (.ref z) "zip" := ⟨_, hz, rfl⟩
  unfold pyNext
  exact wpAny_bind (wpAny_attempt (wpAny_callSpecial?_slot (name := Str.ofString "__next__") ty F.slot_zip_next (wpAny_call_entry F.slot_zip_next ty F.entry_zip_next
    (zipS_item D hz hTI hTO h1 h2 hl1 hl2 hx hy fun h' a1 a2 a3 a4 a5 a6 a7 => wpAny_pure (hQ h' a1 a2 a3 a4 a5 a6 a7)) (F.args_zip_next_1 _))))
theorem next_zipS_end {z TI TO i1 i2 l1 l2 : Addr} {k1 k2 : Nat} {xs ys : Array Value} {a b : Value} {Q : Option Value → Shared → Prop} (hh : A.handled = none) (D : ZipApart z TI TO i1 i2 l1 l2)
    (hz : IsZipS s.heap z TI TO .none) (hTI : IsPair s.heap TI (.ref i1) (.ref i2)) (hTO : IsPair s.heap TO a b)
    (h1 : s.heap.IsListIter i1 l1 k1) (h2 : s.heap.IsListIter i2 l2 k2) (hl1 : s.heap.IsList l1 xs) (hl2 : s.heap.IsList l2 ys) (hx : xs[k1]? = none) (hy : ys[k2]? = none)
    (hQ : ∀ h', (∀ c o, c ≠ z → c ≠ i1 → c ≠ i2 → s.heap.get? c = some o → h'.get? c = some o) → Q none { s with heap := h' }) : wpAny (model prog w) A (pyNext (.ref z)) Q E s := by
  have ty : s.TypeIs (.ref z) "zip" := ⟨_, hz, rfl⟩
  unfold pyNext
  refine wpAny_bind (wpAny_attempt (wpAny_callSpecial?_slot (name := Str.ofString "__next__") ty F.slot_zip_next (wpAny_call_entry F.slot_zip_next ty F.entry_zip_next
    (zipS_end hh D hz hTI hTO h1 h2 hl1 hl2 hx hy fun h' e hk he => ?_) (F.args_zip_next_1 _))))
  obtain ⟨o, ho, hc⟩ := he
  exact wpAny_bind (wpAny_isInstance (T := "StopIteration") (b := true) ⟨o, ho, hc⟩ isSubtype_stop (wpAny_pure (hQ _ hk)))
theorem go_zipS {elts : List Expr} {x1} {pos : Pos} {z TI TO T : Addr} {Q : Unit → Shared → Prop} (hz : IsZipS s.heap z TI TO (rawInt T))
    (hQ : ∀ h', IsZipS h' z TI TO .none → Heap.SameBut z s.heap h' → Q () { s with heap := h' }) : wpAny (model prog w) A (letOwnedTupleGo (.Tuple elts x1 pos) (.ref z) (.ref T)) Q E s := by
  unfold letOwnedTupleGo
  refine wpAny_bind (wpAny_load hz ?_)
  show wpAny _ A (if (["enumerate", "zip", "dict_itemiterator", "dict_reverseitemiterator", "odict_iterator", "itertools.zip_longest", "itertools.pairwise"].contains "zip" && (#[rawInt T, .bool false, .bool true, .ref TI, .ref TO] : Array Value)[0]? == some (rawInt T)) = true then _ else _) Q E s
  rw [if_pos (by simp)]
  refine wpAny_bind (wpAny_rule ?_)
  show wpAny _ _ (setField (.ref z) 0 .none) Q E s
  exact wpAny_setField_rec hz (by simp) fun h' hz' hs' => hQ h' hz' hs'
theorem iter_zipS {z TI TO : Addr} {f0 : Value} {Q : Value → Shared → Prop} (hz : IsZipS s.heap z TI TO f0) (h : Q (.ref z) s) : wpAny (model prog w) A (pyIter (.ref z)) Q E s := by
  have ty : s.TypeIs (.ref z) "zip" := ⟨_, hz, rfl⟩
  refine wpAny_pyIter_slot ty F.slot_zip_iter (wpAny_call_entry F.slot_zip_iter ty F.entry_zip_iter ?_ (F.args_zip_iter_1 _))
  show wpAny _ _ (ret (.ref z)) _ _ s
  exact wpAny_pure ⟨_, rfl, "zip", _, ty, F.slot_zip_next.lookup, h⟩
end
end K70
/-! K70, part R4: zip(xs, ys, strict=True) walked. -/
namespace K70
open PySem PySem.Spec PyProof.Rows L2
theorem typeCall_zipS (a b c : Value) : checkTypeCall "zip" ⟨[a, b], [(Str.ofString "strict", c)]⟩ = pure () := by kernel_rfl
theorem newCall_zipS (a b c : Value) : checkBuiltinCall "zip.__new__" ⟨[.type "zip", a, b], [(Str.ofString "strict", c)]⟩ = pure () := by kernel_rfl
theorem args_zipS (obj a b c : Value) : argsOk "object.__init__" ⟨[obj, a, b], [(Str.ofString "strict", c)]⟩ := by
  unfold argsOk
  kernel_rfl
abbrev zipS5 (h : Heap) (l1 l2 : Addr) : Heap := (zipH4 h l1 l2).push { cls := .type "zip", data := .fields #[.none, .bool false, .bool true, .ref (zipH2 h l1 l2).objs.size, .ref (zipH3 h l1 l2).objs.size] }
theorem new_zipS (l1 l2 : Addr) (xs ys : Array Value) :
    Meets (Builtin.«zip.__new__» ⟨[.type "zip", .ref l1, .ref l2], [(Str.ofString "strict", .bool true)]⟩) (fun _ R s => s.heap.IsList l1 xs ∧ s.heap.IsList l2 ys ∧
      R (.ok (.ret (.ref (zipH4 s.heap l1 l2).objs.size))) { s with heap := zipS5 s.heap l1 l2 }) :=
  .of_wp fun prog w A R s h => by
    obtain ⟨hp, g, d, tk, os⟩ := s
    obtain ⟨a1, a2, h⟩ := h
    have hsub := sub_zip
    have b1 : Heap.IsList (Shared.heap ⟨hp, g, d, tk, os⟩) l1 xs := a1
    have b2 : Heap.IsList (Shared.heap ⟨hp.push { cls := .type "list_iterator", data := .fields #[.ref l1, .int 0 0] }, g, d, tk, os⟩) l2 ys := Heap.IsList.push a2 _
    have e1 : (Str.ofString "strict" != ("strict" : Str)) = false := by decide +kernel
    wp_walk using wpAny_pyIter_list b1, wpAny_pyIter_list b2
    exact ⟨_, rfl, h⟩
end K70
/-! K70, part R5: zip(xs, ys, strict=True) walked: the rule. -/
namespace K70
open PySem PySem.Spec PyProof.Rows L2
section
variable {prog : Program} {w : World} {A : Around} {E : Value → Shared → Prop} {s : Shared}
theorem call_zipS {l1 l2 : Addr} {xs ys : Array Value} {Q : Value → Shared → Prop} (hl1 : s.heap.IsList l1 xs) (hl2 : s.heap.IsList l2 ys)
    (h : ∀ h', IsZipS h' (s.heap.objs.size + 4) (s.heap.objs.size + 2) (s.heap.objs.size + 3) .none → IsPair h' (s.heap.objs.size + 2) (.ref s.heap.objs.size) (.ref (s.heap.objs.size + 1)) →
      IsPair h' (s.heap.objs.size + 3) .none .none → h'.IsListIter s.heap.objs.size l1 0 → h'.IsListIter (s.heap.objs.size + 1) l2 0 →
      (∀ c o, s.heap.get? c = some o → h'.get? c = some o) → Q (.ref (s.heap.objs.size + 4)) { s with heap := h' }) :
    wpAny (model prog w) A (call (.type "zip") [.ref l1, .ref l2] [(Str.ofString "strict", .bool true)]) Q E s := by
  refine callType_newKw F.called_zip (by decide) (typeCall_zipS _ _ _) (newCall_zipS _ _ _) (fun obj => args_zipS obj _ _ _) F.entry_zip_new (new_zipS l1 l2 xs ys) ⟨hl1, hl2, ?_⟩
  have z1 : (zipH1 s.heap l1).objs.size = s.heap.objs.size + 1 := Heap.size_push ..
  have z2 : (zipH2 s.heap l1 l2).objs.size = s.heap.objs.size + 2 := by rw [Heap.size_push, z1]
  have z3 : (zipH3 s.heap l1 l2).objs.size = s.heap.objs.size + 3 := by rw [Heap.size_push, z2]
  have z4 : (zipH4 s.heap l1 l2).objs.size = s.heap.objs.size + 4 := by rw [Heap.size_push, z3]
  have g5 : (zipS5 s.heap l1 l2).get? (zipH4 s.heap l1 l2).objs.size = some _ := Heap.get?_push_size _ rfl
  have g4 : (zipS5 s.heap l1 l2).get? (zipH3 s.heap l1 l2).objs.size = some _ := Heap.get?_push_of_some _ (Heap.get?_push_size _ rfl)
  have g3 : (zipS5 s.heap l1 l2).get? (zipH2 s.heap l1 l2).objs.size = some _ := Heap.get?_push_of_some _ (Heap.get?_push_of_some _ (Heap.get?_push_size _ rfl))
  have g2 : (zipS5 s.heap l1 l2).get? (zipH1 s.heap l1).objs.size = some _ := Heap.get?_push_of_some _ (Heap.get?_push_of_some _ (Heap.get?_push_of_some _ (Heap.get?_push_size _ rfl)))
  have g1 : (zipS5 s.heap l1 l2).get? s.heap.objs.size = some _ := Heap.get?_push_of_some _ (Heap.get?_push_of_some _ (Heap.get?_push_of_some _ (Heap.get?_push_of_some _ (Heap.get?_push_size _ rfl))))
  show _ ∧ _
  rw [z2, z3, z4] at g5
  rw [z1, z2] at g3
  rw [z3] at g4
  rw [z1] at g2
  rw [z4]
  exact ⟨⟨_, g5, rfl⟩, h _ g5 g3 g4 ⟨_, g1, rfl, rfl⟩ ⟨_, g2, rfl, rfl⟩ fun c o x =>
    Heap.get?_push_of_some _ (Heap.get?_push_of_some _ (Heap.get?_push_of_some _ (Heap.get?_push_of_some _ (Heap.get?_push_of_some _ x))))⟩
theorem callWith_typeKw {M : Model} {env : Env} {pos : Pos} {T : String} {e : Expr} {rest : List Expr} {kws : List Keyword} {Q : Value → Shared → Prop}
    (h : wpAny M A (spliced (backTo pos (starEach (e :: rest) env))) (fun vs s₁ => wpAny M A (evalAll ((backToKw pos (keywordEach kws env)).map (·.2)))
      (fun kvs s₂ => wpAny M A (call (.type T) vs (((backToKw pos (keywordEach kws env)).filterMap (·.1)).zip kvs)) Q E s₂) E s₁) E s)
    (he : backTo pos (starEach (e :: rest) env) = (false, eval e env) :: backTo pos (starEach rest env)) (hplain : (backTo pos (starEach (e :: rest) env)).any (·.1) = false)
    (hall : (backToKw pos (keywordEach kws env)).all (·.1.isSome) = true) (hkw : (backToKw pos (keywordEach kws env)).any (·.1.isNone) = false) :
    wpAny M A (callWith pos (.type T) [] (backTo pos (starEach (e :: rest) env)) (backToKw pos (keywordEach kws env))) Q E s := by
  have h2 : wpAny M A (evalArgs (.type T) true (backTo pos (starEach (e :: rest) env)) (backToKw pos (keywordEach kws env))) (fun a s₁ => wpAny M A (call (.type T) ([] ++ a.pos) a.kw) Q E s₁) E s := by
    rw [he] at h ⊢
    exact PyProof.Rows.evalArgs_kwB hall h
  unfold callWith
  refine wpAny_bind (wpAny_holding (wpAny_mono h2 (fun a s₁ hq => wpAny_bind (wpAny_standAt ?_)) fun _ _ x => x))
  simp only [hplain, hkw, Bool.or_false]
  exact wpAny_bind (wpAny_pure (wpAny_bind (wpAny_mono hq (fun r s₂ hr => wpAny_bind (wpAny_holding (wpAny_point (wpAny_pure hr)))) fun _ _ x => x)))
end
/-- two lists of one length as they stand at each turn, the items in new pairs -/
def ItzS (K : PySem.W.Frag) (a b : Addr) : It where
  go := fun i H => ∃ (xs ys : List V) (x y : V), SqL K H a xs ∧ SqL K H b ys ∧ xs[i]? = some x ∧ ys[i]? = some y
  yld := fun i H v H' => ∃ T x y, v = .ref T ∧ H T = none ∧ H' = upd H T (.tup [x, y]) ∧ (∀ xs, SqL K H a xs → xs[i]? = some x) ∧ ∀ ys, SqL K H b ys → ys[i]? = some y
  stop := fun i H => ∃ xs ys : List V, SqL K H a xs ∧ SqL K H b ys ∧ xs.length ≤ i ∧ ys.length ≤ i
theorem in5 {c z TI TO i1 i2 : Addr} {p : Addr → Prop} (h : c ∈ [z, TI, TO, i1, i2]) (h1 : p z) (h2 : p TI) (h3 : p TO) (h4 : p i1) (h5 : p i2) : p c := by
  simp at h
  rcases h with rfl | rfl | rfl | rfl | rfl
  · exact h1
  · exact h2
  · exact h3
  · exact h4
  · exact h5
theorem turn_zipS {P : Program} {w : World} {K : PySem.W.Frag} {elts : List Expr} {kk : Nat} {tpos : Pos} {a b z TI TO i1 i2 : Addr} (D : ZipApart z TI TO i1 i2 a b) :
    Turn P w K (.Tuple elts kk tpos) (ItzS K a b) [z, TI, TO, i1, i2] z (fun i h => IsZipS h z TI TO .none ∧ IsPair h TI (.ref i1) (.ref i2) ∧ (∃ x y, IsPair h TO x y) ∧ h.IsListIter i1 a i ∧ h.IsListIter i2 b i) where
  mem := by simp
  obj := fun i h st c hc => by
    obtain ⟨hz, hTI, ⟨x, y, hTO⟩, ⟨o1, e1, _, d1⟩, ⟨o2, e2, _, d2⟩⟩ := st
    refine in5 (p := fun c => ∃ o, h.get? c = some o ∧ ∀ v, o.data ≠ .cell v) hc ⟨_, hz, fun v q => nomatch q⟩ ⟨_, hTI, fun v q => nomatch q⟩ ⟨_, hTO, fun v q => nomatch q⟩ ⟨o1, e1, fun v q => ?_⟩ ⟨o2, e2, fun v q => ?_⟩
    · rw [d1] at q
      cases q
    · rw [d2] at q
      cases q
  keep := fun i h h' st k => by
    obtain ⟨hz, hTI, ⟨x, y, hTO⟩, h1, h2⟩ := st
    exact ⟨k z (by simp) _ hz, k TI (by simp) _ hTI, ⟨x, y, k TO (by simp) _ hTO⟩, h1.at fun o q => k i1 (by simp) o q, h2.at fun o q => k i2 (by simp) o q⟩
  item := by
    intro X hP hw hK hc i pins s σ H E I hf st hg
    subst hP hw hK
    obtain ⟨hz, hTI, ⟨x0, y0, hTO⟩, h1, h2⟩ := st
    obtain ⟨xs, ys, x, y, hqx, hqy, hx, hy⟩ := hg
    obtain ⟨its, rv, p, _⟩ := I.list hqx
    obtain ⟨its2, rv2, p2, _⟩ := I.list hqy
    obtain ⟨u, hu, ru⟩ := rv.get hx
    obtain ⟨u2, hu2, ru2⟩ := rv2.get hy
    have hzl : z < s.heap.objs.size := Heap.lt_size hz
    refine next_zipS_item D hz hTI hTO h1 h2 p.isList p2.isList (x := u) (y := u2) (by simpa using hu) (by simpa using hu2) fun h' z' TO' h1' h2' hT hsz hk => ?_
    refine ⟨_, rfl, go_zipS (s := { s with heap := h' }) z' fun h'' z'' sb => ?_⟩
    have hT2 : h''.get? s.heap.objs.size = some { cls := .type "tuple", data := .seq #[u, u2] } := (sb.2 _ (Nat.ne_of_gt hzl)).trans hT
    have new : ObjOk X.prog X.w (upd H s.heap.objs.size (.tup [x, y])) h'' s.heap.objs.size (.tup [x, y]) :=
      ⟨by show 2 ≤ sizeLine; decide, [u, u2], .cons ru (.cons ru2 .nil), ⟨_, hT2, rfl, _, rfl⟩⟩
    have I1 : Inv X pins σ (upd H s.heap.objs.size (.tup [x, y])) { s with heap := h'' } :=
      I.turnedNew (t' := s.toks) (ch := [z, TI, TO, i1, i2]) (fun c o hb q => (sb.2 c (fun q' => hb (by simp [q']))).trans (hk c o (fun q' => hb (by simp [q'])) (fun q' => hb (by simp [q'])) (fun q' => hb (by simp [q'])) (fun q' => hb (by simp [q'])) q)) hf (Nat.le_refl _) new
    refine ⟨.ref s.heap.objs.size, _, I1, rfl, ⟨_, x, y, rfl, I.hok.fresh (Nat.le_refl _), rfl, fun l hl => ?_, fun l hl => ?_⟩, ⟨z'', ?_, ⟨u, u2, ?_⟩, ?_, ?_⟩, fun c hcm => ?_⟩
    · rw [I.list_inj hl hqx]
      exact hx
    · rw [I.list_inj hl hqy]
      exact hy
    · exact (sb.2 _ D.TIz).trans (hk _ _ D.TIz D.TITO D.TIi1 D.TIi2 hTI)
    · exact (sb.2 _ D.TOz).trans TO'
    · exact h1'.at fun o q => (sb.2 _ D.i1z).trans q
    · exact h2'.at fun o q => (sb.2 _ D.i2z).trans q
    · have hlt : c < s.heap.objs.size := by
        obtain ⟨_, e1, _⟩ := h1
        obtain ⟨_, e2, _⟩ := h2
        exact in5 (p := fun c => c < s.heap.objs.size) hcm hzl (Heap.lt_size hTI) (Heap.lt_size hTO) (Heap.lt_size e1) (Heap.lt_size e2)
      rw [upd_ne (Nat.ne_of_lt hlt)]
      exact (hf c hcm).1
  done := by
    intro X hP hw hK hc i pins s σ H E I hf st hg
    subst hP hw hK
    obtain ⟨hz, hTI, ⟨x0, y0, hTO⟩, h1, h2⟩ := st
    obtain ⟨xs, ys, hqx, hqy, l1, l2⟩ := hg
    obtain ⟨its, rv, p, _⟩ := I.list hqx
    obtain ⟨its2, rv2, p2, _⟩ := I.list hqy
    have e1 := rv.length
    have e2 := rv2.length
    exact next_zipS_end (I.ok.hd hc) D hz hTI hTO h1 h2 p.isList p2.isList (by simp; omega) (by simp; omega) fun h' hk => ⟨rfl, I.turnedL (t' := s.toks) (ch := [z, TI, TO, i1, i2]) (fun c o hb q =>
      hk c o (fun q' => hb (by simp [q'])) (fun q' => hb (by simp [q'])) (fun q' => hb (by simp [q'])) q) hf⟩
  self := fun A i s Q E st h => iter_zipS st.1 h
def iZipS (K : PySem.W.Frag) (ta tk : TA) : TI := fun σ H R => ta σ H fun vs H1 => tk σ H1 fun ws H2 => ∃ a b xs ys, vs = [.ref a, .ref b] ∧ ws = [.bl true] ∧ SqL K H2 a xs ∧ SqL K H2 b ys ∧ R (ItzS K a b) H2
theorem pi_zipS {X : Cx} {e e2 : Expr} {ta tk : TA} {kws : List Keyword} {p pos tpos : Pos} {elts : List Expr} {kk : Nat} (hg : Gl X "zip") (hm : X.mg "zip" = none) (ha : PA X [e, e2] ta) (hk : PK X kws tk)
    (he : backTo pos (starEach [e, e2] X.env) = (false, eval e X.env) :: backTo pos (starEach [e2] X.env) := by rfl) (hpl : (backTo pos (starEach [e, e2] X.env)).any (·.1) = false := by rfl)
    (hall : (backToKw pos (keywordEach kws X.env)).all (·.1.isSome) = true := by rfl) (hnone : (backToKw pos (keywordEach kws X.env)).any (·.1.isNone) = false := by rfl)
    (hks : (backToKw pos (keywordEach kws X.env)).filterMap (·.1) = [Str.ofString "strict"] := by rfl) :
    PI X (.Tuple elts kk tpos) (.Call (.Name "zip" p) [e, e2] kws pos) (iZipS X.K ta tk) := by
  refine ⟨fun pins s σ H R I h => ?_⟩
  refine wpAny_Call_Name_kw (ld_blt I hg hm PyProof.Rows.boot_zip ?_ (by decide) (by decide))
  refine callWith_typeKw (thn (ha.run pos pins s σ H _ I h) fun us s1 ⟨vs, H1, I1, r1, q1⟩ => thn (hk.run pos pins s1 σ H1 _ I1 q1) fun ws s2 ⟨zs, H2, I2, r2, q2⟩ => ?_) he hpl hall hnone
  obtain ⟨a, b, xs, ys, e1, e2, hqx, hqy, q⟩ := q2
  subst e1 e2
  rw [hks]
  cases r1 with
  | cons r rr =>
  cases rr with
  | cons r' rr =>
  cases rr
  cases r
  cases r'
  cases r2 with
  | cons r rr =>
  cases rr
  cases r
  obtain ⟨its, rv, p1, _⟩ := I2.list hqx
  obtain ⟨its2, rv2, p2, _⟩ := I2.list hqy
  refine call_zipS p1.isList p2.isList fun h' hz hTI hTO h1 h2 hk => iter_zipS hz ?_
  have I3 : Inv X pins σ H2 { s2 with heap := h' } := I2.kept (t' := s2.toks) hk
  refine ⟨s2.heap.objs.size + 4, [s2.heap.objs.size + 4, s2.heap.objs.size + 2, s2.heap.objs.size + 3, s2.heap.objs.size, s2.heap.objs.size + 1], _, _, H2, rfl, I3, turn_zipS (PySem.W.ktu_apart s2.heap.objs.size a b p1.lt p2.lt), ⟨hz, hTI, ⟨_, _, hTO⟩, h1, h2⟩, fun c hcm => ?_, q⟩
  have hle : s2.heap.objs.size ≤ c := in5 (p := fun c => s2.heap.objs.size ≤ c) hcm (Nat.le_add_right _ _) (Nat.le_add_right _ _) (Nat.le_add_right _ _) (Nat.le_refl _) (Nat.le_add_right _ _)
  exact I2.fpOk hle (I2.hok.fresh hle)
theorem walk_zipS {K : PySem.W.Frag} {a b : Addr} {xs ys : List V} (hn : xs.length = ys.length) : Walk (ItzS K a b) xs.length (fun H => SqL K H a xs ∧ SqL K H b ys) (YPair (fun i => xs[i]?) (fun i => ys[i]?)) := by
  refine ⟨fun i _ hi q => ?_, fun _ q => ⟨xs, ys, q.1, q.2, Nat.le_refl _, by omega⟩, fun i H v H' _ q y => ?_⟩
  · have h2 : i < ys.length := by omega
    exact ⟨xs, ys, xs[i], ys[i], q.1, q.2, by simp [hi], by simp [h2]⟩
  · obtain ⟨T, x, z, h1, h2, h3, h4, h5⟩ := y
    exact ⟨T, x, z, h1, h2, h3, h4 xs q.1, h5 ys q.2⟩
theorem walk_enumT {K : PySem.W.Frag} {a : Addr} {xs : List V} : Walk (IteT K a) xs.length (fun H => SqT K H a xs) (YPair (fun i => some (.int (i : Nat))) (fun i => xs[i]?)) := by
  refine ⟨fun i _ hi q => ⟨xs, xs[i], q, by simp [hi]⟩, fun _ q => ⟨xs, q, Nat.le_refl _⟩, fun i H v H' _ q y => ?_⟩
  obtain ⟨T, x, h1, h2, h3, h4⟩ := y
  exact ⟨T, .int (i : Nat), x, h1, h2, h3, rfl, h4 xs q⟩
end K70
/-! K70, part X: the program's own error over RuntimeError (made by its own __init__). -/
namespace K70
open PySem PySem.Spec PyProof.Rows L2
/-! ### the machine -/
section
open PySem.Builtin PySem.Builtin.ObjectAttr PySem.HandSPX
abbrev reTail : List Value := [.type "RuntimeError", .type "Exception", .type "BaseException", .type "object"]
theorem pass_re (C : Addr) (self : Value) : refuseLoop self "__setattr__" (.ref C :: reTail) = pure () := by
  rw [refuseLoop_ref]
  exact F.store_RuntimeError.passes self
theorem osa_re {prog : Program} {w : World} {A : Around} {R : Result → Shared → Prop} {hp : Heap} {g : Array GenState} {d : Drawn} {t : Nat} {os : OsState} {K : PySem.W.Frag} {name : Str} {tk : Tok} {v : Value} {x C : Addr} {fv : Array Value} {cd : ClassData}
    (X : K.In hp) (hx : hp.get? x = some { cls := .ref C, data := .fields fv }) (hcd : PySem.W.clsIn K C = some cd) (hm : cd.mro = .ref C :: reTail) (hh : cd.hasDict = true) (ha : PySem.W.findIn K (.ref C) name = some none)
    (hq : ∀ h' tk' dx, (∀ b o, b ≠ x → hp.get? b = some o → h'.get? b = some o) → hp.objs.size ≤ dx → dx ≠ x → h'.get? x = some { cls := .ref C, dict := some dx, data := .fields fv } →
      h'.Ns1 dx (fun y => if y = name then some v else none) → R (.ok (.ret .none)) ⟨h', g, d, tk', os⟩) :
    codeAny (model prog w) A (.call (.builtin "object.__setattr__") ⟨[.ref x, .str name tk, v], []⟩) R ⟨hp, g, d, t, os⟩ := by
  have I : PySem.W.InstAt hp x { cls := .ref C, data := .fields fv } C none := ⟨hx, rfl, rfl, trivial⟩
  have SF := F.store_object
  have hne : cd.mro.isEmpty = false := by rw [hm]; rfl
  have hob : cd.mro.contains (.type "object") = true := by rw [hm]; rfl
  have hxs : x ≠ hp.objs.size := Nat.ne_of_lt (Heap.lt_size hx)
  have sub : PySem.W.Looks (model prog w) hp (isInstance (.ref x) (.type "object")) true := I.type.andThen (PySem.W.looks_mroIn X (by unfold PySem.W.mroIn; rw [hcd, Option.bind_some, if_neg (by rw [hne]; decide), hob]))
  refine codeAny_call_builtin SF.slot.plain SF.entry (@PySem.W.check_slot (model prog w) _ _ ⟨hp, g, d, t, os⟩ "object.__setattr__" "object" "__setattr__" (.ref x) [.str name tk, v] [] _ SF.kind SF.split sub (SF.args (.ref x) (.str name tk) v) ?_)
  have hmr : PySem.W.Looks (model prog w) hp (mroOf (.ref C)) cd.mro := (PySem.W.looks_clsIn X hcd).andThen .now
  have l3 : PySem.W.Looks (model prog w) hp (storeTaker? none) none := .now
  have hcls : PySem.W.Looks (model prog w) hp (classData C) cd := PySem.W.looks_clsIn X hcd
  rw [PySem.W.osa_eq, refuse_eq]
  refine wpAny_bind (wpAny_bind (I.type.at (wpAny_bind (hmr.at ?_))))
  rw [hm, pass_re]
  refine wpAny_pure (wpAny_bind (I.type.at (wpAny_bind ((PySem.W.looks_findIn X ha).at (wpAny_bind (l3.at ?_))))))
  show wpAny _ _ (storeInOwnDict (.ref x) (.ref C) (.str name tk) name v false) _ _ _
  obtain ⟨nm, bs, mro, ns, qn, hd, sn, sb, ab, col, del⟩ := cd
  dsimp only at hh
  subst hh
  unfold storeInOwnDict ownDictForStores
  repeat (first | with_reducible refine store_in_new ?_ ?_ | with_reducible refine wpAny_loadPart_at hx ?_ | with_reducible refine hcls.at ?_ | wp_step)
  · exact ⟨_, #[], _, (Heap.get?_update_ne _ _ _ _ hxs.symm).trans (Heap.get?_push_at rfl rfl), rfl, fun e he => absurd he (by simp), fun _ => rfl⟩
  · intro h' tk' hn' hs
    have hx1 : (hp.push { cls := .type "dict", data := .dict #[] }).get? x = some { cls := .ref C, data := .fields fv } := Heap.get?_push_of_some _ hx
    refine hq h' tk' hp.objs.size (fun b o hb ho => ?_) (Nat.le_refl _) hxs.symm ((hs.2 x hxs).trans (Heap.get?_update_self _ hx1 rfl)) hn'
    exact (hs.2 b (Nat.ne_of_lt (Heap.lt_size ho))).trans ((Heap.get?_update_ne _ _ _ _ hb).trans (Heap.get?_push_of_some _ ho))
end
/-! ### what the written part says of the class; rules -/
structure OexR (K : PySem.W.Frag) (C : Addr) : Prop where
  cls : ∃ nm q N bs sn sub ab col dd k0 k1 k2 k3 k5, K.lookup C = some (excClassObj nm q C N bs reTail true sn sub ab col dd k0 k1 k2 k3 k5 "RuntimeError.__new__")
  sa : PySem.W.findIn K (.ref C) "__setattr__" = some (some (.builtin "object.__setattr__"))
  exC : PySem.W.subIn K (.ref C) (.type "BaseException") = some true
  tyC : PySem.W.typeIn K (.ref C) = some (.type "type")
  kC : PySem.W.keepIn K (.ref C) = true
section
variable {X : Cx} {pins : List (Addr × Obj)} {σ : L2.St} {H : Hp} {s : Shared} {a C : Addr} {f : Str} {y : V} {u : Value} {Q : Unit → Shared → Prop} {E : Value → Shared → Prop} {A : Around}
/-- self.f = y, the first attribute -/
theorem store_re (T : OexR X.K C) (I : Inv X pins σ H s) (e : H a = some (exo a C none)) (hno : PySem.W.findIn X.K (.ref C) f = some none) (ry : RelV y u)
    (h : ∀ dx s', H dx = none → dx ≠ a → Inv X pins σ (upd (upd H dx (exd dx [(f, y)])) a (exo a C (some dx))) s' → Q () s') : wpAny (model X.prog X.w) A (setAttr (.ref a) f u) Q E s := by
  obtain ⟨nm, q, N, bs, sn, sub, ab, col, dd, k0, k1, k2, k3, k5, hC⟩ := T.cls
  have hcl : PySem.W.clsIn X.K C = some { name := nm, bases := bs, mro := .ref C :: reTail, ns := N, qualname := q, hasDict := true, slotNames := sn, subclasses := sub, abstract := ab, collection := col, hasDel := false } := by
    unfold PySem.W.clsIn
    rw [hC] <;> rfl
  obtain ⟨t1, ho⟩ := exo_at I.hok e
  obtain ⟨hp, g, d, t, os⟩ := s
  refine PySem.W.set_plain I.kIn (ox := { cls := .ref C, dict := none, data := .fields #[.ref t1, .none, .none, .none, .bool false, .none] }) (od := none) ⟨ho, rfl, rfl, trivial⟩ T.sa ?_
  refine osa_re I.kIn ho hcl rfl rfl hno (fun h' tk' dx k dn dne hx hn => ?_)
  have nx : H dx = none := I.hok.fresh dn
  have away : ∀ {b : Addr} {o : Obj}, hp.get? b = some o → b ≠ dx := fun {b o} q => Nat.ne_of_lt (Nat.lt_of_lt_of_le (Heap.lt_size q) dn)
  have na : ∀ {b : Addr}, H b = none → b ≠ a := fun {b} n z => by
    rw [z, e] at n
    cases n
  have U : Un X.fs [] H (upd (upd H dx (exd dx [(f, y)])) a (exo a C (some dx))) hp h' := {
    keep := fun b o q n _ _ => k b o (na n) q
    slot := fun b o q n _ _ => ⟨o.slots, k b o (na n) q⟩
    free := fun b o q n _ => by
      rw [upd_ne (na n), upd_ne (away q)]
      exact n
    there := fun b o q _ => by
      by_cases hb : b = a
      · exact ⟨_, by rw [hb]; exact hx⟩
      · exact ⟨o, k b o hb q⟩
    tups := fun b xs q => by
      rw [upd_ne (at_ne e q exo_tup), upd_ne (ne_of_none q nx)]
      exact q
    frzs := fun b o v q => by
      rw [upd_ne (at_ne e q exo_frz), upd_ne (ne_of_none q nx)]
      exact q
    tbls := fun b ps q => ⟨#[], by
      rw [upd_ne (at_ne e q exo_tbl), upd_ne (ne_of_none q nx), q]
      simp⟩ }
  refine h dx _ nx dne (I.un (t' := tk') U fun b o q => ?_)
  by_cases hb : b = a
  · subst hb
    rw [upd_same] at q
    cases q
    exact exo_ok hx
  · rw [upd_ne hb] at q
    by_cases hd : b = dx
    · subst hd
      rw [upd_same] at q
      cases q
      exact exd_ok hn (relO_put (fs := []) ry fun g => True.intro)
    · rw [upd_ne hd] at q
      refine (I.hok b o q).stay (fun c v hc z => k c v ?_ z) (fun c hc => ?_) (fun c xs hc => ?_)
      · rcases hc with hc | hc
        · rw [hc]
          exact hb
        · exact at_ne e hc exo_own
      · rw [upd_ne (at_ne e hc exo_own), upd_ne (ne_of_none hc nx)]
        exact hc
      · rw [upd_ne (at_ne e hc exo_tup), upd_ne (ne_of_none hc nx)]
        exact hc
/-- RuntimeError.__init__(self, ..): nothing of it is told -/
theorem init_re {us : List Value} {Q : Value → Shared → Prop} (T : OexR X.K C) (I : Inv X pins σ H s) (e : H a = some (exo a C none)) (hl : us.length ≤ sizeLine) (h : ∀ s', Inv X pins σ H s' → Q .none s') :
    wpAny (model X.prog X.w) A (call (.builtin "RuntimeError.__init__") (.ref a :: us)) Q E s := by
  obtain ⟨nm, q, N, bs, sn, sub, ab, col, dd, k0, k1, k2, k3, k5, hC⟩ := T.cls
  obtain ⟨t1, ho⟩ := exo_at I.hok e
  obtain ⟨hp, g, d, t, os⟩ := s
  refine wpAny_call (PySem.HandSPX.init_base F.excBase_RuntimeError (fun Y => rfl) (I.kIn _ _ hC) ho hl fun h' t2 k hx => ?_)
  have J := I.write (t' := t) (x := a) (e := a) (o := exo a C none) (by rw [e]; exact True.intro) (.inl rfl) k ⟨_, hx⟩ (exo_ok hx)
  have eu : upd H a (exo a C none) = H := by
    funext b
    by_cases hb : b = a
    · rw [hb, upd_same, e]
    · rw [upd_ne hb]
  rw [eu] at J
  exact h _ J
end
def tReI (K : PySem.W.Frag) (ta : TA) : TE := fun σ H Q => ta σ H fun vs H1 => ∃ (a C : Addr) (ws : List V), vs = .ref a :: ws ∧ ws.length ≤ 1000 ∧ OexR K C ∧ H1 a = some (exo a C none) ∧ Q .non H1
def tReS (K : PySem.W.Frag) (f : Str) (to te : TE) : TS := fun D σ H => te σ H fun y H1 => to σ H1 fun x H2 => ∃ a C : Addr, x = .ref a ∧ OexR K C ∧ PySem.W.findIn K (.ref C) f = some none ∧
  H2 a = some (exo a C none) ∧ ∀ dx, H2 dx = none → dx ≠ a → D.nx σ (upd (upd H2 dx (exd dx [(f, y)])) a (exo a C (some dx)))
theorem typ_re : typeOf (.type "RuntimeError") = pure (.type "type") := by kernel_rfl
section
variable {X : Cx} {o e : Expr} {es : List Expr} {to te : TE} {ta : TA} {f : Str} {p p' p1 p2 pos : Pos}
theorem pe_reinit {pl : Sem Bool} (hg : Gl X "RuntimeError") (hm : X.mg "RuntimeError" = none) (vV : PySem.W.findCls X.K (.type "RuntimeError") (.type "type") "__init__" = some (.val (.builtin "RuntimeError.__init__"))) (ha : PA X (e :: es) ta)
    (hc : eval (.Call (.Attribute (.Name "RuntimeError" p1) "__init__" p2) (e :: es) [] pos) X.env = (do
      let ov ← eval (.Name "RuntimeError" p1) X.env
      standAt p2.atName
      let (f, first) ← holding [ov] (getMethod ov "__init__" pl)
      callWith pos f first (backTo pos (starEach (e :: es) X.env)) (backToKw pos (keywordEach [] X.env))) := by rfl)
    (he : starEach (e :: es) X.env = (false, eval e X.env) :: starEach es X.env := by rfl) (hpl : (backTo pos (starEach es X.env)).any (·.1) = false := by rfl) :
    PE X (.Call (.Attribute (.Name "RuntimeError" p1) "__init__" p2) (e :: es) [] pos) (tReI X.K ta) := by
  refine ⟨fun pins s σ H Q I h => ?_⟩
  refine PySem.W.methodCall_KW (ld_blt I hg hm PyProof.Rows.Boot.«RuntimeError» ?_ (by decide) (by decide)) hc
  obtain ⟨m, fr⟩ := I.fr
  refine PySem.W.method_type fr I.ok.mod.kin typ_re (by decide +kernel) vV (by decide +kernel) ?_
  show wpAny _ _ (callWith pos (Value.builtin "RuntimeError.__init__") [] (backTo pos (starEach (e :: es) X.env)) []) _ _ _
  refine PyProof.Rows.callWith_method1 (thn (ha.run pos pins _ σ H _ (I.tok _) h) fun us s1 ⟨vs, H1, I1, r1, a, C, ws, ev, hl, T, ea, q⟩ => ?_) he hpl
  subst ev
  cases r1 with
  | @cons _ u0 _ ur ra rw' =>
    obtain rfl : u0 = Value.ref a := ra
    have hlen : ur.length ≤ sizeLine := by
      rw [← Paired.length rw', sizeLine_eq]
      omega
    exact init_re T I1 ea hlen fun s' J => ⟨.non, H1, J, rfl, q⟩
theorem ps_reSet (ho : PE X o to) (he : PE X e te) (hs : swapsWith e (some (.Attribute o f p')) pos.line X.env = pure false := by rfl) : PS X (.Assign [.Attribute o f p'] e pos) (tReS X.K f to te) := by
  refine ⟨fun pins s σ H D I h => ?_⟩
  refine plainObj_wpAny_Assign_Attribute (thn (he.run pins s σ H _ I h) fun v s1 ⟨y, H1, I1, r1, q1⟩ => thn (ho.run pins s1 σ H1 _ I1 q1) fun u s2 ⟨x, H2, I2, r2, a, C, ex, T, hno, ea, q⟩ => ?_) hs
  subst ex
  obtain rfl : u = Value.ref a := r2
  exact store_re T I2 ea hno r1 fun dx s' n ne J => ⟨σ, _, J, q dx n ne⟩
theorem pmk_re {CX : CXT} {x : Str} {C fI : Addr} {k : Nat} {fd : FuncData} {ps : List Str} {sp : Sp} {ds : List Value} {dvs : List V} (T : OexR X.K C) (iC : PySem.W.findIn X.K (.ref C) "__init__" = some (some (.ref fI))) (tI : PySem.W.typeIn X.K (.ref fI) = some (.type "function"))
    (F1 : FnOk X.prog X.w X.K X.mg X.base CX k fI fd ps sp) (hr : Room (k + 1) X.A) (hb : Binds X.K fd ps ds) (hd : Vals dvs ds) (hx : Passes CX X (fun _ _ _ => False)) (hg : Gl X x) (hm : X.mg x = some (.ref C)) (ha : PA X (e :: es) ta)
    (hdb : (x == ("__debug__" : Str)) = false := by decide) (he : starEach (e :: es) X.env = (false, eval e X.env) :: starEach es X.env := by rfl) (hpl : (backTo pos (starEach es X.env)).any (·.1) = false := by rfl) :
    PMk X (.Call (.Name x p) (e :: es) [] pos) (tMkO C sp dvs ta) := by
  intro pins s σ H Q I h
  obtain ⟨nm, q, N, bs, sn, sub, ab, col, dd, k0, k1, k2, k3, k5, hC⟩ := T.cls
  refine wpAny_Call_Name_kw (ld_glob I hg hm ?_ hdb)
  refine PySem.W.callWith_K (h₀ := X.base) I.ok.mod.kin T.kC (thn (ha.run pos pins s σ H _ I h) fun us s1 ⟨vs, H1, I1, r1, hz, q1⟩ => ⟨I1.kIn, ?_⟩) he hpl
  show wpAny _ _ (call (.ref C) us) _ _ _
  obtain ⟨hp, g, dr, tk, os⟩ := s1
  have hsz : hp.objs.size ≤ hp.objs.size + 1 := Nat.le_succ _
  have hq := q1 (hp.objs.size + 1) (I1.hok.fresh hsz)
  have kk : ∀ b o, hp.get? b = some o → ((hp.push (PySem.W.kdv_tup us)).push (PySem.HandSPX.excO C hp.objs.size)).get? b = some o := fun b o e => Heap.get?_push_of_some _ (Heap.get?_push_of_some _ e)
  have hget : ((hp.push (PySem.W.kdv_tup us)).push (PySem.HandSPX.excO C hp.objs.size)).get? (hp.objs.size + 1) = some (PySem.HandSPX.excO C hp.objs.size) := by heap_get
  have I2 : Inv X pins σ (upd H1 (hp.objs.size + 1) (exo (hp.objs.size + 1) C none)) ⟨(hp.push (PySem.W.kdv_tup us)).push (PySem.HandSPX.excO C hp.objs.size), g, dr, tk, os⟩ :=
    I1.laid (t' := tk) (a := hp.objs.size + 1) (o := exo (hp.objs.size + 1) C none) (h' := (hp.push (PySem.W.kdv_tup us)).push (PySem.HandSPX.excO C hp.objs.size)) kk hsz (exo_ok hget)
  have r2 : Vals (V.ref (hp.objs.size + 1) :: (vs ++ dvs)) (Value.ref (hp.objs.size + 1) :: (us ++ ds)) := .cons rfl (r1.append hd)
  have hl : (Value.ref (hp.objs.size + 1) :: us ++ ds).length = ps.length := by
    have z := r2.length
    rw [F1.len _ _ _ _ hq] at z
    exact z.symm
  have hus : us.length ≤ sizeLine := by
    rw [← Paired.length r1, sizeLine_eq]
    omega
  refine wpAny_call (PySem.HandSPX.call_own F.excBase_RuntimeError (fun Y => rfl) (I1.kIn _ _ hC) (PySem.W.looks_findIn I1.kIn iC) (fun self => PySem.W.bind_fn I1.kIn self tI) hus
    (codeAny_mono (F1.run _ X.stack _ _ ⟨Value.ref (hp.objs.size + 1) :: us, []⟩ (Value.ref (hp.objs.size + 1) :: (us ++ ds)) _ _ (fun _ _ _ => False) (hr.make C us []) (I2.env0.make C us []) (hb _ (Value.ref (hp.objs.size + 1) :: us) I2.kIn hl) r2 hq) fun r s' hq' => ?_))
  cases r with
  | error er => exact hx pins σ _ _ er s' I2 hq'
  | ok fl =>
    cases fl with
    | ret u =>
      obtain ⟨v, H2, os2, bare2, un2, hok2, rv, ev, d, fs, ea, ed, hd1, q2⟩ := hq'
      subst ev
      obtain ⟨h2, g2, d2, t2, os'⟩ := s'
      exact ⟨rv, mk_end (raises_own T.exC T.tyC) I1 hsz kk un2 hok2 os2 bare2 ea ed hd1 q2⟩
    | next => exact False.elim hq'
    | brk => exact False.elim hq'
    | cont => exact False.elim hq'
end
end K70
/-! K70, part X2: isinstance of such an error, held by its name; the facts of its class as one Bool. -/
namespace K70
open PySem PySem.Spec PyProof.Rows L2
/-- isinstance(e, c), e the exception that the suite holds, its dict at d -/
def rIsD (K : PySem.W.Frag) (D a d : Addr) : List V → Hp → VK → Prop := fun xs H Q => ∃ (c : V) (cv : Value) (b : Bool) (fs : List (Str × V)), xs = [.ref a, c] ∧ (∀ u, RelV c u → u = cv) ∧ PySem.W.kitOne K (.ref D) cv = some b ∧ H d = some (.xd fs) ∧ Q (.bl b) H
theorem call_isD {X : Cx} {a D d : Addr} {oe : Obj} {pn : List (Addr × Obj)} (C : ExcC X.K D) (hz : Zc (.ref D) (some d) oe) (hf : ∃ vs, oe.data = .fields vs) : CallR (X.suite a ((a, oe) :: pn)) (.builtin "isinstance") (rIsD X.K D a d) := by
  intro pins s σ H xs us Q I r h
  obtain ⟨c, cv, b, fs, rfl, hcv, e, hd, q⟩ := h
  cases r with
  | cons rx rr =>
    cases rr with
    | cons rt rr =>
      cases rr
      cases rx
      have ec := hcv _ rt
      subst ec
      obtain ⟨hget, _⟩ := I.pin (a, oe) (List.mem_append.mpr (.inl List.mem_cons_self))
      obtain ⟨vs, hv⟩ := hf
      obtain ⟨mA, ⟨od, es, ep, hod, _⟩, _⟩ := (show ObjOk X.prog X.w H s.heap d (.xd fs) from I.hok d _ hd)
      have J : PySem.W.InstAt s.heap a oe D (some od) := by
        obtain ⟨oc, odd, oda, osl⟩ := oe
        obtain ⟨h1, h2⟩ := hz
        dsimp only at h1 h2 hv
        subst h1 h2 hv
        exact ⟨hget, rfl, rfl, hod⟩
      obtain ⟨cd, hcd, _⟩ := PySem.W.any_some C.hd
      have hcl : (PySem.W.clsIn X.K D).isSome = true := by
        rw [hcd]
        rfl
      exact PySem.W.kia_one (PySem.W.kitx_exc hcl C.hg C.hk C.hs C.ha C.hn C.ht C.hm) I.kIn J e (fun z => nomatch z) fun tk => ⟨.bl b, H, I.kept (t' := tk) fun _ _ z => z, rfl, q⟩
/-- the class x as the top leaves it, over RuntimeError, with the __init__ of its own that stores f -/
def reB (K : PySem.W.Frag) (x f : Str) : Bool :=
  (match K.lookup (He.ga K x) with
    | some ⟨.type "type", _, .cls cd, sl⟩ => (match sl.toList with
      | [_, _, _, _, some (.builtin n), _] => n == "RuntimeError.__new__" && (decide (cd.mro = .ref (He.ga K x) :: reTail) && (cd.hasDict && !cd.hasDel))
      | _ => false)
    | _ => false) &&
  (He.eqO (PySem.W.findIn K (.ref (He.ga K x)) "__setattr__") (some (some (.builtin "object.__setattr__"))) &&
  (decide (PySem.W.subIn K (.ref (He.ga K x)) (.type "BaseException") = some true) &&
  (decide (PySem.W.typeIn K (.ref (He.ga K x)) = some (.type "type")) &&
  (PySem.W.keepIn K (.ref (He.ga K x)) &&
  (He.eqO (PySem.W.findIn K (.ref (He.ga K x)) f) (some none) &&
  (He.eqO (PySem.W.findIn K (.ref (He.ga K x)) "__init__") (some (some (.ref (He.ma K (He.ga K x) "__init__")))) &&
  (decide (PySem.W.typeIn K (.ref (He.ma K (He.ga K x) "__init__")) = some (.type "function")) &&
  (He.eqO (PySem.W.findIn K (.ref (He.ga K x)) "__getattribute__") (some (some (.builtin "BaseException.__getattribute__"))) &&
  (He.eqO (PySem.W.findIn K (.ref (He.ga K x)) "__getattr__") (some none) &&
  (PySem.W.hasDictIn K (He.ga K x) &&
  (He.eqO (PySem.W.findIn K (.ref (He.ga K x)) "__class__") (some (some (.builtin "object.__class__"))) &&
  (He.eqO (PySem.W.specialIn K (.builtin "object.__class__") "__get__") (some (some (.builtin "getset_descriptor.__get__"))) &&
  (decide (PySem.W.takesIn K (.builtin "object.__class__") = some true) &&
  (decide (PySem.W.mroIn K (He.ga K x) (.type "object") = some true) &&
  (decide (PySem.W.kitOne K (.ref (He.ga K x)) (.type "RuntimeError") = some true) &&
  decide (PySem.W.exmOne K (.ref (He.ga K x)) (.ref (He.ga K x)) = some true))))))))))))))))
structure ReC (K : PySem.W.Frag) (C fI : Addr) (f : Str) : Prop where
  o : OexR K C
  nf : PySem.W.findIn K (.ref C) f = some none
  iC : PySem.W.findIn K (.ref C) "__init__" = some (some (.ref fI))
  tI : PySem.W.typeIn K (.ref fI) = some (.type "function")
  ec : ExcC K C
  isR : PySem.W.kitOne K (.ref C) (.type "RuntimeError") = some true
  me : PySem.W.exmOne K (.ref C) (.ref C) = some true
theorem reB_ok {K : PySem.W.Frag} {x f : Str} (h : reB K x f = true) : ReC K (He.ga K x) (He.ma K (He.ga K x) "__init__") f := by
  unfold reB at h
  obtain ⟨h0, h⟩ := He.ba h
  obtain ⟨h1, h⟩ := He.ba h
  obtain ⟨h2, h⟩ := He.ba h
  obtain ⟨h3, h⟩ := He.ba h
  obtain ⟨h4, h⟩ := He.ba h
  obtain ⟨h5, h⟩ := He.ba h
  obtain ⟨h6, h⟩ := He.ba h
  obtain ⟨h7, h⟩ := He.ba h
  obtain ⟨h8, h⟩ := He.ba h
  obtain ⟨h9, h⟩ := He.ba h
  obtain ⟨h10, h⟩ := He.ba h
  obtain ⟨h11, h⟩ := He.ba h
  obtain ⟨h12, h⟩ := He.ba h
  obtain ⟨h13, h⟩ := He.ba h
  obtain ⟨h14, h⟩ := He.ba h
  obtain ⟨h15, h16⟩ := He.ba h
  refine ⟨⟨?_, He.eqO_ok h1, of_decide_eq_true h2, of_decide_eq_true h3, h4⟩, He.eqO_ok h5, He.eqO_ok h6, of_decide_eq_true h7,
    ⟨He.eqO_ok h8, He.eqO_ok h9, of_decide_eq_true h2, h10, He.eqO_ok h11, He.eqO_ok h12, of_decide_eq_true h13, of_decide_eq_true h14⟩, of_decide_eq_true h15, of_decide_eq_true h16⟩
  split at h0
  · rename_i dd cd sl ho
    split at h0
    · rename_i k0 k1 k2 k3 n k5 hs
      obtain ⟨a1, h0⟩ := He.ba h0
      obtain ⟨a2, h0⟩ := He.ba h0
      obtain ⟨a3, a4⟩ := He.ba h0
      obtain ⟨nm, bs, mro, ns, qn, hd, sn, sub, ab, col, del⟩ := cd
      have e1 : n = "RuntimeError.__new__" := beq_iff_eq.mp a1
      have e2 : mro = .ref (He.ga K x) :: reTail := of_decide_eq_true a2
      have e3 : hd = true := a3
      have e4 : del = false := by simpa using a4
      subst e1 e2 e3 e4
      have hsl : sl = #[k0, k1, k2, k3, some (.builtin "RuntimeError.__new__"), k5] := by
        obtain ⟨l⟩ := sl
        simp only at hs
        rw [hs]
      subst hsl
      exact ⟨nm, qn, ns, bs, sn, sub, ab, col, dd, k0, k1, k2, k3, k5, ho⟩
    · cases h0
  · cases h0
end K70
/-! K70, part S: sorted of pairs of a text and an int: some order of the same pairs. -/
namespace K70
open PySem PySem.Spec PyProof.Rows L2
def IsTxt (h : Heap) (v : Value) (x : Str) (y : Int) : Prop := ∃ a o t u n, v = .ref a ∧ h.get? a = some o ∧ o.cls = .type "tuple" ∧ o.data = .seq #[.str x t, .int y u] n
theorem IsTxt.keeps {h h' : Heap} {v : Value} {x : Str} {y : Int} (p : IsTxt h v x y) (k : ∀ b o, h.get? b = some o → o.cls = .type "tuple" → h'.get? b = some o) : IsTxt h' v x y := by
  obtain ⟨a, o, t, u, n, e, ho, hc, hd⟩ := p
  exact ⟨a, o, t, u, n, e, k _ _ ho hc, hc, hd⟩
section
variable {prog : Program} {w : World} {A : Around} {E : Value → Shared → Prop} {s : Shared}
theorem txt_tot {vs : List Value} (hp : ∀ v ∈ vs, ∃ x y, IsTxt s.heap v x y) : Srt.Tot prog w A s (tuples' true) (fun p => p.1 ∈ vs) := by
  intro p q hm hm'
  obtain ⟨x, y, a, o, t, u, n, e, ho, hc, hd⟩ := hp _ hm
  obtain ⟨x', y', a', o', t', u', n', e', ho', hc', hd'⟩ := hp _ hm'
  rw [e, e']
  refine ⟨if x = x' then (if y = y' then false else decide (y < y')) else decide (x.cps.toList < x'.cps.toList), ?_⟩
  refine PySem.W.kat_lt ho hd ho' hd' ?_
  show PySem.W.KatLex prog w A true (decide (2 < 2)) _ [(.str x t, .str x' t'), (.int y u, .int y' u')] 0 s
  refine PySem.W.kat_cons (wpAny_eqBool_str ?_)
  refine PySem.W.kat_go (fun e1 => ?_) (fun e1 => ?_)
  · have ex : x = x' := of_decide_eq_true e1
    refine PySem.W.kat_yes (PySem.W.kat_cons (SeqAt.EqAt.int_int y u y' u' prog w _ _ ?_))
    refine PySem.W.kat_go (fun e2 => ?_) (fun e2 => ?_)
    · have ey : y = y' := by simpa using e2
      exact PySem.W.kat_yes (PySem.W.kat_nil ⟨rfl, by rw [if_pos ex, if_pos ey]; rfl⟩)
    · have ey : ¬ y = y' := by simpa using e2
      have e3 : (if x = x' then (if y = y' then false else decide (y < y')) else decide (x.cps.toList < x'.cps.toList)) = decide (y < y') := by rw [if_pos ex, if_neg ey]
      rw [e3]
      exact PySem.W.kat_no (PySem.W.kat_one _ _ (PyProof.Rows.lt_int (show s = s ∧ decide (y < y') = decide (y < y') from ⟨rfl, rfl⟩)))
  · have ex : ¬ x = x' := of_decide_eq_false e1
    rw [if_neg ex]
    exact PySem.W.kat_no (oneLt_str ⟨rfl, rfl⟩)
theorem txt_firsts {h : Heap} : ∀ {vs : List Value}, (∀ v ∈ vs, ∃ x y, IsTxt h v x y) → ∃ fs : List Value, PySem.W.KatTups h vs fs ∧ fs.length = vs.length ∧ ∀ f ∈ fs, ∃ x t, f = Value.str x t
  | [], _ => ⟨[], PySem.W.KatTups.nil, rfl, fun _ hm => by simp at hm⟩
  | v :: vs, hp => by
    obtain ⟨fs, h1, h2, h3⟩ := txt_firsts (vs := vs) fun v' hm => hp v' (List.mem_cons_of_mem _ hm)
    obtain ⟨x, y, a, o, t, u, n, e, ho, hc, hd⟩ := hp v (List.mem_cons_self ..)
    subst e
    refine ⟨.str x t :: fs, PySem.W.KatTups.cons ho hc hd rfl h1, by rw [List.length_cons, List.length_cons, h2], fun f hm => ?_⟩
    rcases List.mem_cons.mp hm with rfl | hm
    · exact ⟨x, t, rfl⟩
    · exact h3 f hm
theorem txt_sortable {a : Addr} {vs : List Value} (h0 : 0 < vs.length) (hp : ∀ v ∈ vs, ∃ x y, IsTxt s.heap v x y) (ha : ∀ o, s.heap.get? a = some o → o.cls ≠ .type "tuple") : Srt.Sortable prog w A s a vs := by
  intro h' keep
  have hp' : ∀ v ∈ vs, ∃ x y, IsTxt h' v x y := fun v hm => by
    obtain ⟨x, y, p⟩ := hp v hm
    exact ⟨x, y, p.keeps fun b o e c => keep b o (fun z => by subst z; exact ha o e c) e⟩
  obtain ⟨fs, h1, h2, h3⟩ := txt_firsts hp'
  refine ⟨tuples' true, fun Q E hq => ?_, txt_tot hp'⟩
  refine PySem.W.kat_kind (T := .type "str") h1 (by omega) (fun f hm => ?_) (by rfl) ?_
  · obtain ⟨x, t, rfl⟩ := h3 f hm
    exact PySem.W.Looks.now
  · have e : (Value.type "str" != Value.type "tuple") = true := by first | decide +kernel | rfl | decide
    rw [e]
    exact hq
theorem sorted_txt {l : Addr} {vs : List Value} {Q : Value → Shared → Prop} (hl : s.heap.IsList l vs.toArray) (hz : vs.length ≤ sizeLine) (hp : ∀ v ∈ vs, ∃ x y, IsTxt s.heap v x y)
    (h : ∀ (h' : Heap) (d : Addr) (out : List Value), out.Perm vs → (∀ b o, s.heap.get? b = some o → h'.get? b = some o) → s.heap.objs.size ≤ d → (∃ n, h'.get? d = some (seqObj "list" out.toArray n)) → Q (.ref d) { s with heap := h' }) :
    wpAny (model prog w) A (call (.builtin "sorted") [.ref l]) Q E s := by
  refine Srt.sorted_any hl hz (fun h2 h₁ a ha k => ?_) fun out ho => h _ _ out ho (fun b o e => sortedAll_old e) (Nat.le_succ _) (sortedAll_at s.heap vs out.toArray)
  refine txt_sortable (s := { s with heap := h₁ }) (by omega) (fun v hm => ?_) fun o e c => ?_
  · obtain ⟨x, y, p⟩ := hp v hm
    exact ⟨x, y, p.keeps fun b o e _ => (k b o e).2⟩
  · cases e.symm.trans ha
    exact absurd (Value.type.inj c) (by decide)
end
def rSortedTx (K : PySem.W.Frag) : List V → Hp → VK → Prop := fun vs H Q => ∃ a xs, vs = [V.ref a] ∧ SqL K H a xs ∧ (∀ x ∈ xs, ∃ t i j, x = V.ref t ∧ H t = some (.tup [.str i, .int j])) ∧ ∀ ys p, ys.Perm xs → H p = none → Q (.ref p) (upd H p (.lst ys))
theorem cr_sortedTx {X : Cx} : CallR X (.builtin "sorted") (rSortedTx X.K) := by
  intro pins s σ H vs us Q I r h
  obtain ⟨a, xs, rfl, hs, hx, q⟩ := h
  obtain ⟨its, rv, hl, hz⟩ := I.list hs
  obtain ⟨u, rfl, ru⟩ := vals1 r
  obtain rfl : u = Value.ref a := ru
  obtain ⟨e1, e2⟩ := refs_back rv fun x m => by
    obtain ⟨t, _, _, e, _⟩ := hx x m
    exact ⟨t, e⟩
  refine sorted_txt hl.isList (by rw [← rv.length]; exact hz) (fun v hv => ?_) fun h' d out hp k hd hn => ?_
  · obtain ⟨t, rfl⟩ := e2 v hv
    have hm : V.ref t ∈ xs := by
      rw [e1]
      exact List.mem_map.mpr ⟨_, hv, rfl⟩
    obtain ⟨t', i, j, e, ht⟩ := hx _ hm
    cases e
    obtain ⟨_, its2, r2, o, ho, hc, n, hd⟩ := I.hok _ _ ht
    obtain ⟨u1, u2, rfl, ri, rj⟩ := vals2 r2
    obtain ⟨t1, rfl⟩ := ri
    obtain ⟨t2, rfl⟩ := rj
    exact ⟨i, j, t, o, t1, t2, n, rfl, ho, hc, hd⟩
  · have h3 : ∀ u ∈ out, ∃ a, u = Value.ref a := fun u hu => e2 u (hp.mem_iff.mp hu)
    obtain ⟨n, hn⟩ := hn
    refine ⟨.ref d, upd H d (.lst (out.map backV)), I.laid (t' := s.toks) k hd ⟨?_, out, n, vals_back h3, hn⟩, rfl, q _ d ?_ (I.hok.fresh hd)⟩
    · rw [List.length_map, hp.length_eq, ← rv.length]
      exact hz
    · rw [e1]
      exact hp.map backV
end K70
/-! K70, part B: the text by places, what the walks ask of the top, small words. -/
namespace K70
open PySem PySem.Spec PyProof.Rows L2
def topAt (i : Nat) : Stmt := PySem.Challenge.pw_brookworks_k70_whole_each_number_of_figu.main.body.getD i (.Pass ⟨0, 0, 0, 0⟩)
abbrev s_NotGiven_init : Stmt := inClass (topAt 1) 0
abbrev s_Unsure_init : Stmt := inClass (topAt 2) 0
abbrev s_halvings_of : Stmt := topAt 6
abbrev s_power_of : Stmt := topAt 7
abbrev s_num_of : Stmt := topAt 8
abbrev s_sum_of : Stmt := topAt 9
abbrev s_less_of : Stmt := topAt 10
abbrev s_times_of : Stmt := topAt 11
abbrev s_is_below : Stmt := topAt 12
abbrev s_least_num : Stmt := topAt 13
abbrev s_most_num : Stmt := topAt 14
abbrev s_figures_of : Stmt := topAt 15
abbrev s_cut_of : Stmt := topAt 16
abbrev s_now_order : Stmt := topAt 18
abbrev s_many_told : Stmt := topAt 19
abbrev s_springs_of : Stmt := topAt 20
abbrev s_look_given : Stmt := topAt 21
abbrev s_place_told : Stmt := topAt 22
abbrev s_combined : Stmt := topAt 23
abbrev s_number_of : Stmt := topAt 24
abbrev s_numbers_of : Stmt := topAt 25
abbrev s_cut_span : Stmt := topAt 28
abbrev s_Forms_init : Stmt := inClass (topAt 29) 0
abbrev s_Forms_cut : Stmt := inClass (topAt 29) 1
abbrev s_Forms_ends : Stmt := inClass (topAt 29) 2
abbrev s_Forms_between : Stmt := inClass (topAt 29) 3
abbrev s_fixed_form : Stmt := topAt 30
abbrev s_times_form : Stmt := topAt 31
abbrev s_sum_form : Stmt := topAt 32
abbrev s_form_of : Stmt := topAt 33
abbrev s_noise_of : Stmt := topAt 34
abbrev s_off_by : Stmt := topAt 35
abbrev s_law_dip : Stmt := topAt 37
abbrev s_law_take : Stmt := topAt 38
abbrev s_law_folded : Stmt := topAt 39
abbrev s_law_one_of : Stmt := topAt 40
abbrev s_law_strewn : Stmt := topAt 41
abbrev s_law_keywords : Stmt := topAt 42
abbrev s_law_named : Stmt := topAt 43
abbrev s_law_same : Stmt := topAt 44
abbrev s_law_num : Stmt := topAt 45
abbrev s_law_add : Stmt := topAt 46
abbrev s_law_sub : Stmt := topAt 47
abbrev s_law_mul : Stmt := topAt 48
abbrev s_law_below : Stmt := topAt 49
abbrev s_law_floor : Stmt := topAt 50
abbrev s_law_value : Stmt := topAt 51
abbrev s_law_spring_rows : Stmt := topAt 52
abbrev s_law_more_row : Stmt := topAt 53
abbrev s_law_joined : Stmt := topAt 54
abbrev s_law_come_to : Stmt := topAt 55
abbrev s_law_graph_drawn : Stmt := topAt 56
abbrev s_law_graph_of : Stmt := topAt 57
abbrev s_law_springs_of : Stmt := topAt 58
abbrev s_law_told_by : Stmt := topAt 59
abbrev s_law_lists : Stmt := topAt 60
abbrev s_law_one_number : Stmt := topAt 61
abbrev s_law_places : Stmt := topAt 62
abbrev s_law_bounds : Stmt := topAt 63
abbrev s_law_graph_right : Stmt := topAt 64
abbrev s_law_spring_right : Stmt := topAt 65
abbrev s_law_right : Stmt := topAt 66
abbrev s_law : Stmt := topAt 67
abbrev FnP (K : PySem.W.Frag) (x q : Str) (st : Stmt) (dv : List V) (kw : List (Str × V)) (f : Addr) (fd : FuncData) : Prop := FunD K x q (defArgs st) (defBody st) (defScope st) dv kw f fd
def d_NotGiven_init : He.DefD := ⟨("NotGiven", some "__init__"), "__init__", "NotGiven.__init__", defArgs s_NotGiven_init, defBody s_NotGiven_init, defScope s_NotGiven_init, [], []⟩
def d_Unsure_init : He.DefD := ⟨("Unsure", some "__init__"), "__init__", "Unsure.__init__", defArgs s_Unsure_init, defBody s_Unsure_init, defScope s_Unsure_init, [], []⟩
def d_halvings_of : He.DefD := ⟨("halvings_of", none), "halvings_of", "halvings_of", defArgs s_halvings_of, defBody s_halvings_of, defScope s_halvings_of, [], []⟩
def d_power_of : He.DefD := ⟨("power_of", none), "power_of", "power_of", defArgs s_power_of, defBody s_power_of, defScope s_power_of, [], []⟩
def d_num_of : He.DefD := ⟨("num_of", none), "num_of", "num_of", defArgs s_num_of, defBody s_num_of, defScope s_num_of, [.int 1], []⟩
def d_sum_of : He.DefD := ⟨("sum_of", none), "sum_of", "sum_of", defArgs s_sum_of, defBody s_sum_of, defScope s_sum_of, [], []⟩
def d_less_of : He.DefD := ⟨("less_of", none), "less_of", "less_of", defArgs s_less_of, defBody s_less_of, defScope s_less_of, [], []⟩
def d_times_of : He.DefD := ⟨("times_of", none), "times_of", "times_of", defArgs s_times_of, defBody s_times_of, defScope s_times_of, [], []⟩
def d_is_below : He.DefD := ⟨("is_below", none), "is_below", "is_below", defArgs s_is_below, defBody s_is_below, defScope s_is_below, [], []⟩
def d_least_num : He.DefD := ⟨("least_num", none), "least_num", "least_num", defArgs s_least_num, defBody s_least_num, defScope s_least_num, [], []⟩
def d_most_num : He.DefD := ⟨("most_num", none), "most_num", "most_num", defArgs s_most_num, defBody s_most_num, defScope s_most_num, [], []⟩
def d_figures_of : He.DefD := ⟨("figures_of", none), "figures_of", "figures_of", defArgs s_figures_of, defBody s_figures_of, defScope s_figures_of, [], []⟩
def d_cut_of : He.DefD := ⟨("cut_of", none), "cut_of", "cut_of", defArgs s_cut_of, defBody s_cut_of, defScope s_cut_of, [], []⟩
def d_now_order : He.DefD := ⟨("now_order", none), "now_order", "now_order", defArgs s_now_order, defBody s_now_order, defScope s_now_order, [], []⟩
def d_many_told : He.DefD := ⟨("many_told", none), "many_told", "many_told", defArgs s_many_told, defBody s_many_told, defScope s_many_told, [], []⟩
def d_springs_of : He.DefD := ⟨("springs_of", none), "springs_of", "springs_of", defArgs s_springs_of, defBody s_springs_of, defScope s_springs_of, [], []⟩
def d_look_given : He.DefD := ⟨("look_given", none), "look_given", "look_given", defArgs s_look_given, defBody s_look_given, defScope s_look_given, [], []⟩
def d_place_told : He.DefD := ⟨("place_told", none), "place_told", "place_told", defArgs s_place_told, defBody s_place_told, defScope s_place_told, [], []⟩
def d_combined : He.DefD := ⟨("combined", none), "combined", "combined", defArgs s_combined, defBody s_combined, defScope s_combined, [], []⟩
def d_number_of : He.DefD := ⟨("number_of", none), "number_of", "number_of", defArgs s_number_of, defBody s_number_of, defScope s_number_of, [], []⟩
def d_numbers_of : He.DefD := ⟨("numbers_of", none), "numbers_of", "numbers_of", defArgs s_numbers_of, defBody s_numbers_of, defScope s_numbers_of, [], [("figures", .non)]⟩
def d_cut_span : He.DefD := ⟨("cut_span", none), "cut_span", "cut_span", defArgs s_cut_span, defBody s_cut_span, defScope s_cut_span, [], []⟩
def d_Forms_init : He.DefD := ⟨("Forms", some "__init__"), "__init__", "Forms.__init__", defArgs s_Forms_init, defBody s_Forms_init, defScope s_Forms_init, [], []⟩
def d_Forms_cut : He.DefD := ⟨("Forms", some "cut"), "cut", "Forms.cut", defArgs s_Forms_cut, defBody s_Forms_cut, defScope s_Forms_cut, [], []⟩
def d_Forms_ends : He.DefD := ⟨("Forms", some "ends"), "ends", "Forms.ends", defArgs s_Forms_ends, defBody s_Forms_ends, defScope s_Forms_ends, [], []⟩
def d_Forms_between : He.DefD := ⟨("Forms", some "between"), "between", "Forms.between", defArgs s_Forms_between, defBody s_Forms_between, defScope s_Forms_between, [], []⟩
def d_fixed_form : He.DefD := ⟨("fixed_form", none), "fixed_form", "fixed_form", defArgs s_fixed_form, defBody s_fixed_form, defScope s_fixed_form, [], []⟩
def d_times_form : He.DefD := ⟨("times_form", none), "times_form", "times_form", defArgs s_times_form, defBody s_times_form, defScope s_times_form, [], []⟩
def d_sum_form : He.DefD := ⟨("sum_form", none), "sum_form", "sum_form", defArgs s_sum_form, defBody s_sum_form, defScope s_sum_form, [], []⟩
def d_form_of : He.DefD := ⟨("form_of", none), "form_of", "form_of", defArgs s_form_of, defBody s_form_of, defScope s_form_of, [], []⟩
def d_noise_of : He.DefD := ⟨("noise_of", none), "noise_of", "noise_of", defArgs s_noise_of, defBody s_noise_of, defScope s_noise_of, [], [("figures", .int 8), ("fine", .int 6)]⟩
def d_off_by : He.DefD := ⟨("off_by", none), "off_by", "off_by", defArgs s_off_by, defBody s_off_by, defScope s_off_by, [], [("figures", .int 8)]⟩
def d_law_dip : He.DefD := ⟨("_law_dip", none), "_law_dip", "_law_dip", defArgs s_law_dip, defBody s_law_dip, defScope s_law_dip, [], []⟩
def d_law_take : He.DefD := ⟨("_law_take", none), "_law_take", "_law_take", defArgs s_law_take, defBody s_law_take, defScope s_law_take, [], []⟩
def d_law_folded : He.DefD := ⟨("_law_folded", none), "_law_folded", "_law_folded", defArgs s_law_folded, defBody s_law_folded, defScope s_law_folded, [], []⟩
def d_law_one_of : He.DefD := ⟨("_law_one_of", none), "_law_one_of", "_law_one_of", defArgs s_law_one_of, defBody s_law_one_of, defScope s_law_one_of, [], []⟩
def d_law_strewn : He.DefD := ⟨("_law_strewn", none), "_law_strewn", "_law_strewn", defArgs s_law_strewn, defBody s_law_strewn, defScope s_law_strewn, [], []⟩
def d_law_keywords : He.DefD := ⟨("_law_keywords", none), "_law_keywords", "_law_keywords", defArgs s_law_keywords, defBody s_law_keywords, defScope s_law_keywords, [], []⟩
def d_law_named : He.DefD := ⟨("_law_named", none), "_law_named", "_law_named", defArgs s_law_named, defBody s_law_named, defScope s_law_named, [], []⟩
def d_law_same : He.DefD := ⟨("_law_same", none), "_law_same", "_law_same", defArgs s_law_same, defBody s_law_same, defScope s_law_same, [], []⟩
def d_law_num : He.DefD := ⟨("_law_num", none), "_law_num", "_law_num", defArgs s_law_num, defBody s_law_num, defScope s_law_num, [], []⟩
def d_law_add : He.DefD := ⟨("_law_add", none), "_law_add", "_law_add", defArgs s_law_add, defBody s_law_add, defScope s_law_add, [], []⟩
def d_law_sub : He.DefD := ⟨("_law_sub", none), "_law_sub", "_law_sub", defArgs s_law_sub, defBody s_law_sub, defScope s_law_sub, [], []⟩
def d_law_mul : He.DefD := ⟨("_law_mul", none), "_law_mul", "_law_mul", defArgs s_law_mul, defBody s_law_mul, defScope s_law_mul, [], []⟩
def d_law_below : He.DefD := ⟨("_law_below", none), "_law_below", "_law_below", defArgs s_law_below, defBody s_law_below, defScope s_law_below, [], []⟩
def d_law_floor : He.DefD := ⟨("_law_floor", none), "_law_floor", "_law_floor", defArgs s_law_floor, defBody s_law_floor, defScope s_law_floor, [], []⟩
def d_law_value : He.DefD := ⟨("_law_value", none), "_law_value", "_law_value", defArgs s_law_value, defBody s_law_value, defScope s_law_value, [], []⟩
def d_law_spring_rows : He.DefD := ⟨("_law_spring_rows", none), "_law_spring_rows", "_law_spring_rows", defArgs s_law_spring_rows, defBody s_law_spring_rows, defScope s_law_spring_rows, [], []⟩
def d_law_more_row : He.DefD := ⟨("_law_more_row", none), "_law_more_row", "_law_more_row", defArgs s_law_more_row, defBody s_law_more_row, defScope s_law_more_row, [], []⟩
def d_law_joined : He.DefD := ⟨("_law_joined", none), "_law_joined", "_law_joined", defArgs s_law_joined, defBody s_law_joined, defScope s_law_joined, [], []⟩
def d_law_come_to : He.DefD := ⟨("_law_come_to", none), "_law_come_to", "_law_come_to", defArgs s_law_come_to, defBody s_law_come_to, defScope s_law_come_to, [], []⟩
def d_law_graph_drawn : He.DefD := ⟨("_law_graph_drawn", none), "_law_graph_drawn", "_law_graph_drawn", defArgs s_law_graph_drawn, defBody s_law_graph_drawn, defScope s_law_graph_drawn, [], []⟩
def d_law_graph_of : He.DefD := ⟨("_law_graph_of", none), "_law_graph_of", "_law_graph_of", defArgs s_law_graph_of, defBody s_law_graph_of, defScope s_law_graph_of, [], []⟩
def d_law_springs_of : He.DefD := ⟨("_law_springs_of", none), "_law_springs_of", "_law_springs_of", defArgs s_law_springs_of, defBody s_law_springs_of, defScope s_law_springs_of, [], []⟩
def d_law_told_by : He.DefD := ⟨("_law_told_by", none), "_law_told_by", "_law_told_by", defArgs s_law_told_by, defBody s_law_told_by, defScope s_law_told_by, [], []⟩
def d_law_lists : He.DefD := ⟨("_law_lists", none), "_law_lists", "_law_lists", defArgs s_law_lists, defBody s_law_lists, defScope s_law_lists, [], []⟩
def d_law_one_number : He.DefD := ⟨("_law_one_number", none), "_law_one_number", "_law_one_number", defArgs s_law_one_number, defBody s_law_one_number, defScope s_law_one_number, [], []⟩
def d_law_places : He.DefD := ⟨("_law_places", none), "_law_places", "_law_places", defArgs s_law_places, defBody s_law_places, defScope s_law_places, [], []⟩
def d_law_bounds : He.DefD := ⟨("_law_bounds", none), "_law_bounds", "_law_bounds", defArgs s_law_bounds, defBody s_law_bounds, defScope s_law_bounds, [], []⟩
def d_law_graph_right : He.DefD := ⟨("_law_graph_right", none), "_law_graph_right", "_law_graph_right", defArgs s_law_graph_right, defBody s_law_graph_right, defScope s_law_graph_right, [], []⟩
def d_law_spring_right : He.DefD := ⟨("_law_spring_right", none), "_law_spring_right", "_law_spring_right", defArgs s_law_spring_right, defBody s_law_spring_right, defScope s_law_spring_right, [], []⟩
def d_law_right : He.DefD := ⟨("_law_right", none), "_law_right", "_law_right", defArgs s_law_right, defBody s_law_right, defScope s_law_right, [], []⟩
def d_law : He.DefD := ⟨("law", none), "law", "law", defArgs s_law, defBody s_law, defScope s_law, [], []⟩
/-- what is asked of the written part besides: NOUGHT is (0, 1); the class Unsure; RuntimeError's __init__ as a function -/
def exB (K : PySem.W.Frag) : Bool := He.tupB K "NOUGHT" [.int 0, .int 1] && (reB K "Unsure" "node" && (match PySem.W.findCls K (.type "RuntimeError") (.type "type") "__init__" with
  | some (.val (.builtin n)) => n == "RuntimeError.__init__"
  | _ => false))
theorem exB_nought {K : PySem.W.Frag} (h : exB K = true) : He.tupB K "NOUGHT" [.int 0, .int 1] = true := (He.ba h).1
theorem exB_unsure {K : PySem.W.Frag} (h : exB K = true) : ReC K (He.ga K "Unsure") (He.ma K (He.ga K "Unsure") "__init__") "node" := reB_ok (He.ba (He.ba h).2).1
theorem exB_init {K : PySem.W.Frag} (h : exB K = true) : PySem.W.findCls K (.type "RuntimeError") (.type "type") "__init__" = some (.val (.builtin "RuntimeError.__init__")) := by
  have q := (He.ba (He.ba h).2).2
  split at q
  · rename_i n e
    rw [e, beq_iff_eq.mp q]
  · cases q
/-- what the walks ask of the top -/
structure TX (K : PySem.W.Frag) (mg : Str → Option Value) : Prop where
  g_NotGiven : mg "NotGiven" = some (.ref (He.ga K "NotGiven"))
  g_Unsure : mg "Unsure" = some (.ref (He.ga K "Unsure"))
  g_halvings_of : mg "halvings_of" = some (.ref (He.ga K "halvings_of"))
  g_power_of : mg "power_of" = some (.ref (He.ga K "power_of"))
  g_num_of : mg "num_of" = some (.ref (He.ga K "num_of"))
  g_sum_of : mg "sum_of" = some (.ref (He.ga K "sum_of"))
  g_less_of : mg "less_of" = some (.ref (He.ga K "less_of"))
  g_times_of : mg "times_of" = some (.ref (He.ga K "times_of"))
  g_is_below : mg "is_below" = some (.ref (He.ga K "is_below"))
  g_least_num : mg "least_num" = some (.ref (He.ga K "least_num"))
  g_most_num : mg "most_num" = some (.ref (He.ga K "most_num"))
  g_figures_of : mg "figures_of" = some (.ref (He.ga K "figures_of"))
  g_cut_of : mg "cut_of" = some (.ref (He.ga K "cut_of"))
  g_now_order : mg "now_order" = some (.ref (He.ga K "now_order"))
  g_many_told : mg "many_told" = some (.ref (He.ga K "many_told"))
  g_springs_of : mg "springs_of" = some (.ref (He.ga K "springs_of"))
  g_look_given : mg "look_given" = some (.ref (He.ga K "look_given"))
  g_place_told : mg "place_told" = some (.ref (He.ga K "place_told"))
  g_combined : mg "combined" = some (.ref (He.ga K "combined"))
  g_number_of : mg "number_of" = some (.ref (He.ga K "number_of"))
  g_numbers_of : mg "numbers_of" = some (.ref (He.ga K "numbers_of"))
  g_cut_span : mg "cut_span" = some (.ref (He.ga K "cut_span"))
  g_Forms : mg "Forms" = some (.ref (He.ga K "Forms"))
  g_fixed_form : mg "fixed_form" = some (.ref (He.ga K "fixed_form"))
  g_times_form : mg "times_form" = some (.ref (He.ga K "times_form"))
  g_sum_form : mg "sum_form" = some (.ref (He.ga K "sum_form"))
  g_form_of : mg "form_of" = some (.ref (He.ga K "form_of"))
  g_noise_of : mg "noise_of" = some (.ref (He.ga K "noise_of"))
  g_off_by : mg "off_by" = some (.ref (He.ga K "off_by"))
  g_law_dip : mg "_law_dip" = some (.ref (He.ga K "_law_dip"))
  g_law_take : mg "_law_take" = some (.ref (He.ga K "_law_take"))
  g_law_folded : mg "_law_folded" = some (.ref (He.ga K "_law_folded"))
  g_law_one_of : mg "_law_one_of" = some (.ref (He.ga K "_law_one_of"))
  g_law_strewn : mg "_law_strewn" = some (.ref (He.ga K "_law_strewn"))
  g_law_keywords : mg "_law_keywords" = some (.ref (He.ga K "_law_keywords"))
  g_law_named : mg "_law_named" = some (.ref (He.ga K "_law_named"))
  g_law_same : mg "_law_same" = some (.ref (He.ga K "_law_same"))
  g_law_num : mg "_law_num" = some (.ref (He.ga K "_law_num"))
  g_law_add : mg "_law_add" = some (.ref (He.ga K "_law_add"))
  g_law_sub : mg "_law_sub" = some (.ref (He.ga K "_law_sub"))
  g_law_mul : mg "_law_mul" = some (.ref (He.ga K "_law_mul"))
  g_law_below : mg "_law_below" = some (.ref (He.ga K "_law_below"))
  g_law_floor : mg "_law_floor" = some (.ref (He.ga K "_law_floor"))
  g_law_value : mg "_law_value" = some (.ref (He.ga K "_law_value"))
  g_law_spring_rows : mg "_law_spring_rows" = some (.ref (He.ga K "_law_spring_rows"))
  g_law_more_row : mg "_law_more_row" = some (.ref (He.ga K "_law_more_row"))
  g_law_joined : mg "_law_joined" = some (.ref (He.ga K "_law_joined"))
  g_law_come_to : mg "_law_come_to" = some (.ref (He.ga K "_law_come_to"))
  g_law_graph_drawn : mg "_law_graph_drawn" = some (.ref (He.ga K "_law_graph_drawn"))
  g_law_graph_of : mg "_law_graph_of" = some (.ref (He.ga K "_law_graph_of"))
  g_law_springs_of : mg "_law_springs_of" = some (.ref (He.ga K "_law_springs_of"))
  g_law_told_by : mg "_law_told_by" = some (.ref (He.ga K "_law_told_by"))
  g_law_lists : mg "_law_lists" = some (.ref (He.ga K "_law_lists"))
  g_law_one_number : mg "_law_one_number" = some (.ref (He.ga K "_law_one_number"))
  g_law_places : mg "_law_places" = some (.ref (He.ga K "_law_places"))
  g_law_bounds : mg "_law_bounds" = some (.ref (He.ga K "_law_bounds"))
  g_law_graph_right : mg "_law_graph_right" = some (.ref (He.ga K "_law_graph_right"))
  g_law_spring_right : mg "_law_spring_right" = some (.ref (He.ga K "_law_spring_right"))
  g_law_right : mg "_law_right" = some (.ref (He.ga K "_law_right"))
  g_law : mg "law" = some (.ref (He.ga K "law"))
  g_NOUGHT : mg "NOUGHT" = some (.ref (He.ga K "NOUGHT"))
  z_KeyError : mg "KeyError" = none
  z_RuntimeError : mg "RuntimeError" = none
  z_abs : mg "abs" = none
  z_all : mg "all" = none
  z_any : mg "any" = none
  z_bool : mg "bool" = none
  z_dict : mg "dict" = none
  z_enumerate : mg "enumerate" = none
  z_int : mg "int" = none
  z_isinstance : mg "isinstance" = none
  z_len : mg "len" = none
  z_list : mg "list" = none
  z_max : mg "max" = none
  z_min : mg "min" = none
  z_range : mg "range" = none
  z_sorted : mg "sorted" = none
  z_str : mg "str" = none
  z_tuple : mg "tuple" = none
  z_zip : mg "zip" = none
  f_NotGiven_init : ∃ fd, FnP K "__init__" "NotGiven.__init__" s_NotGiven_init [] [] (He.ma K (He.ga K "NotGiven") "__init__") fd
  f_Unsure_init : ∃ fd, FnP K "__init__" "Unsure.__init__" s_Unsure_init [] [] (He.ma K (He.ga K "Unsure") "__init__") fd
  f_halvings_of : ∃ fd, FnP K "halvings_of" "halvings_of" s_halvings_of [] [] (He.ga K "halvings_of") fd
  f_power_of : ∃ fd, FnP K "power_of" "power_of" s_power_of [] [] (He.ga K "power_of") fd
  f_num_of : ∃ fd, FnP K "num_of" "num_of" s_num_of [.int 1] [] (He.ga K "num_of") fd
  f_sum_of : ∃ fd, FnP K "sum_of" "sum_of" s_sum_of [] [] (He.ga K "sum_of") fd
  f_less_of : ∃ fd, FnP K "less_of" "less_of" s_less_of [] [] (He.ga K "less_of") fd
  f_times_of : ∃ fd, FnP K "times_of" "times_of" s_times_of [] [] (He.ga K "times_of") fd
  f_is_below : ∃ fd, FnP K "is_below" "is_below" s_is_below [] [] (He.ga K "is_below") fd
  f_least_num : ∃ fd, FnP K "least_num" "least_num" s_least_num [] [] (He.ga K "least_num") fd
  f_most_num : ∃ fd, FnP K "most_num" "most_num" s_most_num [] [] (He.ga K "most_num") fd
  f_figures_of : ∃ fd, FnP K "figures_of" "figures_of" s_figures_of [] [] (He.ga K "figures_of") fd
  f_cut_of : ∃ fd, FnP K "cut_of" "cut_of" s_cut_of [] [] (He.ga K "cut_of") fd
  f_now_order : ∃ fd, FnP K "now_order" "now_order" s_now_order [] [] (He.ga K "now_order") fd
  f_many_told : ∃ fd, FnP K "many_told" "many_told" s_many_told [] [] (He.ga K "many_told") fd
  f_springs_of : ∃ fd, FnP K "springs_of" "springs_of" s_springs_of [] [] (He.ga K "springs_of") fd
  f_look_given : ∃ fd, FnP K "look_given" "look_given" s_look_given [] [] (He.ga K "look_given") fd
  f_place_told : ∃ fd, FnP K "place_told" "place_told" s_place_told [] [] (He.ga K "place_told") fd
  f_combined : ∃ fd, FnP K "combined" "combined" s_combined [] [] (He.ga K "combined") fd
  f_number_of : ∃ fd, FnP K "number_of" "number_of" s_number_of [] [] (He.ga K "number_of") fd
  f_numbers_of : ∃ fd, FnP K "numbers_of" "numbers_of" s_numbers_of [] [("figures", .non)] (He.ga K "numbers_of") fd
  f_cut_span : ∃ fd, FnP K "cut_span" "cut_span" s_cut_span [] [] (He.ga K "cut_span") fd
  f_Forms_init : ∃ fd, FnP K "__init__" "Forms.__init__" s_Forms_init [] [] (He.ma K (He.ga K "Forms") "__init__") fd
  f_Forms_cut : ∃ fd, FnP K "cut" "Forms.cut" s_Forms_cut [] [] (He.ma K (He.ga K "Forms") "cut") fd
  f_Forms_ends : ∃ fd, FnP K "ends" "Forms.ends" s_Forms_ends [] [] (He.ma K (He.ga K "Forms") "ends") fd
  f_Forms_between : ∃ fd, FnP K "between" "Forms.between" s_Forms_between [] [] (He.ma K (He.ga K "Forms") "between") fd
  f_fixed_form : ∃ fd, FnP K "fixed_form" "fixed_form" s_fixed_form [] [] (He.ga K "fixed_form") fd
  f_times_form : ∃ fd, FnP K "times_form" "times_form" s_times_form [] [] (He.ga K "times_form") fd
  f_sum_form : ∃ fd, FnP K "sum_form" "sum_form" s_sum_form [] [] (He.ga K "sum_form") fd
  f_form_of : ∃ fd, FnP K "form_of" "form_of" s_form_of [] [] (He.ga K "form_of") fd
  f_noise_of : ∃ fd, FnP K "noise_of" "noise_of" s_noise_of [] [("figures", .int 8), ("fine", .int 6)] (He.ga K "noise_of") fd
  f_off_by : ∃ fd, FnP K "off_by" "off_by" s_off_by [] [("figures", .int 8)] (He.ga K "off_by") fd
  f_law_dip : ∃ fd, FnP K "_law_dip" "_law_dip" s_law_dip [] [] (He.ga K "_law_dip") fd
  f_law_take : ∃ fd, FnP K "_law_take" "_law_take" s_law_take [] [] (He.ga K "_law_take") fd
  f_law_folded : ∃ fd, FnP K "_law_folded" "_law_folded" s_law_folded [] [] (He.ga K "_law_folded") fd
  f_law_one_of : ∃ fd, FnP K "_law_one_of" "_law_one_of" s_law_one_of [] [] (He.ga K "_law_one_of") fd
  f_law_strewn : ∃ fd, FnP K "_law_strewn" "_law_strewn" s_law_strewn [] [] (He.ga K "_law_strewn") fd
  f_law_keywords : ∃ fd, FnP K "_law_keywords" "_law_keywords" s_law_keywords [] [] (He.ga K "_law_keywords") fd
  f_law_named : ∃ fd, FnP K "_law_named" "_law_named" s_law_named [] [] (He.ga K "_law_named") fd
  f_law_same : ∃ fd, FnP K "_law_same" "_law_same" s_law_same [] [] (He.ga K "_law_same") fd
  f_law_num : ∃ fd, FnP K "_law_num" "_law_num" s_law_num [] [] (He.ga K "_law_num") fd
  f_law_add : ∃ fd, FnP K "_law_add" "_law_add" s_law_add [] [] (He.ga K "_law_add") fd
  f_law_sub : ∃ fd, FnP K "_law_sub" "_law_sub" s_law_sub [] [] (He.ga K "_law_sub") fd
  f_law_mul : ∃ fd, FnP K "_law_mul" "_law_mul" s_law_mul [] [] (He.ga K "_law_mul") fd
  f_law_below : ∃ fd, FnP K "_law_below" "_law_below" s_law_below [] [] (He.ga K "_law_below") fd
  f_law_floor : ∃ fd, FnP K "_law_floor" "_law_floor" s_law_floor [] [] (He.ga K "_law_floor") fd
  f_law_value : ∃ fd, FnP K "_law_value" "_law_value" s_law_value [] [] (He.ga K "_law_value") fd
  f_law_spring_rows : ∃ fd, FnP K "_law_spring_rows" "_law_spring_rows" s_law_spring_rows [] [] (He.ga K "_law_spring_rows") fd
  f_law_more_row : ∃ fd, FnP K "_law_more_row" "_law_more_row" s_law_more_row [] [] (He.ga K "_law_more_row") fd
  f_law_joined : ∃ fd, FnP K "_law_joined" "_law_joined" s_law_joined [] [] (He.ga K "_law_joined") fd
  f_law_come_to : ∃ fd, FnP K "_law_come_to" "_law_come_to" s_law_come_to [] [] (He.ga K "_law_come_to") fd
  f_law_graph_drawn : ∃ fd, FnP K "_law_graph_drawn" "_law_graph_drawn" s_law_graph_drawn [] [] (He.ga K "_law_graph_drawn") fd
  f_law_graph_of : ∃ fd, FnP K "_law_graph_of" "_law_graph_of" s_law_graph_of [] [] (He.ga K "_law_graph_of") fd
  f_law_springs_of : ∃ fd, FnP K "_law_springs_of" "_law_springs_of" s_law_springs_of [] [] (He.ga K "_law_springs_of") fd
  f_law_told_by : ∃ fd, FnP K "_law_told_by" "_law_told_by" s_law_told_by [] [] (He.ga K "_law_told_by") fd
  f_law_lists : ∃ fd, FnP K "_law_lists" "_law_lists" s_law_lists [] [] (He.ga K "_law_lists") fd
  f_law_one_number : ∃ fd, FnP K "_law_one_number" "_law_one_number" s_law_one_number [] [] (He.ga K "_law_one_number") fd
  f_law_places : ∃ fd, FnP K "_law_places" "_law_places" s_law_places [] [] (He.ga K "_law_places") fd
  f_law_bounds : ∃ fd, FnP K "_law_bounds" "_law_bounds" s_law_bounds [] [] (He.ga K "_law_bounds") fd
  f_law_graph_right : ∃ fd, FnP K "_law_graph_right" "_law_graph_right" s_law_graph_right [] [] (He.ga K "_law_graph_right") fd
  f_law_spring_right : ∃ fd, FnP K "_law_spring_right" "_law_spring_right" s_law_spring_right [] [] (He.ga K "_law_spring_right") fd
  f_law_right : ∃ fd, FnP K "_law_right" "_law_right" s_law_right [] [] (He.ga K "_law_right") fd
  f_law : ∃ fd, FnP K "law" "law" s_law [] [] (He.ga K "law") fd
  cl : Cls K (He.ga K "Forms")
  nS : NoAttr K (He.ga K "Forms") "spans"
  m_cut : Meth K (He.ga K "Forms") "cut" (He.ma K (He.ga K "Forms") "cut")
  m_ends : Meth K (He.ga K "Forms") "ends" (He.ma K (He.ga K "Forms") "ends")
  m_between : Meth K (He.ga K "Forms") "between" (He.ma K (He.ga K "Forms") "between")
  mkF : Mk K (He.ga K "Forms") (He.ma K (He.ga K "Forms") "__init__")
  kU : PySem.W.keepIn K (.ref (He.ga K "Unsure")) = true
  iFig : ∃ t, mg "FIGURES" = some (.int 8 t)
  iFine : ∃ t, mg "FINE" = some (.int 6 t)
  nought : ∀ H : Hp, SqT K H (He.ga K "NOUGHT") [.int 0, .int 1]
  ex : exB K = true
section
variable {P : Program} {w : World} {K : PySem.W.Frag} {mg : Str → Option Value} {base : Heap}
/-- a def's body that lets no exception out -/
theorem okN {x q : Str} {st : Stmt} {dv : List V} {kw : List (Str × V)} {f : Addr} {fd : FuncData} {N ps : List Str} {k : Nat} {sp : Sp} (F : FnP K x q st dv kw f fd) (S : FnScope N ps (defScope st))
    (len : ∀ vs H Q E, sp vs H Q E → vs.length = ps.length)
    (go : ∀ (cdv : Value) (A : Around) (outer : List Env) (s : Shared) (H : Hp) (vs : List V) (Q : VK) (E : XK), Room k (A.deeper (envOfC q (defScope st) s.heap.objs.size f cdv)) → sp vs H Q E →
      ∃ t, PSs (cxOf CX0 P w K mg base N q (defScope st) f cdv A outer s H E).nox (defBody st) t ∧ t { nx := fun _ H' => Q .non H', rt := Q } (start N vs) H) : FnOk P w K mg base CX0 (k + 1) f fd ps sp := by
  refine F.ok S len fun cdv A outer s H vs Q E hr hsp => ?_
  obtain ⟨t, h, q⟩ := go cdv A outer s H vs Q E hr hsp
  exact ⟨t, h.nox, q⟩
/-- the module's def x, called by position: its promise, the defaults that fill up -/
structure Cal (P : Program) (w : World) (K : PySem.W.Frag) (mg : Str → Option Value) (base : Heap) (x : Str) (ps : List Str) (dvs : List V) (k : Nat) (sp : Sp) : Prop where
  ex : ∃ fd ds, FnOk P w K mg base CX0 k (He.ga K x) fd ps sp ∧ Binds K fd ps ds ∧ Vals dvs ds
  g : mg x = some (.ref (He.ga K x))
  kp : PySem.W.keepIn K (.ref (He.ga K x)) = true
theorem Cal.mono {x : Str} {ps : List Str} {dvs : List V} {j k : Nat} {sp : Sp} (C : Cal P w K mg base x ps dvs j sp) (h : j ≤ k) : Cal P w K mg base x ps dvs k sp := by
  obtain ⟨⟨fd, ds, F, b, v⟩, g, kp⟩ := C
  exact ⟨⟨fd, ds, F.mono h, b, v⟩, g, kp⟩
theorem Cal.imp {x : Str} {ps : List Str} {dvs : List V} {k : Nat} {sp sp' : Sp} (C : Cal P w K mg base x ps dvs k sp) (h : ∀ vs H Q E, sp' vs H Q E → sp vs H Q E) : Cal P w K mg base x ps dvs k sp' := by
  obtain ⟨⟨fd, ds, F, b, v⟩, g, kp⟩ := C
  exact ⟨⟨fd, ds, F.imp h, b, v⟩, g, kp⟩
/-- a def of no defaults -/
theorem cal_of {x : Str} {st : Stmt} {ps : List Str} {k : Nat} {sp : Sp} (g : mg x = some (.ref (He.ga K x))) (F : ∃ fd, FnP K x x st [] [] (He.ga K x) fd)
    (b : ∀ (kV doc pm : Value) (an : Option Addr) (cdv ct : Value) (us : List Value), us.length = ps.length → bindArgs (PySem.W.fnOf x x (defArgs st) (defBody st) (defScope st) .none kV doc pm an cdv ct) ⟨us, []⟩ = pure (ps.zip us))
    (ok : ∀ fd, FnP K x x st [] [] (He.ga K x) fd → FnOk P w K mg base CX0 k (He.ga K x) fd ps sp) : Cal P w K mg base x ps [] k sp := by
  obtain ⟨fd, F⟩ := F
  exact ⟨⟨fd, [], ok fd F, F.bindsN b, .nil⟩, g, F.kp⟩
end
section
variable {X : Cx} {k : Nat} {ps : List Str} {sp : Sp} {dvs : List V} {x : Str} {p pos : Pos} {e : Expr} {es : List Expr} {t : TA}
/-- f(e, ..) of the module's def f -/
theorem pe_cal (C : Cal X.prog X.w X.K X.mg X.base x ps dvs k sp) (hr : Room k X.A) (ha : PA X (e :: es) t) (hg : Gl X x := by rfl) (hdb : (x == ("__debug__" : Str)) = false := by decide)
    (he : starEach (e :: es) X.env = (false, eval e X.env) :: starEach es X.env := by rfl) (hpl : (backTo pos (starEach es X.env)).any (·.1) = false := by rfl) : PE X (.Call (.Name x p) (e :: es) [] pos) (tCall sp dvs E0 t) := by
  obtain ⟨⟨fd, ds, F, b, v⟩, g, kp⟩ := C
  exact pe_call F hr hg g kp b v pass0 ha hdb he hpl
end
/-- the layer's rules with the written part named, for blocks within a def -/
theorem ixL {X : Cx} {K : PySem.W.Frag} (hK : X.K = K := by rfl) : IxR X (rIxL K) := hK ▸ ix_list
theorem ixT {X : Cx} {K : PySem.W.Frag} (hK : X.K = K := by rfl) : IxR X (rIxT K) := hK ▸ ix_tup
theorem opIn {X : Cx} {K : PySem.W.Frag} (hK : X.K = K := by rfl) : OpR X (compareOp .In) (rIn K false) := hK ▸ op_in_seq
theorem opNotIn {X : Cx} {K : PySem.W.Frag} (hK : X.K = K := by rfl) : OpR X (compareOp .NotIn) (rIn K true) := hK ▸ op_notIn_seq
/-! ### heaps: tuples stand for ever -/
/-- all tuples are kept -/
def TK (K : PySem.W.Frag) (H H' : Hp) : Prop := ∀ a xs, SqT K H a xs → SqT K H' a xs
theorem TK.refl {K : PySem.W.Frag} (H : Hp) : TK K H H := fun _ _ h => h
theorem TK.trans {K : PySem.W.Frag} {H H1 H2 : Hp} (a : TK K H H1) (b : TK K H1 H2) : TK K H H2 := fun x o h => b x o (a x o h)
theorem tk_same {K : PySem.W.Frag} {H H' : Hp} (e : Same H H') : TK K H H' := fun a xs h => by
  rcases h with (h | ⟨o, h⟩) | h
  · exact .inl (.inl (e _ _ h))
  · exact .inl (.inr ⟨o, e _ _ h⟩)
  · exact .inr h
theorem same_upd {H : Hp} {p : Addr} {o : HO} (h : H p = none) : Same H (upd H p o) := fun b x e => by
  rw [upd_ne (ne_of_none e h)]
  exact e
/-- a NUMBER stands at v -/
def NumV (K : PySem.W.Frag) (H : Hp) (v : V) (q : Rat) : Prop := ∃ a, v = .ref a ∧ SqT K H a [.int q.num, .int (q.den : Int)]
theorem NumV.tk {K : PySem.W.Frag} {H H' : Hp} {v : V} {q : Rat} (h : NumV K H v q) (e : TK K H H') : NumV K H' v q := by
  obtain ⟨a, e1, h⟩ := h
  exact ⟨a, e1, e _ _ h⟩
theorem NumV.same {K : PySem.W.Frag} {H H' : Hp} {v : V} {q : Rat} (h : NumV K H v q) (e : Same H H') : NumV K H' v q := h.tk (tk_same e)
end K70
/-! K70, part C: NUMBERs' defs. -/
namespace K70
open PySem PySem.Spec PyProof.Rows L2
section
variable {P : Program} {w : World} {K : PySem.W.Frag} {mg : Str → Option Value} {base : Heap}
/-! ### halvings_of -/
def sp_halvings_of : Sp := fun vs H Q _ => ∃ k : Nat, vs = [.int (2 ^ k)] ∧ Q (.int k) H
theorem sc_halvings_of : FnScope ["parts", "found"] ["parts"] (defScope s_halvings_of) := ⟨rfl, rfl, rfl, by decide +kernel, rfl, by decide +kernel, by decide +kernel⟩
theorem c_halvings_of (T : TX K mg) : Cal P w K mg base "halvings_of" ["parts"] [] 1 sp_halvings_of := by
  refine cal_of T.g_halvings_of T.f_halvings_of (fun _ _ _ _ _ _ us hl => match us, hl with | [_], _ => rfl) fun fd F => okN F sc_halvings_of (fun vs H Q E h => ?_) (fun cdv A outer s H vs Q E hr h => ?_)
  · obtain ⟨k, rfl, _⟩ := h
    rfl
  · obtain ⟨k, rfl, q⟩ := h
    refine ⟨_, pss_cons (ps_set (i := 1) sc_halvings_of.nd rfl (Or.inl rfl) pe_int)
      (pss_cons (ps_while PassesOwn.never (pt_cmpR op_eq (pe_op op_mod (pv 0) pe_int) pe_int (nomark _))
        (pss_cons (ps_aug (i := 0) sc_halvings_of.nd rfl (Or.inl rfl) pe_int iop_fdiv) (pss_one (ps_aug (i := 1) sc_halvings_of.nd rfl (Or.inl rfl) pe_int ip_add))))
      (pss_one (ps_ret (pv 1)))), ?_⟩
    refine ⟨fun m σ H' => H' = H ∧ m ≤ k ∧ σ = [some (.int (2 ^ m)), some (.int ((k - m : Nat) : Int))], ⟨k, rfl, Nat.le_refl _, by rw [Nat.sub_self]; rfl⟩, ?_⟩
    rintro m σ H' ⟨rfl, hm, rfl⟩
    refine ⟨_, rfl, _, _, rfl, rfl, (show (0 : Int) < 2 by decide), rfl, _, rfl, ?_⟩
    cases m with
    | zero =>
      refine iteF ⟨_, rfl, ?_⟩
      rw [Nat.sub_zero]
      exact q
    | succ m =>
      have e0 : ((2 : Int) ^ (m + 1)) = 2 * 2 ^ m := by rw [Int.pow_succ, Int.mul_comm]
      have e1 : decide (V.int ((2 : Int) ^ (m + 1) % 2) = V.int 0) = true := decide_eq_true (by rw [e0, Int.mul_emod_right])
      rw [e1]
      refine iteT ⟨fun σ' H'' => H'' = H' ∧ σ' = [some (.int (2 ^ m)), some (.int ((k - m : Nat) : Int))], fun σ' H'' z => ⟨m, Nat.lt_succ_self m, z.1, by omega, z.2⟩, ?_⟩
      refine ⟨_, rfl, _, _, rfl, rfl, ⟨by decide, by decide⟩, _, rfl, _, _, rfl, rfl, rfl, ?_⟩
      have e2 : ((k - (m + 1) : Nat) : Int) + 1 = ((k - m : Nat) : Int) := by omega
      have e3 : (2 : Int) ^ (m + 1) / 2 = 2 ^ m := by rw [e0, Int.mul_ediv_cancel_left _ (by decide)]
      show [some (V.int ((2 : Int) ^ (m + 1) / 2)), some (V.int (((k - (m + 1) : Nat) : Int) + 1))] = _
      rw [e2, e3]
/-! ### power_of -/
def sp_power_of : Sp := fun vs H Q _ => ∃ k : Nat, vs = [.int k] ∧ k ≤ 4000 ∧ Q (.int (2 ^ k)) H
theorem sc_power_of : FnScope ["figures", "found", "turn"] ["figures"] (defScope s_power_of) := ⟨rfl, rfl, rfl, by decide +kernel, rfl, by decide +kernel, by decide +kernel⟩
theorem c_power_of (T : TX K mg) : Cal P w K mg base "power_of" ["figures"] [] 1 sp_power_of := by
  refine cal_of T.g_power_of T.f_power_of (fun _ _ _ _ _ _ us hl => match us, hl with | [_], _ => rfl) fun fd F => okN F sc_power_of (fun vs H Q E h => ?_) (fun cdv A outer s H vs Q E hr h => ?_)
  · obtain ⟨k, rfl, _⟩ := h
    rfl
  · obtain ⟨k, rfl, hk, q⟩ := h
    refine ⟨_, pss_cons (ps_set (i := 1) sc_power_of.nd rfl (Or.inl rfl) pe_int)
      (pss_cons (ps_for PassesOwn.never rfl (pi_range1 rfl T.z_range (pa_cons (pv 0) pa_nil)) (pg_name (i := 2) sc_power_of.nd rfl (Or.inl rfl))
        (pss_one (ps_aug (i := 1) sc_power_of.nd rfl (Or.inl rfl) pe_int iop_mul)))
      (pss_one (ps_ret (pv 1)))), ?_⟩
    refine ⟨_, rfl, k, rfl, by omega, by omega, for_range (n := k) (fun i σ H' => H' = H ∧ ∃ y, σ = [some (.int k), some (.int (2 ^ i)), y]) ⟨rfl, none, rfl⟩ ?_ ?_⟩
    · rintro i σ H' hi ⟨rfl, y, rfl⟩
      refine ⟨_, rfl, _, _, rfl, rfl, .inr ⟨by decide, by decide⟩, rfl, some (.int (0 + i)), ?_⟩
      show [some (V.int k), some (V.int ((2 : Int) ^ i * 2)), _] = _
      rw [← Int.pow_succ]
    · rintro σ H' ⟨rfl, y, rfl⟩
      exact ⟨_, rfl, q⟩
/-! ### num_of -/
theorem dec_int {i j : Int} (h : i ≠ j) : decide (V.int i = V.int j) = false := decide_eq_false fun z => h (V.int.inj z)
theorem num_new {K : PySem.W.Frag} {H : Hp} {p : Addr} {q : Rat} (hp : H p = none) : NumV K (upd H p (.tup [.int q.num, .int (q.den : Int)])) (.ref p) q := ⟨p, rfl, .inl (.inl upd_same)⟩
theorem num_mk {K : PySem.W.Frag} {H : Hp} {p : Addr} {q : Rat} {x y : V} (hp : H p = none) (h1 : x = .int q.num) (h2 : y = .int (q.den : Int)) : NumV K (upd H p (.tup [x, y])) (.ref p) q := by
  subst h1 h2
  exact num_new hp
def sp_num_of (K : PySem.W.Frag) : Sp := fun vs H Q _ => ∃ (n p : Int) (k : Nat), vs = [.int n, .int p] ∧ p = 2 ^ k ∧ k ≤ 8000 ∧ ∀ v H', Same H H' → NumV K H' v (mkRat n (2 ^ k)) → Q v H'
theorem natAbs_two_pow {k m : Nat} (h : k < m) : ((2 : Int) ^ k).natAbs < 2 ^ m := by
  rw [Int.natAbs_pow]
  exact Nat.pow_lt_pow_right (by decide) h
/-! ### num_of -/
abbrev n_num_of : List Str := ["number", "parts", "common"]
theorem sc_num_of : FnScope n_num_of ["number", "parts"] (defScope s_num_of) := ⟨rfl, rfl, rfl, by decide +kernel, rfl, by decide +kernel, by decide +kernel⟩
theorem c_num_of (T : TX K mg) : Cal P w K mg base "num_of" ["number", "parts"] [] 1 (sp_num_of K) := by
  obtain ⟨fd, F⟩ := T.f_num_of
  obtain ⟨ds, hv, hb⟩ := F.binds1 (ps := ["number", "parts"]) 2 1 (by decide) rfl fun _ _ _ _ _ _ _ us its hu hi => match us, hu, its, hi with | [_, _], _, [_], _ => ⟨_, rfl, rfl⟩
  refine ⟨⟨fd, ds, ?_, hb, hv⟩, T.g_num_of, F.kp⟩
  refine okN F sc_num_of (fun vs H Q E h => ?_) (fun cdv A outer s H vs Q E hr h => ?_)
  · obtain ⟨n, p, k, rfl, _⟩ := h
    rfl
  · obtain ⟨n, p, k, rfl, hp, hk, q⟩ := h
    refine ⟨_, 
      (pss_cons
        (ps_if (pt_cmpR op_eq (pv 0) pe_int (nomark _))
          (pss_one
            (ps_ret (pe_tup (pa_cons pe_int (pa_cons pe_int pa_nil)))))
          pss_nil)
      (pss_cons
        (ps_set (i := 2) sc_num_of.nd rfl (by first | exact Or.inl rfl | exact Or.inr rfl) (pe_callB (call_min2 rfl) (by rfl) T.z_min (by decide +kernel) (pa_cons (pv 1) (pa_cons (pe_op op_and (pv 0) (pe_un un_neg (pv 0))) pa_nil))))
      (pss_one
        (ps_ret (pe_tup (pa_cons (pe_op op_fdivW (pv 0) (pv 2)) (pa_cons (pe_op op_fdivW (pv 1) (pv 2)) pa_nil))))))), ?_⟩
    refine ⟨_, rfl, rfl, _, rfl, ?_⟩
    by_cases h0 : n = 0
    · subst h0
      refine iteT ⟨by show 2 ≤ sizeLine; decide, fun a ha => q _ _ (same_upd ha) ?_⟩
      rw [Rat.zero_mkRat]
      exact num_new (q := 0) ha
    · rw [dec_int h0]
      obtain ⟨e1, e2, e3, e4⟩ := num_of_eq (k := k) hp h0
      have e5 : (if Builtin.bitAnd n (-n) < p then Builtin.bitAnd n (-n) else p) = min p (Builtin.bitAnd n (-n)) := by
        rw [Int.min_def]
        split <;> split <;> omega
      refine iteF ⟨_, rfl, _, rfl, _, rfl, _, rfl, _, _, rfl, rfl, _, _, rfl, ?_⟩
      rw [e5]
      have hc : (min p (Builtin.bitAnd n (-n))).natAbs < 2 ^ 8500 := by
        have : p.natAbs < 2 ^ 8500 := by
          rw [hp]
          exact natAbs_two_pow (by omega)
        omega
      refine ⟨_, rfl, _, rfl, _, _, rfl, rfl, wide_div e3 hc (by decide) (by decide), _, rfl, _, rfl, _, _, rfl, rfl, wide_div e3 hc (by decide) (by decide), by show 2 ≤ sizeLine; decide, fun a ha => q _ _ (same_upd ha) ?_⟩
      exact num_mk ha (congrArg V.int e1) (congrArg V.int e2)
/-! ### the others, of two NUMBERs -/
theorem at0 {α : Type} {x : α} {r : List α} : atI (x :: r) 0 = some x := atI_nat (j := 0) rfl
theorem at1 {α : Type} {x y : α} {r : List α} : atI (x :: y :: r) 1 = some y := atI_nat (j := 1) rfl
theorem at2 {α : Type} {x y z : α} {r : List α} : atI (x :: y :: z :: r) 2 = some z := atI_nat (j := 2) rfl
theorem at3 {α : Type} {x y z u : α} {r : List α} : atI (x :: y :: z :: u :: r) 3 = some u := atI_nat (j := 3) rfl
theorem Bd.mul1 {a b : Rat} (ha : Bd a) (hb : Bd b) : CMulW a.num (b.den : Int) := by
  obtain ⟨j, hj, e⟩ := hb.exp
  refine wide_mul (a := 400000) (b := 2001) ha.num ?_ (by decide) (by decide) (by decide)
  rw [Int.natAbs_natCast, e]
  exact Nat.pow_lt_pow_right (by decide) (by omega)
theorem Bd.mul2 {a b : Rat} (ha : Bd a) (hb : Bd b) : CMulW (a.den : Int) (b.den : Int) := by
  obtain ⟨j, hj, e⟩ := hb.exp
  obtain ⟨k, hk, e'⟩ := ha.exp
  refine wide_mul (a := 2001) (b := 2001) ?_ ?_ (by decide) (by decide) (by decide)
  · rw [Int.natAbs_natCast, e']
    exact Nat.pow_lt_pow_right (by decide) (by omega)
  · rw [Int.natAbs_natCast, e]
    exact Nat.pow_lt_pow_right (by decide) (by omega)
theorem Bd.mul3 {a b : Rat} (ha : Bd a) (hb : Bd b) : CMulW a.num b.num := wide_mul (a := 400000) (b := 400000) ha.num hb.num (by decide) (by decide) (by decide)
theorem Bd.dens {a b : Rat} (ha : Bd a) (hb : Bd b) : ∃ k, k ≤ 8000 ∧ a.den * b.den = 2 ^ k ∧ (a.den : Int) * (b.den : Int) = 2 ^ k := by
  obtain ⟨j, hj, e⟩ := hb.exp
  obtain ⟨k, hk, e'⟩ := ha.exp
  have e2 : a.den * b.den = 2 ^ (k + j) := by rw [e, e', Nat.pow_add]
  refine ⟨k + j, by omega, e2, ?_⟩
  rw [← Int.natCast_mul, e2, Int.natCast_pow]
  rfl
def sp_bin (K : PySem.W.Frag) (f : Rat → Rat → Rat) : Sp := fun vs H Q _ => ∃ (v1 v2 : V) (a b : Rat), vs = [v1, v2] ∧ NumV K H v1 a ∧ NumV K H v2 b ∧ Bd a ∧ Bd b ∧ ∀ v H', Same H H' → NumV K H' v (f a b) → Q v H'
/-! ### sum_of -/
abbrev n_sum_of : List Str := ["one", "other"]
theorem sc_sum_of : FnScope n_sum_of ["one", "other"] (defScope s_sum_of) := ⟨rfl, rfl, rfl, by decide +kernel, rfl, by decide +kernel, by decide +kernel⟩
theorem c_sum_of (T : TX K mg) : Cal P w K mg base "sum_of" ["one", "other"] [] 2 (sp_bin K fun a b => a + b) := by
  refine cal_of T.g_sum_of T.f_sum_of (fun _ _ _ _ _ _ us hl => match us, hl with | [_, _], _ => rfl) fun fd F => okN F sc_sum_of (fun vs H Q E h => ?_) (fun cdv A outer s H vs Q E hr h => ?_)
  · obtain ⟨_, _, a, b, rfl, ⟨p1, rfl, h1⟩, ⟨p2, rfl, h2⟩, ba, bb, q⟩ := h
    rfl
  · obtain ⟨_, _, a, b, rfl, ⟨p1, rfl, h1⟩, ⟨p2, rfl, h2⟩, ba, bb, q⟩ := h
    refine ⟨_, 
      (pss_one
        (ps_ret (pe_cal (c_num_of T) (hr.mono (by decide)) (pa_cons (pe_op op_add (pe_op op_mulW (pe_ix ix_tup (pv 0) pe_int (fun _ _ => rfl)) (pe_ix ix_tup (pv 1) pe_int (fun _ _ => rfl))) (pe_op op_mulW (pe_ix ix_tup (pv 1) pe_int (fun _ _ => rfl)) (pe_ix ix_tup (pv 0) pe_int (fun _ _ => rfl)))) (pa_cons (pe_op op_mulW (pe_ix ix_tup (pv 0) pe_int (fun _ _ => rfl)) (pe_ix ix_tup (pv 1) pe_int (fun _ _ => rfl))) pa_nil))))), ?_⟩
    obtain ⟨k, hk, e1, e2⟩ := ba.dens bb
    refine ⟨_, rfl, p1, _, 0, _, rfl, rfl, h1, at0, _, rfl, p2, _, 1, _, rfl, rfl, h2, at1, _, _, rfl, rfl, ba.mul1 bb, _, rfl, p2, _, 0, _, rfl, rfl, h2, at0, _, rfl, p1, _, 1, _, rfl, rfl, h1, at1, _, _, rfl, rfl, bb.mul1 ba, _, _, rfl, rfl, _, rfl, p1, _, 1, _, rfl, rfl, h1, at1, _, rfl, p2, _, 1, _, rfl, rfl, h2, at1, _, _, rfl, rfl, ba.mul2 bb, ?_⟩
    refine ⟨_, _, k, rfl, e2, hk, fun v H' s' n' => q v H' s' ?_⟩
    show NumV K H' v (a + b)
    rw [Rat.add_def', e1]
    exact n'
/-! ### less_of -/
abbrev n_less_of : List Str := ["one", "other"]
theorem sc_less_of : FnScope n_less_of ["one", "other"] (defScope s_less_of) := ⟨rfl, rfl, rfl, by decide +kernel, rfl, by decide +kernel, by decide +kernel⟩
theorem c_less_of (T : TX K mg) : Cal P w K mg base "less_of" ["one", "other"] [] 2 (sp_bin K fun a b => a - b) := by
  refine cal_of T.g_less_of T.f_less_of (fun _ _ _ _ _ _ us hl => match us, hl with | [_, _], _ => rfl) fun fd F => okN F sc_less_of (fun vs H Q E h => ?_) (fun cdv A outer s H vs Q E hr h => ?_)
  · obtain ⟨_, _, a, b, rfl, ⟨p1, rfl, h1⟩, ⟨p2, rfl, h2⟩, ba, bb, q⟩ := h
    rfl
  · obtain ⟨_, _, a, b, rfl, ⟨p1, rfl, h1⟩, ⟨p2, rfl, h2⟩, ba, bb, q⟩ := h
    refine ⟨_, 
      (pss_one
        (ps_ret (pe_cal (c_num_of T) (hr.mono (by decide)) (pa_cons (pe_op op_sub (pe_op op_mulW (pe_ix ix_tup (pv 0) pe_int (fun _ _ => rfl)) (pe_ix ix_tup (pv 1) pe_int (fun _ _ => rfl))) (pe_op op_mulW (pe_ix ix_tup (pv 1) pe_int (fun _ _ => rfl)) (pe_ix ix_tup (pv 0) pe_int (fun _ _ => rfl)))) (pa_cons (pe_op op_mulW (pe_ix ix_tup (pv 0) pe_int (fun _ _ => rfl)) (pe_ix ix_tup (pv 1) pe_int (fun _ _ => rfl))) pa_nil))))), ?_⟩
    obtain ⟨k, hk, e1, e2⟩ := ba.dens bb
    refine ⟨_, rfl, p1, _, 0, _, rfl, rfl, h1, at0, _, rfl, p2, _, 1, _, rfl, rfl, h2, at1, _, _, rfl, rfl, ba.mul1 bb, _, rfl, p2, _, 0, _, rfl, rfl, h2, at0, _, rfl, p1, _, 1, _, rfl, rfl, h1, at1, _, _, rfl, rfl, bb.mul1 ba, _, _, rfl, rfl, _, rfl, p1, _, 1, _, rfl, rfl, h1, at1, _, rfl, p2, _, 1, _, rfl, rfl, h2, at1, _, _, rfl, rfl, ba.mul2 bb, ?_⟩
    refine ⟨_, _, k, rfl, e2, hk, fun v H' s' n' => q v H' s' ?_⟩
    show NumV K H' v (a - b)
    rw [Rat.sub_def', e1]
    exact n'
/-! ### times_of -/
abbrev n_times_of : List Str := ["one", "other"]
theorem sc_times_of : FnScope n_times_of ["one", "other"] (defScope s_times_of) := ⟨rfl, rfl, rfl, by decide +kernel, rfl, by decide +kernel, by decide +kernel⟩
theorem c_times_of (T : TX K mg) : Cal P w K mg base "times_of" ["one", "other"] [] 2 (sp_bin K fun a b => a * b) := by
  refine cal_of T.g_times_of T.f_times_of (fun _ _ _ _ _ _ us hl => match us, hl with | [_, _], _ => rfl) fun fd F => okN F sc_times_of (fun vs H Q E h => ?_) (fun cdv A outer s H vs Q E hr h => ?_)
  · obtain ⟨_, _, a, b, rfl, ⟨p1, rfl, h1⟩, ⟨p2, rfl, h2⟩, ba, bb, q⟩ := h
    rfl
  · obtain ⟨_, _, a, b, rfl, ⟨p1, rfl, h1⟩, ⟨p2, rfl, h2⟩, ba, bb, q⟩ := h
    refine ⟨_, 
      (pss_one
        (ps_ret (pe_cal (c_num_of T) (hr.mono (by decide)) (pa_cons (pe_op op_mulW (pe_ix ix_tup (pv 0) pe_int (fun _ _ => rfl)) (pe_ix ix_tup (pv 1) pe_int (fun _ _ => rfl))) (pa_cons (pe_op op_mulW (pe_ix ix_tup (pv 0) pe_int (fun _ _ => rfl)) (pe_ix ix_tup (pv 1) pe_int (fun _ _ => rfl))) pa_nil))))), ?_⟩
    obtain ⟨k, hk, e1, e2⟩ := ba.dens bb
    refine ⟨_, rfl, p1, _, 0, _, rfl, rfl, h1, at0, _, rfl, p2, _, 0, _, rfl, rfl, h2, at0, _, _, rfl, rfl, ba.mul3 bb, _, rfl, p1, _, 1, _, rfl, rfl, h1, at1, _, rfl, p2, _, 1, _, rfl, rfl, h2, at1, _, _, rfl, rfl, ba.mul2 bb, ?_⟩
    refine ⟨_, _, k, rfl, e2, hk, fun v H' s' n' => q v H' s' ?_⟩
    show NumV K H' v (a * b)
    rw [Rat.mul_def', e1]
    exact n'
def sp_below (K : PySem.W.Frag) : Sp := fun vs H Q _ => ∃ (v1 v2 : V) (a b : Rat), vs = [v1, v2] ∧ NumV K H v1 a ∧ NumV K H v2 b ∧ Bd a ∧ Bd b ∧ Q (.bl (decide (a < b))) H
/-! ### is_below -/
abbrev n_is_below : List Str := ["one", "other"]
theorem sc_is_below : FnScope n_is_below ["one", "other"] (defScope s_is_below) := ⟨rfl, rfl, rfl, by decide +kernel, rfl, by decide +kernel, by decide +kernel⟩
theorem c_is_below (T : TX K mg) : Cal P w K mg base "is_below" ["one", "other"] [] 1 (sp_below K) := by
  refine cal_of T.g_is_below T.f_is_below (fun _ _ _ _ _ _ us hl => match us, hl with | [_, _], _ => rfl) fun fd F => okN F sc_is_below (fun vs H Q E h => ?_) (fun cdv A outer s H vs Q E hr h => ?_)
  · obtain ⟨_, _, a, b, rfl, ⟨p1, rfl, h1⟩, ⟨p2, rfl, h2⟩, ba, bb, q⟩ := h
    rfl
  · obtain ⟨_, _, a, b, rfl, ⟨p1, rfl, h1⟩, ⟨p2, rfl, h2⟩, ba, bb, q⟩ := h
    refine ⟨_, 
      (pss_one
        (ps_ret (pe_cmpR op_lt (pe_op op_mulW (pe_ix ix_tup (pv 0) pe_int (fun _ _ => rfl)) (pe_ix ix_tup (pv 1) pe_int (fun _ _ => rfl))) (pe_op op_mulW (pe_ix ix_tup (pv 1) pe_int (fun _ _ => rfl)) (pe_ix ix_tup (pv 0) pe_int (fun _ _ => rfl))) (nomark _)))), ?_⟩
    refine ⟨_, rfl, p1, _, 0, _, rfl, rfl, h1, at0, _, rfl, p2, _, 1, _, rfl, rfl, h2, at1, _, _, rfl, rfl, ba.mul1 bb, _, rfl, p2, _, 0, _, rfl, rfl, h2, at0, _, rfl, p1, _, 1, _, rfl, rfl, h1, at1, _, _, rfl, rfl, bb.mul1 ba, _, _, rfl, rfl, ?_⟩
    have e : decide (a.num * (b.den : Int) < b.num * (a.den : Int)) = decide (a < b) := decide_eq_decide.mpr (Rat.lt_iff a b).symm
    show Q (V.bl (decide (a.num * (b.den : Int) < b.num * (a.den : Int)))) H
    rw [e]
    exact q
def sp_figures_of (K : PySem.W.Frag) : Sp := fun vs H Q _ => ∃ (v : V) (a : Rat) (k : Nat), vs = [v] ∧ NumV K H v a ∧ a.den = 2 ^ k ∧ Q (.int k) H
/-! ### figures_of -/
abbrev n_figures_of : List Str := ["one"]
theorem sc_figures_of : FnScope n_figures_of ["one"] (defScope s_figures_of) := ⟨rfl, rfl, rfl, by decide +kernel, rfl, by decide +kernel, by decide +kernel⟩
theorem c_figures_of (T : TX K mg) : Cal P w K mg base "figures_of" ["one"] [] 2 (sp_figures_of K) := by
  refine cal_of T.g_figures_of T.f_figures_of (fun _ _ _ _ _ _ us hl => match us, hl with | [_], _ => rfl) fun fd F => okN F sc_figures_of (fun vs H Q E h => ?_) (fun cdv A outer s H vs Q E hr h => ?_)
  · obtain ⟨_, a, k, rfl, ⟨p1, rfl, h1⟩, e, q⟩ := h
    rfl
  · obtain ⟨_, a, k, rfl, ⟨p1, rfl, h1⟩, e, q⟩ := h
    refine ⟨_, 
      (pss_one
        (ps_ret (pe_cal (c_halvings_of T) (hr.mono (by decide)) (pa_cons (pe_ix ix_tup (pv 0) pe_int (fun _ _ => rfl)) pa_nil)))), ?_⟩
    refine ⟨_, rfl, p1, _, 1, _, rfl, rfl, h1, at1, k, ?_, q⟩
    rw [e, Int.natCast_pow]
    rfl
def sp_cut_of (K : PySem.W.Frag) : Sp := fun vs H Q _ => ∃ (v : V) (a : Rat) (k : Nat), vs = [v, .int k] ∧ NumV K H v a ∧ Bd a ∧ k ≤ 100 ∧ ∀ v H', Same H H' → NumV K H' v (cutR k a) → Q v H'
theorem Bd.wden {a : Rat} (ha : Bd a) : CDivW x (a.den : Int) := by
  obtain ⟨j, hj, e⟩ := ha.exp
  refine wide_div (b := 2001) ?_ ?_ (by decide) (by decide)
  · have := a.den_pos
    omega
  · rw [Int.natAbs_natCast, e]
    exact Nat.pow_lt_pow_right (by decide) (by omega)
/-! ### cut_of -/
abbrev n_cut_of : List Str := ["one", "figures", "parts"]
theorem sc_cut_of : FnScope n_cut_of ["one", "figures"] (defScope s_cut_of) := ⟨rfl, rfl, rfl, by decide +kernel, rfl, by decide +kernel, by decide +kernel⟩
theorem c_cut_of (T : TX K mg) : Cal P w K mg base "cut_of" ["one", "figures"] [] 2 (sp_cut_of K) := by
  refine cal_of T.g_cut_of T.f_cut_of (fun _ _ _ _ _ _ us hl => match us, hl with | [_, _], _ => rfl) fun fd F => okN F sc_cut_of (fun vs H Q E h => ?_) (fun cdv A outer s H vs Q E hr h => ?_)
  · obtain ⟨_, a, k, rfl, ⟨p1, rfl, h1⟩, ba, hk, q⟩ := h
    rfl
  · obtain ⟨_, a, k, rfl, ⟨p1, rfl, h1⟩, ba, hk, q⟩ := h
    refine ⟨_, 
      (pss_cons
        (ps_set (i := 2) sc_cut_of.nd rfl (by first | exact Or.inl rfl | exact Or.inr rfl) (pe_cal (c_power_of T) (hr.mono (by decide)) (pa_cons (pv 1) pa_nil)))
      (pss_one
        (ps_ret (pe_cal (c_num_of T) (hr.mono (by decide)) (pa_cons (pe_op op_fdivW (pe_op op_mulW (pe_ix ix_tup (pv 0) pe_int (fun _ _ => rfl)) (pv 2)) (pe_ix ix_tup (pv 0) pe_int (fun _ _ => rfl))) (pa_cons (pv 2) pa_nil)))))), ?_⟩
    refine ⟨_, rfl, k, rfl, by omega, ?_⟩
    refine ⟨_, rfl, p1, _, 0, _, rfl, rfl, h1, at0, _, rfl, _, _, rfl, rfl, wide_mul (a := 400000) (b := 200) ba.num (natAbs_two_pow (by omega)) (by decide) (by decide) (by decide), _, rfl, p1, _, 1, _, rfl, rfl, h1, at1, _, _, rfl, rfl, ba.wden, _, rfl, ?_⟩
    exact ⟨_, _, k, rfl, rfl, by omega, fun v H' s' n' => q v H' s' n'⟩
end
end K70
/-! K70, part D: the law's own NUMBERs. -/
namespace K70
open PySem PySem.Spec PyProof.Rows L2
section
variable {P : Program} {w : World} {K : PySem.W.Frag} {mg : Str → Option Value} {base : Heap}
/-! ### _law_num -/
abbrev n_law_num : List Str := ["_law_top", "_law_low", "_law_common"]
theorem sc_law_num : FnScope n_law_num ["_law_top", "_law_low"] (defScope s_law_num) := ⟨rfl, rfl, rfl, by decide +kernel, rfl, by decide +kernel, by decide +kernel⟩
theorem c_law_num (T : TX K mg) : Cal P w K mg base "_law_num" ["_law_top", "_law_low"] [] 1 (sp_num_of K) := by
  refine cal_of T.g_law_num T.f_law_num (fun _ _ _ _ _ _ us hl => match us, hl with | [_, _], _ => rfl) fun fd F => okN F sc_law_num (fun vs H Q E h => ?_) (fun cdv A outer s H vs Q E hr h => ?_)
  · obtain ⟨n, p, k, rfl, hp, hk, q⟩ := h
    rfl
  · obtain ⟨n, p, k, rfl, hp, hk, q⟩ := h
    refine ⟨_, 
      (pss_cons
        (ps_if (pt_cmpR op_eq (pv 0) pe_int (nomark _))
          (pss_one
            (ps_ret (pe_tup (pa_cons pe_int (pa_cons pe_int pa_nil)))))
          pss_nil)
      (pss_cons
        (ps_set (i := 2) sc_law_num.nd rfl (by first | exact Or.inl rfl | exact Or.inr rfl) (pe_callB (call_min2 rfl) (by rfl) T.z_min (by decide +kernel) (pa_cons (pv 1) (pa_cons (pe_op op_and (pv 0) (pe_op op_sub pe_int (pv 0))) pa_nil))))
      (pss_one
        (ps_ret (pe_tup (pa_cons (pe_op op_fdivW (pv 0) (pv 2)) (pa_cons (pe_op op_fdivW (pv 1) (pv 2)) pa_nil))))))), ?_⟩
    refine ⟨_, rfl, rfl, _, rfl, ?_⟩
    by_cases h0 : n = 0
    · subst h0
      refine iteT ⟨by show 2 ≤ sizeLine; decide, fun a ha => q _ _ (same_upd ha) ?_⟩
      rw [Rat.zero_mkRat]
      exact num_new (q := 0) ha
    · rw [dec_int h0]
      obtain ⟨e1, e2, e3, e4⟩ := num_of_eq (k := k) hp h0
      have e5 : (if Builtin.bitAnd n (0 - n) < p then Builtin.bitAnd n (0 - n) else p) = min p (Builtin.bitAnd n (-n)) := by
        rw [Int.min_def, Int.zero_sub]
        split <;> split <;> omega
      refine iteF ⟨_, rfl, _, rfl, _, rfl, _, _, rfl, rfl, _, _, rfl, rfl, _, _, rfl, ?_⟩
      rw [e5]
      have hc : (min p (Builtin.bitAnd n (-n))).natAbs < 2 ^ 8500 := by
        have : p.natAbs < 2 ^ 8500 := by
          rw [hp]
          exact natAbs_two_pow (by omega)
        omega
      refine ⟨_, rfl, _, rfl, _, _, rfl, rfl, wide_div e3 hc (by decide) (by decide), _, rfl, _, rfl, _, _, rfl, rfl, wide_div e3 hc (by decide) (by decide), by show 2 ≤ sizeLine; decide, fun a ha => q _ _ (same_upd ha) ?_⟩
      exact num_mk ha (congrArg V.int e1) (congrArg V.int e2)
/-! ### _law_add -/
abbrev n_law_add : List Str := ["_law_one", "_law_two"]
theorem sc_law_add : FnScope n_law_add ["_law_one", "_law_two"] (defScope s_law_add) := ⟨rfl, rfl, rfl, by decide +kernel, rfl, by decide +kernel, by decide +kernel⟩
theorem c_law_add (T : TX K mg) : Cal P w K mg base "_law_add" ["_law_one", "_law_two"] [] 2 (sp_bin K fun a b => a + b) := by
  refine cal_of T.g_law_add T.f_law_add (fun _ _ _ _ _ _ us hl => match us, hl with | [_, _], _ => rfl) fun fd F => okN F sc_law_add (fun vs H Q E h => ?_) (fun cdv A outer s H vs Q E hr h => ?_)
  · obtain ⟨_, _, a, b, rfl, ⟨p1, rfl, h1⟩, ⟨p2, rfl, h2⟩, ba, bb, q⟩ := h
    rfl
  · obtain ⟨_, _, a, b, rfl, ⟨p1, rfl, h1⟩, ⟨p2, rfl, h2⟩, ba, bb, q⟩ := h
    refine ⟨_, 
      (pss_one
        (ps_ret (pe_cal (c_law_num T) (hr.mono (by decide)) (pa_cons (pe_op op_add (pe_op op_mulW (pe_ix ix_tup (pv 0) pe_int (fun _ _ => rfl)) (pe_ix ix_tup (pv 1) pe_int (fun _ _ => rfl))) (pe_op op_mulW (pe_ix ix_tup (pv 1) pe_int (fun _ _ => rfl)) (pe_ix ix_tup (pv 0) pe_int (fun _ _ => rfl)))) (pa_cons (pe_op op_mulW (pe_ix ix_tup (pv 0) pe_int (fun _ _ => rfl)) (pe_ix ix_tup (pv 1) pe_int (fun _ _ => rfl))) pa_nil))))), ?_⟩
    obtain ⟨k, hk, e1, e2⟩ := ba.dens bb
    refine ⟨_, rfl, p1, _, 0, _, rfl, rfl, h1, at0, _, rfl, p2, _, 1, _, rfl, rfl, h2, at1, _, _, rfl, rfl, ba.mul1 bb, _, rfl, p2, _, 0, _, rfl, rfl, h2, at0, _, rfl, p1, _, 1, _, rfl, rfl, h1, at1, _, _, rfl, rfl, bb.mul1 ba, _, _, rfl, rfl, _, rfl, p1, _, 1, _, rfl, rfl, h1, at1, _, rfl, p2, _, 1, _, rfl, rfl, h2, at1, _, _, rfl, rfl, ba.mul2 bb, ?_⟩
    refine ⟨_, _, k, rfl, e2, hk, fun v H' s' n' => q v H' s' ?_⟩
    show NumV K H' v (a + b)
    rw [Rat.add_def', e1]
    exact n'
/-! ### _law_sub -/
abbrev n_law_sub : List Str := ["_law_one", "_law_two"]
theorem sc_law_sub : FnScope n_law_sub ["_law_one", "_law_two"] (defScope s_law_sub) := ⟨rfl, rfl, rfl, by decide +kernel, rfl, by decide +kernel, by decide +kernel⟩
theorem c_law_sub (T : TX K mg) : Cal P w K mg base "_law_sub" ["_law_one", "_law_two"] [] 3 (sp_bin K fun a b => a - b) := by
  refine cal_of T.g_law_sub T.f_law_sub (fun _ _ _ _ _ _ us hl => match us, hl with | [_, _], _ => rfl) fun fd F => okN F sc_law_sub (fun vs H Q E h => ?_) (fun cdv A outer s H vs Q E hr h => ?_)
  · obtain ⟨_, _, a, b, rfl, ⟨p1, rfl, h1⟩, ⟨p2, rfl, h2⟩, ba, bb, q⟩ := h
    rfl
  · obtain ⟨_, _, a, b, rfl, ⟨p1, rfl, h1⟩, ⟨p2, rfl, h2⟩, ba, bb, q⟩ := h
    refine ⟨_, 
      (pss_one
        (ps_ret (pe_cal (c_law_add T) (hr.mono (by decide)) (pa_cons (pv 0) (pa_cons (pe_tup (pa_cons (pe_op op_sub pe_int (pe_ix ix_tup (pv 1) pe_int (fun _ _ => rfl))) (pa_cons (pe_ix ix_tup (pv 1) pe_int (fun _ _ => rfl)) pa_nil))) pa_nil))))), ?_⟩
    refine ⟨_, rfl, _, rfl, p2, _, 0, _, rfl, rfl, h2, at0, _, _, rfl, rfl, _, rfl, p2, _, 1, _, rfl, rfl, h2, at1, by show 2 ≤ sizeLine; decide, fun t ht => ?_⟩
    refine ⟨_, _, a, -b, rfl, NumV.same ⟨p1, rfl, h1⟩ (same_upd ht), ⟨t, rfl, .inl (.inl ?_)⟩, ba, bb.neg, fun v H' s' n' => q v H' ((same_upd ht).trans s') ?_⟩
    · show upd H t (.tup [.int (0 - b.num), .int (b.den : Int)]) t = _
      rw [upd_same, Int.zero_sub]
      rfl
    · show NumV K H' v (a - b)
      rw [Rat.sub_eq_add_neg]
      exact n'
/-! ### _law_mul -/
abbrev n_law_mul : List Str := ["_law_one", "_law_two"]
theorem sc_law_mul : FnScope n_law_mul ["_law_one", "_law_two"] (defScope s_law_mul) := ⟨rfl, rfl, rfl, by decide +kernel, rfl, by decide +kernel, by decide +kernel⟩
theorem c_law_mul (T : TX K mg) : Cal P w K mg base "_law_mul" ["_law_one", "_law_two"] [] 2 (sp_bin K fun a b => a * b) := by
  refine cal_of T.g_law_mul T.f_law_mul (fun _ _ _ _ _ _ us hl => match us, hl with | [_, _], _ => rfl) fun fd F => okN F sc_law_mul (fun vs H Q E h => ?_) (fun cdv A outer s H vs Q E hr h => ?_)
  · obtain ⟨_, _, a, b, rfl, ⟨p1, rfl, h1⟩, ⟨p2, rfl, h2⟩, ba, bb, q⟩ := h
    rfl
  · obtain ⟨_, _, a, b, rfl, ⟨p1, rfl, h1⟩, ⟨p2, rfl, h2⟩, ba, bb, q⟩ := h
    refine ⟨_, 
      (pss_one
        (ps_ret (pe_cal (c_law_num T) (hr.mono (by decide)) (pa_cons (pe_op op_mulW (pe_ix ix_tup (pv 0) pe_int (fun _ _ => rfl)) (pe_ix ix_tup (pv 1) pe_int (fun _ _ => rfl))) (pa_cons (pe_op op_mulW (pe_ix ix_tup (pv 0) pe_int (fun _ _ => rfl)) (pe_ix ix_tup (pv 1) pe_int (fun _ _ => rfl))) pa_nil))))), ?_⟩
    obtain ⟨k, hk, e1, e2⟩ := ba.dens bb
    refine ⟨_, rfl, p1, _, 0, _, rfl, rfl, h1, at0, _, rfl, p2, _, 0, _, rfl, rfl, h2, at0, _, _, rfl, rfl, ba.mul3 bb, _, rfl, p1, _, 1, _, rfl, rfl, h1, at1, _, rfl, p2, _, 1, _, rfl, rfl, h2, at1, _, _, rfl, rfl, ba.mul2 bb, ?_⟩
    refine ⟨_, _, k, rfl, e2, hk, fun v H' s' n' => q v H' s' ?_⟩
    show NumV K H' v (a * b)
    rw [Rat.mul_def', e1]
    exact n'
/-! ### _law_below -/
abbrev n_law_below : List Str := ["_law_one", "_law_two"]
theorem sc_law_below : FnScope n_law_below ["_law_one", "_law_two"] (defScope s_law_below) := ⟨rfl, rfl, rfl, by decide +kernel, rfl, by decide +kernel, by decide +kernel⟩
theorem c_law_below (T : TX K mg) : Cal P w K mg base "_law_below" ["_law_one", "_law_two"] [] 1 (sp_below K) := by
  refine cal_of T.g_law_below T.f_law_below (fun _ _ _ _ _ _ us hl => match us, hl with | [_, _], _ => rfl) fun fd F => okN F sc_law_below (fun vs H Q E h => ?_) (fun cdv A outer s H vs Q E hr h => ?_)
  · obtain ⟨_, _, a, b, rfl, ⟨p1, rfl, h1⟩, ⟨p2, rfl, h2⟩, ba, bb, q⟩ := h
    rfl
  · obtain ⟨_, _, a, b, rfl, ⟨p1, rfl, h1⟩, ⟨p2, rfl, h2⟩, ba, bb, q⟩ := h
    refine ⟨_, 
      (pss_one
        (ps_ret (pe_cmpR op_lt (pe_op op_mulW (pe_ix ix_tup (pv 0) pe_int (fun _ _ => rfl)) (pe_ix ix_tup (pv 1) pe_int (fun _ _ => rfl))) (pe_op op_mulW (pe_ix ix_tup (pv 1) pe_int (fun _ _ => rfl)) (pe_ix ix_tup (pv 0) pe_int (fun _ _ => rfl))) (nomark _)))), ?_⟩
    refine ⟨_, rfl, p1, _, 0, _, rfl, rfl, h1, at0, _, rfl, p2, _, 1, _, rfl, rfl, h2, at1, _, _, rfl, rfl, ba.mul1 bb, _, rfl, p2, _, 0, _, rfl, rfl, h2, at0, _, rfl, p1, _, 1, _, rfl, rfl, h1, at1, _, _, rfl, rfl, bb.mul1 ba, _, _, rfl, rfl, ?_⟩
    have e : decide (a.num * (b.den : Int) < b.num * (a.den : Int)) = decide (a < b) := decide_eq_decide.mpr (Rat.lt_iff a b).symm
    show Q (V.bl (decide (a.num * (b.den : Int) < b.num * (a.den : Int)))) H
    rw [e]
    exact q
/-! ### _law_floor -/
abbrev n_law_floor : List Str := ["_law_one", "_law_places_here", "_law_unit", "_law_turn"]
theorem sc_law_floor : FnScope n_law_floor ["_law_one", "_law_places_here"] (defScope s_law_floor) := ⟨rfl, rfl, rfl, by decide +kernel, rfl, by decide +kernel, by decide +kernel⟩
theorem c_law_floor (T : TX K mg) : Cal P w K mg base "_law_floor" ["_law_one", "_law_places_here"] [] 2 (sp_cut_of K) := by
  refine cal_of T.g_law_floor T.f_law_floor (fun _ _ _ _ _ _ us hl => match us, hl with | [_, _], _ => rfl) fun fd F => okN F sc_law_floor (fun vs H Q E h => ?_) (fun cdv A outer s H vs Q E hr h => ?_)
  · obtain ⟨_, a, k, rfl, ⟨p1, rfl, h1⟩, ba, hk, q⟩ := h
    rfl
  · obtain ⟨_, a, k, rfl, ⟨p1, rfl, h1⟩, ba, hk, q⟩ := h
    refine ⟨_, 
      (pss_cons
        (ps_set (i := 2) sc_law_floor.nd rfl (by first | exact Or.inl rfl | exact Or.inr rfl) pe_int)
      (pss_cons
        (ps_for PassesOwn.never rfl (pi_range1 (by rfl) T.z_range (pa_cons (pv 1) pa_nil)) (pg_name (i := 3) sc_law_floor.nd rfl (by first | exact Or.inl rfl | exact Or.inr rfl))
          (pss_one
            (ps_set (i := 2) sc_law_floor.nd rfl (by first | exact Or.inl rfl | exact Or.inr rfl) (pe_op op_mulW (pv 2) pe_int))))
      (pss_one
        (ps_ret (pe_cal (c_law_num T) (hr.mono (by decide)) (pa_cons (pe_op op_fdivW (pe_op op_mulW (pe_ix ix_tup (pv 0) pe_int (fun _ _ => rfl)) (pv 2)) (pe_ix ix_tup (pv 0) pe_int (fun _ _ => rfl))) (pa_cons (pv 2) pa_nil))))))), ?_⟩
    refine ⟨_, rfl, k, rfl, by omega, by omega, for_range (n := k) (fun i σ H' => H' = H ∧ ∃ y, σ = [some (.ref p1), some (.int k), some (.int (2 ^ i)), y]) ⟨rfl, none, rfl⟩ ?_ ?_⟩
    · rintro i σ H' hi ⟨rfl, y, rfl⟩
      refine ⟨_, rfl, _, _, rfl, rfl, wide_mul (a := 200) (b := 2) (natAbs_two_pow (by omega)) (by decide) (by decide) (by decide) (by decide), rfl, some (.int (0 + i)), ?_⟩
      show [_, _, some (V.int ((2 : Int) ^ i * 2)), _] = _
      rw [← Int.pow_succ]
    · rintro σ H' ⟨rfl, y, rfl⟩
      refine ⟨_, rfl, p1, _, 0, _, rfl, rfl, h1, at0, _, rfl, _, _, rfl, rfl, wide_mul (a := 400000) (b := 200) ba.num (natAbs_two_pow (by omega)) (by decide) (by decide) (by decide), _, rfl, p1, _, 1, _, rfl, rfl, h1, at1, _, _, rfl, rfl, ba.wden, _, rfl, ?_⟩
      exact ⟨_, _, k, rfl, rfl, by omega, fun v H' s' n' => q v H' s' n'⟩
/-! ### _law_places -/
abbrev n_law_places : List Str := ["_law_value_here", "_law_found", "_law_parts"]
theorem sc_law_places : FnScope n_law_places ["_law_value_here"] (defScope s_law_places) := ⟨rfl, rfl, rfl, by decide +kernel, rfl, by decide +kernel, by decide +kernel⟩
theorem c_law_places (T : TX K mg) : Cal P w K mg base "_law_places" ["_law_value_here"] [] 1 (sp_figures_of K) := by
  refine cal_of T.g_law_places T.f_law_places (fun _ _ _ _ _ _ us hl => match us, hl with | [_], _ => rfl) fun fd F => okN F sc_law_places (fun vs H Q E h => ?_) (fun cdv A outer s H vs Q E hr h => ?_)
  · obtain ⟨_, a, k, rfl, ⟨p1, rfl, h1⟩, e, q⟩ := h
    rfl
  · obtain ⟨_, a, k, rfl, ⟨p1, rfl, h1⟩, e, q⟩ := h
    refine ⟨_, 
      (pss_cons
        (ps_par (i := 1) (j := 2) (by rfl) sc_law_places.nd rfl rfl (by decide) rfl rfl (pa_cons pe_int (pa_cons (pe_ix ix_tup (pv 0) pe_int (fun _ _ => rfl)) pa_nil)) (by rfl))
      (pss_cons
        (ps_while PassesOwn.never (pt_cmpR op_gt (pv 2) pe_int (nomark _))
          (pss_one
            (ps_par (i := 1) (j := 2) (by rfl) sc_law_places.nd rfl rfl (by decide) rfl rfl (pa_cons (pe_op op_add (pv 1) pe_int) (pa_cons (pe_op op_fdiv (pv 2) pe_int) pa_nil)) (by rfl))))
      (pss_one
        (ps_ret (pv 1))))), ?_⟩
    have e' : (a.den : Int) = 2 ^ k := by
      rw [e, Int.natCast_pow]
      rfl
    rw [e'] at h1
    refine ⟨_, rfl, p1, _, 1, _, rfl, rfl, h1, at1, _, _, rfl, ?_⟩
    refine ⟨fun m σ H' => H' = H ∧ m ≤ k ∧ σ = [some (.ref p1), some (.int ((k - m : Nat) : Int)), some (.int (2 ^ m))], ⟨k, rfl, Nat.le_refl _, by rw [Nat.sub_self]; rfl⟩, ?_⟩
    rintro m σ H' ⟨rfl, hm, rfl⟩
    refine ⟨_, rfl, _, _, rfl, rfl, _, rfl, ?_⟩
    cases m with
    | zero =>
      refine iteF ⟨_, rfl, ?_⟩
      rw [Nat.sub_zero]
      exact q
    | succ m =>
      have e0 : ((2 : Int) ^ (m + 1)) = 2 * 2 ^ m := by rw [Int.pow_succ, Int.mul_comm]
      have e00 : (0 : Int) < 2 ^ m := Int.pow_pos (by decide)
      have e1 : decide ((1 : Int) < (2 : Int) ^ (m + 1)) = true := decide_eq_true (by omega)
      rw [e1]
      refine iteT ⟨fun σ' H'' => H'' = H' ∧ σ' = [some (.ref p1), some (.int ((k - m : Nat) : Int)), some (.int (2 ^ m))], fun σ' H'' z => ⟨m, Nat.lt_succ_self m, z.1, by omega, z.2⟩, ?_⟩
      refine ⟨_, rfl, _, _, rfl, rfl, _, rfl, _, _, rfl, rfl, ⟨by decide, by decide⟩, _, _, rfl, rfl, ?_⟩
      have e2 : ((k - (m + 1) : Nat) : Int) + 1 = ((k - m : Nat) : Int) := by omega
      have e3 : (2 : Int) ^ (m + 1) / 2 = 2 ^ m := by rw [e0, Int.mul_ediv_cancel_left _ (by decide)]
      show [_, some (V.int (((k - (m + 1) : Nat) : Int) + 1)), some (V.int ((2 : Int) ^ (m + 1) / 2))] = _
      rw [e2, e3]
end
end K70
/-! K70, part E: rows, lists of lists, what stays. -/
namespace K70
open PySem PySem.Spec PyProof.Rows L2
/-! ### what stays -/
/-- tuples and dicts are kept -/
structure DK (K : PySem.W.Frag) (H H' : Hp) : Prop where
  t : TK K H H'
  d : ∀ a kvs, Rd H a (.dK kvs) → Rd H' a (.dK kvs)
  p : ∀ a kvs, H a = some (.dK kvs) → H' a = some (.dK kvs)
theorem DK.refl {K : PySem.W.Frag} (H : Hp) : DK K H H := ⟨TK.refl H, fun _ _ h => h, fun _ _ h => h⟩
theorem DK.trans {K : PySem.W.Frag} {H H1 H2 : Hp} (a : DK K H H1) (b : DK K H1 H2) : DK K H H2 := ⟨a.t.trans b.t, fun x o h => b.d x o (a.d x o h), fun x o h => b.p x o (a.p x o h)⟩
theorem rd_same {H H' : Hp} {a : Addr} {u : HO} (e : Same H H') (h : Rd H a u) : Rd H' a u := by
  rcases h with h | ⟨o, h⟩
  · exact .inl (e _ _ h)
  · exact .inr ⟨o, e _ _ h⟩
theorem dk_same {K : PySem.W.Frag} {H H' : Hp} (e : Same H H') : DK K H H' := ⟨tk_same e, fun _ _ h => rd_same e h, fun a kvs h => e a _ h⟩
theorem rd_upd {H : Hp} {a b : Addr} {xs : List V} {o u : HO} (h : H b = some (.lst xs)) (hu : ∀ ys, u ≠ .lst ys) (r : Rd H a u) : Rd (upd H b o) a u := by
  have ne : a ≠ b := by
    rintro rfl
    rcases r with r | ⟨z, r⟩
    · rw [h] at r
      exact hu xs (Option.some.inj r).symm
    · rw [h] at r
      have q : HO.lst xs = HO.frz z u := Option.some.inj r
      cases q
  rcases r with r | ⟨z, r⟩
  · exact .inl (by rw [upd_ne ne]; exact r)
  · exact .inr ⟨z, by rw [upd_ne ne]; exact r⟩
/-- a list is written -/
theorem dk_lst {K : PySem.W.Frag} {H : Hp} {b : Addr} {xs : List V} {o : HO} (h : H b = some (.lst xs)) : DK K H (upd H b o) := by
  refine ⟨fun a ys r => ?_, fun a kvs r => rd_upd h (fun _ z => nomatch z) r, fun a kvs r => ?_⟩
  · rcases r with r | r
    · exact .inl (rd_upd h (fun _ z => nomatch z) r)
    · exact .inr r
  · have ne : a ≠ b := by
      rintro rfl
      rw [h] at r
      cases r
    rw [upd_ne ne]
    exact r
theorem NumV.dk {K : PySem.W.Frag} {H H' : Hp} {v : V} {q : Rat} (h : NumV K H v q) (e : DK K H H') : NumV K H' v q := h.tk e.t
/-- all but the object at b is kept -/
def SameB (b : Addr) (H H' : Hp) : Prop := ∀ a o, a ≠ b → H a = some o → H' a = some o
theorem SameB.refl (b : Addr) (H : Hp) : SameB b H H := fun _ _ _ h => h
theorem SameB.trans {b : Addr} {H H1 H2 : Hp} (x : SameB b H H1) (y : SameB b H1 H2) : SameB b H H2 := fun a o n h => y a o n (x a o n h)
theorem Same.b {H H' : Hp} (h : Same H H') (b : Addr) : SameB b H H' := fun a o _ q => h a o q
theorem sameB_upd {b : Addr} {H : Hp} {o : HO} : SameB b H (upd H b o) := fun a u n h => by
  rw [upd_ne n]
  exact h
theorem rd_sameB {b a : Addr} {H H' : Hp} {u : HO} {xs : List V} (s : SameB b H H') (h : H b = some (.lst xs)) (hu : ∀ ys, u ≠ .lst ys) (r : Rd H a u) : Rd H' a u := by
  have ne : a ≠ b := by
    rintro rfl
    rcases r with r | ⟨z, r⟩
    · rw [h] at r
      exact hu xs (Option.some.inj r).symm
    · rw [h] at r
      have q : HO.lst xs = HO.frz z u := Option.some.inj r
      cases q
  rcases r with r | ⟨z, r⟩
  · exact .inl (s a _ ne r)
  · exact .inr ⟨z, s a _ ne r⟩
theorem dk_sameB {K : PySem.W.Frag} {b : Addr} {H H' : Hp} {xs : List V} (s : SameB b H H') (h : H b = some (.lst xs)) : DK K H H' := by
  refine ⟨fun a ys r => ?_, fun a kvs r => rd_sameB s h (fun _ z => nomatch z) r, fun a kvs r => ?_⟩
  · rcases r with r | r
    · exact .inl (rd_sameB s h (fun _ z => nomatch z) r)
    · exact .inr r
  · have ne : a ≠ b := by
      rintro rfl
      rw [h] at r
      cases r
    exact s a _ ne r
/-! ### rows of data, one by one -/
/-- the values vs are told by the xs, one by one -/
inductive All2 {α β : Type} (R : α → β → Prop) : List α → List β → Prop where
  | nil : All2 R [] []
  | cons {a : α} {b : β} {as : List α} {bs : List β} : R a b → All2 R as bs → All2 R (a :: as) (b :: bs)
theorem All2.len {α β : Type} {R : α → β → Prop} {as : List α} {bs : List β} (h : All2 R as bs) : as.length = bs.length := by
  induction h with
  | nil => rfl
  | cons _ _ ih => rw [List.length_cons, List.length_cons, ih]
theorem All2.at {α β : Type} {R : α → β → Prop} {as : List α} {bs : List β} (h : All2 R as bs) : ∀ {i : Nat} {b : β}, bs[i]? = some b → ∃ a, as[i]? = some a ∧ R a b := by
  induction h with
  | nil =>
    intro i b e
    simp at e
  | cons h1 _ ih =>
    intro i b e
    cases i with
    | zero =>
      have q : _ = b := Option.some.inj e
      exact ⟨_, rfl, q ▸ h1⟩
    | succ i => exact ih (i := i) (b := b) (by simpa using e)
theorem All2.at' {α β : Type} {R : α → β → Prop} {as : List α} {bs : List β} (h : All2 R as bs) : ∀ {i : Nat} {a : α}, as[i]? = some a → ∃ b, bs[i]? = some b ∧ R a b := by
  induction h with
  | nil =>
    intro i b e
    simp at e
  | cons h1 _ ih =>
    intro i b e
    cases i with
    | zero =>
      have q : _ = b := Option.some.inj e
      exact ⟨_, rfl, q ▸ h1⟩
    | succ i => exact ih (i := i) (a := b) (by simpa using e)
theorem All2.invc {α β : Type} {R : α → β → Prop} {as : List α} {b : β} {bs : List β} (h : All2 R as (b :: bs)) : ∃ a as', as = a :: as' ∧ R a b ∧ All2 R as' bs := by
  cases h with
  | cons h1 h2 => exact ⟨_, _, rfl, h1, h2⟩
theorem All2.inv0 {α β : Type} {R : α → β → Prop} {as : List α} (h : All2 R as []) : as = [] := by
  cases h
  rfl
theorem All2.inv1 {α β : Type} {R : α → β → Prop} {as : List α} {b : β} (h : All2 R as [b]) : ∃ a, as = [a] ∧ R a b := by
  obtain ⟨a, as', rfl, h1, h2⟩ := h.invc
  rw [h2.inv0]
  exact ⟨a, rfl, h1⟩
theorem All2.inv2 {α β : Type} {R : α → β → Prop} {as : List α} {b c : β} (h : All2 R as [b, c]) : ∃ a a', as = [a, a'] ∧ R a b ∧ R a' c := by
  obtain ⟨a, as', rfl, h1, h2⟩ := h.invc
  obtain ⟨a', rfl, h3⟩ := h2.inv1
  exact ⟨a, a', rfl, h1, h3⟩
theorem All2.inv3 {α β : Type} {R : α → β → Prop} {as : List α} {b c d : β} (h : All2 R as [b, c, d]) : ∃ a a' a'', as = [a, a', a''] ∧ R a b ∧ R a' c ∧ R a'' d := by
  obtain ⟨a, as', rfl, h1, h2⟩ := h.invc
  obtain ⟨a', a'', rfl, h3, h4⟩ := h2.inv2
  exact ⟨a, a', a'', rfl, h1, h3, h4⟩
theorem All2.imp {α β : Type} {R S : α → β → Prop} {as : List α} {bs : List β} (h : All2 R as bs) (f : ∀ a b, R a b → S a b) : All2 S as bs := by
  induction h with
  | nil => exact .nil
  | cons h1 _ ih => exact .cons (f _ _ h1) ih
theorem All2.snoc {α β : Type} {R : α → β → Prop} {as : List α} {bs : List β} {a : α} {b : β} (h : All2 R as bs) (r : R a b) : All2 R (as ++ [a]) (bs ++ [b]) := by
  induction h with
  | nil => exact .cons r .nil
  | cons h1 _ ih => exact .cons h1 ih
theorem All2.of_at {α β : Type} {R : α → β → Prop} : ∀ {as : List α} {bs : List β}, as.length = bs.length → (∀ (i : Nat) (a : α) (b : β), as[i]? = some a → bs[i]? = some b → R a b) → All2 R as bs
  | [], [], _, _ => .nil
  | [], _ :: _, h, _ => by cases h
  | _ :: _, [], h, _ => by cases h
  | a :: as, b :: bs, h, f => .cons (f 0 a b rfl rfl) (All2.of_at (by simpa using h) fun i x y e1 e2 => f (i + 1) x y (by simpa using e1) (by simpa using e2))
theorem All2.map_left {α β γ : Type} {R : γ → β → Prop} {f : α → γ} {as : List α} {bs : List β} (h : All2 (fun a b => R (f a) b) as bs) : All2 R (as.map f) bs := by
  induction h with
  | nil => exact .nil
  | cons h1 _ ih => exact .cons h1 ih
abbrev NumsV (K : PySem.W.Frag) (H : Hp) : List V → List Rat → Prop := All2 (NumV K H)
theorem NumsV.dk {K : PySem.W.Frag} {H H' : Hp} {vs : List V} {qs : List Rat} (h : NumsV K H vs qs) (e : DK K H H') : NumsV K H' vs qs := h.imp fun _ _ r => r.dk e
/-! ### NODEs -/
inductive Wd where
  | spring | fixed | sum | less | most | least | by | pick | late | half | twice
  deriving DecidableEq
def Wd.str : Wd → Str
  | .spring => "spring"
  | .fixed => "fixed"
  | .sum => "sum"
  | .less => "less"
  | .most => "most"
  | .least => "least"
  | .by => "by"
  | .pick => "pick"
  | .late => "late"
  | .half => "half"
  | .twice => "twice"
def Wd.ar : Wd → Nat
  | .spring => 0
  | .fixed => 0
  | .sum => 2
  | .less => 2
  | .most => 2
  | .least => 2
  | .by => 1
  | .pick => 3
  | .late => 1
  | .half => 1
  | .twice => 1
theorem wd_str (w x : Wd) : decide (V.str w.str = V.str x.str) = decide (w = x) := by
  cases w <;> cases x <;> decide +kernel
structure Row where
  w : Wd
  nm : Str
  q : Rat
  args : List Nat
  per : Nat
def WhatV (K : PySem.W.Frag) (H : Hp) (r : Row) (v : V) : Prop := match r.w with
  | .spring => v = .str r.nm
  | .fixed => NumV K H v r.q
  | .by => NumV K H v r.q
  | .late => NumV K H v r.q
  | _ => v = .non
theorem WhatV.tk {K : PySem.W.Frag} {H H' : Hp} {r : Row} {v : V} (h : WhatV K H r v) (e : TK K H H') : WhatV K H' r v := by
  unfold WhatV at h ⊢
  split <;> simp_all only [] <;> first | exact NumV.tk h e | exact h
/-- a NODE stands at v -/
def RowV (K : PySem.W.Frag) (H : Hp) (v : V) (r : Row) : Prop := ∃ (a t : Addr) (u : V), v = .ref a ∧ SqT K H a [.str r.w.str, u, .ref t, .int (r.per : Int)] ∧ WhatV K H r u ∧ SqT K H t (r.args.map fun (n : Nat) => V.int (n : Int))
theorem RowV.tk {K : PySem.W.Frag} {H H' : Hp} {v : V} {r : Row} (h : RowV K H v r) (e : TK K H H') : RowV K H' v r := by
  obtain ⟨a, t, u, e1, h1, h2, h3⟩ := h
  exact ⟨a, t, u, e1, e _ _ h1, h2.tk e, e _ _ h3⟩
theorem RowV.dk {K : PySem.W.Frag} {H H' : Hp} {v : V} {r : Row} (h : RowV K H v r) (e : DK K H H') : RowV K H' v r := h.tk e.t
/-! ### a list of lists that grow -/
/-- at t a list of the lists at as, their items told by L; P: what an item is -/
structure LL {α : Type} (P : Hp → V → α → Prop) (H : Hp) (t : Addr) (as : List Addr) (L : List (List α)) : Prop where
  top : H t = some (.lst (as.map V.ref))
  nd : as.Nodup
  no : t ∉ as
  ln : as.length = L.length
  it : ∀ (j : Nat) (a : Addr) (l : List α), as[j]? = some a → L[j]? = some l → ∃ vs, H a = some (.lst vs) ∧ All2 (P H) vs l
section
variable {α : Type} {P : Hp → V → α → Prop} {K : PySem.W.Frag} {H H' : Hp} {t : Addr} {as : List Addr} {L : List (List α)}
theorem LL.get (h : LL P H t as L) {j : Nat} {l : List α} (e : L[j]? = some l) : ∃ a vs, as[j]? = some a ∧ (as.map V.ref)[j]? = some (.ref a) ∧ H a = some (.lst vs) ∧ All2 (P H) vs l := by
  have hj : j < as.length := by
    rw [h.ln]
    exact (List.getElem?_eq_some_iff.mp e).1
  have ea : as[j]? = some as[j] := List.getElem?_eq_getElem hj
  obtain ⟨vs, h1, h2⟩ := h.it j _ l ea e
  exact ⟨as[j], vs, ea, by rw [List.getElem?_map, ea]; rfl, h1, h2⟩
/-- kept where the lists are -/
theorem LL.keep (h : LL P H t as L) (hP : ∀ v x, P H v x → P H' v x) (k : ∀ a o, (a = t ∨ a ∈ as) → H a = some o → H' a = some o) : LL P H' t as L :=
  ⟨k _ _ (.inl rfl) h.top, h.nd, h.no, h.ln, fun j a l e1 e2 => by
    obtain ⟨vs, h1, h2⟩ := h.it j a l e1 e2
    exact ⟨vs, k _ _ (.inr (List.mem_of_getElem? e1)) h1, h2.imp hP⟩⟩
/-- one list grows -/
theorem LL.push (h : LL P H t as L) (hP : ∀ H H' v x, DK K H H' → P H v x → P H' v x) {j : Nat} {a : Addr} {l : List α} {vs : List V} {v : V} {x : α} (e1 : as[j]? = some a) (e2 : L[j]? = some l) (ha : H a = some (.lst vs)) (hv : P H v x) :
    LL P (upd H a (.lst (vs ++ [v]))) t as (L.set j (l ++ [x])) := by
  have dk : DK K H (upd H a (.lst (vs ++ [v]))) := dk_lst ha
  have am : a ∈ as := List.mem_of_getElem? e1
  have ta : t ≠ a := fun z => h.no (z ▸ am)
  refine ⟨by rw [upd_ne ta]; exact h.top, h.nd, h.no, by rw [List.length_set]; exact h.ln, fun i b m f1 f2 => ?_⟩
  by_cases hij : j = i
  · subst hij
    have eb : b = a := Option.some.inj (f1.symm.trans e1)
    subst eb
    have hj : j < L.length := (List.getElem?_eq_some_iff.mp e2).1
    rw [List.getElem?_set_self hj] at f2
    have em : l ++ [x] = m := Option.some.inj f2
    subst em
    obtain ⟨vs', g1, g2⟩ := h.it j b l e1 e2
    rw [ha] at g1
    cases g1
    exact ⟨vs ++ [v], upd_same, (g2.imp fun _ _ r => hP _ _ _ _ dk r).snoc (hP _ _ _ _ dk hv)⟩
  · rw [List.getElem?_set_ne hij] at f2
    obtain ⟨ws, g1, g2⟩ := h.it i b m f1 f2
    have hb : b ≠ a := fun z => hij (nd_ix h.nd e1 (z ▸ f1))
    exact ⟨ws, by rw [upd_ne hb]; exact g1, g2.imp fun _ _ r => hP _ _ _ _ dk r⟩
end
/-- lists of NUMBERs that are read -/
abbrev NLL (K : PySem.W.Frag) := LL (NumV K)
end K70
/-! K70, part F: what a node tells by what its args tell. -/
namespace K70
open PySem PySem.Spec PyProof.Rows L2
/-! ### plain -/
def combR (w : Wd) (q : Rat) (xs : List Rat) : Rat := match w with
  | .sum => xs.getD 0 0 + xs.getD 1 0
  | .less => xs.getD 0 0 - xs.getD 1 0
  | .by => q * xs.getD 0 0
  | .pick => if 0 < xs.getD 0 0 then xs.getD 1 0 else xs.getD 2 0
  | .most => if xs.getD 0 0 < xs.getD 1 0 then xs.getD 1 0 else xs.getD 0 0
  | .least => if xs.getD 0 0 < xs.getD 1 0 then xs.getD 0 0 else xs.getD 1 0
  | _ => xs.getD 0 0
def placeR (w : Wd) (c : Nat) : Nat := match w with
  | .half => 2 * c
  | .twice => c / 2
  | .late => c - 1
  | _ => c
/-- what a node's c-th number is, by what springs tell and the numbers v of all nodes -/
def stepV (gv : Str → Nat → Rat) (v : Nat → Nat → Rat) (r : Row) (c : Nat) : Rat := match r.w with
  | .spring => gv r.nm c
  | .fixed => r.q
  | .late => if c = 0 then r.q else v (r.args.getD 0 0) (c - 1)
  | w => combR w r.q (r.args.map fun a => v a (placeR w c))
def cutO : Option Nat → Rat → Rat
  | none, q => q
  | some f, q => cutR f q
theorem len1 {α : Type} {l : List α} (h : l.length = 1) : ∃ a, l = [a] := by
  match l, h with
  | [a], _ => exact ⟨a, rfl⟩
theorem len2 {α : Type} {l : List α} (h : l.length = 2) : ∃ a b, l = [a, b] := by
  match l, h with
  | [a, b], _ => exact ⟨a, b, rfl⟩
theorem len3 {α : Type} {l : List α} (h : l.length = 3) : ∃ a b c, l = [a, b, c] := by
  match l, h with
  | [a, b, c], _ => exact ⟨a, b, c, rfl⟩
/-! ### words compared -/
theorem wif {A B : Prop} (w x : Wd) (h1 : w = x → A) (h2 : w ≠ x → B) : if decide (V.str w.str = V.str x.str) = true then A else B := by
  rw [wd_str]
  by_cases h : w = x
  · rw [decide_eq_true h]
    exact iteT (h1 h)
  · rw [decide_eq_false h]
    exact iteF (h2 h)
theorem in_two (w x y : Wd) : inV (.str w.str) [.str x.str, .str y.str] = (decide (w = x) || decide (w = y)) := by
  have e : ∀ a b : Wd, eqV (.str a.str) (.str b.str) = decide (a = b) := by
    intro a b
    cases a <;> cases b <;> decide +kernel
  have c : ∀ a b : Wd, decide (a = b) = decide (b = a) := fun a b => decide_eq_decide.mpr ⟨Eq.symm, Eq.symm⟩
  unfold inV
  rw [List.any_cons, List.any_cons, List.any_nil, Bool.or_false, e, e, c x w, c y w]
theorem wif2 {A B : Prop} (w x y : Wd) (h1 : w = x ∨ w = y → A) (h2 : w ≠ x → w ≠ y → B) : if inV (.str w.str) [.str x.str, .str y.str] = true then A else B := by
  rw [in_two]
  by_cases h : w = x
  · rw [decide_eq_true h]
    exact iteT (h1 (.inl h))
  · by_cases h' : w = y
    · rw [decide_eq_true h', Bool.or_true]
      exact iteT (h1 (.inr h'))
    · rw [decide_eq_false h, decide_eq_false h']
      exact iteF (h2 h h')
section
variable {P : Program} {w : World} {K : PySem.W.Frag} {mg : Str → Option Value} {base : Heap}
def manyN (p b : Nat) : Nat := (b + p - 1) / p
def sp_many_told : Sp := fun vs H Q _ => ∃ p b : Nat, vs = [.int p, .int b] ∧ 1 ≤ p ∧ p ≤ 16 ∧ Q (.int (manyN p b)) H
/-! ### many_told -/
abbrev n_many_told : List Str := ["period", "beats"]
theorem sc_many_told : FnScope n_many_told ["period", "beats"] (defScope s_many_told) := ⟨rfl, rfl, rfl, by decide +kernel, rfl, by decide +kernel, by decide +kernel⟩
theorem c_many_told (T : TX K mg) : Cal P w K mg base "many_told" ["period", "beats"] [] 1 sp_many_told := by
  refine cal_of T.g_many_told T.f_many_told (fun _ _ _ _ _ _ us hl => match us, hl with | [_, _], _ => rfl) fun fd F => okN F sc_many_told (fun vs H Q E h => ?_) (fun cdv A outer s H vs Q E hr h => ?_)
  · obtain ⟨p, b, rfl, h1, h2, q⟩ := h
    rfl
  · obtain ⟨p, b, rfl, h1, h2, q⟩ := h
    refine ⟨_, 
      (pss_one
        (ps_ret (pe_op op_fdiv (pe_op op_sub (pe_op op_add (pv 1) (pv 0)) pe_int) (pv 0)))), ?_⟩
    refine ⟨_, rfl, _, rfl, _, _, rfl, rfl, _, _, rfl, rfl, _, rfl, _, _, rfl, rfl, ⟨by omega, by omega⟩, ?_⟩
    have e : ((b : Int) + (p : Int) - 1) / (p : Int) = ((manyN p b : Nat) : Int) := by
      unfold manyN
      rw [Int.natCast_ediv]
      congr 1
      omega
    show Q (V.int (((b : Int) + (p : Int) - 1) / (p : Int))) H
    rw [e]
    exact q
def sp_place_told (K : PySem.W.Frag) : Sp := fun vs H Q _ => ∃ (v : V) (r : Row) (c : Nat), vs = [v, .int c] ∧ RowV K H v r ∧ r.w ≠ .late ∧ Q (.int (placeR r.w c)) H
/-! ### place_told -/
abbrev n_place_told : List Str := ["row", "number"]
theorem sc_place_told : FnScope n_place_told ["row", "number"] (defScope s_place_told) := ⟨rfl, rfl, rfl, by decide +kernel, rfl, by decide +kernel, by decide +kernel⟩
theorem c_place_told (T : TX K mg) : Cal P w K mg base "place_told" ["row", "number"] [] 1 (sp_place_told K) := by
  refine cal_of T.g_place_told T.f_place_told (fun _ _ _ _ _ _ us hl => match us, hl with | [_, _], _ => rfl) fun fd F => okN F sc_place_told (fun vs H Q E h => ?_) (fun cdv A outer s H vs Q E hr h => ?_)
  · obtain ⟨_, r, c, rfl, ⟨a, t, u, rfl, h1, h2, h3⟩, hl, q⟩ := h
    rfl
  · obtain ⟨_, r, c, rfl, ⟨a, t, u, rfl, h1, h2, h3⟩, hl, q⟩ := h
    refine ⟨_, 
      (pss_cons
        (ps_if (pt_cmpR op_eq (pe_ix ix_tup (pv 0) pe_int (fun _ _ => rfl)) pe_str (nomark _))
          (pss_one
            (ps_ret (pe_op op_mul pe_int (pv 1))))
          pss_nil)
      (pss_one
        (ps_ret (pe_ifExp (pt_cmpR op_eq (pe_ix ix_tup (pv 0) pe_int (fun _ _ => rfl)) pe_str (nomark _)) (pe_op op_fdiv (pv 1) pe_int) (pv 1))))), ?_⟩
    refine ⟨_, rfl, a, _, 0, _, rfl, rfl, h1, at0, rfl, _, rfl, ?_⟩
    refine wif r.w .half (fun e => ?_) (fun e => ?_)
    · refine ⟨_, rfl, _, _, rfl, rfl, ?_, ?_⟩
      · exact .inl ⟨by decide, by decide⟩
      · rw [e] at q
        exact q
    · refine ⟨_, rfl, a, _, 0, _, rfl, rfl, h1, at0, rfl, _, rfl, ?_⟩
      refine wif r.w .twice (fun e' => ?_) (fun e' => ?_)
      · rw [e'] at q
        exact ⟨_, rfl, _, _, rfl, rfl, ⟨by decide, by decide⟩, q⟩
      · have e2 : placeR r.w c = c := by
          unfold placeR
          split <;> first | contradiction | rfl
        rw [e2] at q
        exact ⟨_, rfl, q⟩
def sp_combined (K : PySem.W.Frag) : Sp := fun vs H Q _ => ∃ (r : Row) (xs : List Rat) (v1 : V) (a : Addr) (ws : List V), vs = [.str r.w.str, v1, .ref a] ∧ WhatV K H r v1 ∧ SqL K H a ws ∧ NumsV K H ws xs ∧ xs.length = r.w.ar ∧ 1 ≤ xs.length ∧
  (∀ x ∈ xs, Bd x) ∧ Bd r.q ∧ ∀ v H', Same H H' → NumV K H' v (combR r.w r.q xs) → Q v H'
theorem gt0_num (x : Rat) : decide ((0 : Int) < x.num) = decide (0 < x) := by
  refine decide_eq_decide.mpr ?_
  rw [Rat.lt_iff]
  simp
/-! ### combined -/
abbrev n_combined : List Str := ["word", "what", "args"]
theorem sc_combined : FnScope n_combined ["word", "what", "args"] (defScope s_combined) := ⟨rfl, rfl, rfl, by decide +kernel, rfl, by decide +kernel, by decide +kernel⟩
theorem c_combined (T : TX K mg) : Cal P w K mg base "combined" ["word", "what", "args"] [] 3 (sp_combined K) := by
  refine cal_of T.g_combined T.f_combined (fun _ _ _ _ _ _ us hl => match us, hl with | [_, _, _], _ => rfl) fun fd F => okN F sc_combined (fun vs H Q E h => ?_) (fun cdv A outer s H vs Q E hr h => ?_)
  · obtain ⟨r, xs, v1, a, ws, rfl, hw, hS, hN, hl, h1, hb, hq, q⟩ := h
    rfl
  · obtain ⟨r, xs, v1, a, ws, rfl, hw, hS, hN, hl, h1, hb, hq, q⟩ := h
    refine ⟨_, 
      (pss_cons
        (ps_if (pt_cmpR op_eq (pv 0) pe_str (nomark _))
          (pss_one
            (ps_ret (pe_cal (c_sum_of T) (hr.mono (by decide)) (pa_cons (pe_ix ix_list (pv 2) pe_int (fun _ _ => rfl)) (pa_cons (pe_ix ix_list (pv 2) pe_int (fun _ _ => rfl)) pa_nil)))))
          pss_nil)
      (pss_cons
        (ps_if (pt_cmpR op_eq (pv 0) pe_str (nomark _))
          (pss_one
            (ps_ret (pe_cal (c_less_of T) (hr.mono (by decide)) (pa_cons (pe_ix ix_list (pv 2) pe_int (fun _ _ => rfl)) (pa_cons (pe_ix ix_list (pv 2) pe_int (fun _ _ => rfl)) pa_nil)))))
          pss_nil)
      (pss_cons
        (ps_if (pt_cmpR op_eq (pv 0) pe_str (nomark _))
          (pss_one
            (ps_ret (pe_cal (c_times_of T) (hr.mono (by decide)) (pa_cons (pv 1) (pa_cons (pe_ix ix_list (pv 2) pe_int (fun _ _ => rfl)) pa_nil)))))
          pss_nil)
      (pss_cons
        (ps_if (pt_cmpR op_eq (pv 0) pe_str (nomark _))
          (pss_one
            (ps_ret (pe_ifExp (pt_cmpR op_gt (pe_ix ix_tup (pe_ix ix_list (pv 2) pe_int (fun _ _ => rfl)) pe_int (fun _ _ => rfl)) pe_int (nomark _)) (pe_ix ix_list (pv 2) pe_int (fun _ _ => rfl)) (pe_ix ix_list (pv 2) pe_int (fun _ _ => rfl)))))
          pss_nil)
      (pss_cons
        (ps_if (pt_cmpR op_in_seq (pv 0) (pe_tup (pa_cons pe_str (pa_cons pe_str pa_nil))) (by rfl))
          (pss_one
            (ps_ret (pe_ix ix_list (pv 2) (pe_callTy call_int1 (by rfl) T.z_int (by decide +kernel) (pa_cons (pe_cmpR op_eq (pe_cal (c_is_below T) (hr.mono (by decide)) (pa_cons (pe_ix ix_list (pv 2) pe_int (fun _ _ => rfl)) (pa_cons (pe_ix ix_list (pv 2) pe_int (fun _ _ => rfl)) pa_nil))) (pe_cmpR op_eq (pv 0) pe_str (nomark _)) (nomark _)) pa_nil)) (fun _ _ => rfl))))
          pss_nil)
      (pss_one
        (ps_ret (pe_ix ix_list (pv 2) pe_int (fun _ _ => rfl))))))))), ?_⟩
    refine ⟨_, rfl, rfl, _, rfl, wif r.w .sum (fun e => ?_) (fun e1 => ?_)⟩
    · rw [e] at hl
      obtain ⟨x0, x1, rfl⟩ := len2 hl
      obtain ⟨w0, w1, rfl, n0, n1⟩ := hN.inv2
      refine ⟨_, rfl, a, _, 0, _, rfl, rfl, hS, at0, _, rfl, a, _, 1, _, rfl, rfl, hS, at1, _, _, x0, x1, rfl, n0, n1, hb _ (by simp), hb _ (by simp), fun v H' s' n' => q v H' s' ?_⟩
      rw [e]
      exact n'
    refine ⟨_, rfl, rfl, _, rfl, wif r.w .less (fun e => ?_) (fun e2 => ?_)⟩
    · rw [e] at hl
      obtain ⟨x0, x1, rfl⟩ := len2 hl
      obtain ⟨w0, w1, rfl, n0, n1⟩ := hN.inv2
      refine ⟨_, rfl, a, _, 0, _, rfl, rfl, hS, at0, _, rfl, a, _, 1, _, rfl, rfl, hS, at1, _, _, x0, x1, rfl, n0, n1, hb _ (by simp), hb _ (by simp), fun v H' s' n' => q v H' s' ?_⟩
      rw [e]
      exact n'
    refine ⟨_, rfl, rfl, _, rfl, wif r.w .by (fun e => ?_) (fun e3 => ?_)⟩
    · rw [e] at hl
      obtain ⟨x0, rfl⟩ := len1 hl
      obtain ⟨w0, rfl, n0⟩ := hN.inv1
      have hw' : NumV K H v1 r.q := by
        unfold WhatV at hw
        rw [e] at hw
        exact hw
      refine ⟨_, rfl, _, rfl, a, _, 0, _, rfl, rfl, hS, at0, _, _, r.q, x0, rfl, hw', n0, hq, hb _ (by simp), fun v H' s' n' => q v H' s' ?_⟩
      rw [e]
      exact n'
    refine ⟨_, rfl, rfl, _, rfl, wif r.w .pick (fun e => ?_) (fun e4 => ?_)⟩
    · rw [e] at hl
      obtain ⟨x0, x1, x2, rfl⟩ := len3 hl
      obtain ⟨w0, w1, w2, rfl, n0, n1, n2⟩ := hN.inv3
      obtain ⟨p0, rfl, g0⟩ := id n0
      refine ⟨_, rfl, a, _, 0, _, rfl, rfl, hS, at0, p0, _, 0, _, rfl, rfl, g0, at0, _, _, rfl, rfl, _, rfl, ?_⟩
      rw [gt0_num]
      have ec : combR r.w r.q [x0, x1, x2] = if 0 < x0 then x1 else x2 := by rw [e]; rfl
      by_cases hp : 0 < x0
      · rw [decide_eq_true hp]
        rw [ec, if_pos hp] at q
        exact iteT ⟨_, rfl, a, _, 1, _, rfl, rfl, hS, at1, q _ _ (Same.refl _) n1⟩
      · rw [decide_eq_false hp]
        rw [ec, if_neg hp] at q
        exact iteF ⟨_, rfl, a, _, 2, _, rfl, rfl, hS, at2, q _ _ (Same.refl _) n2⟩
    refine ⟨_, rfl, by show 2 ≤ sizeLine; decide, fun t ht => ?_⟩
    have st : Same H (upd H t (.tup [.str Wd.most.str, .str Wd.least.str])) := same_upd ht
    refine ⟨t, _, rfl, .inr (SqT.of upd_same), rfl, rfl, _, rfl, wif2 r.w .most .least (fun e => ?_) (fun e5 e6 => ?_)⟩
    · have hl2 : xs.length = 2 := by
        rcases e with e | e <;> (rw [e] at hl; exact hl)
      obtain ⟨x0, x1, rfl⟩ := len2 hl2
      obtain ⟨w0, w1, rfl, n0, n1⟩ := hN.inv2
      refine ⟨_, rfl, _, rfl, a, _, 0, _, rfl, rfl, st.seq hS, at0, _, rfl, a, _, 1, _, rfl, rfl, st.seq hS, at1, _, _, x0, x1, rfl, n0.same st, n1.same st, hb _ (by simp), hb _ (by simp), ?_⟩
      refine ⟨_, rfl, rfl, rfl, .inr ⟨_, rfl, ?_⟩⟩
      have em : decide (V.str r.w.str = V.str ("most" : Str)) = decide (r.w = .most) := wd_str r.w .most
      have eb : decide (V.bl (decide (x0 < x1)) = V.bl (decide (V.str r.w.str = V.str ("most" : Str)))) = decide (decide (x0 < x1) = decide (r.w = .most)) := by
        rw [em]
        exact decide_eq_decide.mpr ⟨V.bl.inj, congrArg V.bl⟩
      rw [eb]
      rcases e with e | e
      · have ec : combR r.w r.q [x0, x1] = if x0 < x1 then x1 else x0 := by rw [e]; rfl
        by_cases hp : x0 < x1
        · rw [ec, if_pos hp] at q
          refine ⟨a, _, 1, _, rfl, ?_, st.seq hS, at1, q _ _ st (n1.same st)⟩
          rw [e, decide_eq_true hp]
          rfl
        · rw [ec, if_neg hp] at q
          refine ⟨a, _, 0, _, rfl, ?_, st.seq hS, at0, q _ _ st (n0.same st)⟩
          rw [e, decide_eq_false hp]
          rfl
      · have ec : combR r.w r.q [x0, x1] = if x0 < x1 then x0 else x1 := by rw [e]; rfl
        by_cases hp : x0 < x1
        · rw [ec, if_pos hp] at q
          refine ⟨a, _, 0, _, rfl, ?_, st.seq hS, at0, q _ _ st (n0.same st)⟩
          rw [e, decide_eq_true hp]
          rfl
        · rw [ec, if_neg hp] at q
          refine ⟨a, _, 1, _, rfl, ?_, st.seq hS, at1, q _ _ st (n1.same st)⟩
          rw [e, decide_eq_false hp]
          rfl
    · obtain ⟨x0, xr, rfl⟩ : ∃ x0 xr, xs = x0 :: xr := by
        cases xs with
        | nil => simp at h1
        | cons x0 xr => exact ⟨x0, xr, rfl⟩
      obtain ⟨w0, wr, rfl, n0, hN⟩ := hN.invc
      have ec : combR r.w r.q (x0 :: xr) = x0 := by
        unfold combR
        split <;> first | contradiction | rfl
      rw [ec] at q
      exact ⟨_, rfl, a, _, 0, _, rfl, rfl, st.seq hS, at0, q _ _ st (n0.same st)⟩
end
end K70
/-! K70, part G: number_of, numbers_of. -/
namespace K70
open PySem PySem.Spec PyProof.Rows L2
def figV : Option Nat → V
  | none => .non
  | some f => .int (f : Int)
def vof {α : Type} (dflt : α) (L : List (List α)) (j c : Nat) : α := (L.getD j []).getD c dflt
theorem vof_get {α : Type} {dflt : α} {L : List (List α)} {j c : Nat} {l : List α} (h : L[j]? = some l) (hc : c < l.length) : l[c]? = some (vof dflt L j c) := by
  unfold vof
  have e : L.getD j [] = l := by rw [List.getD_eq_getElem?_getD, h, Option.getD_some]
  rw [e, List.getD_eq_getElem?_getD, List.getElem?_eq_getElem hc, Option.getD_some]
section
variable {P : Program} {w : World} {K : PySem.W.Frag} {mg : Str → Option Value} {base : Heap}
/-- the spring's number stands in the dict at d -/
def GivenV (K : PySem.W.Frag) (H : Hp) (d : Addr) (nm : Str) (c : Nat) (q : Rat) : Prop := ∃ (b : Addr) (ws : List V) (qs : List Rat), DGet H d (.str nm) (some (.ref b)) ∧ SqL K H b ws ∧ NumsV K H ws qs ∧ qs[c]? = some q
def sp_number_of (K : PySem.W.Frag) : Sp := fun vs H Q _ => ∃ (vr : V) (r : Row) (t : Addr) (as : List Addr) (L : List (List Rat)) (d : Addr) (c : Nat) (fig : Option Nat) (gv : Str → Nat → Rat),
  vs = [vr, .ref t, .ref d, .int c, figV fig] ∧ RowV K H vr r ∧ r.args.length = r.w.ar ∧ NLL K H t as L ∧ (r.w = .spring → GivenV K H d r.nm c (gv r.nm c)) ∧
  (r.w = .late → c = 0 ∨ ∃ l, L[r.args.getD 0 0]? = some l ∧ c - 1 < l.length) ∧
  (r.w ≠ .spring → r.w ≠ .fixed → r.w ≠ .late → ∀ a ∈ r.args, ∃ l, L[a]? = some l ∧ placeR r.w c < l.length) ∧
  (∀ f, fig = some f → f ≤ 100) ∧ (∀ (j : Nat) (l : List Rat), L[j]? = some l → ∀ x ∈ l, Bd x) ∧ Bd r.q ∧ Bd (stepV gv (vof 0 L) r c) ∧ ∀ v H', Same H H' → NumV K H' v (cutO fig (stepV gv (vof 0 L) r c)) → Q v H'
theorem NLL.same {K : PySem.W.Frag} {H H' : Hp} {t : Addr} {as : List Addr} {L : List (List Rat)} (h : NLL K H t as L) (e : Same H H') : NLL K H' t as L :=
  h.keep (fun v x r => r.same e) fun a o _ q => e a o q
/-- told[a][c] -/
theorem NLL.at {K : PySem.W.Frag} {H : Hp} {t : Addr} {as : List Addr} {L : List (List Rat)} (h : NLL K H t as L) {j c : Nat} {l : List Rat} (e : L[j]? = some l) (hc : c < l.length) :
    ∃ (a : Addr) (ws : List V) (u : V), (as.map V.ref)[j]? = some (.ref a) ∧ SqL K H a ws ∧ ws[c]? = some u ∧ NumV K H u (vof 0 L j c) := by
  obtain ⟨a, ws, e1, e2, e3, e4⟩ := h.get e
  obtain ⟨u, e5, e6⟩ := e4.at (vof_get (dflt := 0) e hc)
  exact ⟨a, ws, u, e2, SqL.of e3, e5, e6⟩
theorem cut3_no {w x y z : V} : ¬ (HT.sIx ([w, x, y, z] : List V).length 0 none = 0 ∧ HT.sIx ([w, x, y, z] : List V).length ([w, x, y, z] : List V).length (some 3) = ([w, x, y, z] : List V).length) := by
  show ¬ (HT.sIx 4 0 none = 0 ∧ HT.sIx 4 4 (some 3) = 4)
  decide +kernel
theorem _root_.L2.DGet.same {H H' : Hp} {a : Addr} {y : V} {r : Option V} (h : DGet H a y r) (e : Same H H') : DGet H' a y r := by
  rcases h with ⟨kvs, k, h1, h2, h3⟩ | ⟨kvs, k, b, h1, h2, h3, h4⟩
  · exact .inl ⟨kvs, k, rd_same e h1, h2, h3⟩
  · exact .inr ⟨kvs, k, b, rd_same e h1, h2, e _ _ h3, h4⟩
theorem SqT.same {K : PySem.W.Frag} {H H' : Hp} {a : Addr} {xs : List V} (h : SqT K H a xs) (e : Same H H') : SqT K H' a xs := tk_same e a xs h
/-! ### number_of -/
abbrev n_number_of : List Str := ["row", "told", "given", "number", "figures", "word", "what", "args", "found", "arg"]
theorem sc_number_of : FnScope n_number_of ["row", "told", "given", "number", "figures"] (defScope s_number_of) := ⟨rfl, rfl, rfl, by decide +kernel, rfl, by decide +kernel, by decide +kernel⟩
theorem c_number_of (T : TX K mg) : Cal P w K mg base "number_of" ["row", "told", "given", "number", "figures"] [] 4 (sp_number_of K) := by
  refine cal_of T.g_number_of T.f_number_of (fun _ _ _ _ _ _ us hl => match us, hl with | [_, _, _, _, _], _ => rfl) fun fd F => okN F sc_number_of (fun vs H Q E h => ?_) (fun cdv A outer s H vs Q E hr h => ?_)
  · obtain ⟨vr, r, t, as, L, d, c, fig, gv, rfl, hR, har, hL, hG, hlate, hav, hfig, hB, hq, hs, q⟩ := h
    rfl
  · obtain ⟨vr, r, t, as, L, d, c, fig, gv, rfl, hR, har, hL, hG, hlate, hav, hfig, hB, hq, hs, q⟩ := h
    have hu := hu_of hr
    refine ⟨_, 
      (pss_cons
        (ps_asg (pe_slice sl_tup (pv 0) po_none (po_some pe_int)) (pg_tup (by rfl) (pgs_cons (pg_name (i := 5) sc_number_of.nd rfl (by first | exact Or.inl rfl | exact Or.inr rfl)) (pgs_cons (pg_name (i := 6) sc_number_of.nd rfl (by first | exact Or.inl rfl | exact Or.inr rfl)) (pgs_cons (pg_name (i := 7) sc_number_of.nd rfl (by first | exact Or.inl rfl | exact Or.inr rfl)) pgs_nil)))))
      (pss_cons
        (ps_if (pt_cmpR (opIn (K := K)) (pv 5) (pe_tup (pa_cons pe_str (pa_cons pe_str pa_nil))) (by rfl))
          (pss_one
            (ps_set (i := 8) sc_number_of.nd rfl (by first | exact Or.inl rfl | exact Or.inr rfl) (pe_ifExp (pt_cmpR op_eq (pv 5) pe_str (nomark _)) (pe_ix (ixL (K := K)) (pe_dget hu (pv 2) (pv 6) (fun _ _ => rfl)) (pv 3) (fun _ _ => rfl)) (pv 6))))
          (pss_one
            (ps_if (pt_cmpR op_eq (pv 5) pe_str (nomark _))
              (pss_one
                (ps_set (i := 8) sc_number_of.nd rfl (by first | exact Or.inl rfl | exact Or.inr rfl) (pe_ifExp (pt_cmpR op_eq (pv 3) pe_int (nomark _)) (pv 6) (pe_ix (ixL (K := K)) (pe_ix (ixL (K := K)) (pv 1) (pe_ix (ixT (K := K)) (pv 7) pe_int (fun _ _ => rfl)) (fun _ _ => rfl)) (pe_op op_sub (pv 3) pe_int) (fun _ _ => rfl)))))
              (pss_one
                (ps_set (i := 8) sc_number_of.nd rfl (by first | exact Or.inl rfl | exact Or.inr rfl) (pe_cal (c_combined T) (hr.mono (by decide)) (pa_cons (pv 5) (pa_cons (pv 6) (pa_cons (pe_lc (own := [("arg", 9)]) rfl sc_number_of.nd (pi_tup (pv 7)) (blkOk_by (N := n_number_of) (sc := defScope s_number_of) (by decide +kernel)) (fun _ _ _ _ _ => pg_name (i := 9) sc_number_of.nd rfl (by first | exact Or.inl rfl | exact Or.inr rfl)) (fun _ _ _ _ _ => pts_nil) (fun _ _ _ _ _ => (pe_ix (ixL (K := K)) (pe_ix (ixL (K := K)) (pv 1) (pv 9) (fun _ _ => rfl)) (pe_cal (c_place_told T) (hr.mono (by decide)) (pa_cons (pv 0) (pa_cons (pv 3) pa_nil))) (fun _ _ => rfl)))) pa_nil)))))))))
      (pss_one
        (ps_ret (pe_ifExp (pt_cmpR op_isN (pv 4) pe_non (nomark _)) (pv 8) (pe_cal (c_cut_of T) (hr.mono (by decide)) (pa_cons (pv 8) (pa_cons (pv 4) pa_nil)))))))), ?_⟩
    obtain ⟨a, ta, u, rfl, h1, h2, h3⟩ := id hR
    -- word, what, args = row[:3]
    refine ⟨_, rfl, 3, rfl, a, _, rfl, h1, cut3_no, fun p hp => ?_⟩
    have s1 : Same H (upd H p (.tup (cutV [.str r.w.str, u, .ref ta, .int (r.per : Int)] none (some 3)))) := same_upd hp
    have ec : cutV [V.str r.w.str, u, .ref ta, .int (r.per : Int)] none (some 3) = [.str r.w.str, u, .ref ta] := by rfl
    rw [ec] at s1 ⊢
    refine ⟨p, _, rfl, SqT.of upd_same, rfl, _, _, rfl, _, _, rfl, _, _, rfl, rfl, ?_⟩
    -- the cut, behind what is found
    have fin : ∀ (σ : L2.St) (v : V) (H1 : Hp), σ[4]? = some (some (figV fig)) → σ[8]? = some (some v) → Same H H1 → NumV K H1 v (stepV gv (vof 0 L) r c) →
        tRet (tIf (tTest (tOp (fun x y H Q => y = .non ∧ Q (.bl (decide (x = .non))) H) (tVar 4) (tC .non))) (tVar 8) (tCall (sp_cut_of K) [] E0 (tCons (tVar 8) (tCons (tVar 4) tNil)))) { nx := fun _ H' => Q .non H', rt := Q } σ H1 := by
      intro σ v H1 e4 e8 sm n
      refine ⟨_, e4, rfl, _, rfl, ?_⟩
      cases fig with
      | none => exact ⟨v, e8, q v H1 sm n⟩
      | some f =>
        refine iteF ⟨v, e8, _, e4, ?_⟩
        exact ⟨v, _, f, rfl, n, hs, hfig f rfl, fun v' H' s' n' => q v' H' (sm.trans s') n'⟩
    -- word in ("spring", "fixed")
    refine ⟨_, rfl, by show 2 ≤ sizeLine; decide, fun t2 ht2 => ?_⟩
    have s2 := s1.trans (same_upd (o := .tup [.str Wd.spring.str, .str Wd.fixed.str]) ht2)
    refine ⟨t2, _, rfl, .inr (SqT.of upd_same), rfl, rfl, _, rfl, wif2 r.w .spring .fixed (fun e => ?_) (fun e1 e2 => ?_)⟩
    · refine ⟨_, rfl, rfl, _, rfl, wif r.w .spring (fun e' => ?_) (fun e' => ?_)⟩
      · obtain ⟨b, ws, qs, g1, g2, g3, g4⟩ := hG e'
        obtain ⟨y, g5, g6⟩ := g3.at g4
        have hu1 : u = .str r.nm := by
          unfold WhatV at h2
          rw [e'] at h2
          exact h2
        subst hu1
        have es : stepV gv (vof 0 L) r c = gv r.nm c := by
          unfold stepV
          rw [e']
        refine ⟨_, rfl, _, rfl, d, .ref b, rfl, g1.same s2, _, rfl, b, _, c, y, rfl, rfl, s2.seq g2, atI_nat g5, ?_⟩
        exact fin _ _ _ rfl rfl s2 (by rw [es]; exact g6.same s2)
      · have hf : r.w = .fixed := e.resolve_left e'
        have hn : NumV K H u r.q := by
          unfold WhatV at h2
          rw [hf] at h2
          exact h2
        have es : stepV gv (vof 0 L) r c = r.q := by
          unfold stepV
          rw [hf]
        exact ⟨_, rfl, fin _ _ _ rfl rfl s2 (by rw [es]; exact hn.same s2)⟩
    · refine ⟨_, rfl, rfl, _, rfl, wif r.w .late (fun e => ?_) (fun e3 => ?_)⟩
      · have hn : NumV K H u r.q := by
          unfold WhatV at h2
          rw [e] at h2
          exact h2
        have es : stepV gv (vof 0 L) r c = if c = 0 then r.q else vof 0 L (r.args.getD 0 0) (c - 1) := by
          unfold stepV
          rw [e]
        refine ⟨_, rfl, rfl, _, rfl, ?_⟩
        by_cases h0 : c = 0
        · have ed : decide (V.int (c : Int) = V.int 0) = true := decide_eq_true (by rw [h0]; rfl)
          rw [ed]
          exact iteT ⟨_, rfl, fin _ _ _ rfl rfl s2 (by rw [es, if_pos h0]; exact hn.same s2)⟩
        · have ed : decide (V.int (c : Int) = V.int 0) = false := dec_int (by omega)
          rw [ed]
          obtain ⟨l, g1, g2⟩ := (hlate e).resolve_left h0
          obtain ⟨b, ws, y, k1, k2, k3, k4⟩ := hL.at g1 g2
          have ha1 : r.args.length = 1 := by rw [har, e]; rfl
          obtain ⟨x0, hx0⟩ := len1 ha1
          have ea : r.args.getD 0 0 = x0 := by rw [hx0]; rfl
          have h3' : SqT K H ta [.int (x0 : Int)] := by
            rw [hx0] at h3
            exact h3
          rw [ea] at k1 k4 es
          refine iteF ⟨_, rfl, _, rfl, ta, _, 0, _, rfl, rfl, SqT.same h3' s2, at0, t, _, x0, _, rfl, rfl, s2.seq (SqL.of hL.top), atI_nat k1, _, rfl, _, _, rfl, rfl, b, _, ((c - 1 : Nat) : Int), y, rfl, congrArg V.int (by omega), s2.seq k2, atI_nat k3, ?_⟩
          exact fin _ _ _ rfl rfl s2 (by rw [es, if_neg h0]; exact k4.same s2)
      · -- combined(word, what, [told[arg][place_told(row, number)] for arg in args])
        have av := hav e1 e2 e3
        have es : stepV gv (vof 0 L) r c = combR r.w r.q (r.args.map fun a => vof 0 L a (placeR r.w c)) := by
          unfold stepV
          split <;> first | contradiction | rfl
        refine ⟨_, rfl, _, rfl, _, rfl, ta, rfl, ⟨_, SqT.same h3 s2⟩, fun D hD => ?_⟩
        have s3 := s2.trans (same_upd (o := .lst []) hD)
        refine lc_tup (K := K) (a := ta) (xs := r.args.map fun (n : Nat) => V.int (n : Int)) (fun i H' => Same H H' ∧ H D = none ∧ ∃ ws, H' D = some (.lst ws) ∧ NumsV K H' ws ((r.args.take i).map fun a => vof 0 L a (placeR r.w c)))
          ⟨s3, s2.free hD, [], upd_same, by rw [List.take_zero]; exact .nil⟩ (fun i H' _ z => SqT.same h3 z.1) ?_ ?_
        · rintro i x H' hx ⟨z1, zD, ws, z2, z3⟩
          refine ⟨rfl, ?_⟩
          have hi : i < r.args.length := by
            have q1 := (List.getElem?_eq_some_iff.mp hx).1
            rwa [List.length_map] at q1
          have ex : x = .int ((r.args[i] : Nat) : Int) := by
            rw [List.getElem?_map, List.getElem?_eq_getElem hi] at hx
            exact (Option.some.inj hx).symm
          subst ex
          obtain ⟨l, g1, g2⟩ := av r.args[i] (List.getElem_mem hi)
          obtain ⟨b, bs, y, k1, k2, k3, k4⟩ := hL.at g1 g2
          refine ⟨_, rfl, _, rfl, t, _, (r.args[i] : Nat), _, rfl, rfl, z1.seq (SqL.of hL.top), atI_nat k1, _, rfl, _, rfl, _, r, c, rfl, hR.tk (tk_same z1), e3, b, _, (placeR r.w c : Nat), y, rfl, rfl, z1.seq k2, atI_nat k3, ws, z2, ?_, ?_⟩
          · rw [z3.len, List.length_map, List.length_take]
            have q1 : r.args.length ≤ 3 := by
              rw [har]
              cases r.w <;> decide
            exact small1000 (by omega)
          · have dk : DK K H' (upd H' D (.lst (ws ++ [y]))) := dk_lst z2
            refine ⟨fun b' o e' => ?_, zD, ws ++ [y], upd_same, ?_⟩
            · rw [upd_ne (ne_of_none e' zD)]
              exact z1 _ _ e'
            · rw [List.take_add_one, List.getElem?_eq_getElem hi, Option.toList_some, List.map_append]
              exact (z3.dk dk).snoc ((k4.same z1).dk dk)
        · rintro H' ⟨z1, zD, ws, z2, z3⟩
          rw [List.length_map, List.take_length] at z3
          have hm : ∀ x ∈ r.args.map (fun a => vof 0 L a (placeR r.w c)), Bd x := by
            intro x hx
            obtain ⟨a', ha', rfl⟩ := List.mem_map.mp hx
            obtain ⟨l, g1, g2⟩ := av a' ha'
            exact hB a' l g1 _ (List.mem_of_getElem? (vof_get (dflt := 0) g1 g2))
          have h1' : 1 ≤ (r.args.map fun a => vof 0 L a (placeR r.w c)).length := by
            rw [List.length_map, har]
            revert e1 e2
            cases r.w <;> decide
          refine ⟨r, _, u, D, ws, rfl, h2.tk (tk_same z1), SqL.of z2, z3, by rw [List.length_map, har], h1', hm, hq, fun v H'' s' n' => ?_⟩
          exact fin _ _ _ rfl rfl (z1.trans s') (by rw [es]; exact n')
end
end K70
/-! K70, part T: forms: a NUMBER, and cuts times NUMBERs; == of two. -/
namespace K70
open PySem PySem.Spec PyProof.Rows L2
/-- a form, by what it is: its NUMBER, each cut's factor (0 of those that it has not) -/
structure Form where
  c : Rat
  co : Nat → Rat
/-- the entries kvs tell each cut's factor, the cuts below n -/
structure DicK (K : PySem.W.Frag) (n : Nat) (H : Hp) (kvs : List (Key × V)) (h : Nat → Rat) : Prop where
  nd : (kvs.map (·.1)).Nodup
  it : ∀ k y, (k, y) ∈ kvs → ∃ i : Nat, i < n ∧ k = .inl (i : Int) ∧ NumV K H y (h i)
  no : ∀ i : Nat, (∀ y, ((.inl (i : Int) : Key), y) ∉ kvs) → h i = 0
theorem DicK.tk {K : PySem.W.Frag} {n : Nat} {H H' : Hp} {kvs : List (Key × V)} {h : Nat → Rat} (d : DicK K n H kvs h) (e : TK K H H') : DicK K n H' kvs h := ⟨d.nd, fun k y m => by
  obtain ⟨i, g1, g2, g3⟩ := d.it k y m
  exact ⟨i, g1, g2, g3.tk e⟩, d.no⟩
theorem DicK.mono {K : PySem.W.Frag} {n m : Nat} {H : Hp} {kvs : List (Key × V)} {h : Nat → Rat} (d : DicK K n H kvs h) (e : n ≤ m) : DicK K m H kvs h := ⟨d.nd, fun k y m => by
  obtain ⟨i, g1, g2, g3⟩ := d.it k y m
  exact ⟨i, Nat.lt_of_lt_of_le g1 e, g2, g3⟩, d.no⟩
/-- a form stands at v, its cuts below n -/
def FormV (K : PySem.W.Frag) (n : Nat) (H : Hp) (v : V) (f : Form) : Prop := ∃ (a d : Addr) (u : V) (kvs : List (Key × V)), v = .ref a ∧ SqT K H a [u, .ref d] ∧ NumV K H u f.c ∧ H d = some (.dK kvs) ∧ DicK K n H kvs f.co
theorem FormV.dk {K : PySem.W.Frag} {n : Nat} {H H' : Hp} {v : V} {f : Form} (h : FormV K n H v f) (e : DK K H H') : FormV K n H' v f := by
  obtain ⟨a, d, u, kvs, h1, h2, h3, h4, h5⟩ := h
  exact ⟨a, d, u, kvs, h1, e.t _ _ h2, h3.dk e, e.p _ _ h4, h5.tk e.t⟩
theorem FormV.mono {K : PySem.W.Frag} {n m : Nat} {H : Hp} {v : V} {f : Form} (h : FormV K n H v f) (e : n ≤ m) : FormV K m H v f := by
  obtain ⟨a, d, u, kvs, h1, h2, h3, h4, h5⟩ := h
  exact ⟨a, d, u, kvs, h1, h2, h3, h4, h5.mono e⟩
/-! ### two lists without repeats, one within the other -/
theorem nodup_sub {α : Type} [DecidableEq α] : ∀ {l m : List α}, l.Nodup → (∀ x ∈ l, x ∈ m) → l.length ≤ m.length
  | [], _, _, _ => Nat.zero_le _
  | a :: l, m, hn, hs => by
    obtain ⟨h1, h2⟩ := List.nodup_cons.mp hn
    have ha : a ∈ m := hs a List.mem_cons_self
    have q := nodup_sub (l := l) (m := m.erase a) h2 fun x hx => by
      have ne : x ≠ a := fun z => h1 (z ▸ hx)
      exact (List.mem_erase_of_ne ne).mpr (hs x (List.mem_cons_of_mem _ hx))
    have e := List.length_erase_of_mem ha
    have p := List.length_pos_of_mem ha
    rw [List.length_cons]
    omega
theorem nodup_sub_eq {α : Type} [DecidableEq α] {l m : List α} (hl : l.Nodup) (hs : ∀ x ∈ l, x ∈ m) (he : l.length = m.length) : ∀ x ∈ m, x ∈ l := by
  intro x hx
  by_cases h : x ∈ l
  · exact h
  · have q := nodup_sub (l := x :: l) (m := m) (List.nodup_cons.mpr ⟨h, hl⟩) fun y hy => by
      rcases List.mem_cons.mp hy with e | hy
      · rw [e]
        exact hx
      · exact hs y hy
    rw [List.length_cons] at q
    omega
/-! ### == of two NUMBERs, of two forms -/
section
variable {X : Cx} {pins : List (Addr × Obj)} {σ : L2.St} {H : Hp} {s : Shared}
theorem ref_of {x : V} {a : Addr} {u : Value} (e : x = .ref a) (r : RelV x u) : u = .ref a := by
  subst e
  exact r
theorem rat_ext_iff (p q : Rat) : (decide (p.num = q.num) && decide ((p.den : Int) = (q.den : Int))) = decide (p = q) := by
  by_cases h : p = q
  · subst h
    simp
  · rw [decide_eq_false h]
    by_cases h1 : p.num = q.num
    · have h2 : ¬ (p.den : Int) = (q.den : Int) := fun z => h (Rat.ext h1 (by omega))
      rw [decide_eq_false h2, Bool.and_false]
    · rw [decide_eq_false h1, Bool.false_and]
theorem numTree (I : Inv X pins σ H s) (n : Nat) {x y : V} {p q : Rat} {u v : Value} (hx : NumV X.K H x p) (hy : NumV X.K H y q) (ru : RelV x u) (rv : RelV y v) : PySem.W.EqTree X.prog X.w s (n + 1) u v (decide (p = q)) := by
  obtain ⟨a, e1, h1⟩ := hx
  obtain ⟨b, e2, h2⟩ := hy
  cases ref_of e1 ru
  cases ref_of e2 rv
  by_cases hab : a = b
  · subst hab
    have e := I.tuple_inj h1 h2
    simp only [List.cons.injEq, V.int.injEq, and_true] at e
    rw [decide_eq_true (Rat.ext e.1 (by omega))]
    exact .same
  · obtain ⟨its, r1, t1, _⟩ := I.tuple h1
    obtain ⟨its', r2, t2, _⟩ := I.tuple h2
    obtain ⟨u1, u2, rfl, ⟨k1, rfl⟩, ⟨k2, rfl⟩⟩ := vals2 r1
    obtain ⟨v1, v2, rfl, ⟨j1, rfl⟩, ⟨j2, rfl⟩⟩ := vals2 r2
    have t := PySem.W.EqTree.tuples (prog := X.prog) (w := X.w) (s := s) (n := n) (e := fun j => if j = 0 then decide (p.num = q.num) else decide ((p.den : Int) = (q.den : Int))) hab t1 t2 (fun j hj1 hj2 => by
      match j, hj1 with
      | 0, _ =>
        refine .leaf fun A _ => ?_
        have z := SeqAt.EqAt.int_int (A := A) (s := s) p.num k1 q.num j1
        rw [show (p.num == q.num) = decide (p.num = q.num) from rfl] at z
        exact z
      | 1, _ =>
        refine .leaf fun A _ => ?_
        have z := SeqAt.EqAt.int_int (A := A) (s := s) (p.den : Int) k2 (q.den : Int) j2
        rw [show ((p.den : Int) == (q.den : Int)) = decide ((p.den : Int) = (q.den : Int)) from rfl] at z
        exact z
      | j + 2, h => exact absurd h (by simp))
    rw [← rat_ext_iff]
    have e : ((List.range (min (#[Value.int p.num k1, Value.int (p.den : Int) k2] : Array Value).size (#[Value.int q.num j1, Value.int (q.den : Int) j2] : Array Value).size)).all (fun j => if j = 0 then decide (p.num = q.num) else decide ((p.den : Int) = (q.den : Int))) && (#[Value.int p.num k1, Value.int (p.den : Int) k2] : Array Value).size == (#[Value.int q.num j1, Value.int (q.den : Int) j2] : Array Value).size) = (decide (p.num = q.num) && decide ((p.den : Int) = (q.den : Int))) := by
      show (([0, 1] : List Nat).all _ && true) = _
      simp
    rw [← e]
    exact t
theorem rd_inj {H : Hp} {a : Addr} {u v : HO} (h : Rd H a u) (g : Rd H a v) (hu : ∀ o x, u ≠ .frz o x) (hv : ∀ o x, v ≠ .frz o x) : u = v := by
  rcases h with h | ⟨o, h⟩ <;> rcases g with g | ⟨o', g⟩
  · exact Option.some.inj (h.symm.trans g)
  · exact absurd (Option.some.inj (h.symm.trans g)) (hu _ _)
  · exact absurd (Option.some.inj (h.symm.trans g)).symm (hv _ _)
  · have q := Option.some.inj (h.symm.trans g)
    injection q
theorem num_inj (I : Inv X pins σ H s) {x : V} {p q : Rat} (hx : NumV X.K H x p) (hy : NumV X.K H x q) : p = q := by
  obtain ⟨a, rfl, h1⟩ := hx
  obtain ⟨b, e2, h2⟩ := hy
  cases e2
  have e := I.tuple_inj h1 h2
  simp only [List.cons.injEq, V.int.injEq, and_true] at e
  exact Rat.ext e.1 (by omega)
theorem valueAt_mem {κ : Type} [DecidableEq κ] {l : List (κ × Value)} {k : κ} {y : Value} (h : valueAt l k = some y) : (k, y) ∈ l := by
  unfold valueAt at h
  obtain ⟨⟨k', y'⟩, h1, h2⟩ := Option.map_eq_some_iff.mp h
  have m := List.mem_of_find?_eq_some h1
  have e : k' = k := by
    have q := List.find?_some h1
    simpa using q
  cases e
  cases h2
  exact m
theorem kv_mem {κ : Type} : ∀ {kvs : List (κ × V)} {vs : List (κ × Value)}, KV kvs vs → ∀ {k : κ} {u : Value}, (k, u) ∈ vs → ∃ y, (k, y) ∈ kvs ∧ RelV y u := by
  intro kvs vs r k u m
  obtain ⟨i, hi⟩ := List.mem_iff_getElem?.mp m
  obtain ⟨x, h1, h2⟩ := KV.at' r hi
  exact ⟨x, List.mem_of_getElem? h1, h2⟩
theorem form_cmp (I : Inv X pins σ H s) {x y : V} {n : Nat} {f g : Form} {u v : Value} {E : Value → Shared → Prop} {Q : Value → Shared → Prop} (hu : X.A.units + 64 < cLine) (hx : FormV X.K n H x f) (hy : FormV X.K n H y g) (ru : RelV x u) (rv : RelV y v) (Q1 : ∀ b : Bool, (b = true → f = g) → Q (.bool b) s) : wpAny (model X.prog X.w) X.A (compareOp .Eq u v) Q E s := by
  obtain ⟨a, d, w, kvs, e1, h1, h2, h3, h4, h5, h6⟩ := hx
  have h3 := Rd.of h3
  obtain ⟨a', d', w', kvs', e2, g1, g2, g3, g4, g5, g6⟩ := hy
  have g3 := Rd.of g3
  cases ref_of e1 ru
  cases ref_of e2 rv
  -- when the dicts are one
  have one : ∀ kvs'' : List (Key × V), kvs = kvs'' → (kvs''.map (·.1)).Nodup → (∀ k y, (k, y) ∈ kvs'' → ∃ i : Nat, i < n ∧ k = .inl (i : Int) ∧ NumV X.K H y (g.co i)) → (∀ i : Nat, (∀ y, ((.inl (i : Int) : Key), y) ∉ kvs'') → g.co i = 0) → f.co = g.co := by
    rintro kvs'' rfl _ g5 g6
    funext i
    by_cases hi : ∃ y, ((.inl (i : Int) : Key), y) ∈ kvs
    · obtain ⟨y, hy⟩ := hi
      obtain ⟨j, _, k1, k2⟩ := h5 _ _ hy
      obtain ⟨j', _, k3, k4⟩ := g5 _ _ hy
      have ej : i = j := by
        have q := Sum.inl.inj k1
        omega
      have ej' : i = j' := by
        have q := Sum.inl.inj k3
        omega
      subst ej ej'
      exact num_inj I k2 k4
    · rw [h6 i fun y m => hi ⟨y, m⟩, g6 i fun y m => hi ⟨y, m⟩]
  · obtain ⟨its, r1, t1, _⟩ := I.tuple h1
    obtain ⟨its', r2, t2, _⟩ := I.tuple g1
    obtain ⟨u1, u2, rfl, q1, q2⟩ := vals2 r1
    obtain ⟨v1, v2, rfl, q3, q4⟩ := vals2 r2
    have tn := numTree I 1 h2 g2 q1 q3
    cases ref_of rfl q2
    cases ref_of rfl q4
    have td : ∃ b, PySem.W.EqTree X.prog X.w s 2 (.ref d) (.ref d') b ∧ (b = true → f.co = g.co) := by
      by_cases hdd : d = d'
      · subst hdd
        have ek := rd_inj h3 g3 (by intro _ _ z; cases z) (by intro _ _ z; cases z)
        exact ⟨true, .same, fun _ => one kvs' (by injection ek) g4 g5 g6⟩
      · obtain ⟨_, ya, va, ra, da⟩ := dk_rd I.hok h3
        obtain ⟨_, yb, vb, rb, db⟩ := dk_rd I.hok g3
        have t := PySem.W.EqTree.dicts (prog := X.prog) (w := X.w) (s := s) (n := 1) (knd := mixKind X.prog X.w) (e := fun k => match k with
          | .inl i => decide (f.co i.toNat = g.co i.toNat)
          | .inr _ => false) hdd ya yb da db (fun k v y m e => by
          obtain ⟨x, m1, r⟩ := kv_mem ra m
          obtain ⟨x', m2, r'⟩ := kv_mem rb (valueAt_mem e)
          obtain ⟨j, _, k1, k2⟩ := h5 _ _ m1
          obtain ⟨j', _, k3, k4⟩ := g5 _ _ m2
          subst k1
          have ej : j = j' := by
            have q := Sum.inl.inj k3
            omega
          subst ej
          exact numTree I 0 k2 k4 r r')
        refine ⟨_, t, fun hb => ?_⟩
        rw [Bool.and_eq_true, List.all_eq_true] at hb
        obtain ⟨hlen, hall⟩ := hb
        have ek : va.map (·.1) = kvs.map (·.1) := ra.keys.symm
        have ek' : vb.map (·.1) = kvs'.map (·.1) := rb.keys.symm
        have hsub : ∀ k ∈ va.map (·.1), k ∈ vb.map (·.1) := by
          intro k hk
          obtain ⟨p, hp, rfl⟩ := List.mem_map.mp hk
          have q := hall p hp
          rw [Bool.and_eq_true] at q
          obtain ⟨y, hy⟩ := Option.isSome_iff_exists.mp q.1
          exact List.mem_map.mpr ⟨_, valueAt_mem hy, rfl⟩
        have hback := nodup_sub_eq (by rw [ek]; exact h4) hsub (by rw [List.length_map, List.length_map]; exact beq_iff_eq.mp hlen)
        funext i
        by_cases hi : ((.inl (i : Int) : Key)) ∈ va.map (·.1)
        · obtain ⟨p, hp, ep⟩ := List.mem_map.mp hi
          have q := hall p hp
          rw [Bool.and_eq_true, ep] at q
          simpa using q.2
        · have hi' : ((.inl (i : Int) : Key)) ∉ vb.map (·.1) := fun z => hi (hback _ z)
          rw [ek] at hi
          rw [ek'] at hi'
          rw [h6 i fun y m => hi (List.mem_map.mpr ⟨_, m, rfl⟩), g6 i fun y m => hi' (List.mem_map.mpr ⟨_, m, rfl⟩)]
    obtain ⟨b, td, hb⟩ := td
    refine PySem.W.eq_tuplesT (n := 2) (e := fun j => if j = 0 then decide (f.c = g.c) else b) t1 t2 (fun j hj1 hj2 => by
      match j, hj1 with
      | 0, _ => exact tn
      | 1, _ => exact td
      | j + 2, h => exact absurd h (by simp)) (by omega) (Q1 _ fun hb' => ?_)
    have e : ((List.range (min (#[u1, Value.ref d] : Array Value).size (#[v1, Value.ref d'] : Array Value).size)).all (fun j => if j = 0 then decide (f.c = g.c) else b) && (#[u1, Value.ref d] : Array Value).size == (#[v1, Value.ref d'] : Array Value).size) = (decide (f.c = g.c) && b) := by
      show (([0, 1] : List Nat).all _ && true) = _
      simp
    rw [show ([u1, Value.ref d] : List Value).toArray = #[u1, Value.ref d] from rfl, show ([v1, Value.ref d'] : List Value).toArray = #[v1, Value.ref d'] from rfl, e, Bool.and_eq_true] at hb'
    have ec := of_decide_eq_true hb'.1
    have eco := hb hb'.2
    cases f
    cases g
    simp only at ec eco
    rw [ec, eco]
end
section
variable {X : Cx}
def rEqForm (K : PySem.W.Frag) : R2 := fun x y H Q => ∃ n f g, FormV K n H x f ∧ FormV K n H y g ∧ ∀ b : Bool, (b = true → f = g) → Q (.bl b) H
theorem op_eqForm (hu : X.A.units + 64 < cLine) : OpR X (compareOp .Eq) (rEqForm X.K) := by
  intro pins s σ H x y v u Q I rx ry h
  obtain ⟨n, f, g, hf, hg, q⟩ := h
  exact form_cmp I hu hf hg rx ry fun b hb => ⟨.bl b, H, I, rfl, q b hb⟩
end
end K70
/-! K70, part A2: units, cuts. -/
namespace K70
/-! ### units -/
def un (k : Nat) : Rat := mkRat 1 (2 ^ k)
theorem un_mul (k : Nat) : un k * (2 : Rat) ^ k = 1 := by
  unfold un
  rw [Rat.mkRat_eq_div]
  have e : ((2 ^ k : Nat) : Rat) = (2 : Rat) ^ k := natCast_pow_two k
  have p := pow_pos_two k
  rw [e]
  have ne : (2 : Rat) ^ k ≠ 0 := by grind
  rw [Rat.div_mul_cancel ne]
  rfl
theorem un_pos (k : Nat) : 0 < un k := by
  have p := pow_pos_two k
  have e := un_mul k
  have nz : ¬ un k ≤ 0 := by
    intro h
    have q := Rat.mul_le_mul_of_nonneg_right h (show (0 : Rat) ≤ (2 : Rat) ^ k by grind)
    grind
  grind
theorem un_le (k : Nat) : un k ≤ 1 := by
  have p := pow_mono_two (Nat.zero_le k)
  have e := un_mul k
  have u := un_pos k
  have q := Rat.mul_le_mul_of_nonneg_left p (show (0 : Rat) ≤ un k by grind)
  have z : (2 : Rat) ^ 0 = 1 := rfl
  grind
theorem un_sz {k d : Nat} (h : k ≤ d) : Sz d 0 (un k) := by
  refine ⟨Nat.dvd_trans (mkRat_den_dvd 1 k) (Nat.pow_dvd_pow 2 h), ?_, ?_⟩
  · have u := un_pos k
    have z : (2 : Rat) ^ 0 = 1 := rfl
    grind
  · have u := un_le k
    have z : (2 : Rat) ^ 0 = 1 := rfl
    grind
theorem cutR_eq (f : Nat) (q : Rat) : cutR f q = ((q.num * 2 ^ f / q.den : Int) : Rat) * un f := by
  unfold cutR un
  rw [Rat.mkRat_eq_div, Rat.mkRat_eq_div, Rat.div_def, Rat.div_def]
  rw [Rat.intCast_one, Rat.one_mul]
theorem floor_le (f : Nat) (q : Rat) : ((q.num * 2 ^ f / q.den : Int) : Rat) ≤ q * 2 ^ f ∧ q * 2 ^ f < ((q.num * 2 ^ f / q.den : Int) : Rat) + 1 := by
  generalize hN : q.num * 2 ^ f / (q.den : Int) = N
  have hd : (0 : Int) < (q.den : Int) := by exact_mod_cast q.den_pos
  have h1 : N * (q.den : Int) ≤ q.num * 2 ^ f := by
    rw [← hN]
    exact Int.ediv_mul_le _ (by omega)
  have h2 : q.num * 2 ^ f < (N + 1) * (q.den : Int) := by
    rw [← hN]
    exact Int.lt_ediv_add_one_mul_self _ hd
  have c1 := (Rat.intCast_le_intCast).mpr h1
  have c2 := (Rat.intCast_lt_intCast).mpr h2
  rw [Rat.intCast_mul, Rat.intCast_mul] at c1 c2
  have ep : (((2 : Int) ^ f : Int) : Rat) = (2 : Rat) ^ f := by
    have e := natCast_pow_two f
    rw [← e]
    congr 1
  rw [ep] at c1 c2
  rw [Rat.intCast_add] at c2
  have eq : (q.num : Rat) = q * (q.den : Int) := by
    have e := Rat.mkRat_self q
    rw [Rat.mkRat_eq_div] at e
    have d : ((q.den : Nat) : Rat) ≠ 0 := by
      have := q.den_pos
      intro h
      have z : ((q.den : Nat) : Rat) = ((0 : Nat) : Rat) := h
      have := Rat.natCast_inj.mp z
      omega
    have z := Rat.div_mul_cancel (a := (q.num : Rat)) d
    rw [e] at z
    exact z.symm
  rw [eq] at c1 c2
  have dp : (0 : Rat) < ((q.den : Int) : Rat) := by
    have z := (Rat.intCast_lt_intCast).mpr hd
    exact z
  have e3 : ((1 : Int) : Rat) = 1 := rfl
  rw [e3] at c2
  generalize ((q.den : Int) : Rat) = D at *
  generalize (2 : Rat) ^ f = T at *
  constructor
  · have nz : ¬ q * T < (N : Rat) := by
      intro h
      have z := Rat.mul_lt_mul_of_pos_right h dp
      grind
    grind
  · have nz : ¬ (N : Rat) + 1 ≤ q * T := by
      intro h
      have z := Rat.mul_le_mul_of_nonneg_right h (show 0 ≤ D by grind)
      grind
    grind
theorem cutR_le (f : Nat) (q : Rat) : cutR f q ≤ q := by
  have h := (floor_le f q).1
  rw [cutR_eq]
  have u := un_mul f
  have z := Rat.mul_le_mul_of_nonneg_right h (show 0 ≤ un f by have := un_pos f; grind)
  have e : q * 2 ^ f * un f = q := by
    rw [Rat.mul_assoc, Rat.mul_comm ((2 : Rat) ^ f), u, Rat.mul_one]
  grind
theorem cutR_gt (f : Nat) (q : Rat) : q < cutR f q + un f := by
  have h := (floor_le f q).2
  rw [cutR_eq]
  have u := un_mul f
  have z := Rat.mul_lt_mul_of_pos_right h (un_pos f)
  have e : q * 2 ^ f * un f = q := by
    rw [Rat.mul_assoc, Rat.mul_comm ((2 : Rat) ^ f), u, Rat.mul_one]
  grind
theorem cutR_den (f : Nat) (q : Rat) : (cutR f q).den ∣ 2 ^ f := mkRat_den_dvd _ _
theorem int_of_den {q : Rat} {f : Nat} (h : q.den ∣ 2 ^ f) : ∃ z : Int, q * (2 : Rat) ^ f = (z : Rat) := by
  obtain ⟨c, hc⟩ := h
  have e := Rat.mkRat_self q
  rw [Rat.mkRat_eq_div] at e
  have d : ((q.den : Nat) : Rat) ≠ 0 := by
    have := q.den_pos
    intro h
    have z : ((q.den : Nat) : Rat) = ((0 : Nat) : Rat) := h
    have := Rat.natCast_inj.mp z
    omega
  have z := Rat.div_mul_cancel (a := (q.num : Rat)) d
  rw [e] at z
  refine ⟨q.num * (c : Int), ?_⟩
  have e2 : (2 : Rat) ^ f = ((q.den : Nat) : Rat) * ((c : Nat) : Rat) := by
    rw [← natCast_pow_two f, hc]
    exact Rat.natCast_mul _ _
  rw [e2, ← Rat.mul_assoc, z, Rat.intCast_mul]
  rfl
theorem cutR_id {q : Rat} {f : Nat} (h : q.den ∣ 2 ^ f) : cutR f q = q := by
  obtain ⟨z, hz⟩ := int_of_den h
  have h1 := floor_le f q
  rw [hz] at h1
  have a1 := (Rat.intCast_le_intCast).mp h1.1
  have a2 : z < q.num * 2 ^ f / (q.den : Int) + 1 := by
    refine (Rat.intCast_lt_intCast).mp ?_
    rw [Rat.intCast_add]
    exact h1.2
  have e : q.num * 2 ^ f / (q.den : Int) = z := by omega
  rw [cutR_eq, e, ← hz, Rat.mul_assoc, Rat.mul_comm ((2 : Rat) ^ f), un_mul, Rat.mul_one]
theorem cutR_sz {f d k : Nat} {x : Rat} (h : Sz d k x) : Sz f (k + 1) (cutR f x) := by
  have h1 := cutR_le f x
  have h2 := cutR_gt f x
  have u := un_le f
  have p : (1 : Rat) ≤ (2 : Rat) ^ k := by
    have z := pow_mono_two (Nat.zero_le k)
    have e : (2 : Rat) ^ 0 = 1 := rfl
    grind
  have e := pow_le_two k
  obtain ⟨_, h3, h4⟩ := h
  exact ⟨cutR_den f x, by grind, by grind⟩
/-- what is cut off a number of at most fine places -/
theorem cutR_span {q : Rat} {fig fine : Nat} (hq : q.den ∣ 2 ^ fine) (h : fig ≤ fine) : un fine - un fig ≤ cutR fig q - q ∧ cutR fig q - q ≤ 0 := by
  have h1 := cutR_le fig q
  have h2 := cutR_gt fig q
  refine ⟨?_, by grind⟩
  obtain ⟨z, hz⟩ := int_of_den hq
  obtain ⟨y, hy⟩ := int_of_den (f := fine) (Nat.dvd_trans (cutR_den fig q) (Nat.pow_dvd_pow 2 h))
  have e1 : (2 : Rat) ^ fine = (2 : Rat) ^ fig * (2 : Rat) ^ (fine - fig) := by
    rw [pow_add_two]
    congr 1
    omega
  have u1 := un_mul fig
  have u2 := un_mul fine
  have p := pow_pos_two fine
  -- un fig * 2^fine is the whole number 2^(fine - fig)
  have e2 : un fig * (2 : Rat) ^ fine = (((2 : Int) ^ (fine - fig) : Int) : Rat) := by
    rw [e1, ← Rat.mul_assoc, u1, Rat.one_mul, ← natCast_pow_two (fine - fig)]
    congr 1
  have h3 : (z : Rat) < (y : Rat) + (((2 : Int) ^ (fine - fig) : Int) : Rat) := by
    rw [← hz, ← hy, ← e2]
    have m := Rat.mul_lt_mul_of_pos_right h2 p
    grind
  rw [← Rat.intCast_add] at h3
  have h4 := (Rat.intCast_lt_intCast).mp h3
  have h5 : z + 1 ≤ y + (2 : Int) ^ (fine - fig) := by omega
  have h6 := (Rat.intCast_le_intCast).mpr h5
  rw [Rat.intCast_add, Rat.intCast_add, ← hz, ← hy, ← e2] at h6
  have e3 : ((1 : Int) : Rat) = un fine * (2 : Rat) ^ fine := u2.symm
  rw [e3] at h6
  have nz : ¬ cutR fig q + un fig < q + un fine := by
    intro c
    have m := Rat.mul_lt_mul_of_pos_right c p
    grind
  grind
end K70
/-! K70, part U: forms, plainly; entries of a dict. -/
namespace K70
open PySem PySem.Spec PyProof.Rows L2
/-! ### sums -/
def sumR (l : List Rat) : Rat := l.foldr (· + ·) 0
theorem sumR_nil : sumR [] = 0 := rfl
theorem sumR_cons (a : Rat) (l : List Rat) : sumR (a :: l) = a + sumR l := rfl
theorem sumR_append : ∀ l m : List Rat, sumR (l ++ m) = sumR l + sumR m
  | [], m => by rw [List.nil_append, sumR_nil]; grind
  | a :: l, m => by rw [List.cons_append, sumR_cons, sumR_cons, sumR_append l m]; grind
theorem sumR_one (a : Rat) : sumR [a] = a := by rw [sumR_cons, sumR_nil]; grind
theorem sumR_add {α : Type} (f g : α → Rat) : ∀ l : List α, sumR (l.map fun i => f i + g i) = sumR (l.map f) + sumR (l.map g)
  | [] => by simp only [List.map_nil, sumR_nil]; grind
  | a :: l => by simp only [List.map_cons, sumR_cons, sumR_add f g l]; grind
theorem sumR_mul {α : Type} (q : Rat) (f : α → Rat) : ∀ l : List α, sumR (l.map fun i => q * f i) = q * sumR (l.map f)
  | [] => by simp only [List.map_nil, sumR_nil]; grind
  | a :: l => by simp only [List.map_cons, sumR_cons, sumR_mul q f l]; grind
theorem sumR_le {α : Type} {f g : α → Rat} : ∀ {l : List α}, (∀ i ∈ l, f i ≤ g i) → sumR (l.map f) ≤ sumR (l.map g)
  | [], _ => by simp only [List.map_nil, sumR_nil]; grind
  | a :: l, h => by
    have h1 := h a List.mem_cons_self
    have h2 := sumR_le (l := l) fun i hi => h i (List.mem_cons_of_mem _ hi)
    simp only [List.map_cons, sumR_cons]
    grind
theorem sumR_zero {α : Type} {f : α → Rat} : ∀ {l : List α}, (∀ i ∈ l, f i = 0) → sumR (l.map f) = 0
  | [], _ => rfl
  | a :: l, h => by
    have h1 := h a List.mem_cons_self
    have h2 := sumR_zero (l := l) fun i hi => h i (List.mem_cons_of_mem _ hi)
    simp only [List.map_cons, sumR_cons]
    grind
theorem sumR_erase {g : Nat → Rat} {a : Nat} : ∀ {l : List Nat}, a ∈ l → sumR (l.map g) = g a + sumR ((l.erase a).map g)
  | [], h => by cases h
  | b :: l, h => by
    by_cases e : b = a
    · subst e
      rw [List.erase_cons_head]
      rfl
    · have h' : a ∈ l := (List.mem_cons.mp h).resolve_left fun z => e z.symm
      rw [List.erase_cons_tail (by simpa using e)]
      simp only [List.map_cons, sumR_cons, sumR_erase h']
      grind
/-- over numbers below n without repeats, the rest being 0 -/
theorem sum_nodup {g : Nat → Rat} : ∀ {n : Nat} {ks : List Nat}, ks.Nodup → (∀ i ∈ ks, i < n) → (∀ i, i < n → i ∉ ks → g i = 0) → sumR (ks.map g) = sumR ((List.range n).map g)
  | 0, ks, _, h, _ => by
    cases ks with
    | nil => rfl
    | cons a l => exact absurd (h a List.mem_cons_self) (Nat.not_lt_zero a)
  | n + 1, ks, hn, h, hz => by
    rw [List.range_succ, List.map_append, sumR_append, List.map_cons, List.map_nil, sumR_one]
    by_cases m : n ∈ ks
    · rw [sumR_erase m, sum_nodup (n := n) (ks := ks.erase n) (hn.erase n) (fun i hi => by
        have h1 := h i (List.mem_of_mem_erase hi)
        have ne : i ≠ n := fun z => by
          subst z
          exact (List.Nodup.mem_erase_iff hn).mp hi |>.1 rfl
        omega) (fun i hi hm => hz i (by omega) fun z => hm ((List.mem_erase_of_ne (by omega)).mpr z))]
      grind
    · rw [hz n (by omega) m, sum_nodup (n := n) (ks := ks) hn (fun i hi => by
        have h1 := h i hi
        have ne : i ≠ n := fun z => m (z ▸ hi)
        omega) (fun i hi hm => hz i (by omega) hm)]
      grind
/-! ### forms -/
def rmin (x y : Rat) : Rat := if y < x then y else x
def rmax (x y : Rat) : Rat := if x < y then y else x
theorem rmin_le1 (x y : Rat) : rmin x y ≤ x := by unfold rmin; split <;> grind
theorem rmin_le2 (x y : Rat) : rmin x y ≤ y := by unfold rmin; split <;> grind
theorem rmax_ge1 (x y : Rat) : x ≤ rmax x y := by unfold rmax; split <;> grind
theorem rmax_ge2 (x y : Rat) : y ≤ rmax x y := by unfold rmax; split <;> grind
theorem rmin_sz {d k : Nat} {x y : Rat} (h1 : Sz d k x) (h2 : Sz d k y) : Sz d k (rmin x y) := by unfold rmin; split <;> assumption
theorem rmax_sz {d k : Nat} {x y : Rat} (h1 : Sz d k x) (h2 : Sz d k y) : Sz d k (rmax x y) := by unfold rmax; split <;> assumption
abbrev Span := Rat × Rat
def spAt (spans : List Span) (i : Nat) : Span := spans.getD i (0, 0)
theorem spAt_get {spans : List Span} {i : Nat} (h : i < spans.length) : spans[i]? = some (spAt spans i) := by
  unfold spAt
  rw [List.getD_eq_getElem?_getD, List.getElem?_eq_getElem h, Option.getD_some]
theorem spAt_out {spans : List Span} {i : Nat} (h : spans.length ≤ i) : spAt spans i = (0, 0) := by
  unfold spAt
  rw [List.getD_eq_getElem?_getD, List.getElem?_eq_none h, Option.getD_none]
theorem spAt_app {spans t : List Span} {i : Nat} (h : i < spans.length) : spAt (spans ++ t) i = spAt spans i := by
  unfold spAt
  rw [List.getD_eq_getElem?_getD, List.getD_eq_getElem?_getD, List.getElem?_append_left h]
theorem spAt_new {spans : List Span} {s : Span} : spAt (spans ++ [s]) spans.length = s := by
  unfold spAt
  rw [List.getD_eq_getElem?_getD, List.getElem?_append_right (Nat.le_refl _), Nat.sub_self]
  rfl
def lowI (spans : List Span) (f : Form) (i : Nat) : Rat := rmin (f.co i * (spAt spans i).1) (f.co i * (spAt spans i).2)
def highI (spans : List Span) (f : Form) (i : Nat) : Rat := rmax (f.co i * (spAt spans i).1) (f.co i * (spAt spans i).2)
def lowF (spans : List Span) (f : Form) : Rat := f.c + sumR ((List.range spans.length).map (lowI spans f))
def highF (spans : List Span) (f : Form) : Rat := f.c + sumR ((List.range spans.length).map (highI spans f))
def evalF (n : Nat) (f : Form) (ε : Nat → Rat) : Rat := f.c + sumR ((List.range n).map fun i => f.co i * ε i)
def cutF (n : Nat) : Option Span → Form
  | none => ⟨0, fun _ => 0⟩
  | some _ => ⟨0, fun i => if i = n then 1 else 0⟩
def sumF (f g : Form) : Form := ⟨f.c + g.c, fun i => f.co i + g.co i⟩
def timesF (q : Rat) (f : Form) : Form := ⟨q * f.c, fun i => q * f.co i⟩
def InSp (spans : List Span) (ε : Nat → Rat) : Prop := ∀ i, i < spans.length → (spAt spans i).1 ≤ ε i ∧ ε i ≤ (spAt spans i).2
theorem mul_between {a l h e : Rat} (h1 : l ≤ e) (h2 : e ≤ h) : rmin (a * l) (a * h) ≤ a * e ∧ a * e ≤ rmax (a * l) (a * h) := by
  rcases (Rat.le_total : a ≤ 0 ∨ 0 ≤ a) with ha | ha
  · have p1 : a * e ≤ a * l := by
      have z := Rat.mul_le_mul_of_nonneg_left h1 (show (0 : Rat) ≤ -a by grind)
      grind
    have p2 : a * h ≤ a * e := by
      have z := Rat.mul_le_mul_of_nonneg_left h2 (show (0 : Rat) ≤ -a by grind)
      grind
    have m1 := rmin_le2 (a * l) (a * h)
    have m2 := rmax_ge1 (a * l) (a * h)
    constructor <;> grind
  · have p1 := Rat.mul_le_mul_of_nonneg_left h1 ha
    have p2 := Rat.mul_le_mul_of_nonneg_left h2 ha
    have m1 := rmin_le1 (a * l) (a * h)
    have m2 := rmax_ge2 (a * l) (a * h)
    constructor <;> grind
/-- the form's ends hold all that it may be -/
theorem ends_hold {spans : List Span} {f : Form} {ε : Nat → Rat} (h : InSp spans ε) : lowF spans f ≤ evalF spans.length f ε ∧ evalF spans.length f ε ≤ highF spans f := by
  have h1 : sumR ((List.range spans.length).map (lowI spans f)) ≤ sumR ((List.range spans.length).map fun i => f.co i * ε i) :=
    sumR_le fun i hi => (mul_between (h i (List.mem_range.mp hi)).1 (h i (List.mem_range.mp hi)).2).1
  have h2 : sumR ((List.range spans.length).map fun i => f.co i * ε i) ≤ sumR ((List.range spans.length).map (highI spans f)) :=
    sumR_le fun i hi => (mul_between (h i (List.mem_range.mp hi)).1 (h i (List.mem_range.mp hi)).2).2
  unfold lowF evalF highF
  constructor <;> grind
theorem eval_sum (n : Nat) (f g : Form) (ε : Nat → Rat) : evalF n (sumF f g) ε = evalF n f ε + evalF n g ε := by
  have e := sumR_add (fun i => f.co i * ε i) (fun i => g.co i * ε i) (List.range n)
  have e2 : (fun i => f.co i * ε i + g.co i * ε i) = fun i => (f.co i + g.co i) * ε i := by
    funext i
    grind
  rw [e2] at e
  show f.c + g.c + sumR ((List.range n).map fun i => (f.co i + g.co i) * ε i) = _
  rw [e]
  unfold evalF
  grind
theorem eval_times (n : Nat) (q : Rat) (f : Form) (ε : Nat → Rat) : evalF n (timesF q f) ε = q * evalF n f ε := by
  have e := sumR_mul q (fun i => f.co i * ε i) (List.range n)
  have e2 : (fun i => q * (f.co i * ε i)) = fun i => q * f.co i * ε i := by
    funext i
    grind
  rw [e2] at e
  show q * f.c + sumR ((List.range n).map fun i => q * f.co i * ε i) = _
  rw [e]
  unfold evalF
  grind
theorem eval_const (n : Nat) (q : Rat) (ε : Nat → Rat) : evalF n ⟨q, fun _ => 0⟩ ε = q := by
  have e : sumR ((List.range n).map fun i => (0 : Rat) * ε i) = 0 := sumR_zero fun i _ => by grind
  show q + sumR ((List.range n).map fun i => (0 : Rat) * ε i) = q
  rw [e]
  grind
theorem eval_new (n : Nat) (s : Span) (ε : Nat → Rat) : evalF (n + 1) (cutF n (some s)) ε = ε n := by
  have e : sumR ((List.range n).map fun i => (if i = n then (1 : Rat) else 0) * ε i) = 0 := sumR_zero fun i hi => by
    have h := List.mem_range.mp hi
    rw [if_neg (by omega)]
    grind
  show 0 + sumR ((List.range (n + 1)).map fun i => (if i = n then (1 : Rat) else 0) * ε i) = ε n
  rw [List.range_succ, List.map_append, sumR_append, e, List.map_cons, List.map_nil, sumR_one, if_pos rfl]
  grind
/-- an older form does not see newer cuts -/
theorem eval_more {n m : Nat} {f : Form} {ε ε' : Nat → Rat} (h : n ≤ m) (hf : ∀ i, n ≤ i → f.co i = 0) (he : ∀ i, i < n → ε i = ε' i) : evalF m f ε' = evalF n f ε := by
  induction m with
  | zero =>
    have e : n = 0 := by omega
    subst e
    rfl
  | succ m ih =>
    by_cases hm : n = m + 1
    · subst hm
      have e : ((List.range (m + 1)).map fun i => f.co i * ε' i) = (List.range (m + 1)).map fun i => f.co i * ε i := List.map_congr_left fun i hi => by rw [he i (List.mem_range.mp hi)]
      unfold evalF
      rw [e]
    · have q := ih (by omega)
      unfold evalF at q ⊢
      rw [List.range_succ, List.map_append, sumR_append, List.map_cons, List.map_nil, sumR_one, hf m (by omega)]
      grind
/-! ### how great the numbers are -/
structure FSz (B k : Nat) (spans : List Span) (f : Form) : Prop where
  c : Sz B k f.c
  co : ∀ i, Sz B k (f.co i)
  lo : ∀ i, Sz B k (f.co i * (spAt spans i).1)
  hi : ∀ i, Sz B k (f.co i * (spAt spans i).2)
theorem FSz.mono {B k B' k' : Nat} {spans : List Span} {f : Form} (h : FSz B k spans f) (hB : B ≤ B') (hk : k ≤ k') : FSz B' k' spans f := ⟨h.c.mono hB hk, fun i => (h.co i).mono hB hk, fun i => (h.lo i).mono hB hk, fun i => (h.hi i).mono hB hk⟩
theorem FSz.app {B k : Nat} {spans t : List Span} {f : Form} (h : FSz B k spans f) (hf : ∀ i, spans.length ≤ i → f.co i = 0) : FSz B k (spans ++ t) f := by
  refine ⟨h.c, h.co, fun i => ?_, fun i => ?_⟩
  all_goals
    by_cases hi : i < spans.length
    · rw [spAt_app hi]
      first | exact h.lo i | exact h.hi i
    · rw [hf i (by omega), Rat.zero_mul]
      exact Sz.zero _ _
theorem FSz.sum {B k : Nat} {spans : List Span} {f g : Form} (h : FSz B k spans f) (h' : FSz B k spans g) : FSz B (k + 1) spans (sumF f g) := by
  refine ⟨h.c.add h'.c, fun i => (h.co i).add (h'.co i), fun i => ?_, fun i => ?_⟩
  · show Sz B (k + 1) ((f.co i + g.co i) * (spAt spans i).1)
    rw [Rat.add_mul]
    exact (h.lo i).add (h'.lo i)
  · show Sz B (k + 1) ((f.co i + g.co i) * (spAt spans i).2)
    rw [Rat.add_mul]
    exact (h.hi i).add (h'.hi i)
theorem FSz.times {B k b j : Nat} {spans : List Span} {f : Form} {q : Rat} (h : FSz B k spans f) (hq : Sz b j q) : FSz (b + B) (j + k) spans (timesF q f) := by
  refine ⟨hq.mul h.c, fun i => hq.mul (h.co i), fun i => ?_, fun i => ?_⟩
  · show Sz _ _ (q * f.co i * (spAt spans i).1)
    rw [Rat.mul_assoc]
    exact hq.mul (h.lo i)
  · show Sz _ _ (q * f.co i * (spAt spans i).2)
    rw [Rat.mul_assoc]
    exact hq.mul (h.hi i)
theorem FSz.const {B k : Nat} {spans : List Span} {q : Rat} (h : Sz B k q) : FSz B k spans ⟨q, fun _ => 0⟩ :=
  ⟨h, fun _ => Sz.zero _ _, fun i => by show Sz B k (0 * _); rw [Rat.zero_mul]; exact Sz.zero _ _, fun i => by show Sz B k (0 * _); rw [Rat.zero_mul]; exact Sz.zero _ _⟩
theorem FSz.new {B k : Nat} {spans : List Span} {s : Span} (h1 : Sz B k s.1) (h2 : Sz B k s.2) : FSz B k (spans ++ [s]) (cutF spans.length (some s)) := by
  refine ⟨Sz.zero _ _, fun i => ?_, fun i => ?_, fun i => ?_⟩
  · show Sz B k (if i = spans.length then 1 else 0)
    split
    · exact Sz.one _ _
    · exact Sz.zero _ _
  · show Sz B k ((if i = spans.length then 1 else 0) * _)
    split
    · rename_i e
      subst e
      rw [spAt_new, Rat.one_mul]
      exact h1
    · rw [Rat.zero_mul]
      exact Sz.zero _ _
  · show Sz B k ((if i = spans.length then 1 else 0) * _)
    split
    · rename_i e
      subst e
      rw [spAt_new, Rat.one_mul]
      exact h2
    · rw [Rat.zero_mul]
      exact Sz.zero _ _
theorem sumR_sz {B k : Nat} {α : Type} {g : α → Rat} (h : ∀ i, Sz B k (g i)) {c : Rat} (hc : Sz B k c) : ∀ l : List α, Sz B (k + l.length) (c + sumR (l.map g))
  | [] => by
    show Sz B k (c + 0)
    rw [Rat.add_zero]
    exact hc
  | a :: l => by
    have e : c + sumR ((a :: l).map g) = (c + sumR (l.map g)) + g a := by
      rw [List.map_cons, sumR_cons]
      grind
    rw [e]
    have q := (sumR_sz h hc l).add ((h a).mono (Nat.le_refl _) (Nat.le_add_right k l.length))
    exact q
theorem lowI_sz {B k : Nat} {spans : List Span} {f : Form} (h : FSz B k spans f) (i : Nat) : Sz B k (lowI spans f i) := rmin_sz (h.lo i) (h.hi i)
theorem highI_sz {B k : Nat} {spans : List Span} {f : Form} (h : FSz B k spans f) (i : Nat) : Sz B k (highI spans f i) := rmax_sz (h.lo i) (h.hi i)
theorem lowF_sz {B k : Nat} {spans : List Span} {f : Form} (h : FSz B k spans f) : Sz B (k + spans.length) (lowF spans f) := by
  have q := sumR_sz (lowI_sz h) h.c (List.range spans.length)
  rw [List.length_range] at q
  exact q
theorem highF_sz {B k : Nat} {spans : List Span} {f : Form} (h : FSz B k spans f) : Sz B (k + spans.length) (highF spans f) := by
  have q := sumR_sz (highI_sz h) h.c (List.range spans.length)
  rw [List.length_range] at q
  exact q
/-! ### entries -/
theorem valV_mem {l : List (Key × V)} {k : Key} {y : V} (h : valV l k = some y) : (k, y) ∈ l := by
  unfold valV at h
  obtain ⟨⟨k', y'⟩, h1, h2⟩ := Option.map_eq_some_iff.mp h
  have m := List.mem_of_find?_eq_some h1
  have e : k' = k := by
    have q := List.find?_some h1
    simpa using q
  cases e
  cases h2
  exact m
theorem valV_none {l : List (Key × V)} {k : Key} (h : valV l k = none) : ∀ y, (k, y) ∉ l := by
  intro y m
  unfold valV at h
  rw [Option.map_eq_none_iff, List.find?_eq_none] at h
  have q := h _ m
  simp at q
section
variable {K : PySem.W.Frag} {n : Nat} {H : Hp} {kvs : List (Key × V)} {h : Nat → Rat}
theorem DicK.nil : DicK K n H [] (fun _ => 0) := ⟨List.nodup_nil, fun _ _ m => (nomatch m), fun _ _ => rfl⟩
theorem DicK.get (d : DicK K n H kvs h) {i : Nat} {y : V} (e : valV kvs (.inl (i : Int)) = some y) : NumV K H y (h i) := by
  obtain ⟨j, _, h1, h2⟩ := d.it _ _ (valV_mem e)
  have ej : i = j := by
    have q := Sum.inl.inj h1
    omega
  rw [ej]
  exact h2
theorem DicK.put (d : DicK K n H kvs h) {i : Nat} (hi : i < n) {y : V} {q : Rat} (hy : NumV K H y q) : DicK K n H (putK kvs (.inl (i : Int)) y) (fun j => if j = i then q else h j) := by
  unfold putK
  by_cases a : (kvs.any fun kv => decide (kv.1 = .inl (i : Int))) = true
  · rw [if_pos a]
    have ek : (kvs.map fun kv => if kv.1 = .inl (i : Int) then (kv.1, y) else kv).map (·.1) = kvs.map (·.1) := by
      rw [List.map_map]
      refine List.map_congr_left fun p _ => ?_
      show (if p.1 = .inl (i : Int) then (p.1, y) else p).1 = p.1
      split <;> rfl
    refine ⟨by rw [ek]; exact d.nd, fun k z m => ?_, fun j hj => ?_⟩
    · obtain ⟨p, hp, e⟩ := List.mem_map.mp m
      obtain ⟨j, h1, h2, h3⟩ := d.it p.1 p.2 hp
      by_cases c : p.1 = .inl (i : Int)
      · rw [if_pos c] at e
        cases e
        have ej : j = i := by
          have q := Sum.inl.inj (h2.symm.trans c)
          omega
        refine ⟨j, h1, h2, ?_⟩
        rw [if_pos ej]
        exact hy
      · rw [if_neg c] at e
        subst e
        have ej : j ≠ i := fun z => c (by rw [h2, z])
        refine ⟨j, h1, h2, ?_⟩
        rw [if_neg ej]
        exact h3
    · have ej : j ≠ i := by
        rintro rfl
        obtain ⟨p, hp, hd⟩ := List.any_eq_true.mp a
        have c := of_decide_eq_true hd
        exact hj y (List.mem_map.mpr ⟨p, hp, by rw [if_pos c, c]⟩)
      rw [if_neg ej]
      refine d.no j fun z hz => hj z (List.mem_map.mpr ⟨_, hz, ?_⟩)
      rw [if_neg]
      intro c
      have q := Sum.inl.inj c
      omega
  · rw [if_neg a]
    have nm : ∀ z, ((.inl (i : Int) : Key), z) ∉ kvs := fun z m => a (List.any_eq_true.mpr ⟨_, m, decide_eq_true rfl⟩)
    refine ⟨?_, fun k z m => ?_, fun j hj => ?_⟩
    · rw [List.map_append, List.nodup_append]
      refine ⟨d.nd, by simp, fun k hk b hb => ?_⟩
      obtain ⟨p, hp, rfl⟩ := List.mem_map.mp hk
      rw [List.map_cons, List.map_nil, List.mem_singleton] at hb
      subst hb
      intro c
      have c' : p.1 = .inl (i : Int) := c
      exact nm p.2 (by rw [← c']; exact hp)
    · rcases List.mem_append.mp m with m1 | m1
      · obtain ⟨j, h1, h2, h3⟩ := d.it _ _ m1
        have ej : j ≠ i := fun c => by
          subst c
          rw [h2] at m1
          exact nm _ m1
        exact ⟨j, h1, h2, by rw [if_neg ej]; exact h3⟩
      · rw [List.mem_singleton] at m1
        cases m1
        exact ⟨i, hi, rfl, by rw [if_pos rfl]; exact hy⟩
    · have ej : j ≠ i := fun c => by
        subst c
        exact hj y (List.mem_append_right _ List.mem_cons_self)
      rw [if_neg ej]
      exact d.no j fun z hz => hj z (List.mem_append_left _ hz)
def natKey : Key → Nat
  | .inl i => i.toNat
  | .inr _ => 0
theorem DicK.keys (d : DicK K n H kvs h) : (kvs.map fun p => natKey p.1).Nodup ∧ (∀ i ∈ kvs.map fun p => natKey p.1, i < n) ∧ (∀ i, i ∉ (kvs.map fun p => natKey p.1) → h i = 0) ∧ kvs.length ≤ n := by
  have h1 : (kvs.map fun p => natKey p.1).Nodup := by
    have q := d.nd
    rw [List.Nodup, List.pairwise_map] at q ⊢
    refine List.Pairwise.imp_of_mem ?_ q
    intro a b ma mb ne e
    obtain ⟨i, _, e1, _⟩ := d.it a.1 a.2 ma
    obtain ⟨j, _, e2, _⟩ := d.it b.1 b.2 mb
    rw [e1, e2] at e
    have e' : i = j := by
      have q : ((i : Int).toNat) = ((j : Int).toNat) := e
      omega
    exact ne (by rw [e1, e2, e'])
  have h2 : ∀ i ∈ kvs.map fun p => natKey p.1, i < n := by
    intro i hi
    obtain ⟨p, hp, rfl⟩ := List.mem_map.mp hi
    obtain ⟨j, hj, e, _⟩ := d.it p.1 p.2 hp
    rw [e]
    show ((j : Int).toNat) < n
    omega
  refine ⟨h1, h2, fun i hi => d.no i fun y m => hi (List.mem_map.mpr ⟨_, m, ?_⟩), ?_⟩
  · show ((i : Int).toNat) = i
    omega
  · have q := nodup_sub (l := kvs.map fun p => natKey p.1) (m := List.range n) h1 fun i hi => List.mem_range.mpr (h2 i hi)
    rw [List.length_map, List.length_range] at q
    exact q
/-- the sum over the entries -/
theorem DicK.sum (d : DicK K n H kvs h) {g : Nat → Rat} (hg : ∀ i, h i = 0 → g i = 0) : sumR (kvs.map fun p => g (natKey p.1)) = sumR ((List.range n).map g) := by
  obtain ⟨h1, h2, h3, _⟩ := d.keys
  have q := sum_nodup (g := g) h1 h2 fun i _ hi => hg i (h3 i hi)
  rw [List.map_map] at q
  exact q
end
theorem FormV.out {K : PySem.W.Frag} {n : Nat} {H : Hp} {v : V} {f : Form} (h : FormV K n H v f) : ∀ i, n ≤ i → f.co i = 0 := by
  obtain ⟨a, d, u, kvs, _, _, _, _, h5⟩ := h
  intro i hi
  refine h5.no i fun y m => ?_
  obtain ⟨j, h1, h2, _⟩ := h5.it _ _ m
  have q := Sum.inl.inj h2
  omega
end K70
/-! K70, part V: least_num, most_num, spans, Forms, forms' defs. -/
namespace K70
open PySem PySem.Spec PyProof.Rows L2
section
variable {P : Program} {w : World} {K : PySem.W.Frag} {mg : Str → Option Value} {base : Heap}
def sp_pairnum (K : PySem.W.Frag) (f : Rat → Rat → Rat) : Sp := fun vs H Q _ => ∃ (a : Addr) (v1 v2 : V) (x y : Rat), vs = [.ref a] ∧ SqL K H a [v1, v2] ∧ NumV K H v1 x ∧ NumV K H v2 y ∧ Bd x ∧ Bd y ∧ ∀ v H', Same H H' → NumV K H' v (f x y) → Q v H'
abbrev sp_least_num (K : PySem.W.Frag) := sp_pairnum K rmin
abbrev sp_most_num (K : PySem.W.Frag) := sp_pairnum K rmax
/-! ### least_num -/
abbrev n_least_num : List Str := ["some", "found", "others", "one"]
theorem sc_least_num : FnScope n_least_num ["some"] (defScope s_least_num) := ⟨rfl, rfl, rfl, by decide +kernel, rfl, by decide +kernel, by decide +kernel⟩
theorem c_least_num (T : TX K mg) : Cal P w K mg base "least_num" ["some"] [] 2 (sp_least_num K) := by
  refine cal_of T.g_least_num T.f_least_num (fun _ _ _ _ _ _ us hl => match us, hl with | [_], _ => rfl) fun fd F => okN F sc_least_num (fun vs H Q E h => ?_) (fun cdv A outer s H vs Q E hr h => ?_)
  · obtain ⟨a, v1, v2, x, y, rfl, hS, n1, n2, b1, b2, q⟩ := h
    rfl
  · obtain ⟨a, v1, v2, x, y, rfl, hS, n1, n2, b1, b2, q⟩ := h
    refine ⟨_, 
      (pss_cons
        (ps_asg (pv 0) (pg_oneStar rfl (pgs_cons (pg_name (i := 1) sc_least_num.nd rfl (by first | exact Or.inl rfl | exact Or.inr rfl)) (pgs_star (pg_name (i := 2) sc_least_num.nd rfl (by first | exact Or.inl rfl | exact Or.inr rfl))))))
      (pss_cons
        (ps_for PassesOwn.never rfl (pi_list (pv 2)) (pg_name (i := 3) sc_least_num.nd rfl (by first | exact Or.inl rfl | exact Or.inr rfl))
          (pss_one
            (ps_if (pt_val (pe_cal (c_is_below T) (hr.mono (by decide)) (pa_cons (pv 3) (pa_cons (pv 1) pa_nil))))
              (pss_one
                (ps_set (i := 1) sc_least_num.nd rfl (by first | exact Or.inl rfl | exact Or.inr rfl) (pv 3)))
              pss_nil)))
      (pss_one
        (ps_ret (pv 1))))), ?_⟩
    refine ⟨_, rfl, a, v1, [v2], rfl, hS, fun p hp => ?_⟩
    have s1 : Same H (upd H p (.lst [v2])) := same_upd hp
    refine ⟨_, _, rfl, _, _, rfl, rfl, _, rfl, p, rfl, ⟨_, SqL.of upd_same⟩, ?_⟩
    refine for_list (K := K) (a := p) (xs := [v2]) (fun i σ H' => Same (upd H p (.lst [v2])) H' ∧ ∃ f o, σ = [some (.ref a), some f, some (.ref p), o] ∧ NumV K H' f (if i = 0 then x else rmin x y)) ⟨fun _ _ h => h, v1, none, rfl, n1.same s1⟩ (fun i σ H' _ z => z.1.seq (SqL.of upd_same)) ?_ ?_
    · rintro i u σ H' hu ⟨z1, f, o, rfl, z2⟩
      cases i with
      | succ i => cases hu
      | zero =>
        have eu : v2 = u := Option.some.inj hu
        subst eu
        have m2 := (n2.same s1).same z1
        refine ⟨_, rfl, _, rfl, v2, f, y, x, rfl, m2, z2, b2, b1, _, rfl, ?_⟩
        unfold rmin
        by_cases h : y < x
        · rw [decide_eq_true h]
          refine iteT ⟨_, rfl, z1, v2, some v2, rfl, ?_⟩
          rw [if_neg (Nat.succ_ne_zero 0), if_pos h]
          exact m2
        · rw [decide_eq_false h]
          refine iteF ⟨z1, f, some v2, rfl, ?_⟩
          rw [if_neg (Nat.succ_ne_zero 0), if_neg h]
          exact z2
    · rintro σ H' ⟨z1, f, o, rfl, z2⟩
      exact ⟨_, rfl, q _ _ (s1.trans z1) z2⟩
/-! ### most_num -/
abbrev n_most_num : List Str := ["some", "found", "others", "one"]
theorem sc_most_num : FnScope n_most_num ["some"] (defScope s_most_num) := ⟨rfl, rfl, rfl, by decide +kernel, rfl, by decide +kernel, by decide +kernel⟩
theorem c_most_num (T : TX K mg) : Cal P w K mg base "most_num" ["some"] [] 2 (sp_most_num K) := by
  refine cal_of T.g_most_num T.f_most_num (fun _ _ _ _ _ _ us hl => match us, hl with | [_], _ => rfl) fun fd F => okN F sc_most_num (fun vs H Q E h => ?_) (fun cdv A outer s H vs Q E hr h => ?_)
  · obtain ⟨a, v1, v2, x, y, rfl, hS, n1, n2, b1, b2, q⟩ := h
    rfl
  · obtain ⟨a, v1, v2, x, y, rfl, hS, n1, n2, b1, b2, q⟩ := h
    refine ⟨_, 
      (pss_cons
        (ps_asg (pv 0) (pg_oneStar rfl (pgs_cons (pg_name (i := 1) sc_most_num.nd rfl (by first | exact Or.inl rfl | exact Or.inr rfl)) (pgs_star (pg_name (i := 2) sc_most_num.nd rfl (by first | exact Or.inl rfl | exact Or.inr rfl))))))
      (pss_cons
        (ps_for PassesOwn.never rfl (pi_list (pv 2)) (pg_name (i := 3) sc_most_num.nd rfl (by first | exact Or.inl rfl | exact Or.inr rfl))
          (pss_one
            (ps_if (pt_val (pe_cal (c_is_below T) (hr.mono (by decide)) (pa_cons (pv 1) (pa_cons (pv 3) pa_nil))))
              (pss_one
                (ps_set (i := 1) sc_most_num.nd rfl (by first | exact Or.inl rfl | exact Or.inr rfl) (pv 3)))
              pss_nil)))
      (pss_one
        (ps_ret (pv 1))))), ?_⟩
    refine ⟨_, rfl, a, v1, [v2], rfl, hS, fun p hp => ?_⟩
    have s1 : Same H (upd H p (.lst [v2])) := same_upd hp
    refine ⟨_, _, rfl, _, _, rfl, rfl, _, rfl, p, rfl, ⟨_, SqL.of upd_same⟩, ?_⟩
    refine for_list (K := K) (a := p) (xs := [v2]) (fun i σ H' => Same (upd H p (.lst [v2])) H' ∧ ∃ f o, σ = [some (.ref a), some f, some (.ref p), o] ∧ NumV K H' f (if i = 0 then x else rmax x y)) ⟨fun _ _ h => h, v1, none, rfl, n1.same s1⟩ (fun i σ H' _ z => z.1.seq (SqL.of upd_same)) ?_ ?_
    · rintro i u σ H' hu ⟨z1, f, o, rfl, z2⟩
      cases i with
      | succ i => cases hu
      | zero =>
        have eu : v2 = u := Option.some.inj hu
        subst eu
        have m2 := (n2.same s1).same z1
        refine ⟨_, rfl, _, rfl, f, v2, x, y, rfl, z2, m2, b1, b2, _, rfl, ?_⟩
        unfold rmax
        by_cases h : x < y
        · rw [decide_eq_true h]
          refine iteT ⟨_, rfl, z1, v2, some v2, rfl, ?_⟩
          rw [if_neg (Nat.succ_ne_zero 0), if_pos h]
          exact m2
        · rw [decide_eq_false h]
          refine iteF ⟨z1, f, some v2, rfl, ?_⟩
          rw [if_neg (Nat.succ_ne_zero 0), if_neg h]
          exact z2
    · rintro σ H' ⟨z1, f, o, rfl, z2⟩
      exact ⟨_, rfl, q _ _ (s1.trans z1) z2⟩
end
end K70
/-! K70, part W: spans, forms' defs. -/
namespace K70
open PySem PySem.Spec PyProof.Rows L2
/-- a dict comprehension over a walk: Pv by the turn and the heap (the new dict at D within) -/
theorem dc_it {J : It} {n : Nat} {G : Hp → Prop} {Y : Nat → Hp → V → Hp → Prop} (w : Walk J n G Y) {g : TG} {tt : TT} {tk tv : TE} {vs : List Nat} {σ : L2.St} {H1 : Hp} {D : Addr} {Qd : Hp → Prop} (Pv : Nat → Hp → Prop)
    (h0 : Pv 0 (upd H1 D (.dK []))) (hG : ∀ i H, i ≤ n → Pv i H → G H)
    (hs : ∀ i x H H', i < n → Pv i H → Y i H x H' → g x (wipe σ vs) H' fun σ2 H2 => wipe σ2 vs = wipe σ vs ∧ tt σ2 H2 fun b H3 =>
      if b = true then tk σ2 H3 fun y H4 => tv σ2 H4 fun z H5 => ∃ kvs k, y = kV k ∧ H5 D = some (.dK kvs) ∧ kvs.length < sizeLine ∧ Pv (i + 1) (upd H5 D (.dK (putK kvs k z))) else Pv (i + 1) H3) (hd : ∀ H, Pv n H → Qd H) :
    ∃ W : Nat → Nat → Hp → Prop, (∃ m, W 0 m (upd H1 D (.dK []))) ∧ ∀ i m H, W i m H →
      (J.stop i H ∧ Qd H) ∨ (J.go i H ∧ ∃ Nx : Hp → Prop, (∀ H', Nx H' → ∃ m', m' < m ∧ W (i + 1) m' H') ∧ ∀ x H', J.yld i H x H' → g x (wipe σ vs) H' fun σ2 H2 => wipe σ2 vs = wipe σ vs ∧ tt σ2 H2 fun b H3 =>
        if b = true then tk σ2 H3 fun y H4 => tv σ2 H4 fun z H5 => ∃ kvs k, y = kV k ∧ H5 D = some (.dK kvs) ∧ kvs.length < sizeLine ∧ Nx (upd H5 D (.dK (putK kvs k z))) else Nx H3) := by
  refine ⟨fun i m H => m = n - i ∧ i ≤ n ∧ Pv i H, ⟨n, by simp, Nat.zero_le _, h0⟩, ?_⟩
  rintro i m H ⟨rfl, hi, p⟩
  have q := hG i H hi p
  by_cases hlt : i < n
  · exact .inr ⟨w.goes i H hlt q, Pv (i + 1), fun H' p' => ⟨n - (i + 1), by omega, rfl, hlt, p'⟩, fun x H' y => hs i x H H' hlt p (w.yields i H x H' hlt q y)⟩
  · have e : i = n := by omega
    subst e
    exact .inl ⟨w.stops H q, hd H p⟩
/-! ### the keys so far -/
def keysT (kvs : List (Key × V)) (i : Nat) : List Nat := (kvs.take i).map fun p => natKey p.1
theorem keysT_zero (kvs : List (Key × V)) : keysT kvs 0 = [] := rfl
theorem keysT_all (kvs : List (Key × V)) : keysT kvs kvs.length = kvs.map fun p => natKey p.1 := by
  unfold keysT
  rw [List.take_length]
theorem keysT_succ {kvs : List (Key × V)} {i : Nat} {p : Key × V} (h : kvs[i]? = some p) (x : Nat) : x ∈ keysT kvs (i + 1) ↔ x ∈ keysT kvs i ∨ x = natKey p.1 := by
  unfold keysT
  rw [List.take_add_one, h, Option.toList_some, List.map_append, List.mem_append, List.map_cons, List.map_nil, List.mem_singleton]
theorem keysT_not {kvs : List (Key × V)} {i : Nat} {p : Key × V} (hn : (kvs.map fun p => natKey p.1).Nodup) (h : kvs[i]? = some p) : natKey p.1 ∉ keysT kvs i := by
  intro m
  obtain ⟨j, hj⟩ := List.mem_iff_getElem?.mp m
  have hi := (List.getElem?_eq_some_iff.mp h).1
  have hlt : j < (keysT kvs i).length := (List.getElem?_eq_some_iff.mp hj).1
  unfold keysT at hlt hj
  rw [List.length_map, List.length_take] at hlt
  rw [List.getElem?_map, List.getElem?_take_of_lt (by omega)] at hj
  have e1 : (kvs.map fun p => natKey p.1)[j]? = some (natKey p.1) := by rw [List.getElem?_map]; exact hj
  have e2 : (kvs.map fun p => natKey p.1)[i]? = some (natKey p.1) := by rw [List.getElem?_map, h]; rfl
  have e3 := nd_ix hn e1 e2
  omega
theorem key_at {kvs : List (Key × V)} {i : Nat} {u y : V} (hu : (kvs[i]?.map fun kv => kV kv.1) = some u) (hy : kvs[i]?.map Prod.snd = some y) : ∃ k, kvs[i]? = some (k, y) ∧ u = kV k := by
  cases h : kvs[i]? with
  | none => rw [h] at hu; cases hu
  | some p =>
    rw [h] at hu hy
    cases hu
    cases hy
    exact ⟨p.1, rfl, rfl⟩
section
variable {K : PySem.W.Frag} {n : Nat} {H : Hp} {kvs : List (Key × V)} {h : Nat → Rat}
theorem DicK.at (d : DicK K n H kvs h) {i : Nat} {u y : V} (hu : (kvs[i]?.map fun kv => kV kv.1) = some u) (hy : kvs[i]?.map Prod.snd = some y) :
    ∃ j : Nat, j < n ∧ u = .int (j : Int) ∧ NumV K H y (h j) ∧ j ∉ keysT kvs i ∧ (∀ x, x ∈ keysT kvs (i + 1) ↔ x ∈ keysT kvs i ∨ x = j) ∧ kvs[i]? = some (.inl (j : Int), y) := by
  obtain ⟨k, e, rfl⟩ := key_at hu hy
  obtain ⟨j, h1, h2, h3⟩ := d.it _ _ (List.mem_of_getElem? e)
  subst h2
  exact ⟨j, h1, rfl, h3, keysT_not d.keys.1 e, keysT_succ e, e⟩
theorem DicK.congr {h' : Nat → Rat} (d : DicK K n H kvs h) (e : ∀ j, h j = h' j) : DicK K n H kvs h' := by
  have e' : h = h' := funext e
  exact e' ▸ d
theorem DicK.same {H' : Hp} (d : DicK K n H kvs h) (e : Same H H') : DicK K n H' kvs h := d.tk (tk_same e)
end
def cutSpan (fig fine : Nat) : Option Span := if fine ≤ fig then none else some (un fine - un fig, 0)
section
variable {K : PySem.W.Frag} {H H' : Hp}
def SpanV (K : PySem.W.Frag) (H : Hp) (v : V) (s : Span) : Prop := ∃ (a : Addr) (u1 u2 : V), v = .ref a ∧ SqT K H a [u1, u2] ∧ NumV K H u1 s.1 ∧ NumV K H u2 s.2
theorem SpanV.tk {v : V} {s : Span} (h : SpanV K H v s) (e : TK K H H') : SpanV K H' v s := by
  obtain ⟨a, u1, u2, h1, h2, h3, h4⟩ := h
  exact ⟨a, u1, u2, h1, e _ _ h2, h3.tk e, h4.tk e⟩
def OSpanV (K : PySem.W.Frag) (H : Hp) (v : V) : Option Span → Prop
  | none => v = .non
  | some s => SpanV K H v s
theorem OSpanV.tk {v : V} {o : Option Span} (h : OSpanV K H v o) (e : TK K H H') : OSpanV K H' v o := by
  cases o with
  | none => exact h
  | some s => exact SpanV.tk h e
def FrS (K : PySem.W.Frag) (H : Hp) (sl : Addr) (spans : List Span) : Prop := ∃ ws, H sl = some (.lst ws) ∧ All2 (SpanV K H) ws spans
def IsF (K : PySem.W.Frag) (H : Hp) (fo sl : Addr) : Prop := ∃ dx, H fo = some (.ins (He.ga K "Forms") dx [("spans", .ref sl)])
theorem FrS.same {sl : Addr} {spans : List Span} (h : FrS K H sl spans) (e : Same H H') : FrS K H' sl spans := by
  obtain ⟨ws, h1, h2⟩ := h
  exact ⟨ws, e _ _ h1, h2.imp fun _ _ r => r.tk (tk_same e)⟩
theorem IsF.same {fo sl : Addr} (h : IsF K H fo sl) (e : Same H H') : IsF K H' fo sl := by
  obtain ⟨dx, h⟩ := h
  exact ⟨dx, e _ _ h⟩
theorem FormV.same {n : Nat} {v : V} {f : Form} (h : FormV K n H v f) (e : Same H H') : FormV K n H' v f := h.dk (dk_same e)
end
section
variable {P : Program} {w : World} {K : PySem.W.Frag} {mg : Str → Option Value} {base : Heap}
def sp_cut_span (K : PySem.W.Frag) : Sp := fun vs H Q _ => ∃ fig fine : Nat, vs = [.int fig, .int fine] ∧ fig ≤ 100 ∧ fine ≤ 200 ∧ ∀ v H', Same H H' → OSpanV K H' v (cutSpan fig fine) → Q v H'
theorem nought_num (T : TX K mg) (H : Hp) : NumV K H (.ref (He.ga K "NOUGHT")) 0 := ⟨_, rfl, T.nought H⟩
/-! ### cut_span -/
abbrev n_cut_span : List Str := ["figures", "fine"]
theorem sc_cut_span : FnScope n_cut_span ["figures", "fine"] (defScope s_cut_span) := ⟨rfl, rfl, rfl, by decide +kernel, rfl, by decide +kernel, by decide +kernel⟩
theorem c_cut_span (T : TX K mg) : Cal P w K mg base "cut_span" ["figures", "fine"] [] 3 (sp_cut_span K) := by
  refine cal_of T.g_cut_span T.f_cut_span (fun _ _ _ _ _ _ us hl => match us, hl with | [_, _], _ => rfl) fun fd F => okN F sc_cut_span (fun vs H Q E h => ?_) (fun cdv A outer s H vs Q E hr h => ?_)
  · obtain ⟨fig, fine, rfl, h1, h2, q⟩ := h
    rfl
  · obtain ⟨fig, fine, rfl, h1, h2, q⟩ := h
    refine ⟨_, 
      (pss_cons
        (ps_if (pt_cmpR op_le (pv 1) (pv 0) (nomark _))
          (pss_one
            (ps_ret pe_non))
          pss_nil)
      (pss_one
        (ps_ret (pe_tup (pa_cons (pe_cal (c_less_of T) (hr.mono (by decide)) (pa_cons (pe_cal (c_num_of T) (hr.mono (by decide)) (pa_cons pe_int (pa_cons (pe_cal (c_power_of T) (hr.mono (by decide)) (pa_cons (pv 1) pa_nil)) pa_nil))) (pa_cons (pe_cal (c_num_of T) (hr.mono (by decide)) (pa_cons pe_int (pa_cons (pe_cal (c_power_of T) (hr.mono (by decide)) (pa_cons (pv 0) pa_nil)) pa_nil))) pa_nil))) (pa_cons (pe_glob rfl T.g_NOUGHT (show L2.RelV (.ref (He.ga K "NOUGHT")) _ from rfl)) pa_nil)))))), ?_⟩
    have ed : decide (fine ≤ fig) = decide ((fine : Int) ≤ (fig : Int)) := decide_eq_decide.mpr (by omega)
    refine ⟨_, rfl, _, rfl, _, _, rfl, rfl, _, rfl, ?_⟩
    rw [← ed]
    by_cases h : fine ≤ fig
    · rw [decide_eq_true h]
      refine iteT (q _ _ (fun _ _ h => h) ?_)
      unfold cutSpan
      rw [if_pos h]
      rfl
    · rw [decide_eq_false h]
      refine iteF ⟨_, rfl, fine, rfl, by omega, 1, _, fine, rfl, rfl, by omega, fun v1 H1 s1 n1 => ?_⟩
      refine ⟨_, rfl, fig, rfl, by omega, 1, _, fig, rfl, rfl, by omega, fun v2 H2 s2 n2 => ?_⟩
      refine ⟨v1, v2, un fine, un fig, rfl, n1.same s2, n2, (un_sz (d := 2000) (by omega)).bd (by decide) (by decide), (un_sz (d := 2000) (by omega)).bd (by decide) (by decide), fun v3 H3 s3 n3 => ?_⟩
      refine ⟨by show 2 ≤ sizeLine; decide, fun t ht => ?_⟩
      have s4 := (s1.trans s2).trans (s3.trans (same_upd (o := .tup [v3, .ref (He.ga K "NOUGHT")]) ht))
      refine q _ _ s4 ?_
      unfold cutSpan
      rw [if_neg h]
      exact ⟨t, v3, _, rfl, SqT.of upd_same, n3.same (same_upd ht), nought_num T _⟩
def sp_fixed_form (K : PySem.W.Frag) : Sp := fun vs H Q _ => ∃ (u : V) (x : Rat) (fig : Nat), vs = [u, .int fig] ∧ NumV K H u x ∧ fig ≤ 100 ∧ Sz 100 100 x ∧ ∀ v H', Same H H' → FormV K 0 H' v ⟨cutR fig x - x, fun _ => 0⟩ → Q v H'
/-! ### fixed_form -/
abbrev n_fixed_form : List Str := ["number", "figures"]
theorem sc_fixed_form : FnScope n_fixed_form ["number", "figures"] (defScope s_fixed_form) := ⟨rfl, rfl, rfl, by decide +kernel, rfl, by decide +kernel, by decide +kernel⟩
theorem c_fixed_form (T : TX K mg) : Cal P w K mg base "fixed_form" ["number", "figures"] [] 3 (sp_fixed_form K) := by
  refine cal_of T.g_fixed_form T.f_fixed_form (fun _ _ _ _ _ _ us hl => match us, hl with | [_, _], _ => rfl) fun fd F => okN F sc_fixed_form (fun vs H Q E h => ?_) (fun cdv A outer s H vs Q E hr h => ?_)
  · obtain ⟨u, x, fig, rfl, n1, hf, hx, q⟩ := h
    rfl
  · obtain ⟨u, x, fig, rfl, n1, hf, hx, q⟩ := h
    refine ⟨_, 
      (pss_one
        (ps_ret (pe_tup (pa_cons (pe_cal (c_less_of T) (hr.mono (by decide)) (pa_cons (pe_cal (c_cut_of T) (hr.mono (by decide)) (pa_cons (pv 0) (pa_cons (pv 1) pa_nil))) (pa_cons (pv 0) pa_nil))) (pa_cons pe_dnewK pa_nil))))), ?_⟩
    have bx : Bd x := hx.bd (by decide) (by decide)
    refine ⟨_, rfl, _, rfl, u, x, fig, rfl, n1, bx, hf, fun v1 H1 s1 m1 => ?_⟩
    refine ⟨_, rfl, v1, u, _, x, rfl, m1, n1.same s1, ((cutR_sz (f := fig) hx).mono (d := 100) hf (Nat.le_refl _)).bd (by decide) (by decide), bx, fun v2 H2 s2 m2 => ?_⟩
    intro p hp
    have s3 : Same H2 (upd H2 p (.dK [])) := same_upd hp
    refine ⟨by show 2 ≤ sizeLine; decide, fun t ht => ?_⟩
    have s4 := same_upd (o := .tup [v2, .ref p]) ht
    exact q _ _ ((s1.trans s2).trans (s3.trans s4)) ⟨t, p, v2, [], rfl, SqT.of upd_same, (m2.same s3).same s4, s4 _ _ upd_same, DicK.nil⟩
end
end K70
/-! K70, part Y: times_form, sum_form. -/
namespace K70
open PySem PySem.Spec PyProof.Rows L2
section
variable {P : Program} {w : World} {K : PySem.W.Frag} {mg : Str → Option Value} {base : Heap}
theorem frz_same {H H' : Hp} {d : Addr} {u : HO} {o : Obj} (h : H d = some u) (e : Same (upd H d (.frz o u)) H') : Same H (upd H' d u) := fun b x hb => by
  by_cases hd : b = d
  · subst hd
    rw [h] at hb
    cases hb
    exact upd_same
  · rw [upd_ne hd]
    exact e b x (by rw [upd_ne hd]; exact hb)
theorem num_ne0 (x : Rat) : decide (V.int x.num = V.int 0) = decide (x = 0) := by
  refine decide_eq_decide.mpr ⟨fun h => Rat.num_eq_zero.mp (V.int.inj h), fun h => ?_⟩
  subst h
  rfl
theorem tk_upd {H : Hp} {d : Addr} {u o : HO} (h : H d = some u) (n1 : ∀ xs, u ≠ .tup xs) (n2 : ∀ z xs, u ≠ .frz z (.tup xs)) : TK K H (upd H d o) := fun a xs q => by
  rcases q with q | q
  · refine .inl ?_
    have ne : a ≠ d := by
      rintro rfl
      rcases q with q | ⟨z, q⟩
      · exact n1 _ (Option.some.inj (h.symm.trans q))
      · exact n2 _ _ (Option.some.inj (h.symm.trans q))
    rcases q with q | ⟨z, q⟩
    · exact .inl (by rw [upd_ne ne]; exact q)
    · exact .inr ⟨z, by rw [upd_ne ne]; exact q⟩
  · exact .inr q
theorem dic_tk {H : Hp} {d : Addr} {kvs : List (Key × V)} {o : HO} (h : H d = some (.dK kvs)) : TK K H (upd H d o) := tk_upd h (fun _ z => nomatch z) (fun _ _ z => nomatch z)
theorem frz_tk {H : Hp} {d : Addr} {kvs : List (Key × V)} {z : Obj} {o : HO} (h : H d = some (.frz z (.dK kvs))) : TK K H (upd H d o) := tk_upd h (fun _ z => nomatch z) (fun _ _ z => by cases z)
theorem same_upd_new {H H' : Hp} {D : Addr} {o : HO} (h : Same H H') (hD : H D = none) : Same H (upd H' D o) := fun b x e => by
  rw [upd_ne (ne_of_none e hD)]
  exact h b x e
def sp_times_form (K : PySem.W.Frag) : Sp := fun vs H Q _ => ∃ (u v : V) (x : Rat) (n : Nat) (f : Form), vs = [u, v] ∧ NumV K H u x ∧ FormV K n H v f ∧ n ≤ 900 ∧ Bd x ∧ Bd f.c ∧ (∀ i, Bd (f.co i)) ∧ ∀ v H', Same H H' → FormV K n H' v (timesF x f) → Q v H'
/-! ### times_form -/
abbrev n_times_form : List Str := ["number", "form", "cuts", "cut", "factor"]
theorem sc_times_form : FnScope n_times_form ["number", "form"] (defScope s_times_form) := ⟨rfl, rfl, rfl, by decide +kernel, rfl, by decide +kernel, by decide +kernel⟩
theorem c_times_form (T : TX K mg) : Cal P w K mg base "times_form" ["number", "form"] [] 3 (sp_times_form K) := by
  refine cal_of T.g_times_form T.f_times_form (fun _ _ _ _ _ _ us hl => match us, hl with | [_, _], _ => rfl) fun fd F => okN F sc_times_form (fun vs H Q E h => ?_) (fun cdv A outer s H vs Q E hr h => ?_)
  · obtain ⟨u, v, x, n, f, rfl, hu1, hf, hn, bx, bc, bco, q⟩ := h
    rfl
  · obtain ⟨u, v, x, n, f, rfl, hu1, hf, hn, bx, bc, bco, q⟩ := h
    refine ⟨_, 
      (pss_cons
        (ps_set (i := 2) sc_times_form.nd rfl (by first | exact Or.inl rfl | exact Or.inr rfl) (pe_ifExp (pt_cmpR op_ne (pe_ix (ixT (K := K)) (pv 0) pe_int (fun _ _ => rfl)) pe_int (nomark _)) (pe_lock (pe_dc (own := [("cut", 3), ("factor", 4)]) (g := gTup K 2 (gCons (gName 3) (gCons (gName 4) gNil))) rfl sc_times_form.nd (pi_items (pe_ix (ixT (K := K)) (pv 1) pe_int (fun _ _ => rfl))) (blkOk_by (N := n_times_form) (sc := defScope s_times_form) (by decide +kernel)) (fun _ _ _ _ _ => pg_tup (by rfl) (pgs_cons (pg_name (i := 3) sc_times_form.nd rfl (by first | exact Or.inl rfl | exact Or.inr rfl)) (pgs_cons (pg_name (i := 4) sc_times_form.nd rfl (by first | exact Or.inl rfl | exact Or.inr rfl)) pgs_nil))) (fun _ _ _ _ _ => pts_nil) (fun _ _ _ _ _ => (pv 3)) (fun _ _ _ _ _ => (pe_cal (c_times_of T) (hr.mono (by decide)) (pa_cons (pv 0) (pa_cons (pv 4) pa_nil)))))) pe_dnewK))
      (pss_one
        (ps_ret (pe_tup (pa_cons (pe_cal (c_times_of T) (hr.mono (by decide)) (pa_cons (pv 0) (pa_cons (pe_ix (ixT (K := K)) (pv 1) pe_int (fun _ _ => rfl)) pa_nil))) (pa_cons (pv 2) pa_nil)))))), ?_⟩
    obtain ⟨a, d, u0, kvs, rfl, h2, h3, h4, h5⟩ := hf
    obtain ⟨p, ep, hp⟩ := id hu1
    subst ep
    -- behind: (times_of(number, form[0]), cuts)
    have fin : ∀ (H1 : Hp) (D : Addr) (kk : List (Key × V)), Same H H1 → H1 D = some (.dK kk) → DicK K n H1 kk (timesF x f).co →
        ((tRet (tTup (tCons (tCall (sp_bin K fun a b => a * b) [] E0 (tCons (tVar 0) (tCons (tOp (rIxT K) (tVar 1) (tC (.int 0))) tNil))) (tCons (tVar 2) tNil)))) { nx := fun _ H' => Q .non H', rt := Q } [some (.ref p), some (.ref a), some (.ref D), none, none] H1) := by
      intro H1 D kk s1 hD hk
      refine ⟨_, rfl, _, rfl, a, _, 0, _, rfl, rfl, SqT.same h2 s1, at0, .ref p, u0, x, f.c, rfl, hu1.same s1, h3.same s1, bx, bc, fun v2 H2 s2 n2 => ?_⟩
      refine ⟨_, rfl, by show 2 ≤ sizeLine; decide, fun t ht => ?_⟩
      have s3 := same_upd (o := .tup [v2, .ref D]) ht
      exact q _ _ (s1.trans (s2.trans s3)) ⟨t, D, v2, kk, rfl, SqT.of upd_same, n2.same s3, s3 _ _ (s2 _ _ hD), (hk.same s2).same s3⟩
    refine ⟨_, rfl, p, _, 0, _, rfl, rfl, hp, at0, rfl, _, rfl, ?_⟩
    rw [num_ne0]
    by_cases hx : x = 0
    · rw [decide_eq_true hx]
      refine iteF fun D hD => ?_
      refine fin _ D [] (same_upd hD) upd_same ?_
      refine DicK.nil.congr fun j => ?_
      show 0 = x * f.co j
      rw [hx, Rat.zero_mul]
    · rw [decide_eq_false hx]
      refine iteT ⟨d, _, h4, trivial, fun od => ?_⟩
      have tk0 : TK K H (upd H d (.frz od (.dK kvs))) := dic_tk h4
      refine ⟨_, rfl, a, _, 1, _, rfl, rfl, tk0 _ _ h2, at1, d, od, kvs, rfl, upd_same, fun D hD => ?_⟩
      refine dc_it walk_items (fun i H' => Same (upd H d (.frz od (.dK kvs))) H' ∧ ∃ kk, H' D = some (.dK kk) ∧ kk.length ≤ i ∧ DicK K n H' kk (fun j => if j ∈ keysT kvs i then x * f.co j else 0))
        ⟨same_upd hD, [], upd_same, Nat.le_refl _, DicK.nil.congr fun j => by rw [keysT_zero, if_neg (List.not_mem_nil)]⟩ (fun i H' _ z => z.1 _ _ upd_same) ?_ ?_
      · rintro i y H1 H2 hi ⟨z1, kk, z2, z3, z4⟩ ⟨T1, u1, y1, rfl, hT, rfl, e1, e2⟩
        obtain ⟨j, j1, rfl, j3, j4, j5, _⟩ := h5.at e1 e2
        have sT := same_upd (o := .tup [.int (j : Int), y1]) hT
        refine ⟨T1, _, rfl, SqT.of upd_same, rfl, _, _, rfl, _, _, rfl, rfl, rfl, _, rfl, ?_⟩
        have n1 : NumV K (upd H1 T1 (.tup [.int (j : Int), y1])) y1 (f.co j) := ((j3.tk tk0).same z1).same sT
        refine ⟨_, rfl, _, rfl, .ref p, y1, x, f.co j, rfl, ((hu1.tk tk0).same z1).same sT, n1, bx, bco j, fun v2 H2 s2 n2 => ?_⟩
        refine ⟨kk, .inl (j : Int), rfl, s2 _ _ (sT _ _ z2), small1000 (by have := h5.keys.2.2.2; omega), ?_⟩
        have hD2 : H2 D = some (.dK kk) := s2 _ _ (sT _ _ z2)
        have zz := (z1.trans sT).trans s2
        have tkD : TK K H2 (upd H2 D (.dK (putK kk (.inl (j : Int)) v2))) := dic_tk hD2
        refine ⟨same_upd_new zz hD, _, upd_same, Nat.le_trans (length_putK _ _ _) (Nat.succ_le_succ z3), ?_⟩
        refine ((((z4.same sT).same s2).put j1 n2).tk tkD).congr fun k => ?_
        have e := j5 k
        by_cases hk : k = j
        · subst hk
          rw [if_pos rfl, if_pos (e.mpr (.inr rfl))]
        · rw [if_neg hk]
          by_cases hm : k ∈ keysT kvs i
          · rw [if_pos hm, if_pos (e.mpr (.inl hm))]
          · rw [if_neg hm, if_neg fun c => (e.mp c).elim hm hk]
      · rintro H1 ⟨z1, kk, z2, z3, z4⟩
        have hd1 := z1 _ _ upd_same
        have hne : D ≠ d := by
          rintro rfl
          rw [upd_same] at hD
          cases hD
        refine ⟨hd1, fin _ D kk (frz_same h4 z1) (by rw [upd_ne hne]; exact z2) ((z4.tk (frz_tk hd1)).congr fun k => ?_)⟩
        show (if k ∈ keysT kvs kvs.length then x * f.co k else 0) = x * f.co k
        rw [keysT_all]
        by_cases hm : k ∈ kvs.map fun p => natKey p.1
        · rw [if_pos hm]
        · rw [if_neg hm, h5.keys.2.2.1 k hm, Rat.mul_zero]
def sp_sum_form (K : PySem.W.Frag) : Sp := fun vs H Q _ => ∃ (u v : V) (n : Nat) (f g : Form), vs = [u, v] ∧ FormV K n H u f ∧ FormV K n H v g ∧ n ≤ 900 ∧ Bd f.c ∧ Bd g.c ∧ (∀ i, Bd (f.co i)) ∧ (∀ i, Bd (g.co i)) ∧ ∀ v H', Same H H' → FormV K n H' v (sumF f g) → Q v H'
theorem tk_sameB {H H' : Hp} {d : Addr} {kvs : List (Key × V)} (s : SameB d H H') (h : H d = some (.dK kvs)) : TK K H H' := fun a xs q => by
  rcases q with q | q
  · refine .inl ?_
    have ne : a ≠ d := by
      rintro rfl
      rcases q with q | ⟨z, q⟩ <;> (rw [h] at q; cases q)
    rcases q with q | ⟨z, q⟩
    · exact .inl (s a _ ne q)
    · exact .inr ⟨z, s a _ ne q⟩
  · exact .inr q
/-! ### sum_form -/
abbrev n_sum_form : List Str := ["one", "other", "cuts", "cut", "factor"]
theorem sc_sum_form : FnScope n_sum_form ["one", "other"] (defScope s_sum_form) := ⟨rfl, rfl, rfl, by decide +kernel, rfl, by decide +kernel, by decide +kernel⟩
theorem c_sum_form (T : TX K mg) : Cal P w K mg base "sum_form" ["one", "other"] [] 3 (sp_sum_form K) := by
  refine cal_of T.g_sum_form T.f_sum_form (fun _ _ _ _ _ _ us hl => match us, hl with | [_, _], _ => rfl) fun fd F => okN F sc_sum_form (fun vs H Q E h => ?_) (fun cdv A outer s H vs Q E hr h => ?_)
  · obtain ⟨u, v, n, f, g, rfl, hf, hg, hn, bc, bc2, bf, bg, q⟩ := h
    rfl
  · obtain ⟨u, v, n, f, g, rfl, hf, hg, hn, bc, bc2, bf, bg, q⟩ := h
    have hu := hu_of hr
    refine ⟨_, 
      (pss_cons
        (ps_set (i := 2) sc_sum_form.nd rfl (by first | exact Or.inl rfl | exact Or.inr rfl) (pe_callTy call_dictD (by rfl) T.z_dict (by decide +kernel) (pa_cons (pe_ix (ixT (K := K)) (pv 0) pe_int (fun _ _ => rfl)) pa_nil)))
      (pss_cons
        (ps_lock (ps_for PassesOwn.never rfl (pi_items (pe_ix (ixT (K := K)) (pv 1) pe_int (fun _ _ => rfl))) (pg_tup (by rfl) (pgs_cons (pg_name (i := 3) sc_sum_form.nd rfl (by first | exact Or.inl rfl | exact Or.inr rfl)) (pgs_cons (pg_name (i := 4) sc_sum_form.nd rfl (by first | exact Or.inl rfl | exact Or.inr rfl)) pgs_nil)))
          (pss_one
            (ps_dput hu (pv 2) (pv 3) (pe_cal (c_sum_of T) (hr.mono (by decide)) (pa_cons (pe_dget2 hu (pv 2) (pv 3) (pe_glob rfl T.g_NOUGHT (show L2.RelV (.ref (He.ga K "NOUGHT")) _ from rfl)) ⟨rfl, rfl, rfl, rfl⟩) (pa_cons (pv 4) pa_nil))) rfl))))
      (pss_one
        (ps_ret (pe_tup (pa_cons (pe_cal (c_sum_of T) (hr.mono (by decide)) (pa_cons (pe_ix (ixT (K := K)) (pv 0) pe_int (fun _ _ => rfl)) (pa_cons (pe_ix (ixT (K := K)) (pv 1) pe_int (fun _ _ => rfl)) pa_nil))) (pa_cons (pe_lock (pe_dc (own := [("cut", 3), ("factor", 4)]) (g := gTup K 2 (gCons (gName 3) (gCons (gName 4) gNil))) rfl sc_sum_form.nd (pi_items (pv 2)) (blkOk_by (N := n_sum_form) (sc := defScope s_sum_form) (by decide +kernel)) (fun _ _ _ _ _ => pg_tup (by rfl) (pgs_cons (pg_name (i := 3) sc_sum_form.nd rfl (by first | exact Or.inl rfl | exact Or.inr rfl)) (pgs_cons (pg_name (i := 4) sc_sum_form.nd rfl (by first | exact Or.inl rfl | exact Or.inr rfl)) pgs_nil))) (fun _ _ _ _ _ => pts_one (pt_cmpR op_ne (pe_ix (ixT (K := K)) (pv 4) pe_int (fun _ _ => rfl)) pe_int (nomark _))) (fun _ _ _ _ _ => (pv 3)) (fun _ _ _ _ _ => (pv 4)))) pa_nil))))))), ?_⟩
    obtain ⟨a, d, u0, kvs, rfl, h2, h3, h4, h5⟩ := hf
    obtain ⟨a', d', u0', kvs', rfl, g2, g3, g4, g5⟩ := hg
    refine ⟨_, rfl, a, _, 1, _, rfl, rfl, h2, at1, d, kvs, rfl, .inl h4, fun C hC => ?_⟩
    have s1 : Same H (upd H C (.dK kvs)) := same_upd hC
    have hne : C ≠ d' := by
      rintro rfl
      rw [hC] at g4
      cases g4
    have g41 := s1 _ _ g4
    refine ⟨d', _, g41, trivial, fun od => ?_⟩
    generalize hH2 : upd (upd H C (.dK kvs)) d' (.frz od (.dK kvs')) = H2
    have tk2 : TK K H H2 := by
      rw [← hH2]
      exact (tk_same s1).trans (dic_tk g41)
    have hC2 : H2 C = some (.dK kvs) := by
      rw [← hH2, upd_ne hne]
      exact upd_same
    have hd2 : H2 d' = some (.frz od (.dK kvs')) := by
      rw [← hH2]
      exact upd_same
    refine ⟨_, rfl, a', _, 1, _, rfl, rfl, tk2 _ _ g2, at1, d', od, kvs', rfl, hd2, ?_⟩
    refine for_it walk_items (fun i σ H' => SameB C H2 H' ∧ (∃ kk, H' C = some (.dK kk) ∧ DicK K n H' kk (fun j => f.co j + if j ∈ keysT kvs' i then g.co j else 0)) ∧ ∃ x3 x4, σ = [some (.ref a), some (.ref a'), some (.ref C), x3, x4])
      ⟨SameB.refl _ _, ⟨kvs, hC2, (h5.tk tk2).congr fun j => ?_⟩, none, none, rfl⟩ (fun i σ H' _ z => z.1 _ _ (Ne.symm hne) hd2) ?_ ?_
    · rw [keysT_zero, if_neg (List.not_mem_nil), Rat.add_zero]
    · rintro i y σ H1 H1' hi ⟨z1, ⟨kk, z2, z3⟩, x3, x4, rfl⟩ ⟨T1, u1, y1, rfl, hT, rfl, e1, e2⟩
      obtain ⟨j, j1, rfl, j3, j4, j5, _⟩ := g5.at e1 e2
      have sT := same_upd (o := .tup [.int (j : Int), y1]) hT
      refine ⟨T1, _, rfl, SqT.of upd_same, rfl, _, _, rfl, _, _, rfl, rfl, ?_⟩
      have tk1 : TK K H H1 := tk2.trans (tk_sameB z1 hC2)
      have z2' := sT _ _ z2
      have n1 := (j3.tk tk1).same sT
      refine ⟨_, rfl, C, rfl, .inl ⟨kk, .inl z2'⟩, _, rfl, valV kk (.inl (j : Int)), DGet.k (k := .inl (j : Int)) z2', _, rfl, ?_⟩
      have ng : NumV K (upd H1 T1 (.tup [.int (j : Int), y1])) ((valV kk (.inl (j : Int))).getD (.ref (He.ga K "NOUGHT"))) (f.co j) := by
        have e0 : f.co j + (if j ∈ keysT kvs' i then g.co j else 0) = f.co j := by rw [if_neg j4, Rat.add_zero]
        cases hv : valV kk (.inl (j : Int)) with
        | none =>
          have z := z3.no j (valV_none hv)
          rw [← e0, z]
          exact nought_num T _
        | some y2 =>
          have z := z3.get hv
          rw [e0] at z
          exact z.same sT
      refine ⟨_, y1, f.co j, g.co j, rfl, ng, n1, bf j, bg j, fun v2 H3 s3 n3 => ?_⟩
      have hC3 := s3 _ _ z2'
      refine ⟨_, rfl, _, rfl, C, _, rfl, DPut.k (k := .inl (j : Int)) hC3 (small1000 (by have := z3.keys.2.2.2; omega)), ?_⟩
      refine ⟨(z1.trans (Same.b (sT.trans s3) C)).trans sameB_upd, ⟨_, upd_same, ?_⟩, _, _, rfl⟩
      refine ((((z3.same sT).same s3).put j1 n3).tk (dic_tk hC3)).congr fun k => ?_
      have e := j5 k
      by_cases hk : k = j
      · subst hk
        rw [if_pos rfl, if_pos (e.mpr (.inr rfl))]
      · rw [if_neg hk]
        by_cases hm : k ∈ keysT kvs' i
        · rw [if_pos hm, if_pos (e.mpr (.inl hm))]
        · rw [if_neg hm, if_neg fun c => (e.mp c).elim hm hk]
    · rintro σ H1 ⟨z1, ⟨kk, z2, z3⟩, x3, x4, rfl⟩
      have hd1 := z1 _ _ (Ne.symm hne) hd2
      refine ⟨hd1, ?_⟩
      -- unlocked
      have s4 : Same H (upd H1 d' (.dK kvs')) := fun b x e => by
        by_cases hb : b = d'
        · subst hb
          rw [g4] at e
          cases e
          exact upd_same
        · rw [upd_ne hb]
          refine z1 b x (fun c => ?_) ?_
          · subst c
            rw [hC] at e
            cases e
          · rw [← hH2, upd_ne hb]
            exact s1 _ _ e
      have z2' : (upd H1 d' (.dK kvs')) C = some (.dK kk) := by
        rw [upd_ne hne]
        exact z2
      have z3' : DicK K n (upd H1 d' (.dK kvs')) kk (sumF f g).co := (z3.tk (frz_tk hd1)).congr fun k => by
        show (f.co k + if k ∈ keysT kvs' kvs'.length then g.co k else 0) = f.co k + g.co k
        rw [keysT_all]
        by_cases hm : k ∈ kvs'.map fun p => natKey p.1
        · rw [if_pos hm]
        · rw [if_neg hm, g5.keys.2.2.1 k hm]
      generalize upd H1 d' (.dK kvs') = H5 at s4 z2' z3'
      refine ⟨_, rfl, a, _, 0, _, rfl, rfl, SqT.same h2 s4, at0, _, rfl, a', _, 0, _, rfl, rfl, SqT.same g2 s4, at0, u0, u0', f.c, g.c, rfl, h3.same s4, g3.same s4, bc, bc2, fun v2 H6 s6 n6 => ?_⟩
      have hC6 := s6 _ _ z2'
      have k6 := z3'.same s6
      refine ⟨C, _, hC6, trivial, fun oc => ?_⟩
      have tk7 : TK K H6 (upd H6 C (.frz oc (.dK kk))) := dic_tk hC6
      refine ⟨_, rfl, C, oc, kk, rfl, upd_same, fun D hD => ?_⟩
      refine dc_it walk_items (fun i H' => Same (upd H6 C (.frz oc (.dK kk))) H' ∧ ∃ ll, H' D = some (.dK ll) ∧ ll.length ≤ i ∧ DicK K n H' ll (fun j => if j ∈ keysT kk i then (sumF f g).co j else 0))
        ⟨same_upd hD, [], upd_same, Nat.le_refl _, DicK.nil.congr fun j => by rw [keysT_zero, if_neg (List.not_mem_nil)]⟩ (fun i H' _ z => z.1 _ _ upd_same) ?_ ?_
      · rintro i y H7 H7' hi ⟨y1, ll, y2, y3, y4⟩ ⟨T1, u1, w1, rfl, hT, rfl, e1, e2⟩
        obtain ⟨j, j1, rfl, j3, j4, j5, _⟩ := k6.at e1 e2
        have sT := same_upd (o := .tup [.int (j : Int), w1]) hT
        have n1 : NumV K (upd H7 T1 (.tup [.int (j : Int), w1])) w1 ((sumF f g).co j) := ((j3.tk tk7).same y1).same sT
        obtain ⟨pn, rfl, hpn⟩ := id n1
        refine ⟨T1, _, rfl, SqT.of upd_same, rfl, _, _, rfl, _, _, rfl, rfl, rfl, _, rfl, pn, _, 0, _, rfl, rfl, hpn, at0, rfl, _, rfl, ?_⟩
        rw [num_ne0]
        by_cases hz : (sumF f g).co j = 0
        · rw [decide_eq_true hz]
          refine iteF ⟨y1.trans sT, ll, sT _ _ y2, Nat.le_succ_of_le y3, (y4.same sT).congr fun k => ?_⟩
          have e := j5 k
          by_cases hk : k = j
          · subst hk
            rw [if_neg j4, if_pos (e.mpr (.inr rfl)), hz]
          · by_cases hm : k ∈ keysT kk i
            · rw [if_pos hm, if_pos (e.mpr (.inl hm))]
            · rw [if_neg hm, if_neg fun c => (e.mp c).elim hm hk]
        · rw [decide_eq_false hz]
          refine iteT ⟨_, rfl, _, rfl, ll, .inl (j : Int), rfl, sT _ _ y2, small1000 (by have := k6.keys.2.2.2; omega), ?_⟩
          refine ⟨same_upd_new (y1.trans sT) hD, _, upd_same, Nat.le_trans (length_putK _ _ _) (Nat.succ_le_succ y3), ?_⟩
          refine (((y4.same sT).put j1 n1).tk (dic_tk (sT _ _ y2))).congr fun k => ?_
          have e := j5 k
          by_cases hk : k = j
          · subst hk
            rw [if_pos rfl, if_pos (e.mpr (.inr rfl))]
          · rw [if_neg hk]
            by_cases hm : k ∈ keysT kk i
            · rw [if_pos hm, if_pos (e.mpr (.inl hm))]
            · rw [if_neg hm, if_neg fun c => (e.mp c).elim hm hk]
      · rintro H7 ⟨y1, ll, y2, y3, y4⟩
        have hc7 := y1 _ _ upd_same
        have hDC : D ≠ C := by
          rintro rfl
          rw [upd_same] at hD
          cases hD
        refine ⟨hc7, ?_⟩
        have s8 : Same H6 (upd H7 C (.dK kk)) := frz_same hC6 y1
        have y2' : (upd H7 C (.dK kk)) D = some (.dK ll) := by
          rw [upd_ne hDC]
          exact y2
        have y4' : DicK K n (upd H7 C (.dK kk)) ll (sumF f g).co := (y4.tk (frz_tk hc7)).congr fun k => by
          show (if k ∈ keysT kk kk.length then (sumF f g).co k else 0) = (sumF f g).co k
          rw [keysT_all]
          by_cases hm : k ∈ kk.map fun p => natKey p.1
          · rw [if_pos hm]
          · rw [if_neg hm, k6.keys.2.2.1 k hm]
        generalize upd H7 C (.dK kk) = H8 at s8 y2' y4'
        refine ⟨by show 2 ≤ sizeLine; decide, fun t ht => ?_⟩
        have s9 := same_upd (o := .tup [v2, .ref D]) ht
        exact q _ _ (s4.trans (s6.trans (s8.trans s9))) ⟨t, D, v2, ll, rfl, SqT.of upd_same, (n6.same s8).same s9, s9 _ _ y2', y4'.same s9⟩
end
end K70
/-! K70, part Y2: the class Forms. -/
namespace K70
open PySem PySem.Spec PyProof.Rows L2
section
variable {P : Program} {w : World} {K : PySem.W.Frag} {mg : Str → Option Value} {base : Heap}
/-- a method of Forms: its promise -/
structure CalM (P : Program) (w : World) (K : PySem.W.Frag) (mg : Str → Option Value) (base : Heap) (m : Str) (ps : List Str) (k : Nat) (sp : Sp) : Prop where
  ex : ∃ fd, FnOk P w K mg base CX0 k (He.ma K (He.ga K "Forms") m) fd ps sp ∧ Binds K fd ps []
theorem calM_of {m q : Str} {st : Stmt} {ps : List Str} {k : Nat} {sp : Sp} (F : ∃ fd, FnP K m q st [] [] (He.ma K (He.ga K "Forms") m) fd)
    (b : ∀ (kV doc pm : Value) (an : Option Addr) (cdv ct : Value) (us : List Value), us.length = ps.length → bindArgs (PySem.W.fnOf m q (defArgs st) (defBody st) (defScope st) .none kV doc pm an cdv ct) ⟨us, []⟩ = pure (ps.zip us))
    (ok : ∀ fd, FnP K m q st [] [] (He.ma K (He.ga K "Forms") m) fd → FnOk P w K mg base CX0 k (He.ma K (He.ga K "Forms") m) fd ps sp) : CalM P w K mg base m ps k sp := by
  obtain ⟨fd, F⟩ := F
  exact ⟨⟨fd, ok fd F, F.bindsN b⟩⟩
end
section
variable {X : Cx} {k : Nat} {ps : List Str} {sp : Sp} {m : Str} {apos pos : Pos} {o e : Expr} {es : List Expr} {ta : TE} {t : TA}
/-- o.m(e, ..) of Forms -/
theorem pe_methC {pl : Sem Bool} (C : CalM X.prog X.w X.K X.mg X.base m ps k sp) (c : Cls X.K (He.ga X.K "Forms")) (hm : Meth X.K (He.ga X.K "Forms") m (He.ma X.K (He.ga X.K "Forms") m)) (hr : Room k X.A) (he : PE X o ta) (ha : PA X (e :: es) t)
    (hst : starEach (e :: es) X.env = (false, eval e X.env) :: starEach es X.env := by rfl) (hpl : (backTo pos (starEach es X.env)).any (·.1) = false := by rfl)
    (ht : eval (.Call (.Attribute o m apos) (e :: es) [] pos) X.env = (do
      let ov ← eval o X.env
      standAt apos.atName
      let (f, first) ← holding [ov] (getMethod ov m pl)
      callWith pos f first (backTo pos (starEach (e :: es) X.env)) (backToKw pos (keywordEach [] X.env))) := by rfl) :
    PE X (.Call (.Attribute o m apos) (e :: es) [] pos) (tMeth (He.ga X.K "Forms") m sp [] E0 ta t) := by
  obtain ⟨⟨fd, F, b⟩⟩ := C
  exact pe_meth he c hm F hr b .nil pass0 ha hst hpl ht
end
section
variable {P : Program} {w : World} {K : PySem.W.Frag} {mg : Str → Option Value} {base : Heap}
def sp_Forms_init (K : PySem.W.Frag) : Sp := fun vs H Q _ => ∃ (fo dx : Addr), vs = [.ref fo] ∧ H fo = some (.ins (He.ga K "Forms") dx []) ∧ ∀ sl, H sl = none → Q .non (upd (upd H sl (.lst [])) fo (.ins (He.ga K "Forms") dx [("spans", .ref sl)]))
/-! ### Forms.__init__ -/
abbrev n_Forms_init : List Str := ["self"]
theorem sc_Forms_init : FnScope n_Forms_init ["self"] (defScope s_Forms_init) := ⟨rfl, rfl, rfl, by decide +kernel, rfl, by decide +kernel, by decide +kernel⟩
theorem m_Forms_init (T : TX K mg) : CalM P w K mg base "__init__" ["self"] 1 (sp_Forms_init K) := by
  refine calM_of T.f_Forms_init (fun _ _ _ _ _ _ us hl => match us, hl with | [_], _ => rfl) fun fd F => okN F sc_Forms_init (fun vs H Q E h => ?_) (fun cdv A outer s H vs Q E hr h => ?_)
  · obtain ⟨fo, dx, rfl, h1, q⟩ := h
    rfl
  · obtain ⟨fo, dx, rfl, h1, q⟩ := h
    refine ⟨_, 
      (pss_one
        (ps_fld (pv 0) (pe_lst pa_nil) rfl)), ?_⟩
    refine ⟨by show 0 ≤ sizeLine; decide, fun sl hsl => ⟨_, rfl, fo, _, dx, _, rfl, same_upd hsl _ _ h1, T.cl, T.nS, by show 0 < 1000; decide, ?_⟩⟩
    exact q sl hsl
def sp_Forms_cut (K : PySem.W.Frag) : Sp := fun vs H Q _ => ∃ (fo sl : Addr) (sv : V) (o : Option Span) (spans : List Span), vs = [.ref fo, sv] ∧ IsF K H fo sl ∧ FrS K H sl spans ∧ spans.length ≤ 900 ∧ OSpanV K H sv o ∧
  ∀ v H', SameB sl H H' → FrS K H' sl (spans ++ o.toList) → FormV K (spans ++ o.toList).length H' v (cutF spans.length o) → Q v H'
theorem isF_ne {H : Hp} {fo sl : Addr} {spans : List Span} (h : IsF K H fo sl) (g : FrS K H sl spans) : fo ≠ sl := by
  rintro rfl
  obtain ⟨dx, h⟩ := h
  obtain ⟨ws, g, _⟩ := g
  rw [h] at g
  cases g
theorem IsF.sameB {H H' : Hp} {fo sl : Addr} {spans : List Span} (h : IsF K H fo sl) (g : FrS K H sl spans) (e : SameB sl H H') : IsF K H' fo sl := by
  have ne := isF_ne h g
  obtain ⟨dx, h⟩ := h
  exact ⟨dx, e _ _ ne h⟩
theorem one_num {H : Hp} {p : Addr} (hp : SqT K H p [.int 1, .int 1]) : NumV K H (.ref p) 1 := ⟨p, rfl, hp⟩
/-! ### Forms.cut -/
abbrev n_Forms_cut : List Str := ["self", "span"]
theorem sc_Forms_cut : FnScope n_Forms_cut ["self", "span"] (defScope s_Forms_cut) := ⟨rfl, rfl, rfl, by decide +kernel, rfl, by decide +kernel, by decide +kernel⟩
theorem m_Forms_cut (T : TX K mg) : CalM P w K mg base "cut" ["self", "span"] 1 (sp_Forms_cut K) := by
  refine calM_of T.f_Forms_cut (fun _ _ _ _ _ _ us hl => match us, hl with | [_, _], _ => rfl) fun fd F => okN F sc_Forms_cut (fun vs H Q E h => ?_) (fun cdv A outer s H vs Q E hr h => ?_)
  · obtain ⟨fo, sl, sv, o, spans, rfl, hF, hS, hn, ho, q⟩ := h
    rfl
  · obtain ⟨fo, sl, sv, o, spans, rfl, hF, hS, hn, ho, q⟩ := h
    refine ⟨_, 
      (pss_cons
        (ps_if (pt_cmpR op_isN (pv 1) pe_non (nomark _))
          (pss_one
            (ps_ret (pe_tup (pa_cons (pe_glob rfl T.g_NOUGHT (show L2.RelV (.ref (He.ga K "NOUGHT")) _ from rfl)) (pa_cons pe_dnewK pa_nil)))))
          pss_nil)
      (pss_cons
        (ps_expr (pe_bm PySem.F.plainAttrs_list PySem.F.slot_list_append PySem.F.type_list_append mt_append (pe_fld (pv 0) rfl) (pa_cons (pv 1) pa_nil)))
      (pss_one
        (ps_ret (pe_tup (pa_cons (pe_glob rfl T.g_NOUGHT (show L2.RelV (.ref (He.ga K "NOUGHT")) _ from rfl)) (pa_cons (pe_disp (pps_cons (pe_op op_sub (pe_callB call_len_seq (by rfl) T.z_len (by decide +kernel) (pa_cons (pe_fld (pv 0) rfl) pa_nil)) pe_int) (pe_tup (pa_cons pe_int (pa_cons pe_int pa_nil))) pps_nil) (by rfl) (by rfl) (fun z => by cases z) (by decide)) pa_nil))))))), ?_⟩
    obtain ⟨dx, hf⟩ := id hF
    obtain ⟨ws, g1, g2⟩ := id hS
    have hlen := g2.len
    refine ⟨_, rfl, rfl, _, rfl, ?_⟩
    cases o with
    | none =>
      have ev : sv = .non := ho
      subst ev
      refine iteT fun d hd => ?_
      refine ⟨by show 2 ≤ sizeLine; decide, fun t ht => ?_⟩
      have s1 := (same_upd (o := .dK []) hd).trans (same_upd (o := .tup [.ref (He.ga K "NOUGHT"), .ref d]) ht)
      refine q _ _ (Same.b s1 sl) ?_ ?_
      · rw [Option.toList_none, List.append_nil]
        exact hS.same s1
      · refine ⟨t, d, _, [], rfl, SqT.of upd_same, nought_num T _, same_upd ht _ _ upd_same, DicK.nil⟩
    | some s =>
      obtain ⟨sa, u1, u2, rfl, e1, e2, e3⟩ := id ho
      refine iteF ⟨_, rfl, fo, _, dx, _, _, rfl, hf, T.cl, T.nS, rfl, .inl ⟨rfl, _, SqL.of g1⟩, _, rfl, sl, ws, _, rfl, rfl, g1, small1000 (by omega), ?_⟩
      have sB : SameB sl H (upd H sl (.lst (ws ++ [.ref sa]))) := sameB_upd
      have dk : DK K H (upd H sl (.lst (ws ++ [.ref sa]))) := dk_lst g1
      have hf2 := sB _ _ (isF_ne hF hS) hf
      have hS2 : FrS K (upd H sl (.lst (ws ++ [.ref sa]))) sl (spans ++ [s]) := ⟨_, upd_same, (g2.imp fun _ _ r => r.tk dk.t).snoc (SpanV.tk ho dk.t)⟩
      generalize hH1 : upd H sl (.lst (ws ++ [.ref sa])) = H1 at sB dk hf2 hS2
      obtain ⟨ws2, k1, k2⟩ := id hS2
      have hl2 := k2.len
      refine fun d hd => ⟨_, rfl, fo, _, dx, _, _, rfl, same_upd hd _ _ hf2, T.cl, T.nS, rfl, sl, _, rfl, .inl (SqL.of (same_upd hd _ _ k1)), _, _, rfl, rfl, ?_⟩
      refine ⟨by show 2 ≤ sizeLine; decide, fun t ht => ?_⟩
      have s1 := same_upd (o := .dK []) hd
      have s2 := same_upd (o := .tup [.int 1, .int 1]) ht
      refine ⟨s2 _ _ upd_same, [(.inl ((spans.length : Nat) : Int), .ref t)], ?_, by show 1 ≤ 15; decide, ?_⟩
      · have e : ((ws2.length : Nat) : Int) - 1 = ((spans.length : Nat) : Int) := by
          rw [List.length_append, List.length_cons, List.length_nil] at hl2
          omega
        show [(V.int (((ws2.length : Nat) : Int) - 1), V.ref t)] = _
        rw [e]
        rfl
      · refine ⟨by show 2 ≤ sizeLine; decide, fun t3 ht3 => ?_⟩
        have hd0 : H1 d = none := hd
        have ht0 : H1 t = none := s1.free ht
        have n1 : NumV K (upd (upd H1 d (.dK [])) t (.tup [.int 1, .int 1])) (.ref t) 1 := one_num (SqT.of upd_same)
        have sA : Same H1 (upd (upd (upd H1 d (.dK [])) t (.tup [.int 1, .int 1])) d (.dK (mergeK [] [(.inl ((spans.length : Nat) : Int), .ref t)]))) := fun b x e => by
          have hb : b ≠ d := ne_of_none e hd
          rw [upd_ne hb]
          exact s2 _ _ (s1 _ _ e)
        have sD := same_upd (o := .tup [.ref (He.ga K "NOUGHT"), .ref d]) ht3
        have sZ := sA.trans sD
        refine q _ _ (sB.trans (Same.b sZ sl)) (hS2.same sZ) ⟨t3, d, _, _, rfl, SqT.of upd_same, nought_num T _, sD _ _ upd_same, ?_⟩
        have n2 : NumV K (upd (upd (upd (upd H1 d (.dK [])) t (.tup [.int 1, .int 1])) d (.dK (mergeK [] [(.inl ((spans.length : Nat) : Int), .ref t)]))) t3 (.tup [.ref (He.ga K "NOUGHT"), .ref d])) (.ref t) 1 :=
          (n1.tk (dic_tk (s2 _ _ upd_same))).same sD
        rw [Option.toList_some, List.length_append, List.length_cons, List.length_nil]
        exact (DicK.nil.put (Nat.lt_succ_self spans.length) n2)
end
end K70
/-! K70, part Y3: Forms.ends, Forms.between. -/
namespace K70
open PySem PySem.Spec PyProof.Rows L2
section
variable {P : Program} {w : World} {K : PySem.W.Frag} {mg : Str → Option Value} {base : Heap}
structure SpB (spans : List Span) : Prop where
  len : spans.length ≤ 900
  lo : ∀ i, Bd (spAt spans i).1
  hi : ∀ i, Bd (spAt spans i).2
def sp_Forms_ends (K : PySem.W.Frag) : Sp := fun vs H Q _ => ∃ (fo sl : Addr) (v : V) (f : Form) (spans : List Span) (B k : Nat), vs = [.ref fo, v] ∧ IsF K H fo sl ∧ FrS K H sl spans ∧ FormV K spans.length H v f ∧ SpB spans ∧ FSz B k spans f ∧ B ≤ 2000 ∧ k ≤ 380000 ∧
  ∀ v H', Same H H' → SpanV K H' v (lowF spans f, highF spans f) → Q v H'
theorem lowI_zero {spans : List Span} {f : Form} {i : Nat} (h : f.co i = 0) : lowI spans f i = 0 := by
  unfold lowI
  rw [h, Rat.zero_mul, Rat.zero_mul]
  rfl
theorem highI_zero {spans : List Span} {f : Form} {i : Nat} (h : f.co i = 0) : highI spans f i = 0 := by
  unfold highI
  rw [h, Rat.zero_mul, Rat.zero_mul]
  rfl
/-! ### Forms.ends -/
abbrev n_Forms_ends : List Str := ["self", "form", "low", "high", "cut", "factor", "both", "end"]
theorem sc_Forms_ends : FnScope n_Forms_ends ["self", "form"] (defScope s_Forms_ends) := ⟨rfl, rfl, rfl, by decide +kernel, rfl, by decide +kernel, by decide +kernel⟩
theorem m_Forms_ends (T : TX K mg) : CalM P w K mg base "ends" ["self", "form"] 3 (sp_Forms_ends K) := by
  refine calM_of T.f_Forms_ends (fun _ _ _ _ _ _ us hl => match us, hl with | [_, _], _ => rfl) fun fd F => okN F sc_Forms_ends (fun vs H Q E h => ?_) (fun cdv A outer s H vs Q E hr h => ?_)
  · obtain ⟨fo, sl, v, f, spans, B, k, rfl, hF, hS, hf, hsp, hz, hB, hk, q⟩ := h
    rfl
  · obtain ⟨fo, sl, v, f, spans, B, k, rfl, hF, hS, hf, hsp, hz, hB, hk, q⟩ := h
    refine ⟨_, 
      (pss_cons
        (ps_asg2 (pe_ix (ixT (K := K)) (pv 1) pe_int (fun _ _ => rfl)) (pg_name (i := 2) sc_Forms_ends.nd rfl (by first | exact Or.inl rfl | exact Or.inr rfl)) (pg_name (i := 3) sc_Forms_ends.nd rfl (by first | exact Or.inl rfl | exact Or.inr rfl)))
      (pss_cons
        (ps_lock (ps_for PassesOwn.never rfl (pi_items (pe_ix (ixT (K := K)) (pv 1) pe_int (fun _ _ => rfl))) (pg_tup (by rfl) (pgs_cons (pg_name (i := 4) sc_Forms_ends.nd rfl (by first | exact Or.inl rfl | exact Or.inr rfl)) (pgs_cons (pg_name (i := 5) sc_Forms_ends.nd rfl (by first | exact Or.inl rfl | exact Or.inr rfl)) pgs_nil)))
          (pss_cons
            (ps_setLc (i := 6) (own := [("end", 7)]) rfl sc_Forms_ends.nd rfl rfl (sw_true rfl rfl rfl (by decide +kernel)) (pi_tup (pe_ix (ixL (K := K)) (pe_fld (pv 0) rfl) (pv 4) (fun _ _ => rfl))) (blkOk_by (N := n_Forms_ends) (sc := defScope s_Forms_ends) (by decide +kernel)) (fun _ _ _ _ _ => pg_name (i := 7) sc_Forms_ends.nd rfl (by first | exact Or.inl rfl | exact Or.inr rfl)) (fun _ _ _ _ _ => pts_nil) (fun _ _ _ _ _ => (pe_cal (c_times_of T) (hr.mono (by decide)) (pa_cons (pv 5) (pa_cons (pv 7) pa_nil)))))
          (pss_one
            (ps_par (i := 2) (j := 3) (by rfl) sc_Forms_ends.nd rfl rfl (by decide) rfl rfl (pa_cons (pe_cal (c_sum_of T) (hr.mono (by decide)) (pa_cons (pv 2) (pa_cons (pe_cal (c_least_num T) (hr.mono (by decide)) (pa_cons (pv 6) pa_nil)) pa_nil))) (pa_cons (pe_cal (c_sum_of T) (hr.mono (by decide)) (pa_cons (pv 3) (pa_cons (pe_cal (c_most_num T) (hr.mono (by decide)) (pa_cons (pv 6) pa_nil)) pa_nil))) pa_nil)) (by rfl))))))
      (pss_one
        (ps_ret (pe_tup (pa_cons (pv 2) (pa_cons (pv 3) pa_nil))))))), ?_⟩
    obtain ⟨a, d, u0, kvs, rfl, h2, h3, h4, h5⟩ := hf
    obtain ⟨dx, hfo⟩ := id hF
    obtain ⟨ws, g1, g2⟩ := id hS
    have co_bd : ∀ i, Bd (f.co i) := fun i => (hz.co i).bd hB (by omega)
    have low_bd : ∀ i, Bd (f.c + sumR ((kvs.take i).map fun p => lowI spans f (natKey p.1))) := fun i => by
      have z := sumR_sz (g := fun p : Key × V => lowI spans f (natKey p.1)) (fun p => lowI_sz hz _) hz.c (kvs.take i)
      have l1 := h5.keys.2.2.2
      have l2 := hsp.len
      exact z.bd hB (by rw [List.length_take]; omega)
    have high_bd : ∀ i, Bd (f.c + sumR ((kvs.take i).map fun p => highI spans f (natKey p.1))) := fun i => by
      have z := sumR_sz (g := fun p : Key × V => highI spans f (natKey p.1)) (fun p => highI_sz hz _) hz.c (kvs.take i)
      have l1 := h5.keys.2.2.2
      have l2 := hsp.len
      exact z.bd hB (by rw [List.length_take]; omega)
    have step : ∀ (g : Nat → Rat) (i : Nat) (p : Key × V), kvs[i]? = some p → f.c + sumR ((kvs.take (i + 1)).map fun p => g (natKey p.1)) = f.c + sumR ((kvs.take i).map fun p => g (natKey p.1)) + g (natKey p.1) := by
      intro g i p e
      rw [List.take_add_one, e, Option.toList_some, List.map_append, sumR_append, List.map_cons, List.map_nil, sumR_one]
      grind
    have ned : ∀ b x, H b = some x → (∀ kk, x ≠ .dK kk) → b ≠ d := by
      rintro b x hb hx rfl
      rw [h4] at hb
      exact hx _ (Option.some.inj hb).symm
    refine ⟨_, rfl, a, _, 0, _, rfl, rfl, h2, at0, ?_⟩
    refine ⟨d, _, h4, trivial, fun od => ?_⟩
    have tk0 : TK K H (upd H d (.frz od (.dK kvs))) := dic_tk h4
    have hfo1 : (upd H d (.frz od (.dK kvs))) fo = some (.ins (He.ga K "Forms") dx [("spans", .ref sl)]) := by
      rw [upd_ne (ned _ _ hfo fun _ z => nomatch z)]
      exact hfo
    have g11 : (upd H d (.frz od (.dK kvs))) sl = some (.lst ws) := by
      rw [upd_ne (ned _ _ g1 fun _ z => nomatch z)]
      exact g1
    refine ⟨_, rfl, a, _, 1, _, rfl, rfl, tk0 _ _ h2, at1, d, od, kvs, rfl, upd_same, ?_⟩
    refine for_it walk_items (fun i σ H' => Same (upd H d (.frz od (.dK kvs))) H' ∧ ∃ lv hv x4 x5 x6, σ = [some (.ref fo), some (.ref a), some lv, some hv, x4, x5, x6, none] ∧
        NumV K H' lv (f.c + sumR ((kvs.take i).map fun p => lowI spans f (natKey p.1))) ∧ NumV K H' hv (f.c + sumR ((kvs.take i).map fun p => highI spans f (natKey p.1))))
      ⟨fun _ _ h => h, u0, u0, none, none, none, rfl, ?_, ?_⟩ (fun i σ H' _ z => z.1 _ _ upd_same) ?_ ?_
    · show NumV K _ u0 (f.c + 0)
      rw [Rat.add_zero]
      exact h3.tk tk0
    · show NumV K _ u0 (f.c + 0)
      rw [Rat.add_zero]
      exact h3.tk tk0
    · rintro i y σ H1 H1' hi ⟨z1, lv, hv, x4, x5, x6, rfl, zl, zh⟩ ⟨T1, v1, y1, rfl, hT, rfl, e1, e2⟩
      obtain ⟨j, j1, rfl, j3, j4, j5, j6⟩ := h5.at e1 e2
      have sT := same_upd (o := .tup [.int (j : Int), y1]) hT
      obtain ⟨wv, w1, w2⟩ := g2.at (spAt_get (spans := spans) j1)
      obtain ⟨sa, u1, u2, rfl, k1, k2, k3⟩ := w2
      have n1 := ((j3.tk tk0).same z1).same sT
      have tkT : TK K H (upd H1 T1 (.tup [.int (j : Int), y1])) := (tk0.trans (tk_same z1)).trans (tk_same sT)
      refine ⟨T1, _, rfl, SqT.of upd_same, rfl, _, _, rfl, _, _, rfl, rfl, ?_⟩
      refine ⟨_, rfl, fo, _, dx, _, _, rfl, sT _ _ (z1 _ _ hfo1), T.cl, T.nS, rfl, _, rfl, sl, _, (j : Int), _, rfl, rfl, SqL.of (sT _ _ (z1 _ _ g11)), atI_nat w1, sa, rfl, ⟨_, tkT _ _ k1⟩, fun D hD => ?_⟩
      have zl' := zl.same sT
      have zh' := zh.same sT
      have z1' := z1.trans sT
      have k2' := k2.tk tkT
      have k3' := k3.tk tkT
      have k1' := tkT _ _ k1
      generalize upd H1 T1 (.tup [.int (j : Int), y1]) = H2 at hD n1 zl' zh' z1' k2' k3' k1'
      have hw : ∀ i' : Nat, ([u1, u2] : List V)[i']? = none ∨ ∃ (x' : V) (q' : Rat), ([u1, u2] : List V)[i']? = some x' ∧ ([(spAt spans j).1, (spAt spans j).2] : List Rat)[i']? = some q' ∧ NumV K H2 x' q' ∧ Bd q' := by
        intro i'
        match i' with
        | 0 => exact .inr ⟨u1, _, rfl, rfl, k2', hsp.lo j⟩
        | 1 => exact .inr ⟨u2, _, rfl, rfl, k3', hsp.hi j⟩
        | i' + 2 => exact .inl rfl
      refine lc_tup (K := K) (a := sa) (xs := [u1, u2]) (fun i' H' => Same H2 H' ∧ ∃ ws', H' D = some (.lst ws') ∧ NumsV K H' ws' ((([(spAt spans j).1, (spAt spans j).2] : List Rat).take i').map fun s => f.co j * s))
        ⟨same_upd hD, [], upd_same, .nil⟩ (fun i' H' _ z => SqT.same k1' z.1) ?_ ?_
      · rintro i' x H' hx ⟨y2, ws', y3, y4⟩
        refine ⟨rfl, ?_⟩
        rcases hw i' with hn | ⟨x', q', hx', hq', hnum, hbd⟩
        · rw [hn] at hx
          cases hx
        · rw [hx'] at hx
          have ex : x' = x := Option.some.inj hx
          subst ex
          refine ⟨_, rfl, _, rfl, y1, x', f.co j, q', rfl, n1.same y2, hnum.same y2, co_bd j, hbd, fun v2 H3 s3 n3 => ?_⟩
          have hD3 := s3 _ _ y3
          have hl := (y4.len)
          refine ⟨ws', hD3, small1000 (by rw [hl, List.length_map, List.length_take]; simp; omega), same_upd_new (y2.trans s3) hD, _, upd_same, ?_⟩
          have dk : DK K H3 (upd H3 D (.lst (ws' ++ [v2]))) := dk_lst hD3
          rw [List.take_add_one, hq', Option.toList_some, List.map_append]
          exact ((y4.dk (dk_same s3)).dk dk).snoc (n3.dk dk)
      · rintro H3 ⟨y2, ws', y3, y4⟩
        obtain ⟨w3, w4, rfl, m1, m2⟩ := y4.inv2
        have b1 : Bd (f.co j * (spAt spans j).1) := (hz.lo j).bd hB (by omega)
        have b2 : Bd (f.co j * (spAt spans j).2) := (hz.hi j).bd hB (by omega)
        refine ⟨_, rfl, _, rfl, D, w3, w4, _, _, rfl, SqL.of y3, m1, m2, b1, b2, fun v3 H4 s4 n4 => ?_⟩
        refine ⟨lv, v3, _, _, rfl, (zl'.same y2).same s4, n4, low_bd i, ((lowI_sz hz j).bd hB (by omega)), fun v5 H5 s5 n5 => ?_⟩
        refine ⟨_, rfl, _, rfl, D, w3, w4, _, _, rfl, SqL.of (s5 _ _ (s4 _ _ y3)), (m1.same s4).same s5, (m2.same s4).same s5, b1, b2, fun v6 H6 s6 n6 => ?_⟩
        refine ⟨hv, v6, _, _, rfl, ((((zh'.same y2).same s4).same s5).same s6), n6, high_bd i, ((highI_sz hz j).bd hB (by omega)), fun v7 H7 s7 n7 => ?_⟩
        refine ⟨_, _, rfl, ((((z1'.trans y2).trans s4).trans s5).trans s6).trans s7, v5, v7, _, _, _, rfl, ?_, ?_⟩
        · rw [step _ i _ j6]
          exact (n5.same s6).same s7
        · rw [step _ i _ j6]
          exact n7
    · rintro σ H1 ⟨z1, lv, hv, x4, x5, x6, rfl, zl, zh⟩
      have hd1 := z1 _ _ upd_same
      refine ⟨hd1, ?_⟩
      have s8 : Same H (upd H1 d (.dK kvs)) := frz_same h4 z1
      have tk8 : TK K H1 (upd H1 d (.dK kvs)) := frz_tk hd1
      refine ⟨_, rfl, _, rfl, by show 2 ≤ sizeLine; decide, fun t ht => ?_⟩
      have s9 := same_upd (o := .tup [lv, hv]) ht
      refine q _ _ (s8.trans s9) ⟨t, lv, hv, rfl, SqT.of upd_same, ?_, ?_⟩
      · have e : lowF spans f = f.c + sumR ((kvs.take kvs.length).map fun p => lowI spans f (natKey p.1)) := by
          rw [List.take_length, h5.sum fun i hi => lowI_zero hi]
          rfl
        show NumV K _ lv (lowF spans f)
        rw [e]
        exact (zl.tk tk8).same s9
      · have e : highF spans f = f.c + sumR ((kvs.take kvs.length).map fun p => highI spans f (natKey p.1)) := by
          rw [List.take_length, h5.sum fun i hi => highI_zero hi]
          rfl
        show NumV K _ hv (highF spans f)
        rw [e]
        exact (zh.tk tk8).same s9
end
end K70
/-! K70, part Y4: Forms.between, form_of. -/
namespace K70
open PySem PySem.Spec PyProof.Rows L2
section
variable {P : Program} {w : World} {K : PySem.W.Frag} {mg : Str → Option Value} {base : Heap}
def betS (spans : List Span) (f g : Form) : Span := (rmin (lowF spans f) (lowF spans g), rmax (highF spans f) (highF spans g))
def sp_Forms_between (K : PySem.W.Frag) : Sp := fun vs H Q _ => ∃ (fo sl : Addr) (v1 v2 : V) (f g : Form) (spans : List Span) (B k : Nat), vs = [.ref fo, v1, v2] ∧ IsF K H fo sl ∧ FrS K H sl spans ∧ FormV K spans.length H v1 f ∧ FormV K spans.length H v2 g ∧
  SpB spans ∧ FSz B k spans f ∧ FSz B k spans g ∧ B ≤ 2000 ∧ k ≤ 380000 ∧ (f = g → Q v1 H) ∧
  ∀ v H', SameB sl H H' → FrS K H' sl (spans ++ [betS spans f g]) → FormV K (spans ++ [betS spans f g]).length H' v (cutF spans.length (some (betS spans f g))) → Q v H'
/-! ### Forms.between -/
abbrev n_Forms_between : List Str := ["self", "one", "other", "first", "second"]
theorem sc_Forms_between : FnScope n_Forms_between ["self", "one", "other"] (defScope s_Forms_between) := ⟨rfl, rfl, rfl, by decide +kernel, rfl, by decide +kernel, by decide +kernel⟩
theorem m_Forms_between (T : TX K mg) : CalM P w K mg base "between" ["self", "one", "other"] 4 (sp_Forms_between K) := by
  refine calM_of T.f_Forms_between (fun _ _ _ _ _ _ us hl => match us, hl with | [_, _, _], _ => rfl) fun fd F => okN F sc_Forms_between (fun vs H Q E h => ?_) (fun cdv A outer s H vs Q E hr h => ?_)
  · obtain ⟨fo, sl, v1, v2, f, g, spans, B, k, rfl, hF, hS, hf, hg, hsp, hz, hz2, hB, hk, q1, q2⟩ := h
    rfl
  · obtain ⟨fo, sl, v1, v2, f, g, spans, B, k, rfl, hF, hS, hf, hg, hsp, hz, hz2, hB, hk, q1, q2⟩ := h
    refine ⟨_, 
      (pss_cons
        (ps_if (pt_cmpR (op_eqForm hr.units) (pv 1) (pv 2) (nomark _))
          (pss_one
            (ps_ret (pv 1)))
          pss_nil)
      (pss_cons
        (ps_par (i := 3) (j := 4) (by rfl) sc_Forms_between.nd rfl rfl (by decide) rfl rfl (pa_cons (pe_methC (m_Forms_ends T) T.cl T.m_ends (hr.mono (by decide)) (pv 0) (pa_cons (pv 1) pa_nil)) (pa_cons (pe_methC (m_Forms_ends T) T.cl T.m_ends (hr.mono (by decide)) (pv 0) (pa_cons (pv 2) pa_nil)) pa_nil)) (by rfl))
      (pss_one
        (ps_ret (pe_methC (m_Forms_cut T) T.cl T.m_cut (hr.mono (by decide)) (pv 0) (pa_cons (pe_tup (pa_cons (pe_cal (c_least_num T) (hr.mono (by decide)) (pa_cons (pe_lst (pa_cons (pe_ix (ixT (K := K)) (pv 3) pe_int (fun _ _ => rfl)) (pa_cons (pe_ix (ixT (K := K)) (pv 4) pe_int (fun _ _ => rfl)) pa_nil))) pa_nil)) (pa_cons (pe_cal (c_most_num T) (hr.mono (by decide)) (pa_cons (pe_lst (pa_cons (pe_ix (ixT (K := K)) (pv 3) pe_int (fun _ _ => rfl)) (pa_cons (pe_ix (ixT (K := K)) (pv 4) pe_int (fun _ _ => rfl)) pa_nil))) pa_nil)) pa_nil))) pa_nil)))))), ?_⟩
    obtain ⟨dx, hfo⟩ := id hF
    refine ⟨_, rfl, _, rfl, spans.length, f, g, hf, hg, fun b hb => ⟨_, rfl, ?_⟩⟩
    cases b with
    | true => exact iteT ⟨_, rfl, q1 (hb rfl)⟩
    | false =>
      refine iteF ⟨_, rfl, fo, dx, _, rfl, hfo, rfl, _, rfl, fo, sl, v1, f, spans, B, k, rfl, hF, hS, hf, hsp, hz, hB, hk, fun e1 H1 s1 m1 => ?_⟩
      refine ⟨_, rfl, fo, dx, _, rfl, s1 _ _ hfo, rfl, _, rfl, fo, sl, v2, g, spans, B, k, rfl, hF.same s1, hS.same s1, hg.same s1, hsp, hz2, hB, hk, fun e2 H2 s2 m2 => ?_⟩
      obtain ⟨a1, x1, y1, rfl, t1, n1, n2⟩ := m1
      obtain ⟨a2, x2, y2, rfl, t2, n3, n4⟩ := m2
      have s12 := s1.trans s2
      have t1 := SqT.same t1 s2
      have n1 := n1.same s2
      have n2 := n2.same s2
      have hL := hsp.len
      have b1 : Bd (lowF spans f) := (lowF_sz hz).bd hB (by omega)
      have b2 : Bd (lowF spans g) := (lowF_sz hz2).bd hB (by omega)
      have b3 : Bd (highF spans f) := (highF_sz hz).bd hB (by omega)
      have b4 : Bd (highF spans g) := (highF_sz hz2).bd hB (by omega)
      refine ⟨_, _, rfl, _, rfl, fo, dx, _, rfl, s12 _ _ hfo, rfl, ?_⟩
      refine ⟨_, rfl, a1, _, 0, _, rfl, rfl, t1, at0, _, rfl, a2, _, 0, _, rfl, rfl, t2, at0, by show 2 ≤ sizeLine; decide, fun l hl => ?_⟩
      have s3 := same_upd (o := .lst [x1, x2]) hl
      refine ⟨l, x1, x2, _, _, rfl, SqL.of upd_same, n1.same s3, n3.same s3, b1, b2, fun v3 H3 s4 n5 => ?_⟩
      have s34 := s3.trans s4
      refine ⟨_, rfl, a1, _, 1, _, rfl, rfl, SqT.same t1 s34, at1, _, rfl, a2, _, 1, _, rfl, rfl, SqT.same t2 s34, at1, by show 2 ≤ sizeLine; decide, fun l2 hl2 => ?_⟩
      have s5 := same_upd (o := .lst [y1, y2]) hl2
      refine ⟨l2, y1, y2, _, _, rfl, SqL.of upd_same, (n2.same s34).same s5, (n4.same s34).same s5, b3, b4, fun v4 H4 s6 n6 => ?_⟩
      refine ⟨by show 2 ≤ sizeLine; decide, fun t ht => ?_⟩
      have s7 := same_upd (o := .tup [v3, v4]) ht
      have sA := ((s12.trans s34).trans (s5.trans s6)).trans s7
      refine ⟨fo, sl, _, some (betS spans f g), spans, rfl, hF.same sA, hS.same sA, hsp.len, ⟨t, v3, v4, rfl, SqT.of upd_same, ((n5.same s5).same s6).same s7, n6.same s7⟩, fun v H' sb h1 h2 => ?_⟩
      exact q2 v H' ((Same.b sA sl).trans sb) h1 h2
end
end K70
/-! K70, part Y5: form_of. -/
namespace K70
open PySem PySem.Spec PyProof.Rows L2
def dF : Form := ⟨0, fun _ => 0⟩
def figsN (q : Rat) : Nat := Nat.log2 q.den
theorem figsN_eq {q : Rat} {k : Nat} (h : q.den = 2 ^ k) : figsN q = k := by
  unfold figsN
  rw [h]
  exact Nat.log2_two_pow
def Bet (spans : List Span) (f g : Form) (o : Option Span) (h : Form) : Prop := (o = none ∧ f = g ∧ h = f) ∨ (o = some (betS spans f g) ∧ h = cutF spans.length o)
/-- what form_of gives: a new span, if any, and the form -/
def NStep (fig fine : Nat) (spans : List Span) (tf : Nat → Nat → Form) (r : Row) (c : Nat) (o : Option Span) (f : Form) : Prop := match r.w with
  | .spring => o = cutSpan fig fine ∧ f = cutF spans.length o
  | .fixed => o = none ∧ f = ⟨cutR fig r.q - r.q, fun _ => 0⟩
  | .late => if c = 0 then o = none ∧ f = ⟨cutR fig r.q - r.q, fun _ => 0⟩ else o = none ∧ f = tf (r.args.getD 0 0) (c - 1)
  | .by => o = cutSpan fig (fig + figsN r.q) ∧ f = sumF (timesF r.q (tf (r.args.getD 0 0) c)) (cutF spans.length o)
  | .sum => o = none ∧ f = sumF (tf (r.args.getD 0 0) c) (tf (r.args.getD 1 0) c)
  | .less => o = none ∧ f = sumF (tf (r.args.getD 0 0) c) (timesF (-1) (tf (r.args.getD 1 0) c))
  | .most => Bet spans (tf (r.args.getD 0 0) c) (tf (r.args.getD 1 0) c) o f
  | .least => Bet spans (tf (r.args.getD 0 0) c) (tf (r.args.getD 1 0) c) o f
  | .pick => Bet spans (tf (r.args.getD 1 0) c) (tf (r.args.getD 2 0) c) o f
  | .half => o = none ∧ f = tf (r.args.getD 0 0) (2 * c)
  | .twice => o = none ∧ f = tf (r.args.getD 0 0) (c / 2)
theorem LL.atG {α : Type} {P : Hp → V → α → Prop} {K : PySem.W.Frag} {H : Hp} {t : Addr} {as : List Addr} {L : List (List α)} (h : LL P H t as L) (dflt : α) {j c : Nat} {l : List α} (e : L[j]? = some l) (hc : c < l.length) :
    ∃ (a : Addr) (ws : List V) (u : V), (as.map V.ref)[j]? = some (.ref a) ∧ SqL K H a ws ∧ ws[c]? = some u ∧ P H u (vof dflt L j c) := by
  obtain ⟨a, ws, e1, e2, e3, e4⟩ := h.get e
  obtain ⟨u, e5, e6⟩ := e4.at (vof_get (dflt := dflt) e hc)
  exact ⟨a, ws, u, e2, SqL.of e3, e5, e6⟩
theorem in_three (w x y z : Wd) : inV (.str w.str) [.str x.str, .str y.str, .str z.str] = (decide (w = x) || (decide (w = y) || decide (w = z))) := by
  have e : ∀ a b : Wd, eqV (.str a.str) (.str b.str) = decide (a = b) := by
    intro a b
    cases a <;> cases b <;> decide +kernel
  have c : ∀ a b : Wd, decide (a = b) = decide (b = a) := fun a b => decide_eq_decide.mpr ⟨Eq.symm, Eq.symm⟩
  unfold inV
  rw [List.any_cons, List.any_cons, List.any_cons, List.any_nil, Bool.or_false, e, e, e, c x w, c y w, c z w]
theorem wif3 {A B : Prop} (w x y z : Wd) (h1 : w = x ∨ w = y ∨ w = z → A) (h2 : w ≠ x → w ≠ y → w ≠ z → B) : if inV (.str w.str) [.str x.str, .str y.str, .str z.str] = true then A else B := by
  rw [in_three]
  by_cases h : w = x
  · rw [decide_eq_true h]
    exact iteT (h1 (.inl h))
  · by_cases h' : w = y
    · rw [decide_eq_true h', Bool.true_or, Bool.or_true]
      exact iteT (h1 (.inr (.inl h')))
    · by_cases h3 : w = z
      · rw [decide_eq_true h3, Bool.or_true, Bool.or_true]
        exact iteT (h1 (.inr (.inr h3)))
      · rw [decide_eq_false h, decide_eq_false h', decide_eq_false h3]
        exact iteF (h2 h h' h3)
theorem FormV.sameB {K : PySem.W.Frag} {H H' : Hp} {sl : Addr} {spans : List Span} {n : Nat} {v : V} {f : Form} (h : FormV K n H v f) (g : FrS K H sl spans) (e : SameB sl H H') : FormV K n H' v f := by
  obtain ⟨ws, g, _⟩ := g
  exact h.dk (dk_sameB e g)
section
variable {P : Program} {w : World} {K : PySem.W.Frag} {mg : Str → Option Value} {base : Heap}
def sp_form_of (K : PySem.W.Frag) : Sp := fun vs H Q _ => ∃ (vr : V) (r : Row) (t fo sl : Addr) (as : List Addr) (L : List (List Form)) (c fig fine B k : Nat) (spans : List Span), vs = [vr, .ref t, .int c, .ref fo, .int fig, .int fine] ∧ RowV K H vr r ∧ r.args.length = r.w.ar ∧
  LL (FormV K spans.length) H t as L ∧ IsF K H fo sl ∧ FrS K H sl spans ∧ SpB spans ∧ spans.length ≤ 800 ∧ B ≤ 1900 ∧ k ≤ 370000 ∧ (∀ (j : Nat) (l : List Form), L[j]? = some l → ∀ f ∈ l, FSz B k spans f) ∧ fig ≤ 90 ∧ fine ≤ 100 ∧ Sz 4 4 r.q ∧
  (r.w = .late → c = 0 ∨ ∃ l, L[r.args.getD 0 0]? = some l ∧ c - 1 < l.length) ∧ (r.w ≠ .spring → r.w ≠ .fixed → r.w ≠ .late → ∀ a ∈ r.args, ∃ l, L[a]? = some l ∧ placeR r.w c < l.length) ∧
  ∀ v H' o f, NStep fig fine spans (vof dF L) r c o f → SameB sl H H' → FrS K H' sl (spans ++ o.toList) → FormV K (spans ++ o.toList).length H' v f → Q v H'
/-! ### form_of -/
abbrev n_form_of : List Str := ["row", "told", "number", "forms", "figures", "fine", "word", "what", "args", "place", "some", "arg", "own"]
theorem sc_form_of : FnScope n_form_of ["row", "told", "number", "forms", "figures", "fine"] (defScope s_form_of) := ⟨rfl, rfl, rfl, by decide +kernel, rfl, by decide +kernel, by decide +kernel⟩
theorem c_form_of (T : TX K mg) : Cal P w K mg base "form_of" ["row", "told", "number", "forms", "figures", "fine"] [] 5 (sp_form_of K) := by
  refine cal_of T.g_form_of T.f_form_of (fun _ _ _ _ _ _ us hl => match us, hl with | [_, _, _, _, _, _], _ => rfl) fun fd F => okN F sc_form_of (fun vs H Q E h => ?_) (fun cdv A outer s H vs Q E hr h => ?_)
  · obtain ⟨vr, r, t, fo, sl, as, L, c, fig, fine, B, k, spans, rfl, hR, har, hL, hF, hS, hsp, h800, hB, hk, hz, hfig, hfine, hq, hlate, hav, q⟩ := h
    rfl
  · obtain ⟨vr, r, t, fo, sl, as, L, c, fig, fine, B, k, spans, rfl, hR, har, hL, hF, hS, hsp, h800, hB, hk, hz, hfig, hfine, hq, hlate, hav, q⟩ := h
    refine ⟨_, 
      (pss_cons
        (ps_asg (pe_slice sl_tup (pv 0) po_none (po_some pe_int)) (pg_tup (by rfl) (pgs_cons (pg_name (i := 6) sc_form_of.nd rfl (by first | exact Or.inl rfl | exact Or.inr rfl)) (pgs_cons (pg_name (i := 7) sc_form_of.nd rfl (by first | exact Or.inl rfl | exact Or.inr rfl)) (pgs_cons (pg_name (i := 8) sc_form_of.nd rfl (by first | exact Or.inl rfl | exact Or.inr rfl)) pgs_nil)))))
      (pss_cons
        (ps_if (pt_cmpR op_eq (pv 6) pe_str (nomark _))
          (pss_one
            (ps_ret (pe_methC (m_Forms_cut T) T.cl T.m_cut (hr.mono (by decide)) (pv 3) (pa_cons (pe_cal (c_cut_span T) (hr.mono (by decide)) (pa_cons (pv 4) (pa_cons (pv 5) pa_nil))) pa_nil))))
          pss_nil)
      (pss_cons
        (ps_if (PW.pt (pw_or (pt_cmpR op_eq (pv 6) pe_str (nomark _)) (pw_or1 (PW.pt (pw_and (pt_cmpR op_eq (pv 6) pe_str (nomark _)) (pw_and1 (pt_cmpR op_eq (pv 2) pe_int (nomark _))))))))
          (pss_one
            (ps_ret (pe_cal (c_fixed_form T) (hr.mono (by decide)) (pa_cons (pv 7) (pa_cons (pv 4) pa_nil)))))
          pss_nil)
      (pss_cons
        (ps_set (i := 9) sc_form_of.nd rfl (by first | exact Or.inl rfl | exact Or.inr rfl) (pe_ifExp (pt_cmpR op_eq (pv 6) pe_str (nomark _)) (pe_op op_sub (pv 2) pe_int) (pe_cal (c_place_told T) (hr.mono (by decide)) (pa_cons (pv 0) (pa_cons (pv 2) pa_nil)))))
      (pss_cons
        (ps_setLc (i := 10) (own := [("arg", 11)]) rfl sc_form_of.nd rfl rfl (sw_true rfl rfl rfl (by decide +kernel)) (pi_tup (pv 8)) (blkOk_by (N := n_form_of) (sc := defScope s_form_of) (by decide +kernel)) (fun _ _ _ _ _ => pg_name (i := 11) sc_form_of.nd rfl (by first | exact Or.inl rfl | exact Or.inr rfl)) (fun _ _ _ _ _ => pts_nil) (fun _ _ _ _ _ => (pe_ix (ixL (K := K)) (pe_ix (ixL (K := K)) (pv 1) (pv 11) (fun _ _ => rfl)) (pv 9) (fun _ _ => rfl))))
      (pss_cons
        (ps_if (pt_cmpR op_eq (pv 6) pe_str (nomark _))
          (pss_cons
            (ps_set (i := 12) sc_form_of.nd rfl (by first | exact Or.inl rfl | exact Or.inr rfl) (pe_methC (m_Forms_cut T) T.cl T.m_cut (hr.mono (by decide)) (pv 3) (pa_cons (pe_cal (c_cut_span T) (hr.mono (by decide)) (pa_cons (pv 4) (pa_cons (pe_op op_add (pv 4) (pe_cal (c_figures_of T) (hr.mono (by decide)) (pa_cons (pv 7) pa_nil))) pa_nil))) pa_nil)))
          (pss_one
            (ps_ret (pe_cal (c_sum_form T) (hr.mono (by decide)) (pa_cons (pe_cal (c_times_form T) (hr.mono (by decide)) (pa_cons (pv 7) (pa_cons (pe_ix (ixL (K := K)) (pv 10) pe_int (fun _ _ => rfl)) pa_nil))) (pa_cons (pv 12) pa_nil))))))
          pss_nil)
      (pss_cons
        (ps_if (pt_cmpR (opIn (K := K)) (pv 6) (pe_tup (pa_cons pe_str (pa_cons pe_str pa_nil))) (by rfl))
          (pss_one
            (ps_ret (pe_cal (c_sum_form T) (hr.mono (by decide)) (pa_cons (pe_ix (ixL (K := K)) (pv 10) pe_int (fun _ _ => rfl)) (pa_cons (pe_ifExp (pt_cmpR op_eq (pv 6) pe_str (nomark _)) (pe_ix (ixL (K := K)) (pv 10) pe_int (fun _ _ => rfl)) (pe_cal (c_times_form T) (hr.mono (by decide)) (pa_cons (pe_tup (pa_cons (pe_un un_neg pe_int) (pa_cons pe_int pa_nil))) (pa_cons (pe_ix (ixL (K := K)) (pv 10) pe_int (fun _ _ => rfl)) pa_nil)))) pa_nil)))))
          pss_nil)
      (pss_cons
        (ps_if (pt_cmpR (opIn (K := K)) (pv 6) (pe_tup (pa_cons pe_str (pa_cons pe_str (pa_cons pe_str pa_nil)))) (by rfl))
          (pss_one
            (ps_ret (pe_methC (m_Forms_between T) T.cl T.m_between (hr.mono (by decide)) (pv 3) (pa_cons (pe_ix (ixL (K := K)) (pv 10) (pe_un un_neg pe_int) (fun _ _ => rfl)) (pa_cons (pe_ix (ixL (K := K)) (pv 10) (pe_un un_neg pe_int) (fun _ _ => rfl)) pa_nil)))))
          pss_nil)
      (pss_one
        (ps_ret (pe_ix (ixL (K := K)) (pv 10) pe_int (fun _ _ => rfl)))))))))))), ?_⟩
    obtain ⟨a, ta, u, rfl, h1, h2, h3⟩ := id hR
    obtain ⟨dx, hfo⟩ := id hF
    have fin0 : ∀ v H1 f, NStep fig fine spans (vof dF L) r c none f → Same H H1 → FormV K spans.length H1 v f → Q v H1 := fun v H1 f hn s hv => by
      refine q v H1 none f hn (Same.b s sl) ?_ ?_
      · rw [Option.toList_none, List.append_nil]
        exact hS.same s
      · rw [Option.toList_none, List.append_nil]
        exact hv
    -- word, what, args = row[:3]
    refine ⟨_, rfl, 3, rfl, a, _, rfl, h1, cut3_no, fun p hp => ?_⟩
    have s1 : Same H (upd H p (.tup (cutV [.str r.w.str, u, .ref ta, .int (r.per : Int)] none (some 3)))) := same_upd hp
    have ec : cutV [V.str r.w.str, u, .ref ta, .int (r.per : Int)] none (some 3) = [.str r.w.str, u, .ref ta] := by rfl
    rw [ec] at s1 ⊢
    refine ⟨p, _, rfl, SqT.of upd_same, rfl, _, _, rfl, _, _, rfl, _, _, rfl, rfl, ?_⟩
    generalize upd H p (.tup [.str r.w.str, u, .ref ta]) = H1 at s1
    have hF1 := hF.same s1
    have hS1 := hS.same s1
    have hfo1 := s1 _ _ hfo
    have what : ∀ x, r.w = x → (x = .fixed ∨ x = .by ∨ x = .late) → NumV K H u r.q := by
      intro x e hx
      unfold WhatV at h2
      rw [e] at h2
      rcases hx with rfl | rfl | rfl <;> exact h2
    refine ⟨_, rfl, rfl, _, rfl, wif r.w .spring (fun e => ?_) (fun e1 => ?_)⟩
    · refine ⟨_, rfl, fo, dx, _, rfl, hfo1, rfl, _, rfl, _, rfl, fig, fine, rfl, by omega, by omega, fun v2 H2 s2 n2 => ?_⟩
      refine ⟨fo, sl, v2, cutSpan fig fine, spans, rfl, hF1.same s2, hS1.same s2, hsp.len, n2, fun v3 H3 s3 g3 f3 => ?_⟩
      refine q v3 H3 _ _ ?_ ((Same.b (s1.trans s2) sl).trans s3) g3 f3
      unfold NStep
      rw [e]
      exact ⟨rfl, rfl⟩
    -- the fixed form
    have fixd : (r.w = .fixed ∨ (r.w = .late ∧ c = 0)) → (tRet (tCall (sp_fixed_form K) [] E0 (tCons (tVar 7) (tCons (tVar 4) tNil)))) { nx := fun _ H' => Q .non H', rt := Q } [some (.ref a), some (.ref t), some (.int c), some (.ref fo), some (.int fig), some (.int fine), some (.str r.w.str), some u, some (.ref ta), none, none, none, none] H1 := by
      intro hcase
      have hn : NumV K H u r.q := by
        rcases hcase with e | ⟨e, _⟩
        · exact what _ e (.inl rfl)
        · exact what _ e (.inr (.inr rfl))
      refine ⟨_, rfl, _, rfl, u, r.q, fig, rfl, hn.same s1, by omega, hq.mono (by decide) (by decide), fun v2 H2 s2 n2 => ?_⟩
      refine fin0 v2 H2 _ ?_ (s1.trans s2) (n2.mono (Nat.zero_le _))
      unfold NStep
      rcases hcase with e | ⟨e, e0⟩
      · rw [e]
        exact ⟨rfl, rfl⟩
      · rw [e, e0]
        exact ⟨rfl, rfl⟩
    refine ⟨_, rfl, rfl, _, rfl, wif r.w .fixed (fun e => fixd (.inl e)) (fun e2 => ?_)⟩
    by_cases hfx : r.w = .late ∧ c = 0
    · refine ⟨_, rfl, rfl, _, rfl, wif r.w .late (fun e3 => ⟨_, rfl, rfl, _, rfl, ?_⟩) (fun e3 => absurd hfx.1 e3)⟩
      have ed : decide (V.int (c : Int) = V.int 0) = true := decide_eq_true (by rw [hfx.2]; rfl)
      rw [ed]
      exact iteT (fixd (.inr hfx))
    have pl : ∃ place : Nat, (r.w = .late ∧ c ≠ 0 ∧ place = c - 1 ∨ r.w ≠ .late ∧ place = placeR r.w c) ∧ ∀ a ∈ r.args, ∃ l, L[a]? = some l ∧ place < l.length := by
      by_cases hl : r.w = .late
      · have hc : c ≠ 0 := fun z => hfx ⟨hl, z⟩
        refine ⟨c - 1, .inl ⟨hl, hc, rfl⟩, fun b hb => ?_⟩
        obtain ⟨x0, hx0⟩ := len1 (l := r.args) (by rw [har, hl]; rfl)
        rw [hx0, List.mem_singleton] at hb
        have q2 := (hlate hl).resolve_left hc
        rw [hx0] at q2
        rw [hb]
        exact q2
      · exact ⟨_, .inr ⟨hl, rfl⟩, hav e1 e2 hl⟩
    obtain ⟨place, hcase, hpl⟩ := pl
    refine ⟨_, rfl, rfl, _, rfl, wif r.w .late (fun e3 => ⟨_, rfl, rfl, _, rfl, ?_⟩) (fun e3 => ?_)⟩
    · have hc : c ≠ 0 := fun z => hfx ⟨e3, z⟩
      rw [dec_int (show (c : Int) ≠ 0 by omega)]
      refine iteF ⟨_, rfl, rfl, _, rfl, wif r.w .late (fun _ => ⟨_, rfl, _, _, rfl, rfl, ?_⟩) (fun e => absurd e3 e)⟩
      have ep : (c : Int) - 1 = (place : Int) := by
        rcases hcase with ⟨_, _, e⟩ | ⟨e, _⟩
        · omega
        · exact absurd e3 e
      dsimp only
      rw [ep]
      refine ⟨_, rfl, ta, rfl, ⟨_, SqT.same h3 s1⟩, fun D hD => ?_⟩
      refine lc_tup (K := K) (a := ta) (xs := r.args.map fun (n : Nat) => V.int (n : Int)) (fun i H' => Same H1 H' ∧ ∃ ws, H' D = some (.lst ws) ∧ All2 (FormV K spans.length H') ws ((r.args.take i).map fun a => vof dF L a place))
        ⟨same_upd hD, [], upd_same, by rw [List.take_zero]; exact .nil⟩ (fun i H' _ z => SqT.same h3 (s1.trans z.1)) ?_ ?_
      · rintro i x H' hx ⟨z1, ws, z2, z3⟩
        refine ⟨rfl, ?_⟩
        have hi : i < r.args.length := by
          have q1 := (List.getElem?_eq_some_iff.mp hx).1
          rwa [List.length_map] at q1
        have ex : x = .int ((r.args[i] : Nat) : Int) := by
          rw [List.getElem?_map, List.getElem?_eq_getElem hi] at hx
          exact (Option.some.inj hx).symm
        subst ex
        obtain ⟨l, g1, g2⟩ := hpl r.args[i] (List.getElem_mem hi)
        obtain ⟨b, bs, y, k1, k2, k3, k4⟩ := hL.atG dF g1 g2
        have zz := s1.trans z1
        refine ⟨_, rfl, _, rfl, t, _, (r.args[i] : Nat), _, rfl, rfl, zz.seq (SqL.of hL.top), atI_nat k1, _, rfl, b, _, (place : Nat), y, rfl, rfl, zz.seq k2, atI_nat k3, ws, z2, ?_, ?_⟩
        · rw [z3.len, List.length_map, List.length_take]
          have q1 : r.args.length ≤ 3 := by
            rw [har]
            cases r.w <;> decide
          exact small1000 (by omega)
        · have dk : DK K H' (upd H' D (.lst (ws ++ [y]))) := dk_lst z2
          refine ⟨same_upd_new z1 hD, ws ++ [y], upd_same, ?_⟩
          rw [List.take_add_one, List.getElem?_eq_getElem hi, Option.toList_some, List.map_append]
          exact (z3.imp fun _ _ r => r.dk dk).snoc ((k4.same zz).dk dk)
      · rintro H2 ⟨z1, ws, z2, z3⟩
        rw [List.length_map, List.take_length] at z3
        have s2 := s1.trans z1
        have hfo2 := s2 _ _ hfo
        have hF2 := hF.same s2
        have hS2 := hS.same s2
        have hDs : D ≠ sl := by
          rintro rfl
          obtain ⟨_, g, _⟩ := hS1
          rw [hD] at g
          cases g
        have fsz : ∀ f ∈ (r.args.map fun a => vof dF L a place), FSz B k spans f := by
          intro f hf
          obtain ⟨b, hb, rfl⟩ := List.mem_map.mp hf
          obtain ⟨l, g1, g2⟩ := hpl b hb
          exact hz b l g1 _ (List.mem_of_getElem? (vof_get (dflt := dF) g1 g2))
        have fbd : ∀ f, FSz B k spans f → Bd f.c ∧ ∀ i, Bd (f.co i) := fun f h => ⟨h.c.bd (by omega) (by omega), fun i => (h.co i).bd (by omega) (by omega)⟩
        have bq : Bd r.q := hq.bd (by decide) (by decide)
        refine ⟨_, rfl, rfl, _, rfl, wif r.w .by (fun e4 => ?_) (fun e4 => ?_)⟩
        · have hn := (what _ e4 (.inr (.inl rfl))).same s2
          obtain ⟨x0, hx0⟩ := len1 (l := r.args) (by rw [har, e4]; rfl)
          have hplc : place = c := by
            rcases hcase with ⟨e, _⟩ | ⟨_, e⟩
            · rw [e4] at e
              cases e
            · rw [e, e4]
              rfl
          rw [hx0] at z3 fsz
          obtain ⟨v0, rfl, f0⟩ := z3.inv1
          have z0 := fsz _ (List.mem_singleton.mpr rfl)
          obtain ⟨kq, hkq⟩ := dvd_pow_two _ _ hq.1
          have ef := figsN_eq hkq.2
          refine ⟨_, rfl, fo, dx, _, rfl, hfo2, rfl, _, rfl, _, rfl, _, rfl, u, r.q, kq, rfl, hn, hkq.2, _, _, rfl, rfl, fig, fig + kq, rfl, by omega, by omega, fun v3 H3 s3 n3 => ?_⟩
          refine ⟨fo, sl, v3, cutSpan fig (fig + kq), spans, rfl, hF2.same s3, hS2.same s3, by omega, n3, fun v4 H4 s4 g4 f4 => ?_⟩
          have sB : SameB sl H2 H4 := (Same.b s3 sl).trans s4
          have hD4 : H4 D = some (.lst [v0]) := sB _ _ hDs z2
          have hn4 : NumV K H4 u r.q := by
            obtain ⟨ws', g, _⟩ := hS2
            exact hn.dk (dk_sameB sB g)
          have hlen : (spans ++ (cutSpan fig (fig + kq)).toList).length ≤ 900 := by
            rw [List.length_append]
            cases cutSpan fig (fig + kq) <;> simp <;> omega
          have f0' := (f0.sameB hS2 sB).mono (show spans.length ≤ (spans ++ (cutSpan fig (fig + kq)).toList).length by rw [List.length_append]; omega)
          refine ⟨_, rfl, _, rfl, D, _, 0, _, rfl, rfl, SqL.of hD4, at0, u, v0, r.q, _, _, rfl, hn4, f0', hlen, bq, (fbd _ z0).1, (fbd _ z0).2, fun v5 H5 s5 f5 => ?_⟩
          have zt := z0.times hq
          have cb : Bd (cutF spans.length (cutSpan fig (fig + kq))).c ∧ ∀ i, Bd ((cutF spans.length (cutSpan fig (fig + kq))).co i) := by
            cases cutSpan fig (fig + kq) with
            | none => exact ⟨Bd.zero, fun _ => Bd.zero⟩
            | some s =>
              refine ⟨Bd.zero, fun i => ?_⟩
              show Bd (if i = spans.length then 1 else 0)
              split
              · exact Bd.one
              · exact Bd.zero
          refine ⟨_, rfl, v5, v4, _, _, _, rfl, f5, f4.same s5, hlen, zt.c.bd (by omega) (by omega), cb.1, fun i => (zt.co i).bd (by omega) (by omega), cb.2, fun v6 H6 s6 f6 => ?_⟩
          refine q v6 H6 (cutSpan fig (fig + kq)) _ ?_ (((Same.b s2 sl).trans sB).trans (Same.b (s5.trans s6) sl)) (g4.same (s5.trans s6)) f6
          unfold NStep
          rw [e4, hx0, ef, hplc]
          exact ⟨rfl, rfl⟩
        · refine ⟨_, rfl, by show 2 ≤ sizeLine; decide, fun t2 ht2 => ?_⟩
          have s3 := same_upd (o := .tup [.str "sum", .str "less"]) ht2
          refine ⟨t2, _, rfl, .inr (SqT.of upd_same), rfl, rfl, _, rfl, wif2 r.w .sum .less (fun e5 => ?_) (fun e5 e6 => ?_)⟩
          · generalize upd H2 t2 (.tup [.str "sum", .str "less"]) = H3 at s3 ⊢
            obtain ⟨x0, x1, hx0⟩ := len2 (l := r.args) (by rw [har]; rcases e5 with e | e <;> rw [e] <;> rfl)
            have hplc : place = c := by
              rcases hcase with ⟨e, _⟩ | ⟨_, e⟩
              · rcases e5 with e' | e' <;> rw [e'] at e <;> cases e
              · rw [e]
                rcases e5 with e' | e' <;> rw [e'] <;> rfl
            rw [hx0] at z3 fsz
            obtain ⟨v0, v1, rfl, f0, f1⟩ := z3.inv2
            have b0 := fsz _ List.mem_cons_self
            have b1 := fsz _ (List.mem_cons_of_mem _ List.mem_cons_self)
            have hD3 := s3 _ _ z2
            refine ⟨_, rfl, D, _, 0, _, rfl, rfl, SqL.of hD3, at0, _, rfl, rfl, _, rfl, wif r.w .sum (fun e => ?_) (fun e => ?_)⟩
            · refine ⟨_, rfl, D, _, 1, _, rfl, rfl, SqL.of hD3, at1, v0, v1, _, _, _, rfl, f0.same s3, f1.same s3, by omega, (fbd _ b0).1, (fbd _ b1).1, (fbd _ b0).2, (fbd _ b1).2, fun v6 H6 s6 f6 => ?_⟩
              refine fin0 v6 H6 _ ?_ (s2.trans (s3.trans s6)) f6
              unfold NStep
              rw [e, hx0, hplc]
              exact ⟨rfl, rfl⟩
            · have el := e5.resolve_left e
              refine ⟨_, rfl, by show 2 ≤ sizeLine; decide, fun p2 hp2 => ?_⟩
              have s4 := same_upd (o := .tup [.int (-1), .int 1]) hp2
              have nm : NumV K (upd H3 p2 (.tup [.int (-1), .int 1])) (.ref p2) (-1) := ⟨p2, rfl, SqT.of upd_same⟩
              refine ⟨_, rfl, D, _, 1, _, rfl, rfl, SqL.of (s4 _ _ hD3), at1, .ref p2, v1, -1, _, _, rfl, nm, (f1.same s3).same s4, by omega, (Bd.one).neg, (fbd _ b1).1, (fbd _ b1).2, fun v5 H5 s5 f5 => ?_⟩
              have zt := b1.times (q := -1) (b := 0) (j := 0) (Sz.one 0 0).neg
              refine ⟨v0, v5, _, _, _, rfl, ((f0.same s3).same s4).same s5, f5, by omega, (fbd _ b0).1, zt.c.bd (by omega) (by omega), (fbd _ b0).2, fun i => (zt.co i).bd (by omega) (by omega), fun v6 H6 s6 f6 => ?_⟩
              refine fin0 v6 H6 _ ?_ (s2.trans ((s3.trans s4).trans (s5.trans s6))) f6
              unfold NStep
              rw [el, hx0, hplc]
              exact ⟨rfl, rfl⟩
          · refine ⟨_, rfl, by show 3 ≤ sizeLine; decide, fun t3 ht3 => ?_⟩
            have s4 := same_upd (o := .tup [.str "most", .str "least", .str "pick"]) ht3
            refine ⟨t3, _, rfl, .inr (SqT.of upd_same), rfl, rfl, _, rfl, wif3 r.w .most .least .pick (fun e7 => ?_) (fun e7 e8 e9 => ?_)⟩
            · have s5 := s3.trans s4
              generalize upd (upd H2 t2 (.tup [.str "sum", .str "less"])) t3 (.tup [.str "most", .str "least", .str "pick"]) = H3 at s5 ⊢
              have hplc : place = c := by
                rcases hcase with ⟨e, _⟩ | ⟨_, e⟩
                · rcases e7 with e' | e' | e' <;> rw [e'] at e <;> cases e
                · rw [e]
                  rcases e7 with e' | e' | e' <;> rw [e'] <;> rfl
              have hD3 := s5 _ _ z2
              -- the two
              have two : ∃ (v0 v1 : V) (f0 f1 : Form), atI ws (-2) = some v0 ∧ atI ws (-1) = some v1 ∧ FormV K spans.length H2 v0 f0 ∧ FormV K spans.length H2 v1 f1 ∧ FSz B k spans f0 ∧ FSz B k spans f1 ∧ (∀ o h, Bet spans f0 f1 o h → NStep fig fine spans (vof dF L) r c o h) := by
                by_cases hpk : r.w = .pick
                · obtain ⟨x0, x1, x2, hx0⟩ := len3 (l := r.args) (by rw [har, hpk]; rfl)
                  rw [hx0] at z3 fsz
                  obtain ⟨v0, v1, v2, rfl, f0, f1, f2⟩ := z3.inv3
                  refine ⟨v1, v2, _, _, by rfl, by rfl, f1, f2, fsz _ (List.mem_cons_of_mem _ List.mem_cons_self), fsz _ (List.mem_cons_of_mem _ (List.mem_cons_of_mem _ List.mem_cons_self)), fun o h hb => ?_⟩
                  unfold NStep
                  rw [hpk, hx0, ← hplc]
                  exact hb
                · have e7' : r.w = .most ∨ r.w = .least := by
                    rcases e7 with e' | e' | e'
                    · exact .inl e'
                    · exact .inr e'
                    · exact absurd e' hpk
                  obtain ⟨x0, x1, hx0⟩ := len2 (l := r.args) (by rw [har]; rcases e7' with e | e <;> rw [e] <;> rfl)
                  rw [hx0] at z3 fsz
                  obtain ⟨v0, v1, rfl, f0, f1⟩ := z3.inv2
                  refine ⟨v0, v1, _, _, by rfl, by rfl, f0, f1, fsz _ List.mem_cons_self, fsz _ (List.mem_cons_of_mem _ List.mem_cons_self), fun o h hb => ?_⟩
                  unfold NStep
                  rcases e7' with e | e <;> rw [e, hx0, ← hplc] <;> exact hb
              obtain ⟨v0, v1, f0, f1, i0, i1, w0, w1, b0, b1, hst⟩ := two
              refine ⟨_, rfl, fo, dx, _, rfl, s5 _ _ hfo2, rfl, _, rfl, _, rfl, D, _, -2, v0, rfl, rfl, SqL.of hD3, i0, _, rfl, _, rfl, D, _, -1, v1, rfl, rfl, SqL.of hD3, i1, ?_⟩
              refine ⟨fo, sl, v0, v1, f0, f1, spans, B, k, rfl, hF2.same s5, hS2.same s5, w0.same s5, w1.same s5, hsp, b0, b1, by omega, by omega, fun ee => ?_, fun v6 H6 s6 g6 f6 => ?_⟩
              · exact fin0 v0 H3 _ (hst _ _ (.inl ⟨rfl, ee, rfl⟩)) (s2.trans s5) (w0.same s5)
              · exact q v6 H6 (some (betS spans f0 f1)) _ (hst _ _ (.inr ⟨rfl, rfl⟩)) ((Same.b (s2.trans s5) sl).trans s6) g6 f6
            · have s5 := s3.trans s4
              have hD3 := s5 _ _ z2
              have h1a : r.args.length = 1 ∧ NStep fig fine spans (vof dF L) r c none (vof dF L (r.args.getD 0 0) place) := by
                unfold NStep
                revert har e1 e2 hcase e4 e5 e6 e7 e8 e9
                cases r.w <;> intro har e1 e2 hcase e4 e5 e6 e7 e8 e9 <;> first | contradiction | skip
                all_goals refine ⟨har, ?_⟩
                · rcases hcase with ⟨_, e, e'⟩ | ⟨e, _⟩
                  · rw [e']
                    show if c = 0 then _ else _
                    rw [if_neg e]
                    exact ⟨rfl, rfl⟩
                  · exact absurd rfl e
                · rcases hcase with ⟨e, _⟩ | ⟨_, e⟩
                  · cases e
                  · rw [e]
                    exact ⟨rfl, rfl⟩
                · rcases hcase with ⟨e, _⟩ | ⟨_, e⟩
                  · cases e
                  · rw [e]
                    exact ⟨rfl, rfl⟩
              obtain ⟨h1a, hst⟩ := h1a
              obtain ⟨x0, hx0⟩ := len1 h1a
              rw [hx0] at z3 hst
              obtain ⟨v0, rfl, f0⟩ := z3.inv1
              exact ⟨_, rfl, D, _, 0, _, rfl, rfl, SqL.of hD3, at0, fin0 v0 _ _ hst (s2.trans s5) (f0.same s5)⟩
    · refine ⟨_, rfl, rfl, _, rfl, wif r.w .late (fun e => absurd e e3) (fun _ => ⟨_, rfl, _, rfl, .ref a, r, c, rfl, hR.tk (tk_same s1), e3, ?_⟩)⟩
      have ep : placeR r.w c = place := by
        rcases hcase with ⟨e, _⟩ | ⟨_, e⟩
        · exact absurd e e3
        · exact e.symm
      rw [ep]
      refine ⟨_, rfl, ta, rfl, ⟨_, SqT.same h3 s1⟩, fun D hD => ?_⟩
      refine lc_tup (K := K) (a := ta) (xs := r.args.map fun (n : Nat) => V.int (n : Int)) (fun i H' => Same H1 H' ∧ ∃ ws, H' D = some (.lst ws) ∧ All2 (FormV K spans.length H') ws ((r.args.take i).map fun a => vof dF L a place))
        ⟨same_upd hD, [], upd_same, by rw [List.take_zero]; exact .nil⟩ (fun i H' _ z => SqT.same h3 (s1.trans z.1)) ?_ ?_
      · rintro i x H' hx ⟨z1, ws, z2, z3⟩
        refine ⟨rfl, ?_⟩
        have hi : i < r.args.length := by
          have q1 := (List.getElem?_eq_some_iff.mp hx).1
          rwa [List.length_map] at q1
        have ex : x = .int ((r.args[i] : Nat) : Int) := by
          rw [List.getElem?_map, List.getElem?_eq_getElem hi] at hx
          exact (Option.some.inj hx).symm
        subst ex
        obtain ⟨l, g1, g2⟩ := hpl r.args[i] (List.getElem_mem hi)
        obtain ⟨b, bs, y, k1, k2, k3, k4⟩ := hL.atG dF g1 g2
        have zz := s1.trans z1
        refine ⟨_, rfl, _, rfl, t, _, (r.args[i] : Nat), _, rfl, rfl, zz.seq (SqL.of hL.top), atI_nat k1, _, rfl, b, _, (place : Nat), y, rfl, rfl, zz.seq k2, atI_nat k3, ws, z2, ?_, ?_⟩
        · rw [z3.len, List.length_map, List.length_take]
          have q1 : r.args.length ≤ 3 := by
            rw [har]
            cases r.w <;> decide
          exact small1000 (by omega)
        · have dk : DK K H' (upd H' D (.lst (ws ++ [y]))) := dk_lst z2
          refine ⟨same_upd_new z1 hD, ws ++ [y], upd_same, ?_⟩
          rw [List.take_add_one, List.getElem?_eq_getElem hi, Option.toList_some, List.map_append]
          exact (z3.imp fun _ _ r => r.dk dk).snoc ((k4.same zz).dk dk)
      · rintro H2 ⟨z1, ws, z2, z3⟩
        rw [List.length_map, List.take_length] at z3
        have s2 := s1.trans z1
        have hfo2 := s2 _ _ hfo
        have hF2 := hF.same s2
        have hS2 := hS.same s2
        have hDs : D ≠ sl := by
          rintro rfl
          obtain ⟨_, g, _⟩ := hS1
          rw [hD] at g
          cases g
        have fsz : ∀ f ∈ (r.args.map fun a => vof dF L a place), FSz B k spans f := by
          intro f hf
          obtain ⟨b, hb, rfl⟩ := List.mem_map.mp hf
          obtain ⟨l, g1, g2⟩ := hpl b hb
          exact hz b l g1 _ (List.mem_of_getElem? (vof_get (dflt := dF) g1 g2))
        have fbd : ∀ f, FSz B k spans f → Bd f.c ∧ ∀ i, Bd (f.co i) := fun f h => ⟨h.c.bd (by omega) (by omega), fun i => (h.co i).bd (by omega) (by omega)⟩
        have bq : Bd r.q := hq.bd (by decide) (by decide)
        refine ⟨_, rfl, rfl, _, rfl, wif r.w .by (fun e4 => ?_) (fun e4 => ?_)⟩
        · have hn := (what _ e4 (.inr (.inl rfl))).same s2
          obtain ⟨x0, hx0⟩ := len1 (l := r.args) (by rw [har, e4]; rfl)
          have hplc : place = c := by
            rcases hcase with ⟨e, _⟩ | ⟨_, e⟩
            · rw [e4] at e
              cases e
            · rw [e, e4]
              rfl
          rw [hx0] at z3 fsz
          obtain ⟨v0, rfl, f0⟩ := z3.inv1
          have z0 := fsz _ (List.mem_singleton.mpr rfl)
          obtain ⟨kq, hkq⟩ := dvd_pow_two _ _ hq.1
          have ef := figsN_eq hkq.2
          refine ⟨_, rfl, fo, dx, _, rfl, hfo2, rfl, _, rfl, _, rfl, _, rfl, u, r.q, kq, rfl, hn, hkq.2, _, _, rfl, rfl, fig, fig + kq, rfl, by omega, by omega, fun v3 H3 s3 n3 => ?_⟩
          refine ⟨fo, sl, v3, cutSpan fig (fig + kq), spans, rfl, hF2.same s3, hS2.same s3, by omega, n3, fun v4 H4 s4 g4 f4 => ?_⟩
          have sB : SameB sl H2 H4 := (Same.b s3 sl).trans s4
          have hD4 : H4 D = some (.lst [v0]) := sB _ _ hDs z2
          have hn4 : NumV K H4 u r.q := by
            obtain ⟨ws', g, _⟩ := hS2
            exact hn.dk (dk_sameB sB g)
          have hlen : (spans ++ (cutSpan fig (fig + kq)).toList).length ≤ 900 := by
            rw [List.length_append]
            cases cutSpan fig (fig + kq) <;> simp <;> omega
          have f0' := (f0.sameB hS2 sB).mono (show spans.length ≤ (spans ++ (cutSpan fig (fig + kq)).toList).length by rw [List.length_append]; omega)
          refine ⟨_, rfl, _, rfl, D, _, 0, _, rfl, rfl, SqL.of hD4, at0, u, v0, r.q, _, _, rfl, hn4, f0', hlen, bq, (fbd _ z0).1, (fbd _ z0).2, fun v5 H5 s5 f5 => ?_⟩
          have zt := z0.times hq
          have cb : Bd (cutF spans.length (cutSpan fig (fig + kq))).c ∧ ∀ i, Bd ((cutF spans.length (cutSpan fig (fig + kq))).co i) := by
            cases cutSpan fig (fig + kq) with
            | none => exact ⟨Bd.zero, fun _ => Bd.zero⟩
            | some s =>
              refine ⟨Bd.zero, fun i => ?_⟩
              show Bd (if i = spans.length then 1 else 0)
              split
              · exact Bd.one
              · exact Bd.zero
          refine ⟨_, rfl, v5, v4, _, _, _, rfl, f5, f4.same s5, hlen, zt.c.bd (by omega) (by omega), cb.1, fun i => (zt.co i).bd (by omega) (by omega), cb.2, fun v6 H6 s6 f6 => ?_⟩
          refine q v6 H6 (cutSpan fig (fig + kq)) _ ?_ (((Same.b s2 sl).trans sB).trans (Same.b (s5.trans s6) sl)) (g4.same (s5.trans s6)) f6
          unfold NStep
          rw [e4, hx0, ef, hplc]
          exact ⟨rfl, rfl⟩
        · refine ⟨_, rfl, by show 2 ≤ sizeLine; decide, fun t2 ht2 => ?_⟩
          have s3 := same_upd (o := .tup [.str "sum", .str "less"]) ht2
          refine ⟨t2, _, rfl, .inr (SqT.of upd_same), rfl, rfl, _, rfl, wif2 r.w .sum .less (fun e5 => ?_) (fun e5 e6 => ?_)⟩
          · generalize upd H2 t2 (.tup [.str "sum", .str "less"]) = H3 at s3 ⊢
            obtain ⟨x0, x1, hx0⟩ := len2 (l := r.args) (by rw [har]; rcases e5 with e | e <;> rw [e] <;> rfl)
            have hplc : place = c := by
              rcases hcase with ⟨e, _⟩ | ⟨_, e⟩
              · rcases e5 with e' | e' <;> rw [e'] at e <;> cases e
              · rw [e]
                rcases e5 with e' | e' <;> rw [e'] <;> rfl
            rw [hx0] at z3 fsz
            obtain ⟨v0, v1, rfl, f0, f1⟩ := z3.inv2
            have b0 := fsz _ List.mem_cons_self
            have b1 := fsz _ (List.mem_cons_of_mem _ List.mem_cons_self)
            have hD3 := s3 _ _ z2
            refine ⟨_, rfl, D, _, 0, _, rfl, rfl, SqL.of hD3, at0, _, rfl, rfl, _, rfl, wif r.w .sum (fun e => ?_) (fun e => ?_)⟩
            · refine ⟨_, rfl, D, _, 1, _, rfl, rfl, SqL.of hD3, at1, v0, v1, _, _, _, rfl, f0.same s3, f1.same s3, by omega, (fbd _ b0).1, (fbd _ b1).1, (fbd _ b0).2, (fbd _ b1).2, fun v6 H6 s6 f6 => ?_⟩
              refine fin0 v6 H6 _ ?_ (s2.trans (s3.trans s6)) f6
              unfold NStep
              rw [e, hx0, hplc]
              exact ⟨rfl, rfl⟩
            · have el := e5.resolve_left e
              refine ⟨_, rfl, by show 2 ≤ sizeLine; decide, fun p2 hp2 => ?_⟩
              have s4 := same_upd (o := .tup [.int (-1), .int 1]) hp2
              have nm : NumV K (upd H3 p2 (.tup [.int (-1), .int 1])) (.ref p2) (-1) := ⟨p2, rfl, SqT.of upd_same⟩
              refine ⟨_, rfl, D, _, 1, _, rfl, rfl, SqL.of (s4 _ _ hD3), at1, .ref p2, v1, -1, _, _, rfl, nm, (f1.same s3).same s4, by omega, (Bd.one).neg, (fbd _ b1).1, (fbd _ b1).2, fun v5 H5 s5 f5 => ?_⟩
              have zt := b1.times (q := -1) (b := 0) (j := 0) (Sz.one 0 0).neg
              refine ⟨v0, v5, _, _, _, rfl, ((f0.same s3).same s4).same s5, f5, by omega, (fbd _ b0).1, zt.c.bd (by omega) (by omega), (fbd _ b0).2, fun i => (zt.co i).bd (by omega) (by omega), fun v6 H6 s6 f6 => ?_⟩
              refine fin0 v6 H6 _ ?_ (s2.trans ((s3.trans s4).trans (s5.trans s6))) f6
              unfold NStep
              rw [el, hx0, hplc]
              exact ⟨rfl, rfl⟩
          · refine ⟨_, rfl, by show 3 ≤ sizeLine; decide, fun t3 ht3 => ?_⟩
            have s4 := same_upd (o := .tup [.str "most", .str "least", .str "pick"]) ht3
            refine ⟨t3, _, rfl, .inr (SqT.of upd_same), rfl, rfl, _, rfl, wif3 r.w .most .least .pick (fun e7 => ?_) (fun e7 e8 e9 => ?_)⟩
            · have s5 := s3.trans s4
              generalize upd (upd H2 t2 (.tup [.str "sum", .str "less"])) t3 (.tup [.str "most", .str "least", .str "pick"]) = H3 at s5 ⊢
              have hplc : place = c := by
                rcases hcase with ⟨e, _⟩ | ⟨_, e⟩
                · rcases e7 with e' | e' | e' <;> rw [e'] at e <;> cases e
                · rw [e]
                  rcases e7 with e' | e' | e' <;> rw [e'] <;> rfl
              have hD3 := s5 _ _ z2
              -- the two
              have two : ∃ (v0 v1 : V) (f0 f1 : Form), atI ws (-2) = some v0 ∧ atI ws (-1) = some v1 ∧ FormV K spans.length H2 v0 f0 ∧ FormV K spans.length H2 v1 f1 ∧ FSz B k spans f0 ∧ FSz B k spans f1 ∧ (∀ o h, Bet spans f0 f1 o h → NStep fig fine spans (vof dF L) r c o h) := by
                by_cases hpk : r.w = .pick
                · obtain ⟨x0, x1, x2, hx0⟩ := len3 (l := r.args) (by rw [har, hpk]; rfl)
                  rw [hx0] at z3 fsz
                  obtain ⟨v0, v1, v2, rfl, f0, f1, f2⟩ := z3.inv3
                  refine ⟨v1, v2, _, _, by rfl, by rfl, f1, f2, fsz _ (List.mem_cons_of_mem _ List.mem_cons_self), fsz _ (List.mem_cons_of_mem _ (List.mem_cons_of_mem _ List.mem_cons_self)), fun o h hb => ?_⟩
                  unfold NStep
                  rw [hpk, hx0, ← hplc]
                  exact hb
                · have e7' : r.w = .most ∨ r.w = .least := by
                    rcases e7 with e' | e' | e'
                    · exact .inl e'
                    · exact .inr e'
                    · exact absurd e' hpk
                  obtain ⟨x0, x1, hx0⟩ := len2 (l := r.args) (by rw [har]; rcases e7' with e | e <;> rw [e] <;> rfl)
                  rw [hx0] at z3 fsz
                  obtain ⟨v0, v1, rfl, f0, f1⟩ := z3.inv2
                  refine ⟨v0, v1, _, _, by rfl, by rfl, f0, f1, fsz _ List.mem_cons_self, fsz _ (List.mem_cons_of_mem _ List.mem_cons_self), fun o h hb => ?_⟩
                  unfold NStep
                  rcases e7' with e | e <;> rw [e, hx0, ← hplc] <;> exact hb
              obtain ⟨v0, v1, f0, f1, i0, i1, w0, w1, b0, b1, hst⟩ := two
              refine ⟨_, rfl, fo, dx, _, rfl, s5 _ _ hfo2, rfl, _, rfl, _, rfl, D, _, -2, v0, rfl, rfl, SqL.of hD3, i0, _, rfl, _, rfl, D, _, -1, v1, rfl, rfl, SqL.of hD3, i1, ?_⟩
              refine ⟨fo, sl, v0, v1, f0, f1, spans, B, k, rfl, hF2.same s5, hS2.same s5, w0.same s5, w1.same s5, hsp, b0, b1, by omega, by omega, fun ee => ?_, fun v6 H6 s6 g6 f6 => ?_⟩
              · exact fin0 v0 H3 _ (hst _ _ (.inl ⟨rfl, ee, rfl⟩)) (s2.trans s5) (w0.same s5)
              · exact q v6 H6 (some (betS spans f0 f1)) _ (hst _ _ (.inr ⟨rfl, rfl⟩)) ((Same.b (s2.trans s5) sl).trans s6) g6 f6
            · have s5 := s3.trans s4
              have hD3 := s5 _ _ z2
              have h1a : r.args.length = 1 ∧ NStep fig fine spans (vof dF L) r c none (vof dF L (r.args.getD 0 0) place) := by
                unfold NStep
                revert har e1 e2 hcase e4 e5 e6 e7 e8 e9
                cases r.w <;> intro har e1 e2 hcase e4 e5 e6 e7 e8 e9 <;> first | contradiction | skip
                all_goals refine ⟨har, ?_⟩
                · rcases hcase with ⟨_, e, e'⟩ | ⟨e, _⟩
                  · rw [e']
                    show if c = 0 then _ else _
                    rw [if_neg e]
                    exact ⟨rfl, rfl⟩
                  · exact absurd rfl e
                · rcases hcase with ⟨e, _⟩ | ⟨_, e⟩
                  · cases e
                  · rw [e]
                    exact ⟨rfl, rfl⟩
                · rcases hcase with ⟨e, _⟩ | ⟨_, e⟩
                  · cases e
                  · rw [e]
                    exact ⟨rfl, rfl⟩
              obtain ⟨h1a, hst⟩ := h1a
              obtain ⟨x0, hx0⟩ := len1 h1a
              rw [hx0] at z3 hst
              obtain ⟨v0, rfl, f0⟩ := z3.inv1
              exact ⟨_, rfl, D, _, 0, _, rfl, rfl, SqL.of hD3, at0, fin0 v0 _ _ hst (s2.trans s5) (f0.same s5)⟩
end
end K70
/-! K70, part Y6: now_order. -/
namespace K70
open PySem PySem.Spec PyProof.Rows L2
section
variable {X : Cx} {K : PySem.W.Frag}
def rListOf (K : PySem.W.Frag) : List V → Hp → VK → Prop := fun xs H Q => ∃ p ys, xs = [.ref p] ∧ (SqL K H p ys ∨ SqT K H p ys) ∧ ∀ l, H l = none → Q (.ref l) (upd H l (.lst ys))
theorem listOfK (hK : X.K = K := by rfl) : CallR X (.type "list") (rListOf K) := hK ▸ call_list_of
def rLenSeq (K : PySem.W.Frag) : List V → Hp → VK → Prop := fun xs H Q => ∃ p ys, xs = [.ref p] ∧ (SqL K H p ys ∨ SqT K H p ys) ∧ Q (.int ys.length) H
theorem lenSeqK (hK : X.K = K := by rfl) : CallR X (.builtin "len") (rLenSeq K) := hK ▸ call_len_seq
end
section
variable {X : Cx}
theorem sw_dc {kx vx : Expr} {gs : List Comprehension} {scope : Scope} {pos py : Pos} {y : Str} {l : Nat} {env : Env} (hk : env.scope.kind = .function) (hy : env.scope.names.lookup y = some .local) (hl : (py.line == pos.line) = true)
    (ha : (scope.names.any fun (n, k) => n == y && (k == .local || k == .cell)) = false) : swapsWith (.DictComp kx vx gs scope pos) (some (.Name y py)) l env = pure true := by
  have hkind : env.kindOf y = some .local := hy
  have hbk : env.blockKind = .function := by
    unfold Env.blockKind
    rw [hk]
    rfl
  unfold swapsWith
  simp only [hbk, hkind, ha, Expr.pos, hl]
  rfl
/-- name = {..: .. for ..}, the name a local -/
theorem ps_setDc {i : Nat} {y : Str} {py : Pos} {kx vx tg iter : Expr} {ifs : List Expr} {scope : Scope} {own : List (Str × Nat)} {pos spos : Pos} {wi : TI} {g : TG} {tt : TT} {tk tv : TE} (cm : X.calm = true) (nN : X.N.Nodup) (iy : X.N[i]? = some y) (ly : X.env.scope.names.lookup y = some .local)
    (sw : swapsWith (.DictComp kx vx [⟨tg, iter, ifs, 0⟩] scope pos) (some (.Name y py)) spos.line X.env = pure true) (hi : PI X tg iter wi) (bk : BlkOk X.N X.env.scope scope own)
    (ag : ∀ (s : Shared) (H : Hp) (C : Addr) (cl : List (Str × Addr)) (fp : List Addr), PG (X.blk s H scope (compEnvC scope cl C X.env) fp) tg g) (aT : ∀ (s : Shared) (H : Hp) (C : Addr) (cl : List (Str × Addr)) (fp : List Addr), PTs (X.blk s H scope (compEnvC scope cl C X.env) fp) ifs tt)
    (ak : ∀ (s : Shared) (H : Hp) (C : Addr) (cl : List (Str × Addr)) (fp : List Addr), PE (X.blk s H scope (compEnvC scope cl C X.env) fp) kx tk)
    (av : ∀ (s : Shared) (H : Hp) (C : Addr) (cl : List (Str × Addr)) (fp : List Addr), PE (X.blk s H scope (compEnvC scope cl C X.env) fp) vx tv) (fs : ∀ x, foldedSetIterable iter X.env x = pure x := by intro _; rfl) :
    PS X (.Assign [.Name y py] (.DictComp kx vx [⟨tg, iter, ifs, 0⟩] scope pos) spos) (tAsg (tDc wi g tt tk tv (own.map (·.2))) (gName i)) := by
  constructor
  intro pins s σ H D I h
  rw [exec_Assign_Name_used _ _ _ _ sw]
  refine wpAny_bind (wpAny_standAt (wpAny_bind ?_))
  have hd : tDc wi g tt tk tv (own.map (·.2)) σ H (fun x H1 => gName i x σ H1 D.nx) := h
  show wpAny _ X.A (do let _ ← comprehension (.DictComp kx vx [⟨tg, iter, ifs, 0⟩] scope pos) scope X.env (firstIterPos [⟨tg, iter, ifs, 0⟩] pos) newDict false (eval iter X.env) (some (assign (.Name y py) X.env))) _ _ s
  refine wpAny_bind (thn (dc_core (Qf := fun _ z => SP X pins D .next z) cm nN I hi bk ag aT ak av fs hd fun L C z m H2 J q nz fz => ?_) fun _ z qz => wpAny_pure (wpAny_pure qz))
  show wpAny _ _ (assign (.Name y py) X.env (.ref L)) _ _ _
  refine wpAny_assign_Name (store_ok2 (v := V.ref L) J nN iy (.inl ly) rfl (fun z2 J2 ⟨a, sb, ha⟩ => ?_) (.inr ly))
  obtain ⟨f0, f1, f2, f3, f4, f5⟩ := fz
  have hne : C ≠ a := by
    cases ha with
    | inl e => rw [e]; exact f1
    | inr e => exact fun c => f4 y a e c.symm
  exact ⟨m, nz.sameBut sb hne, fun h3 sb3 => ⟨_, H2, J2.turned (t' := z2.toks) (fun b o hb e => (sb3.2 b hb).trans e) f0 f1 f3 f4 f5, q⟩⟩
end
/-- an order to tell the nodes' numbers in: each node once, behind all it needs in the same round -/
structure OrdOk (rows : List Row) (order : List Nat) : Prop where
  nd : order.Nodup
  lt : ∀ x ∈ order, x < rows.length
  dep : ∀ (i j : Nat) (r : Row), order[i]? = some j → rows[j]? = some r → r.w ≠ .late → ∀ a ∈ r.args, a ∈ order.take i
def needR (r : Row) : List Nat := if r.w = .late then [] else r.args
def ivs (l : List Nat) : List V := l.map fun (n : Nat) => V.int (n : Int)
section
variable {P : Program} {w : World} {K : PySem.W.Frag} {mg : Str → Option Value} {base : Heap}
def sp_now_order (K : PySem.W.Frag) : Sp := fun vs H Q _ => ∃ (nd : Addr) (rvs : List V) (rows : List Row) (rk : Nat → Nat), vs = [.ref nd] ∧ SqT K H nd rvs ∧ All2 (RowV K H) rvs rows ∧ rows.length ≤ 100 ∧
  (∀ (j : Nat) (r : Row), rows[j]? = some r → r.args.length ≤ 3 ∧ (r.w ≠ .late → ∀ a ∈ r.args, a < rows.length ∧ rk a < rk j)) ∧
  ∀ o H' order, Same H H' → H' o = some (.lst (ivs order)) → H o = none → OrdOk rows order → order.length = rows.length → Q (.ref o) H'
def doneK (found : List Nat) : List (Key × V) := found.map fun (j : Nat) => ((.inl (j : Int) : Key), V.bl true)
theorem doneK_val (found : List Nat) (a : Nat) : (valV (doneK found) (.inl (a : Int))).isSome = decide (a ∈ found) := by
  rw [← valV_any]
  unfold doneK
  rw [List.any_map, Bool.eq_iff_iff, List.any_eq_true]
  simp only [Function.comp_apply, decide_eq_true_eq]
  constructor
  · rintro ⟨x, h, e⟩
    have q := Sum.inl.inj e
    have e' : x = a := by omega
    rwa [← e']
  · intro h
    exact ⟨a, h, rfl⟩
theorem ivs_get {l : List Nat} {i : Nat} {x : V} (h : (ivs l)[i]? = some x) : ∃ n : Nat, l[i]? = some n ∧ x = .int (n : Int) := by
  unfold ivs at h
  rw [List.getElem?_map] at h
  cases e : l[i]? with
  | none => rw [e] at h; cases h
  | some n => rw [e] at h; exact ⟨n, rfl, (Option.some.inj h).symm⟩
theorem ivs_len (l : List Nat) : (ivs l).length = l.length := List.length_map _
/-- all but two lists or dicts -/
def Same2 (b c : Addr) (H H' : Hp) : Prop := ∀ a o, a ≠ b → a ≠ c → H a = some o → H' a = some o
/-! ### now_order -/
abbrev n_now_order : List Str := ["nodes", "needs", "node", "row", "found", "done", "args", "arg"]
theorem sc_now_order : FnScope n_now_order ["nodes"] (defScope s_now_order) := ⟨rfl, rfl, rfl, by decide +kernel, rfl, by decide +kernel, by decide +kernel⟩
theorem c_now_order (T : TX K mg) : Cal P w K mg base "now_order" ["nodes"] [] 1 (sp_now_order K) := by
  refine cal_of T.g_now_order T.f_now_order (fun _ _ _ _ _ _ us hl => match us, hl with | [_], _ => rfl) fun fd F => okN F sc_now_order (fun vs H Q E h => ?_) (fun cdv A outer s H vs Q E hr h => ?_)
  · obtain ⟨nd, rvs, rows, rk, rfl, hT, hR, h100, hrk, q⟩ := h
    rfl
  · obtain ⟨nd, rvs, rows, rk, rfl, hT, hR, h100, hrk, q⟩ := h
    have hu := hu_of hr
    refine ⟨_, 
      (pss_cons
        (ps_setDc (i := 1) (own := [("node", 2), ("row", 3)]) (g := gTup K 2 (gCons (gName 2) (gCons (gName 3) (gNil)))) rfl sc_now_order.nd rfl rfl (sw_dc rfl rfl rfl (by decide +kernel)) (pi_enumT (by rfl) T.z_enumerate (pa_cons (pv 0) pa_nil)) (blkOk_by (N := n_now_order) (sc := defScope s_now_order) (by decide +kernel)) (fun _ _ _ _ _ => pg_tup (by rfl) (pgs_cons (pg_name (i := 2) sc_now_order.nd rfl (by first | exact Or.inl rfl | exact Or.inr rfl)) (pgs_cons (pg_name (i := 3) sc_now_order.nd rfl (by first | exact Or.inl rfl | exact Or.inr rfl)) pgs_nil))) (fun _ _ _ _ _ => pts_nil) (fun _ _ _ _ _ => (pv 2)) (fun _ _ _ _ _ => (pe_ifExp (pt_cmpR op_eq (pe_ix (ixT (K := K)) (pv 3) pe_int (fun _ _ => rfl)) pe_str (nomark _)) (pe_lst pa_nil) (pe_callTy (listOfK (K := K)) (by rfl) T.z_list (by decide +kernel) (pa_cons (pe_ix (ixT (K := K)) (pv 3) pe_int (fun _ _ => rfl)) pa_nil)))))
      (pss_cons
        (ps_asg (pe_tup (pa_cons (pe_lst pa_nil) (pa_cons pe_dnewK pa_nil))) (pg_tup (by rfl) (pgs_cons (pg_name (i := 4) sc_now_order.nd rfl (by first | exact Or.inl rfl | exact Or.inr rfl)) (pgs_cons (pg_name (i := 5) sc_now_order.nd rfl (by first | exact Or.inl rfl | exact Or.inr rfl)) pgs_nil))))
      (pss_cons
        (ps_while PassesOwn.never (pt_cmpR op_lt (pe_callB (lenSeqK (K := K)) (by rfl) T.z_len (by decide +kernel) (pa_cons (pv 4) pa_nil)) (pe_callB (lenSeqK (K := K)) (by rfl) T.z_len (by decide +kernel) (pa_cons (pv 0) pa_nil)) (nomark _))
          (pss_one
            (ps_lock (ps_for PassesOwn.never rfl (pi_items (pv 1)) (pg_tup (by rfl) (pgs_cons (pg_name (i := 2) sc_now_order.nd rfl (by first | exact Or.inl rfl | exact Or.inr rfl)) (pgs_cons (pg_name (i := 6) sc_now_order.nd rfl (by first | exact Or.inl rfl | exact Or.inr rfl)) pgs_nil)))
              (pss_one
                (ps_if (PW.pt (pw_and (pt_cmp (pc_dnotin hu (pv 2) (pv 5))) (pw_and1 (pt_val (pe_callB (cr_all rfl) (by rfl) T.z_all (by decide +kernel) (pa_cons (pe_lc (own := [("arg", 7)]) rfl sc_now_order.nd (pi_list (pv 6)) (blkOk_by (N := n_now_order) (sc := defScope s_now_order) (by decide +kernel)) (fun _ _ _ _ _ => pg_name (i := 7) sc_now_order.nd rfl (by first | exact Or.inl rfl | exact Or.inr rfl)) (fun _ _ _ _ _ => pts_nil) (fun _ _ _ _ _ => (pe_cmp (pc_din hu (pv 7) (pv 5)) rfl))) pa_nil))))))
                  (pss_cons
                    (ps_expr (pe_bm PySem.F.plainAttrs_list PySem.F.slot_list_append PySem.F.type_list_append mt_append (pv 4) (pa_cons (pv 2) pa_nil)))
                  (pss_one
                    (ps_dput hu (pv 5) (pv 2) pe_bl rfl)))
                  pss_nil))))))
      (pss_one
        (ps_ret (pv 4)))))), ?_⟩
    have hlen := hR.len
    refine ⟨_, rfl, nd, rvs, rfl, hT, fun D hD => ?_⟩
    refine dc_it walk_enumT (fun i H' => Same H H' ∧ ∃ as : List Addr, as.length = i ∧ (∀ a ∈ as, H a = none ∧ a ≠ D) ∧ H' D = some (.dK ((List.range i).map fun (j : Nat) => ((.inl (j : Int) : Key), V.ref (as.getD j 0)))) ∧
        ∀ (j : Nat) (r : Row), j < i → rows[j]? = some r → H' (as.getD j 0) = some (.lst (ivs (needR r))))
      ⟨same_upd hD, [], rfl, (fun _ h => nomatch h), upd_same, (fun j r h => absurd h (Nat.not_lt_zero j))⟩ (fun i H' _ z => SqT.same hT z.1) ?_ ?_
    · rintro i y H1 H1' hi ⟨z1, as, z2, z3, z4, z5⟩ ⟨T1, v1, v2, rfl, hT1, rfl, e1, e2⟩
      cases e1
      obtain ⟨r, r1, r2⟩ := hR.at' e2
      obtain ⟨a, ta, u, rfl, h1, h2, h3⟩ := id r2
      have sT := same_upd (o := .tup [.int (i : Int), .ref a]) hT1
      have zz := z1.trans sT
      have z4' := sT _ _ z4
      refine ⟨T1, _, rfl, SqT.of upd_same, rfl, _, _, rfl, _, _, rfl, rfl, rfl, _, rfl, ?_⟩
      refine ⟨_, rfl, a, _, 0, _, rfl, rfl, SqT.same h1 zz, at0, rfl, _, rfl, ?_⟩
      have fin : ∀ l H2, (upd H1 T1 (.tup [.int (i : Int), .ref a])) l = none → H2 = upd (upd H1 T1 (.tup [.int (i : Int), .ref a])) l (.lst (ivs (needR r))) →
          ∃ kvs k, V.int (i : Int) = kV k ∧ H2 D = some (.dK kvs) ∧ kvs.length < sizeLine ∧ (Same H (upd H2 D (.dK (putK kvs k (.ref l)))) ∧ ∃ as : List Addr, as.length = i + 1 ∧ (∀ a ∈ as, H a = none ∧ a ≠ D) ∧ (upd H2 D (.dK (putK kvs k (.ref l)))) D = some (.dK ((List.range (i + 1)).map fun (j : Nat) => ((.inl (j : Int) : Key), V.ref (as.getD j 0)))) ∧
        ∀ (j : Nat) (r : Row), j < i + 1 → rows[j]? = some r → (upd H2 D (.dK (putK kvs k (.ref l)))) (as.getD j 0) = some (.lst (ivs (needR r)))) := by
        rintro l H2 hl rfl
        have s2 := same_upd (o := .lst (ivs (needR r))) hl
        have hDl : D ≠ l := by
          rintro rfl
          rw [z4'] at hl
          cases hl
        have hlH : H l = none := zz.free hl
        have hlas : ∀ a ∈ as, a ≠ l := by
          rintro b hb rfl
          obtain ⟨j, hj⟩ := List.mem_iff_getElem?.mp hb
          have hj1 := (List.getElem?_eq_some_iff.mp hj).1
          have hjr : j < rows.length := by omega
          have q1 := z5 j _ (by omega) (List.getElem?_eq_getElem hjr)
          rw [List.getD_eq_getElem?_getD, hj, Option.getD_some] at q1
          have q2 := sT _ _ q1
          rw [q2] at hl
          cases hl
        refine ⟨_, .inl (i : Int), rfl, s2 _ _ z4', small1000 (by rw [List.length_map, List.length_range]; omega), same_upd_new (zz.trans s2) hD, as ++ [l], by rw [List.length_append, z2]; rfl, ?_, ?_, ?_⟩
        · intro b hb
          rcases List.mem_append.mp hb with hb | hb
          · exact z3 b hb
          · rw [List.mem_singleton] at hb
            rw [hb]
            exact ⟨hlH, Ne.symm hDl⟩
        · rw [upd_same, putK_new, List.range_succ, List.map_append]
          · congr 2
            congr 1
            · refine List.map_congr_left fun j hj => ?_
              have hj' := List.mem_range.mp hj
              rw [List.getD_eq_getElem?_getD, List.getD_eq_getElem?_getD, List.getElem?_append_left (by omega)]
            · rw [List.map_cons, List.map_nil, List.getD_eq_getElem?_getD, List.getElem?_append_right (by omega), z2, Nat.sub_self]
              rfl
          · cases hv : valV ((List.range i).map fun (j : Nat) => ((.inl (j : Int) : Key), V.ref (as.getD j 0))) (.inl (i : Int)) with
            | none => rfl
            | some y =>
              have m := valV_mem hv
              obtain ⟨j, hj, e⟩ := List.mem_map.mp m
              have hj' := List.mem_range.mp hj
              have e' := Sum.inl.inj (Prod.mk.inj e).1
              omega
        · intro j r' hj hr'
          by_cases hji : j = i
          · subst hji
            rw [hr'] at r1
            cases r1
            rw [List.getD_eq_getElem?_getD, List.getElem?_append_right (by omega), z2, Nat.sub_self, List.getElem?_cons_zero, Option.getD_some, upd_ne (Ne.symm hDl)]
            exact upd_same
          · have hj' : j < as.length := by omega
            have em : as.getD j 0 ∈ as := by
              rw [List.getD_eq_getElem?_getD, List.getElem?_eq_getElem hj', Option.getD_some]
              exact List.getElem_mem hj'
            have e : (as ++ [l]).getD j 0 = as.getD j 0 := by
              rw [List.getD_eq_getElem?_getD, List.getD_eq_getElem?_getD, List.getElem?_append_left hj']
            rw [e, upd_ne (z3 _ em).2]
            exact s2 _ _ (sT _ _ (z5 j r' (by omega) hr'))
      refine wif r.w .late (fun e => ?_) (fun e => ?_)
      · refine ⟨by show 0 ≤ sizeLine; decide, fun l hl => fin l _ hl ?_⟩
        have en : needR r = [] := if_pos e
        rw [en]
        rfl
      · refine ⟨_, rfl, a, _, 2, _, rfl, rfl, SqT.same h1 zz, at2, ta, _, rfl, .inr (SqT.same h3 zz), fun l hl => fin l _ hl ?_⟩
        have en : needR r = r.args := if_neg e
        rw [en]
        rfl
    · rintro H1 ⟨z1, as, z2, z3, z4, z5⟩
      rw [hlen] at z2 z4 z5
      refine ⟨by show 0 ≤ sizeLine; decide, fun fl hfl dd hdd => ?_⟩
      refine ⟨by show 2 ≤ sizeLine; decide, fun t ht => ?_⟩
      have sf := same_upd (o := .lst []) hfl
      have sd := same_upd (o := .dK []) hdd
      have st := same_upd (o := .tup [.ref fl, .ref dd]) ht
      refine ⟨t, _, rfl, SqT.of upd_same, rfl, _, _, rfl, _, _, rfl, rfl, ?_⟩
      have s3 := sf.trans (sd.trans st)
      have hfl3 : (upd (upd (upd H1 fl (.lst [])) dd (.dK [])) t (.tup [.ref fl, .ref dd])) fl = some (.lst (ivs [])) := st _ _ (sd _ _ upd_same)
      have hdd3 : (upd (upd (upd H1 fl (.lst [])) dd (.dK [])) t (.tup [.ref fl, .ref dd])) dd = some (.dK (doneK [])) := st _ _ upd_same
      have nfd : fl ≠ dd := by
        rintro rfl
        rw [upd_same] at hdd
        cases hdd
      have hfH : H1 fl = none := hfl
      have hdH : H1 dd = none := sf.free hdd
      have nDf : D ≠ fl := ne_of_none z4 hfH
      have nDd : D ≠ dd := ne_of_none z4 hdH
      have hD3 := s3 _ _ z4
      have has : ∀ (j : Nat) (r : Row), rows[j]? = some r → as.getD j 0 ≠ fl ∧ as.getD j 0 ≠ dd ∧ (upd (upd (upd H1 fl (.lst [])) dd (.dK [])) t (.tup [.ref fl, .ref dd])) (as.getD j 0) = some (.lst (ivs (needR r))) := fun j r hr => by
        have e := z5 j r (List.getElem?_eq_some_iff.mp hr).1 hr
        exact ⟨ne_of_none e hfH, ne_of_none e hdH, s3 _ _ e⟩
      have hT3 := SqT.same hT (z1.trans s3)
      have z13 := z1.trans s3
      have hfH0 : H fl = none := z1.free hfH
      have hdH0 : H dd = none := z1.free hdH
      generalize upd (upd (upd H1 fl (.lst [])) dd (.dK [])) t (.tup [.ref fl, .ref dd]) = H2 at hfl3 hdd3 hD3 has hT3 z13
      have kT : ∀ H', Same2 fl dd H2 H' → SqT K H' nd rvs := fun H' k => by
        rcases hT3 with h | h
        · have n1 : nd ≠ fl := by
            rintro rfl
            rcases h with h | ⟨o, h⟩ <;> (rw [hfl3] at h; cases h)
          have n2 : nd ≠ dd := by
            rintro rfl
            rcases h with h | ⟨o, h⟩ <;> (rw [hdd3] at h; cases h)
          rcases h with h | ⟨o, h⟩
          · exact .inl (.inl (k _ _ n1 n2 h))
          · exact .inl (.inr ⟨o, k _ _ n1 n2 h⟩)
        · exact .inr h
      refine ⟨fun m σ H' => ∃ found : List Nat, m = rows.length - found.length ∧ Same2 fl dd H2 H' ∧ H' fl = some (.lst (ivs found)) ∧ H' dd = some (.dK (doneK found)) ∧ OrdOk rows found ∧ ∃ x2 x6, σ = [some (.ref nd), some (.ref D), x2, none, some (.ref fl), some (.ref dd), x6, none],
        ⟨_, [], rfl, fun _ _ _ _ h => h, hfl3, hdd3, ⟨List.nodup_nil, (fun _ h => nomatch h), (fun i j r h => nomatch h)⟩, none, none, rfl⟩, ?_⟩
      rintro m σ H' ⟨found, rfl, k1, k2, k3, k4, x2, x6, rfl⟩
      have hfn : found.length ≤ rows.length := by
        have e := nodup_sub (m := List.range rows.length) k4.nd fun x hx => List.mem_range.mpr (k4.lt x hx)
        rwa [List.length_range] at e
      refine ⟨_, rfl, fl, _, rfl, .inl (SqL.of k2), _, rfl, nd, _, rfl, .inr (kT _ k1), _, _, rfl, rfl, _, rfl, ?_⟩
      have ed : decide (((ivs found).length : Int) < (rvs.length : Int)) = decide (found.length < rows.length) := decide_eq_decide.mpr (by rw [ivs_len, hlen]; omega)
      rw [ed]
      by_cases hc : found.length < rows.length
      case neg =>
        rw [decide_eq_false hc]
        refine iteF ⟨_, rfl, q fl H' found (fun b x e => ?_) k2 hfH0 k4 (by omega)⟩
        exact k1 b x (ne_of_none e hfH0) (ne_of_none e hdH0) (z13 b x e)
      rw [decide_eq_true hc]
      refine iteT ⟨fun σ' H'' => ∃ found' : List Nat, found.length < found'.length ∧ Same2 fl dd H2 H'' ∧ H'' fl = some (.lst (ivs found')) ∧ H'' dd = some (.dK (doneK found')) ∧ OrdOk rows found' ∧ ∃ x2 x6, σ' = [some (.ref nd), some (.ref D), x2, none, some (.ref fl), some (.ref dd), x6, none], ?_, ?_⟩
      · rintro σ' H'' ⟨found', g0, g1, g2, g3, g4, g5⟩
        exact ⟨_, by omega, found', rfl, g1, g2, g3, g4, g5⟩
      have hDk := k1 _ _ nDf nDd hD3
      refine ⟨D, _, hDk, trivial, fun od => ?_⟩
      have hkl : ((List.range rows.length).map fun (j : Nat) => ((.inl (j : Int) : Key), V.ref (as.getD j 0))).length = rows.length := by rw [List.length_map, List.length_range]
      refine ⟨_, rfl, D, od, _, rfl, upd_same, ?_⟩
      refine for_it walk_items (fun i σ H'' => ∃ found' : List Nat, (∃ t, found' = found ++ t) ∧ (∀ j < i, j ∈ found' ∨ ∃ r, rows[j]? = some r ∧ ∃ a ∈ needR r, a ∉ found) ∧ Same2 fl dd (upd H' D (.frz od (.dK ((List.range rows.length).map fun (j : Nat) => ((.inl (j : Int) : Key), V.ref (as.getD j 0)))))) H'' ∧
          H'' fl = some (.lst (ivs found')) ∧ H'' dd = some (.dK (doneK found')) ∧ OrdOk rows found' ∧ ∃ x2 x6, σ = [some (.ref nd), some (.ref D), x2, none, some (.ref fl), some (.ref dd), x6, none])
        ⟨found, ⟨[], by rw [List.append_nil]⟩, fun j h => absurd h (Nat.not_lt_zero j), fun _ _ _ _ h => h, by rw [upd_ne (Ne.symm nDf)]; exact k2, by rw [upd_ne (Ne.symm nDd)]; exact k3, k4, x2, x6, rfl⟩
        (fun i σ H'' _ z => by obtain ⟨f', _, _, z, _⟩ := z; exact z _ _ nDf nDd upd_same) ?_ ?_
      · rintro i y σ H3 H3' hi ⟨found', ⟨tl, htl⟩, g1, g2, g3, g4, g5, y2, y6, rfl⟩ ⟨T1, v1, v2, rfl, hT1, rfl, e1, e2⟩
        rw [hkl] at hi
        have er : rows[i]? = some rows[i] := List.getElem?_eq_getElem hi
        generalize rows[i] = r at er
        have ev1 : v1 = .int (i : Int) := by
          have z : ((List.range rows.length).map fun (j : Nat) => ((.inl (j : Int) : Key), V.ref (as.getD j 0)))[i]? = some ((.inl (i : Int) : Key), V.ref (as.getD i 0)) := by
            rw [List.getElem?_map, List.getElem?_range hi]
            rfl
          dsimp only at e1
          rw [z] at e1
          exact (Option.some.inj e1).symm
        have ev2 : v2 = .ref (as.getD i 0) := by
          have z : ((List.range rows.length).map fun (j : Nat) => ((.inl (j : Int) : Key), V.ref (as.getD j 0)))[i]? = some ((.inl (i : Int) : Key), V.ref (as.getD i 0)) := by
            rw [List.getElem?_map, List.getElem?_range hi]
            rfl
          dsimp only at e2
          rw [z] at e2
          exact (Option.some.inj e2).symm
        subst ev1 ev2
        obtain ⟨a1, a2, a3⟩ := has i r er
        have nai : as.getD i 0 ≠ D := by
          intro z
          rw [z, hD3] at a3
          cases a3
        have haH3 : H3 (as.getD i 0) = some (.lst (ivs (needR r))) := by
          refine g2 _ _ a1 a2 ?_
          rw [upd_ne nai]
          exact k1 _ _ a1 a2 a3
        have sT := same_upd (o := .tup [.int (i : Int), .ref (as.getD i 0)]) hT1
        refine ⟨T1, _, rfl, SqT.of upd_same, rfl, _, _, rfl, _, _, rfl, rfl, ?_⟩
        have g3' := sT _ _ g3
        have g4' := sT _ _ g4
        have haH3' := sT _ _ haH3
        have hfn' : found'.length ≤ rows.length := by
          have e := nodup_sub (m := List.range rows.length) g5.nd fun x hx => List.mem_range.mpr (g5.lt x hx)
          rwa [List.length_range] at e
        have g2' : Same2 fl dd (upd H' D (.frz od (.dK ((List.range rows.length).map fun (j : Nat) => ((.inl (j : Int) : Key), V.ref (as.getD j 0)))))) (upd H3 T1 (.tup [.int (i : Int), .ref (as.getD i 0)])) := fun b x n1 n2 e => sT _ _ (g2 b x n1 n2 e)
        generalize upd H3 T1 (.tup [.int (i : Int), .ref (as.getD i 0)]) = H4 at g3' g4' haH3' g2'
        refine ⟨_, rfl, _, rfl, dd, _, rfl, DGet.k (k := .inl (i : Int)) g4', _, rfl, ?_⟩
        rw [doneK_val]
        by_cases hm : i ∈ found'
        · rw [decide_eq_true hm]
          refine iteF ⟨found', ⟨tl, htl⟩, fun j hj => ?_, g2', g3', g4', g5, _, _, rfl⟩
          by_cases hj' : j = i
          · exact .inl (hj' ▸ hm)
          · exact g1 j (by omega)
        rw [decide_eq_false hm]
        refine iteT ⟨_, rfl, as.getD i 0, rfl, ⟨_, SqL.of haH3'⟩, fun D2 hD2 => ?_⟩
        refine lc_list (K := K) (a := as.getD i 0) (xs := ivs (needR r)) (fun k H'' => Same H4 H'' ∧ H'' D2 = some (.lst (((needR r).take k).map fun a => V.bl (decide (a ∈ found')))))
          ⟨same_upd hD2, upd_same⟩ (fun k H'' _ z => z.1.seq (SqL.of haH3')) ?_ ?_
        · rintro k x H'' hx ⟨w1, w2⟩
          obtain ⟨a, ha, rfl⟩ := ivs_get hx
          refine ⟨rfl, _, rfl, _, rfl, dd, _, rfl, DGet.k (k := .inl (a : Int)) (w1 _ _ g4'), _, w2, small1000 ?_, same_upd_new w1 hD2, ?_⟩
          · have z := (hrk i r er).1
            have zn : (needR r).length ≤ 3 := by
              unfold needR
              split
              · exact Nat.zero_le _
              · exact z
            rw [List.length_map, List.length_take]
            omega
          · rw [upd_same, doneK_val, List.take_add_one, ha, Option.toList_some, List.map_append]
            rfl
        · rintro H'' ⟨w1, w2⟩
          rw [ivs_len, List.take_length] at w2
          refine ⟨D2, (needR r).map fun a => decide (a ∈ found'), rfl, SqL.of (by rw [List.map_map]; exact w2), _, rfl, ?_⟩
          have g3'' := w1 _ _ g3'
          have g4'' := w1 _ _ g4'
          have g2'' : Same2 fl dd (upd H' D (.frz od (.dK ((List.range rows.length).map fun (j : Nat) => ((.inl (j : Int) : Key), V.ref (as.getD j 0)))))) H'' := fun b x n1 n2 e => w1 _ _ (g2' b x n1 n2 e)
          by_cases hall : ∀ a ∈ needR r, a ∈ found'
          · have eb : ((needR r).map fun a => decide (a ∈ found')).all id = true := by
              rw [List.all_map, List.all_eq_true]
              intro a ha
              exact decide_eq_true (hall a ha)
            rw [eb]
            refine iteT ⟨_, rfl, .inl ⟨rfl, _, SqL.of g3''⟩, _, rfl, fl, _, _, rfl, rfl, g3'', small1000 (by rw [ivs_len]; omega), ?_⟩
            have hd5 : (upd H'' fl (.lst (ivs found' ++ [.int (i : Int)]))) dd = some (.dK (doneK found')) := by
              rw [upd_ne (Ne.symm nfd)]
              exact g4''
            refine ⟨_, rfl, _, rfl, dd, _, rfl, DPut.k (k := .inl (i : Int)) hd5 (small1000 (by unfold doneK; rw [List.length_map]; omega)), ?_⟩
            refine ⟨found' ++ [i], ⟨tl ++ [i], by rw [htl, List.append_assoc]⟩, fun j hj => ?_, fun b x n1 n2 e => ?_, ?_, ?_, ⟨?_, ?_, ?_⟩, _, _, rfl⟩
            · by_cases hj' : j = i
              · exact .inl (hj' ▸ List.mem_append_right _ List.mem_cons_self)
              · exact (g1 j (by omega)).imp (List.mem_append_left _) id
            · rw [upd_ne n2, upd_ne n1]
              exact g2'' b x n1 n2 e
            · rw [upd_ne nfd, upd_same]
              unfold ivs
              rw [List.map_append]
              rfl
            · rw [upd_same, putK_new]
              · unfold doneK
                rw [List.map_append]
                rfl
              · have z := doneK_val found' i
                rw [decide_eq_false hm] at z
                exact Option.not_isSome_iff_eq_none.mp (by rw [z]; exact Bool.false_ne_true)
            · rw [List.nodup_append]
              refine ⟨g5.nd, by simp, fun x hx y hy => ?_⟩
              rw [List.mem_singleton] at hy
              subst hy
              exact fun z => hm (z ▸ hx)
            · intro x hx
              rcases List.mem_append.mp hx with hx | hx
              · exact g5.lt x hx
              · rw [List.mem_singleton] at hx
                omega
            · intro k j r' hk hr' hl a ha
              by_cases hkl : k < found'.length
              · rw [List.getElem?_append_left hkl] at hk
                have z := g5.dep k j r' hk hr' hl a ha
                rw [List.take_append_of_le_length (by omega)]
                exact z
              · have hke : k = found'.length := by
                  have z := (List.getElem?_eq_some_iff.mp hk).1
                  rw [List.length_append, List.length_cons, List.length_nil] at z
                  omega
                subst hke
                rw [List.getElem?_append_right (Nat.le_refl _), Nat.sub_self] at hk
                have ej : i = j := Option.some.inj hk
                subst ej
                rw [er] at hr'
                cases hr'
                rw [List.take_left]
                refine hall a ?_
                unfold needR
                rw [if_neg hl]
                exact ha
          · have eb : ((needR r).map fun a => decide (a ∈ found')).all id = false := by
              rw [List.all_map, Bool.eq_false_iff]
              intro z
              rw [List.all_eq_true] at z
              exact hall fun a ha => of_decide_eq_true (z a ha)
            rw [eb]
            refine iteF ⟨found', ⟨tl, htl⟩, fun j hj => ?_, g2'', g3'', g4'', g5, _, _, rfl⟩
            by_cases hj' : j = i
            · refine .inr ⟨r, hj' ▸ er, ?_⟩
              simp only [Classical.not_forall] at hall
              obtain ⟨a, ha, hna⟩ := hall
              exact ⟨a, ha, fun z => hna (by rw [htl]; exact List.mem_append_left _ z)⟩
            · exact g1 j (by omega)
      · rintro σ H3 ⟨found', ⟨tl, htl⟩, g1, g2, g3, g4, g5, y2, y6, rfl⟩
        rw [hkl] at g1
        refine ⟨g2 _ _ nDf nDd upd_same, found', ?_, fun b x n1 n2 e => ?_, ?_, ?_, g5, y2, y6, rfl⟩
        · rw [htl, List.length_append]
          cases tl with
          | cons a b =>
            rw [List.length_cons]
            omega
          | nil =>
            rw [List.append_nil] at htl
            subst htl
            have all : ∀ (m j : Nat), j < rows.length → rk j ≤ m → j ∈ found' := by
              intro m
              induction m with
              | zero =>
                intro j hj hr
                rcases g1 j hj with h | ⟨r, er, a, ha, hna⟩
                · exact h
                · unfold needR at ha
                  split at ha
                  · cases ha
                  · rename_i hl
                    have z := ((hrk j r er).2 hl a ha).2
                    omega
              | succ m ih =>
                intro j hj hr
                rcases g1 j hj with h | ⟨r, er, a, ha, hna⟩
                · exact h
                · unfold needR at ha
                  split at ha
                  · cases ha
                  · rename_i hl
                    have z := (hrk j r er).2 hl a ha
                    exact absurd (ih a z.1 (by omega)) hna
            have e := nodup_sub (l := List.range rows.length) (m := found') List.nodup_range fun x hx => all _ x (List.mem_range.mp hx) (Nat.le_refl _)
            rw [List.length_range] at e
            omega
        · by_cases hb : b = D
          · subst hb
            rw [hD3] at e
            cases e
            exact upd_same
          · rw [upd_ne hb]
            refine g2 b x n1 n2 ?_
            rw [upd_ne hb]
            exact k1 b x n1 n2 e
        · rw [upd_ne (Ne.symm nDf)]
          exact g3
        · rw [upd_ne (Ne.symm nDd)]
          exact g4
end
end K70
/-! K70, part Y7: springs_of, look_given. -/
namespace K70
open PySem PySem.Spec PyProof.Rows L2
/-- e, its answer locked from now on -/
def tFrz (t : TE) : TE := fun σ H Q => t σ H fun v H1 => ∃ d u, v = .ref d ∧ H1 d = some u ∧ Mut (some u) ∧ ∀ od, Q v (upd H1 d (.frz od u))
theorem pe_frz {X : Cx} {e : Expr} {t : TE} (h : PE X e t) : PE X e (tFrz t) := by
  refine ⟨fun pins s σ H Q I hw => ?_⟩
  refine thn (h.run pins s σ H _ I hw) fun v s1 ⟨x, H1, I1, r, d, u, ex, hd, mu, q⟩ => ?_
  obtain ⟨od, I2⟩ := I1.lock hd mu
  exact ⟨x, _, I2, r, q od⟩
theorem putK_mem {kvs : List (Key × V)} {k0 k : Key} {y v : V} (h : (k, v) ∈ putK kvs k0 y) : (k, v) ∈ kvs ∨ (k = k0 ∧ v = y) := by
  unfold putK at h
  split at h
  · obtain ⟨p, hp, e⟩ := List.mem_map.mp h
    split at e
    · rename_i c
      cases e
      exact .inr ⟨c, rfl⟩
    · subst e
      exact .inl hp
  · rcases List.mem_append.mp h with h | h
    · exact .inl h
    · rw [List.mem_singleton] at h
      cases h
      exact .inr ⟨rfl, rfl⟩
theorem mergeK_mem {k : Key} {v : V} : ∀ {more acc : List (Key × V)}, (k, v) ∈ mergeK acc more → (k, v) ∈ acc ∨ (k, v) ∈ more
  | [], _, h => .inl h
  | p :: r, acc, h => by
    have h' : (k, v) ∈ mergeK (putK acc p.1 p.2) r := h
    rcases mergeK_mem h' with h | h
    · rcases putK_mem h with h | ⟨e1, e2⟩
      · exact .inl h
      · subst e1 e2
        exact .inr List.mem_cons_self
    · exact .inr (List.mem_cons_of_mem _ h)
section
variable {P : Program} {w : World} {K : PySem.W.Frag} {mg : Str → Option Value} {base : Heap}
def SpK (rows : List Row) (k : Key) (v : V) : Prop := ∃ r ∈ rows, r.w = .spring ∧ k = .inr r.nm ∧ v = .int (r.per : Int)
theorem pairs_of {H : Hp} {rows : List Row} : ∀ ys : List V, (∀ y ∈ ys, ∃ t r, y = .ref t ∧ H t = some (.tup [.str r.nm, .int (r.per : Int)]) ∧ r ∈ rows ∧ r.w = .spring) →
    ∃ (ps : List Addr) (kvs : List (Key × V)), ys = ps.map V.ref ∧ Paired (fun p (kv : Key × V) => SqT K H p [kV kv.1, kv.2]) ps kvs ∧ ∀ k v, (k, v) ∈ kvs → SpK rows k v
  | [], _ => ⟨[], [], rfl, .nil, fun _ _ h => nomatch h⟩
  | y :: ys, h => by
    obtain ⟨ps, kvs, e1, e2, e3⟩ := pairs_of ys fun z hz => h z (List.mem_cons_of_mem _ hz)
    obtain ⟨t, r, rfl, ht, hr, hw⟩ := h y List.mem_cons_self
    refine ⟨t :: ps, (.inr r.nm, .int (r.per : Int)) :: kvs, by rw [e1]; rfl, .cons (SqT.of ht) e2, fun k v m => ?_⟩
    rcases List.mem_cons.mp m with m | m
    · cases m
      exact ⟨r, hr, hw, rfl, rfl⟩
    · exact e3 k v m
def sp_springs_of (K : PySem.W.Frag) : Sp := fun vs H Q _ => ∃ (nd : Addr) (rvs : List V) (rows : List Row), vs = [.ref nd] ∧ SqT K H nd rvs ∧ All2 (RowV K H) rvs rows ∧ rows.length ≤ 100 ∧
  ∀ d H' kvs, Same H H' → H d = none → H' d = some (.dK kvs) → (∀ k v, (k, v) ∈ kvs → SpK rows k v) → Q (.ref d) H'
/-! ### springs_of -/
abbrev n_springs_of : List Str := ["nodes", "row"]
theorem sc_springs_of : FnScope n_springs_of ["nodes"] (defScope s_springs_of) := ⟨rfl, rfl, rfl, by decide +kernel, rfl, by decide +kernel, by decide +kernel⟩
theorem c_springs_of (T : TX K mg) : Cal P w K mg base "springs_of" ["nodes"] [] 1 (sp_springs_of K) := by
  refine cal_of T.g_springs_of T.f_springs_of (fun _ _ _ _ _ _ us hl => match us, hl with | [_], _ => rfl) fun fd F => okN F sc_springs_of (fun vs H Q E h => ?_) (fun cdv A outer s H vs Q E hr h => ?_)
  · obtain ⟨nd, rvs, rows, rfl, hT, hR, h100, q⟩ := h
    rfl
  · obtain ⟨nd, rvs, rows, rfl, hT, hR, h100, q⟩ := h
    refine ⟨_, 
      (pss_one
        (ps_ret (pe_callTy (call_dictP rfl) (by rfl) T.z_dict (by decide +kernel) (pa_cons (pe_callB cr_sortedTx (by rfl) T.z_sorted (by decide +kernel) (pa_cons (pe_lc (own := [("row", 1)]) rfl sc_springs_of.nd (pi_tup (pv 0)) (blkOk_by (N := n_springs_of) (sc := defScope s_springs_of) (by decide +kernel)) (fun _ _ _ _ _ => pg_name (i := 1) sc_springs_of.nd rfl (by first | exact Or.inl rfl | exact Or.inr rfl)) (fun _ _ _ _ _ => pts_one (pt_cmpR op_eq (pe_ix (ixT (K := K)) (pv 1) pe_int (fun _ _ => rfl)) pe_str (nomark _))) (fun _ _ _ _ _ => (pe_tup (pa_cons (pe_ix (ixT (K := K)) (pv 1) pe_int (fun _ _ => rfl)) (pa_cons (pe_ix (ixT (K := K)) (pv 1) pe_int (fun _ _ => rfl)) pa_nil))))) pa_nil)) pa_nil)))), ?_⟩
    refine ⟨_, rfl, nd, rfl, ⟨_, hT⟩, fun D hD => ?_⟩
    refine lc_tup (K := K) (a := nd) (xs := rvs) (fun i H' => Same H H' ∧ ∃ ws, H' D = some (.lst ws) ∧ ws.length ≤ i ∧ ∀ y ∈ ws, ∃ t r, y = .ref t ∧ H' t = some (.tup [.str r.nm, .int (r.per : Int)]) ∧ r ∈ rows ∧ r.w = .spring)
      ⟨same_upd hD, [], upd_same, Nat.le_refl _, fun _ h => nomatch h⟩ (fun i H' _ z => SqT.same hT z.1) ?_ ?_
    · rintro i x H' hx ⟨z1, ws, z2, z3, z4⟩
      obtain ⟨r, r1, r2⟩ := hR.at' hx
      obtain ⟨a, ta, u, rfl, h1, h2, h3⟩ := id r2
      have h1' := SqT.same h1 z1
      refine ⟨rfl, _, rfl, a, _, 0, _, rfl, rfl, h1', at0, rfl, _, rfl, wif r.w .spring (fun e => ?_) (fun e => ?_)⟩
      · have hu1 : u = .str r.nm := by
          unfold WhatV at h2
          rw [e] at h2
          exact h2
        subst hu1
        refine ⟨_, rfl, a, _, 1, _, rfl, rfl, h1', at1, _, rfl, a, _, 3, _, rfl, rfl, h1', at3, by show 2 ≤ sizeLine; decide, fun t ht => ?_⟩
        have s1 := same_upd (o := .tup [.str r.nm, .int (r.per : Int)]) ht
        have hi := (List.getElem?_eq_some_iff.mp r1).1
        have hD1 := s1 _ _ z2
        refine ⟨ws, hD1, small1000 (by omega), same_upd_new (z1.trans s1) hD, _, upd_same, by rw [List.length_append]; exact Nat.succ_le_succ z3, fun y hy => ?_⟩
        rcases List.mem_append.mp hy with hy | hy
        · obtain ⟨t', r', e1, e2, e3⟩ := z4 y hy
          have n : t' ≠ D := by
            rintro rfl
            rw [z2] at e2
            cases e2
          exact ⟨t', r', e1, by rw [upd_ne n]; exact s1 _ _ e2, e3⟩
        · rw [List.mem_singleton] at hy
          subst hy
          have n : t ≠ D := by
            rintro rfl
            rw [z2] at ht
            cases ht
          exact ⟨t, r, rfl, by rw [upd_ne n]; exact upd_same, List.mem_of_getElem? r1, e⟩
      · exact ⟨z1, ws, z2, Nat.le_succ_of_le z3, z4⟩
    · rintro H' ⟨z1, ws, z2, z3, z4⟩
      refine ⟨D, ws, rfl, SqL.of z2, fun x hx => ?_, fun ys p hp hpn => ?_⟩
      · obtain ⟨t, r, e1, e2, _⟩ := z4 x hx
        exact ⟨t, _, _, e1, e2⟩
      · have s1 := same_upd (o := .lst ys) hpn
        obtain ⟨ps, kvs, e1, e2, e3⟩ := pairs_of (K := K) (H := upd H' p (.lst ys)) (rows := rows) ys fun y hy => by
          obtain ⟨t, r, f1, f2, f3⟩ := z4 y (hp.mem_iff.mp hy)
          exact ⟨t, r, f1, s1 _ _ f2, f3⟩
        refine ⟨p, ps, kvs, rfl, SqL.of (by rw [← e1]; exact upd_same), e2, fun d hd => ?_⟩
        have s2 := same_upd (o := .dK (mergeK [] kvs)) hd
        have zz := z1.trans s1
        exact q d _ _ (zz.trans s2) (zz.free hd) upd_same fun k v m => (mergeK_mem m).elim (fun h => nomatch h) (e3 k v)
/-- what the springs tell, by name and place, stands in the dict at g -/
def GivenD (K : PySem.W.Frag) (H : Hp) (g : Addr) (rows : List Row) (beats : Nat) (gv : Str → Nat → Rat) : Prop := ∃ gk, Rd H g (.dK gk) ∧ ∀ r ∈ rows, r.w = .spring → ∃ (b : Addr) (ws : List V) (qs : List Rat), valV gk (.inr r.nm) = some (.ref b) ∧ SqL K H b ws ∧ NumsV K H ws qs ∧
  manyN r.per beats ≤ qs.length ∧ ∀ c, c < manyN r.per beats → qs[c]? = some (gv r.nm c)
theorem GivenD.same {H H' : Hp} {g : Addr} {rows : List Row} {beats : Nat} {gv : Str → Nat → Rat} (h : GivenD K H g rows beats gv) (e : Same H H') : GivenD K H' g rows beats gv := by
  obtain ⟨gk, h1, h2⟩ := h
  refine ⟨gk, rd_same e h1, fun r hr hw => ?_⟩
  obtain ⟨b, ws, qs, g1, g2, g3, g4⟩ := h2 r hr hw
  exact ⟨b, ws, qs, g1, e.seq g2, g3.imp fun _ _ z => z.same e, g4⟩
def sp_look_given (K : PySem.W.Frag) : Sp := fun vs H Q _ => ∃ (nd g : Addr) (rvs : List V) (rows : List Row) (beats : Nat) (gv : Str → Nat → Rat), vs = [.ref nd, .ref g, .int beats] ∧ SqT K H nd rvs ∧ All2 (RowV K H) rvs rows ∧ rows.length ≤ 100 ∧ (∀ r ∈ rows, 1 ≤ r.per ∧ r.per ≤ 16) ∧
  GivenD K H g rows beats gv ∧ ∀ H', Same H H' → Q .non H'
/-! ### look_given -/
abbrev n_look_given : List Str := ["nodes", "given", "beats", "name", "period"]
theorem sc_look_given : FnScope n_look_given ["nodes", "given", "beats"] (defScope s_look_given) := ⟨rfl, rfl, rfl, by decide +kernel, rfl, by decide +kernel, by decide +kernel⟩
theorem c_look_given (T : TX K mg) : Cal P w K mg base "look_given" ["nodes", "given", "beats"] [] 2 (sp_look_given K) := by
  refine cal_of T.g_look_given T.f_look_given (fun _ _ _ _ _ _ us hl => match us, hl with | [_, _, _], _ => rfl) fun fd F => okN F sc_look_given (fun vs H Q E h => ?_) (fun cdv A outer s H vs Q E hr h => ?_)
  · obtain ⟨nd, g, rvs, rows, beats, gv, rfl, hT, hR, h100, hper, hG, q⟩ := h
    rfl
  · obtain ⟨nd, g, rvs, rows, beats, gv, rfl, hT, hR, h100, hper, hG, q⟩ := h
    have hu := hu_of hr
    refine ⟨_, 
      (pss_one
        (ps_for PassesOwn.never rfl (pi_items (pe_frz (pe_cal (c_springs_of T) (hr.mono (by decide)) (pa_cons (pv 0) pa_nil)))) (pg_tup (by rfl) (pgs_cons (pg_name (i := 3) sc_look_given.nd rfl (by first | exact Or.inl rfl | exact Or.inr rfl)) (pgs_cons (pg_name (i := 4) sc_look_given.nd rfl (by first | exact Or.inl rfl | exact Or.inr rfl)) pgs_nil)))
          (pss_one
            (ps_if (PW.pt (pw_or (pt_cmp (pc_dnotin hu (pv 3) (pv 1))) (pw_or1 (pt_cmpR op_lt (pe_callB (lenSeqK (K := K)) (by rfl) T.z_len (by decide +kernel) (pa_cons (pe_dget hu (pv 1) (pv 3) (fun _ _ => rfl)) pa_nil)) (pe_cal (c_many_told T) (hr.mono (by decide)) (pa_cons (pv 4) (pa_cons (pv 2) pa_nil))) (nomark _)))))
              (pss_one
                ps_never)
              pss_nil)))), ?_⟩
    refine ⟨_, rfl, nd, rvs, rows, rfl, hT, hR, h100, fun d H1 kvs s1 hd0 hd1 hk => ⟨d, _, rfl, hd1, trivial, fun od => ⟨d, od, kvs, rfl, upd_same, ?_⟩⟩⟩
    have s2 : Same H (upd H1 d (.frz od (.dK kvs))) := same_upd_new s1 hd0
    refine for_it walk_items (fun i σ H' => Same (upd H1 d (.frz od (.dK kvs))) H' ∧ ∃ x y, σ = [some (.ref nd), some (.ref g), some (.int beats), x, y]) ⟨fun _ _ h => h, none, none, rfl⟩ (fun i σ H' _ z => z.1 _ _ upd_same) ?_ ?_
    · rintro i y σ H2 H2' hi ⟨z1, x3, x4, rfl⟩ ⟨T1, u1, y1, rfl, hT1, rfl, e1, e2⟩
      obtain ⟨k, e, rfl⟩ := key_at e1 e2
      obtain ⟨r, r1, r2, rfl, rfl⟩ := hk _ _ (List.mem_of_getElem? e)
      have sT := same_upd (o := .tup [.str r.nm, .int (r.per : Int)]) hT1
      have s3 := (s2.trans z1).trans sT
      refine ⟨T1, _, rfl, SqT.of upd_same, rfl, _, _, rfl, _, _, rfl, rfl, ?_⟩
      obtain ⟨gk, g1, g2⟩ := hG.same s3
      obtain ⟨b, ws, qs, f1, f2, f3, f4, f5⟩ := g2 r r1 r2
      obtain ⟨p1, p2⟩ := hper r r1
      have hl := f3.len
      refine ⟨_, rfl, _, rfl, g, some (.ref b), rfl, .inl ⟨gk, .inr r.nm, g1, rfl, f1.symm⟩, _, rfl, ?_⟩
      refine iteF ⟨_, rfl, _, rfl, g, .ref b, rfl, .inl ⟨gk, .inr r.nm, g1, rfl, f1.symm⟩, b, ws, rfl, .inl f2, _, rfl, _, rfl, r.per, beats, rfl, p1, p2, _, _, rfl, rfl, _, rfl, ?_⟩
      have ed : decide ((ws.length : Int) < ((manyN r.per beats : Nat) : Int)) = false := decide_eq_false (by omega)
      rw [ed]
      exact iteF ⟨z1.trans sT, _, _, rfl⟩
    · rintro σ H2 ⟨z1, x3, x4, rfl⟩
      exact q H2 (s2.trans z1)
end
end K70
/-! K70, part M: graphs, plainly: what each node's numbers are. -/
namespace K70
open PySem PySem.Spec PyProof.Rows L2
theorem manyN_lt {p b x : Nat} (hp : 1 ≤ p) : x < manyN p b ↔ x * p < b := by
  unfold manyN
  rw [Nat.lt_div_iff_mul_lt (by omega)]
  omega
theorem manyN_zero {p : Nat} (hp : 1 ≤ p) : manyN p 0 = 0 := by
  unfold manyN
  exact Nat.div_eq_of_lt (by omega)
/-- behind a round: one more where the period divides -/
theorem manyN_succ {p b : Nat} (hp : 1 ≤ p) : manyN p (b + 1) = if b % p = 0 then b / p + 1 else manyN p b := by
  have h := Nat.div_add_mod b p
  have hm := Nat.mod_lt b (show 0 < p by omega)
  split
  · rename_i e
    refine Nat.le_antisymm ?_ ?_
    · refine Nat.not_lt.mp fun c => ?_
      have z := (manyN_lt hp).mp c
      rw [Nat.add_mul, Nat.mul_comm] at z
      omega
    · have z : b / p < manyN p (b + 1) := (manyN_lt hp).mpr (by rw [Nat.mul_comm]; omega)
      exact z
  · rename_i e
    refine Nat.le_antisymm (Nat.not_lt.mp fun c => ?_) (Nat.not_lt.mp fun c => ?_)
    · have z := (manyN_lt hp).mp c
      have z2 : ¬ manyN p b * p < b := fun y => Nat.lt_irrefl _ ((manyN_lt hp).mpr y)
      have e2 : manyN p b * p = b := by omega
      exact e (by rw [← e2]; exact Nat.mul_mod_left _ _)
    · have z := (manyN_lt hp).mp c
      have z2 : ¬ manyN p (b + 1) * p < b + 1 := fun y => Nat.lt_irrefl _ ((manyN_lt hp).mpr y)
      omega
theorem manyN_div {p b : Nat} (hp : 1 ≤ p) (h : b % p = 0) : manyN p b = b / p := by
  have e := Nat.div_add_mod b p
  refine Nat.le_antisymm (Nat.not_lt.mp fun c => ?_) (Nat.not_lt.mp fun c => ?_)
  · have z := (manyN_lt hp).mp c
    rw [Nat.mul_comm] at z
    omega
  · have z : ¬ manyN p b * p < b := fun y => Nat.lt_irrefl _ ((manyN_lt hp).mpr y)
    have w := Nat.mul_le_mul_right p (Nat.succ_le_of_lt c)
    rw [Nat.succ_mul, Nat.mul_comm (b / p)] at w
    omega
/-- a graph as the law's graphs are -/
structure GOk (rows : List Row) (rk : Nat → Nat) : Prop where
  len : rows.length ≤ 9
  ar : ∀ r ∈ rows, r.args.length = r.w.ar
  lt : ∀ r ∈ rows, ∀ a ∈ r.args, a < rows.length
  per : ∀ r ∈ rows, 1 ≤ r.per ∧ r.per ≤ 16
  q : ∀ r ∈ rows, Sz 4 4 r.q
  rel : ∀ r ∈ rows, ∀ a ∈ r.args, ∀ ra, rows[a]? = some ra → match r.w with
    | .half => r.per = 2 * ra.per
    | .twice => 2 * r.per = ra.per
    | _ => ra.per = r.per
  rk : ∀ (j : Nat) (r : Row), rows[j]? = some r → rk j < 9 ∧ (r.w ≠ .late → ∀ a ∈ r.args, rk a < rk j)
/-- what the node's number asks of the others -/
theorem stepV_congr {gv : Str → Nat → Rat} {v v' : Nat → Nat → Rat} {r : Row} {c : Nat} (h1 : r.w = .late → c ≠ 0 → v (r.args.getD 0 0) (c - 1) = v' (r.args.getD 0 0) (c - 1))
    (h2 : r.w ≠ .spring → r.w ≠ .fixed → r.w ≠ .late → ∀ a ∈ r.args, v a (placeR r.w c) = v' a (placeR r.w c)) : stepV gv v r c = stepV gv v' r c := by
  unfold stepV
  split
  · rfl
  · rfl
  · rename_i e
    split
    · rfl
    · rename_i hc
      exact h1 e hc
  · rename_i e1 e2 e3
    have z := h2 e1 e2 e3
    rw [List.map_congr_left z]
def tick (r : Row) (c : Nat) : Nat := c * r.per
section
variable {rows : List Row} {rk : Nat → Nat}
/-- an arg's place lies earlier, or in the same round and lower -/
theorem GOk.place (G : GOk rows rk) {j : Nat} {r : Row} (hr : rows[j]? = some r) {a : Nat} (ha : a ∈ r.args) : ∃ ra, rows[a]? = some ra ∧ (r.w ≠ .late → ∀ c, placeR r.w c * ra.per ≤ c * r.per) ∧ (r.w = .late → ra.per = r.per) := by
  have hm := List.mem_of_getElem? hr
  have hlt := G.lt r hm a ha
  have hra : rows[a]? = some rows[a] := List.getElem?_eq_getElem hlt
  have z := G.rel r hm a ha _ hra
  refine ⟨rows[a], hra, fun hl c => ?_, fun hl => ?_⟩
  · generalize rows[a] = ra at z
    generalize r.w = ww at z hl
    cases ww with
    | half =>
      have e : r.per = 2 * ra.per := z
      show 2 * c * ra.per ≤ c * r.per
      rw [e, Nat.mul_comm 2 c, Nat.mul_assoc]
      exact Nat.le_refl _
    | twice =>
      have e : 2 * r.per = ra.per := z
      show c / 2 * ra.per ≤ c * r.per
      rw [← e, ← Nat.mul_assoc]
      exact Nat.mul_le_mul_right _ (Nat.div_mul_le_self c 2)
    | late => exact absurd rfl hl
    | _ =>
      have e : ra.per = r.per := z
      show c * ra.per ≤ c * r.per
      rw [e]
      exact Nat.le_refl _
  · rw [hl] at z
    exact z
def mu (rk : Nat → Nat) (j : Nat) (r : Row) (c : Nat) : Nat := 9 * (c * r.per) + rk j
theorem GOk.mu_arg (G : GOk rows rk) {j : Nat} {r : Row} (hr : rows[j]? = some r) {a : Nat} (ha : a ∈ r.args) (hl : r.w ≠ .late) (c : Nat) : ∃ ra, rows[a]? = some ra ∧ mu rk a ra (placeR r.w c) < mu rk j r c := by
  obtain ⟨ra, e, h1, _⟩ := G.place hr ha
  have z := h1 hl c
  have k := (G.rk j r hr).2 hl a ha
  exact ⟨ra, e, by unfold mu; omega⟩
theorem GOk.mu_late (G : GOk rows rk) {j : Nat} {r : Row} (hr : rows[j]? = some r) (hl : r.w = .late) {c : Nat} (hc : c ≠ 0) : ∃ ra, rows[r.args.getD 0 0]? = some ra ∧ r.args.getD 0 0 ∈ r.args ∧ ra.per = r.per ∧ mu rk (r.args.getD 0 0) ra (c - 1) < mu rk j r c := by
  have hm := List.mem_of_getElem? hr
  obtain ⟨x0, hx⟩ := len1 (l := r.args) (by rw [G.ar r hm, hl]; rfl)
  have ha : r.args.getD 0 0 ∈ r.args := by
    rw [hx]
    exact List.mem_singleton.mpr rfl
  obtain ⟨ra, e, _, h2⟩ := G.place hr ha
  have hp := h2 hl
  have k := (G.rk _ _ e).1
  have p1 := (G.per r hm).1
  refine ⟨ra, e, ha, hp, ?_⟩
  unfold mu
  obtain ⟨d, rfl⟩ : ∃ d, c = d + 1 := ⟨c - 1, by omega⟩
  rw [hp, Nat.add_sub_cancel, Nat.add_mul, Nat.one_mul]
  omega
/-- each node's number, by so many steps -/
def val (rows : List Row) (gv : Str → Nat → Rat) (cut : Option Nat) : Nat → Nat → Nat → Rat
  | 0, _, _ => 0
  | n + 1, j, c => match rows[j]? with
    | some r => cutO cut (stepV gv (val rows gv cut n) r c)
    | none => 0
theorem val_stable (G : GOk rows rk) (gv : Str → Nat → Rat) (cut : Option Nat) : ∀ (m : Nat) (j : Nat) (r : Row) (c n n' : Nat), rows[j]? = some r → mu rk j r c < m → m ≤ n → m ≤ n' → val rows gv cut n j c = val rows gv cut n' j c := by
  intro m
  induction m with
  | zero =>
    intro j r c n n' hr h
    omega
  | succ m ih =>
    intro j r c n n' hr h h1 h2
    obtain ⟨n, rfl⟩ : ∃ d, n = d + 1 := ⟨n - 1, by omega⟩
    obtain ⟨n', rfl⟩ : ∃ d, n' = d + 1 := ⟨n' - 1, by omega⟩
    unfold val
    rw [hr]
    show cutO cut (stepV gv (val rows gv cut n) r c) = cutO cut (stepV gv (val rows gv cut n') r c)
    congr 1
    refine stepV_congr (fun hl hc => ?_) (fun _ _ hl a ha => ?_)
    · obtain ⟨ra, e, _, _, k⟩ := G.mu_late hr hl hc
      exact ih _ ra _ n n' e (by omega) (by omega) (by omega)
    · obtain ⟨ra, e, k⟩ := G.mu_arg hr ha hl c
      exact ih _ ra _ n n' e (by omega) (by omega) (by omega)
/-- v tells each node's numbers -/
def Sol (rows : List Row) (gv : Str → Nat → Rat) (cut : Option Nat) (beats : Nat) (v : Nat → Nat → Rat) : Prop := ∀ (j : Nat) (r : Row) (c : Nat), rows[j]? = some r → c < manyN r.per beats → v j c = cutO cut (stepV gv v r c)
theorem GOk.mu_lt (G : GOk rows rk) {j : Nat} {r : Row} {c beats : Nat} (hr : rows[j]? = some r) (hb : beats ≤ 8) (hc : c < manyN r.per beats) : mu rk j r c < 72 := by
  have p := G.per r (List.mem_of_getElem? hr)
  have z := (manyN_lt p.1).mp hc
  have k := (G.rk j r hr).1
  unfold mu
  omega
def valS (rows : List Row) (gv : Str → Nat → Rat) (cut : Option Nat) : Nat → Nat → Rat := val rows gv cut 100
theorem val_sol (G : GOk rows rk) (gv : Str → Nat → Rat) (cut : Option Nat) {beats : Nat} (hb : beats ≤ 8) : Sol rows gv cut beats (valS rows gv cut) := by
  intro j r c hr hc
  have k := G.mu_lt hr hb hc
  have e := val_stable G gv cut 100 j r c 100 101 hr (by omega) (by omega) (by omega)
  unfold valS
  rw [e]
  show (match rows[j]? with
    | some r => cutO cut (stepV gv (val rows gv cut 100) r c)
    | none => 0) = _
  rw [hr]
/-- the places turned, the numbers are the same -/
theorem val_turned {rows' : List Row} {σ : Nat → Nat} (gv : Str → Nat → Rat) (cut : Option Nat) (hlt : ∀ r ∈ rows, ∀ a ∈ r.args, a < rows.length) (har : ∀ r ∈ rows, r.args.length = r.w.ar)
    (h : ∀ (j : Nat) (r : Row), rows[j]? = some r → rows'[σ j]? = some { r with args := r.args.map σ }) : ∀ (n j c : Nat), j < rows.length → val rows' gv cut n (σ j) c = val rows gv cut n j c := by
  intro n
  induction n with
  | zero =>
    intro j c hj
    rfl
  | succ n ih =>
    intro j c hj
    have hr : rows[j]? = some rows[j] := List.getElem?_eq_getElem hj
    generalize rows[j] = r at hr
    have hm := List.mem_of_getElem? hr
    unfold val
    rw [hr, h j r hr]
    show cutO cut (stepV gv (val rows' gv cut n) { r with args := r.args.map σ } c) = cutO cut (stepV gv (val rows gv cut n) r c)
    congr 1
    unfold stepV
    split
    · rename_i e
      have e' : r.w = .spring := e
      rw [e']
    · rename_i e
      have e' : r.w = .fixed := e
      rw [e']
    · rename_i e
      have e' : r.w = .late := e
      rw [e']
      show (if c = 0 then r.q else val rows' gv cut n ((r.args.map σ).getD 0 0) (c - 1)) = if c = 0 then r.q else val rows gv cut n (r.args.getD 0 0) (c - 1)
      obtain ⟨x0, hx⟩ := len1 (l := r.args) (by rw [har r hm, e']; rfl)
      rw [hx]
      show (if c = 0 then r.q else val rows' gv cut n (σ x0) (c - 1)) = if c = 0 then r.q else val rows gv cut n x0 (c - 1)
      rw [ih x0 (c - 1) (hlt r hm x0 (by rw [hx]; exact List.mem_singleton.mpr rfl))]
    · rename_i e1 e2 e3
      have f1 : r.w ≠ .spring := e1
      have f2 : r.w ≠ .fixed := e2
      have f3 : r.w ≠ .late := e3
      show combR r.w r.q ((r.args.map σ).map fun a => val rows' gv cut n a (placeR r.w c)) = _
      have e : (r.args.map σ).map (fun a => val rows' gv cut n a (placeR r.w c)) = r.args.map fun a => val rows gv cut n a (placeR r.w c) := by
        rw [List.map_map]
        exact List.map_congr_left fun a ha => ih a _ (hlt r hm a ha)
      rw [e]
/-! ### sizes -/
theorem combR_sz {d k : Nat} {w : Wd} {q : Rat} {xs : List Rat} (hq : Sz 4 4 q) (h : ∀ x ∈ xs, Sz d k x) : Sz (d + 4) (k + 4) (combR w q xs) := by
  have g : ∀ i, Sz d k (xs.getD i 0) := fun i => by
    rw [List.getD_eq_getElem?_getD]
    cases e : xs[i]? with
    | none => exact Sz.zero _ _
    | some x => exact h x (List.mem_of_getElem? e)
  have m : ∀ i, Sz (d + 4) (k + 4) (xs.getD i 0) := fun i => (g i).mono (by omega) (by omega)
  unfold combR
  split
  · exact ((g 0).add (g 1)).mono (by omega) (by omega)
  · exact ((g 0).sub (g 1)).mono (by omega) (by omega)
  · have z := hq.mul (g 0)
    exact z.mono (by omega) (by omega)
  · split
    · exact m 1
    · exact m 2
  · split
    · exact m 1
    · exact m 0
  · split
    · exact m 0
    · exact m 1
  · exact m 0
theorem cutO_sz {cut : Option Nat} {d k : Nat} {x : Rat} (h : Sz d k x) (hc : ∀ f, cut = some f → f ≤ d) : Sz d (k + 1) (cutO cut x) := by
  cases cut with
  | none => exact h.mono (Nat.le_refl _) (by omega)
  | some f => exact (cutR_sz h).mono (hc f rfl) (Nat.le_refl _)
theorem step_sz {gv : Str → Nat → Rat} {v : Nat → Nat → Rat} {r : Row} {c d : Nat} (hd : 20 ≤ d) (hq : Sz 4 4 r.q) (hs : r.w = .spring → Sz 20 20 (gv r.nm c)) (h1 : r.w = .late → c ≠ 0 → Sz d d (v (r.args.getD 0 0) (c - 1)))
    (h2 : r.w ≠ .spring → r.w ≠ .fixed → r.w ≠ .late → ∀ a ∈ r.args, Sz d d (v a (placeR r.w c))) : Sz (d + 4) (d + 4) (stepV gv v r c) := by
  unfold stepV
  split
  · rename_i e
    exact (hs e).mono (by omega) (by omega)
  · exact hq.mono (by omega) (by omega)
  · rename_i e
    split
    · exact hq.mono (by omega) (by omega)
    · rename_i hc
      exact (h1 e hc).mono (by omega) (by omega)
  · rename_i e1 e2 e3
    refine combR_sz hq fun x hx => ?_
    obtain ⟨a, ha, rfl⟩ := List.mem_map.mp hx
    exact h2 e1 e2 e3 a ha
theorem sol_sz (G : GOk rows rk) {gv : Str → Nat → Rat} {cut : Option Nat} {beats : Nat} {v : Nat → Nat → Rat} (S : Sol rows gv cut beats v) (hcut : ∀ f, cut = some f → f ≤ 14)
    (hs : ∀ r ∈ rows, r.w = .spring → ∀ c, c < manyN r.per beats → Sz 20 20 (gv r.nm c)) : ∀ (m j : Nat) (r : Row) (c : Nat), rows[j]? = some r → c < manyN r.per beats → mu rk j r c < m →
    Sz (20 + 5 * m) (20 + 5 * m) (v j c) ∧ Sz (20 + 5 * m) (20 + 5 * m) (stepV gv v r c) := by
  intro m
  induction m with
  | zero =>
    intro j r c _ _ h
    omega
  | succ m ih =>
    intro j r c hr hc h
    have hm := List.mem_of_getElem? hr
    have p := G.per r hm
    have hc' := (manyN_lt p.1).mp hc
    have z : Sz (20 + 5 * m + 4) (20 + 5 * m + 4) (stepV gv v r c) := by
      refine step_sz (by omega) (G.q r hm) (fun e => hs r hm e c hc) (fun hl h0 => ?_) (fun _ _ hl a ha => ?_)
      · obtain ⟨ra, e, _, ep, k⟩ := G.mu_late hr hl h0
        refine (ih _ ra _ e ?_ (by omega)).1
        rw [ep]
        refine (manyN_lt p.1).mpr ?_
        have q := Nat.mul_le_mul_right r.per (show c - 1 ≤ c by omega)
        omega
      · obtain ⟨ra, e, k⟩ := G.mu_arg hr ha hl c
        refine (ih _ ra _ e ?_ (by omega)).1
        have p2 := G.per ra (List.mem_of_getElem? e)
        refine (manyN_lt p2.1).mpr ?_
        obtain ⟨ra', e', h1, _⟩ := G.place hr ha
        rw [e] at e'
        cases e'
        have q := h1 hl c
        omega
    refine ⟨?_, z.mono (by omega) (by omega)⟩
    rw [S j r c hr hc]
    exact (cutO_sz z fun f hf => by have := hcut f hf; omega).mono (by omega) (by omega)
/-- a NUMBER of the graph, and what it was cut from -/
theorem sol_bd (G : GOk rows rk) {gv : Str → Nat → Rat} {cut : Option Nat} {beats : Nat} {v : Nat → Nat → Rat} (S : Sol rows gv cut beats v) (hcut : ∀ f, cut = some f → f ≤ 14) (hb : beats ≤ 8)
    (hs : ∀ r ∈ rows, r.w = .spring → ∀ c, c < manyN r.per beats → Sz 20 20 (gv r.nm c)) {j : Nat} {r : Row} {c : Nat} (hr : rows[j]? = some r) (hc : c < manyN r.per beats) : Bd (v j c) ∧ Bd (stepV gv v r c) := by
  have z := sol_sz G S hcut hs 72 j r c hr hc (G.mu_lt hr hb hc)
  exact ⟨z.1.bd (by decide) (by decide), z.2.bd (by decide) (by decide)⟩
/-! ### the lists as they grow -/
def perAt (rows : List Row) (j : Nat) : Nat := (rows[j]?.map Row.per).getD 1
theorem perAt_eq {j : Nat} {r : Row} (h : rows[j]? = some r) : perAt rows j = r.per := by
  unfold perAt
  rw [h]
  rfl
def cntAt (rows : List Row) (b : Nat) (done : List Nat) (j : Nat) : Nat := manyN (perAt rows j) (if j ∈ done then b + 1 else b)
def tabC {α : Type} (n : Nat) (v : Nat → Nat → α) (cnt : Nat → Nat) : List (List α) := (List.range n).map fun j => (List.range (cnt j)).map (v j)
theorem tabC_get {α : Type} {n : Nat} {v : Nat → Nat → α} {cnt : Nat → Nat} {j : Nat} (h : j < n) : (tabC n v cnt)[j]? = some ((List.range (cnt j)).map (v j)) := by
  unfold tabC
  rw [List.getElem?_map, List.getElem?_range h]
  rfl
theorem tabC_len {α : Type} (n : Nat) (v : Nat → Nat → α) (cnt : Nat → Nat) : (tabC n v cnt).length = n := by
  unfold tabC
  rw [List.length_map, List.length_range]
theorem tabC_vof {α : Type} {n : Nat} {v : Nat → Nat → α} {cnt : Nat → Nat} {d : α} {j c : Nat} (h : j < n) (hc : c < cnt j) : vof d (tabC n v cnt) j c = v j c := by
  have e := vof_get (dflt := d) (tabC_get (v := v) (cnt := cnt) h) (by rw [List.length_map, List.length_range]; exact hc)
  rw [List.getElem?_map, List.getElem?_range hc] at e
  exact (Option.some.inj e).symm
theorem tabC_mem {α : Type} {n : Nat} {v : Nat → Nat → α} {cnt : Nat → Nat} {j : Nat} {l : List α} {x : α} (h : (tabC n v cnt)[j]? = some l) (hx : x ∈ l) : j < n ∧ ∃ c, c < cnt j ∧ x = v j c := by
  have hj : j < n := by
    have z := (List.getElem?_eq_some_iff.mp h).1
    rwa [tabC_len] at z
  rw [tabC_get hj] at h
  cases h
  obtain ⟨c, hc, rfl⟩ := List.mem_map.mp hx
  exact ⟨hj, c, List.mem_range.mp hc, rfl⟩
theorem tabC_congr {α : Type} {n : Nat} {v : Nat → Nat → α} {cnt cnt' : Nat → Nat} (h : ∀ j, j < n → cnt j = cnt' j) : tabC n v cnt = tabC n v cnt' := by
  unfold tabC
  refine List.map_congr_left fun j hj => ?_
  rw [h j (List.mem_range.mp hj)]
/-- one list grows by its next -/
theorem tabC_push {α : Type} {n : Nat} {v : Nat → Nat → α} {cnt cnt' : Nat → Nat} {j : Nat} (hj : j < n) (h1 : cnt' j = cnt j + 1) (h2 : ∀ i, i < n → i ≠ j → cnt' i = cnt i) :
    (tabC n v cnt).set j ((List.range (cnt j)).map (v j) ++ [v j (cnt j)]) = tabC n v cnt' := by
  apply List.ext_getElem?
  intro i
  by_cases hi : i < n
  · rw [tabC_get hi]
    by_cases e : j = i
    · subst e
      rw [List.getElem?_set_self (by rw [tabC_len]; exact hj), h1, List.range_succ, List.map_append]
      rfl
    · rw [List.getElem?_set_ne e, tabC_get hi, h2 i hi (fun z => e z.symm)]
  · rw [List.getElem?_eq_none (by rw [List.length_set, tabC_len]; omega), List.getElem?_eq_none (by rw [tabC_len]; omega)]
theorem tabC_zero {α : Type} {n : Nat} {v : Nat → Nat → α} {cnt : Nat → Nat} (h : ∀ j, j < n → cnt j = 0) : tabC n v cnt = List.replicate n [] := by
  apply List.ext_getElem?
  intro i
  by_cases hi : i < n
  · rw [tabC_get hi, h i hi, List.getElem?_replicate, if_pos hi]
    rfl
  · rw [List.getElem?_eq_none (by rw [tabC_len]; omega), List.getElem?_eq_none (by rw [List.length_replicate]; omega)]
/-- in its round a node's place is the length of its list, and what it asks for is there -/
theorem GOk.ready (G : GOk rows rk) {j : Nat} {r : Row} {b : Nat} {done : List Nat} (hr : rows[j]? = some r) (hj : j ∉ done) (hb : b % r.per = 0) (hd : r.w ≠ .late → ∀ a ∈ r.args, a ∈ done) :
    cntAt rows b done j = b / r.per ∧ cntAt rows b (j :: done) j = b / r.per + 1 ∧ (r.w = .late → b / r.per = 0 ∨ (r.args.getD 0 0 < rows.length ∧ b / r.per - 1 < cntAt rows b done (r.args.getD 0 0))) ∧
    (r.w ≠ .late → ∀ a ∈ r.args, a < rows.length ∧ placeR r.w (b / r.per) < cntAt rows b done a) := by
  have hm := List.mem_of_getElem? hr
  have p := G.per r hm
  have e : b / r.per * r.per = b := Nat.div_mul_cancel (Nat.dvd_of_mod_eq_zero hb)
  refine ⟨?_, ?_, fun hl => ?_, fun hl a ha => ?_⟩
  · unfold cntAt
    rw [if_neg hj, perAt_eq hr]
    exact manyN_div p.1 hb
  · unfold cntAt
    rw [if_pos List.mem_cons_self, perAt_eq hr, manyN_succ p.1, if_pos hb]
  · by_cases h0 : b / r.per = 0
    · exact .inl h0
    · refine .inr ?_
      obtain ⟨ra, e1, e2, e3, _⟩ := G.mu_late hr hl h0
      refine ⟨G.lt r hm _ e2, ?_⟩
      unfold cntAt
      rw [perAt_eq e1, e3]
      refine (manyN_lt p.1).mpr ?_
      obtain ⟨d, hd⟩ : ∃ d, b / r.per = d + 1 := Nat.exists_eq_succ_of_ne_zero h0
      rw [hd] at e ⊢
      rw [Nat.add_mul, Nat.one_mul] at e
      rw [Nat.add_sub_cancel]
      split <;> omega
  · obtain ⟨ra, e1, h1, _⟩ := G.place hr ha
    refine ⟨G.lt r hm a ha, ?_⟩
    have p2 := G.per ra (List.mem_of_getElem? e1)
    unfold cntAt
    rw [if_pos (hd hl a ha), perAt_eq e1]
    refine (manyN_lt p2.1).mpr ?_
    have q := h1 hl (b / r.per)
    omega
theorem cntAt_other {b : Nat} {done : List Nat} {i j : Nat} (h : i ≠ j) : cntAt rows b (j :: done) i = cntAt rows b done i := by
  unfold cntAt
  by_cases hi : i ∈ done
  · rw [if_pos hi, if_pos (List.mem_cons_of_mem _ hi)]
  · rw [if_neg hi, if_neg fun z => (List.mem_cons.mp z).elim h hi]
/-- where the period does not divide, nothing is told -/
theorem cntAt_skip (G : GOk rows rk) {b : Nat} {done : List Nat} {j : Nat} {r : Row} (hr : rows[j]? = some r) (hb : ¬ b % r.per = 0) (i : Nat) : cntAt rows b (j :: done) i = cntAt rows b done i := by
  by_cases h : i = j
  · subst h
    have p := G.per r (List.mem_of_getElem? hr)
    unfold cntAt
    rw [if_pos List.mem_cons_self, perAt_eq hr, manyN_succ p.1, if_neg hb]
    split
    · rw [manyN_succ p.1, if_neg hb]
    · rfl
  · exact cntAt_other h
end
end K70
/-! K70, part N0: how numbers_of, noise_of, off_by are bound. -/
namespace K70
open PySem PySem.Spec PyProof.Rows L2
section
variable {P : Program} {w : World} {K : PySem.W.Frag} {mg : Str → Option Value} {base : Heap}
theorem b_numbers_of {f : Addr} {fd : FuncData} (F : FnP K "numbers_of" "numbers_of" s_numbers_of [] [("figures", .non)] f fd) : ∃ ds, Vals [V.non] ds ∧ Binds K fd ["graph", "given", "beats", "figures"] ds := by
  exact F.binds0 (ps := ["graph", "given", "beats", "figures"]) 3 (by simp) rfl fun D doc pm an cdv ct us ks hu hk => match us, hu, ks, hk with | [_, _, _], _, [_], _ => ⟨_, _, _, _, _, _, rfl, rfl, rfl⟩
theorem kb_numbers_of {f : Addr} {fd : FuncData} (F : FnP K "numbers_of" "numbers_of" s_numbers_of [] [("figures", .non)] f fd) : ∃ mv : List Value, KBn K fd ["graph", "given", "beats", "figures"] 3 ["figures"] (fun us ws => us ++ ws) (fun vs zs => vs ++ zs) := by
  exact F.kbinds0 (ps := ["graph", "given", "beats", "figures"]) 3 ["figures"] [] (fun us _ ws => us ++ ws) (by simp) (by simp) (fun r _ r' => r.append r') fun D doc pm an cdv ct us mv ws hu hm hw => match us, hu, mv, hm, ws, hw with | [_, _, _], _, [], _, [_], _ => rfl
theorem kb_off_by {f : Addr} {fd : FuncData} (F : FnP K "off_by" "off_by" s_off_by [] [("figures", .int 8)] f fd) : ∃ mv : List Value, KBn K fd ["graph", "given", "beats", "figures"] 3 ["figures"] (fun us ws => us ++ ws) (fun vs zs => vs ++ zs) := by
  exact F.kbinds0 (ps := ["graph", "given", "beats", "figures"]) 3 ["figures"] [] (fun us _ ws => us ++ ws) (by simp) (by simp) (fun r _ r' => r.append r') fun D doc pm an cdv ct us mv ws hu hm hw => match us, hu, mv, hm, ws, hw with | [_, _, _], _, [], _, [_], _ => rfl
theorem kb_noise_of {f : Addr} {fd : FuncData} (F : FnP K "noise_of" "noise_of" s_noise_of [] [("figures", .int 8), ("fine", .int 6)] f fd) : ∃ mv : List Value, KBn K fd ["graph", "beats", "figures", "fine"] 2 ["figures", "fine"] (fun us ws => us ++ ws) (fun vs zs => vs ++ zs) := by
  exact F.kbinds0 (ps := ["graph", "beats", "figures", "fine"]) 2 ["figures", "fine"] [] (fun us _ ws => us ++ ws) (by simp) (by simp) (fun r _ r' => r.append r') fun D doc pm an cdv ct us mv ws hu hm hw => match us, hu, mv, hm, ws, hw with | [_, _], _, [], _, [_, _], _ => rfl
theorem kb1_noise_of {f : Addr} {fd : FuncData} (F : FnP K "noise_of" "noise_of" s_noise_of [] [("figures", .int 8), ("fine", .int 6)] f fd) : ∃ mv : List Value, KBn K fd ["graph", "beats", "figures", "fine"] 2 ["figures"] (fun us ws => us ++ ws ++ mv) (fun vs zs => vs ++ zs ++ [.int 6]) := by
  exact F.kbinds0 (ps := ["graph", "beats", "figures", "fine"]) 2 ["figures"] [("fine", .int 6)] (fun us mv ws => us ++ ws ++ mv) (by simp) (by simp) (fun r m r' => (r.append r').append m) fun D doc pm an cdv ct us mv ws hu hm hw => match us, hu, mv, hm, ws, hw with | [_, _], _, [_], _, [_], _ => ⟨_, _, _, _, _, _, rfl, rfl, rfl⟩
end
end K70
/-! K70, part N: numbers_of. -/
namespace K70
open PySem PySem.Spec PyProof.Rows L2
/-- D: a new list of new empty lists -/
structure Fresh (H H' : Hp) (D : Addr) (as : List Addr) : Prop where
  s : Same H H'
  D0 : H D = none
  top : H' D = some (.lst (as.map V.ref))
  nd : as.Nodup
  no : D ∉ as
  new : ∀ a ∈ as, H a = none ∧ H' a = some (.lst [])
theorem Fresh.start {H : Hp} {D : Addr} (h : H D = none) : Fresh H (upd H D (.lst [])) D [] := ⟨same_upd h, h, upd_same, List.nodup_nil, List.not_mem_nil, fun _ h => nomatch h⟩
theorem Fresh.step {H H' : Hp} {D l : Addr} {as : List Addr} (h : Fresh H H' D as) (hl : H' l = none) : Fresh H (upd (upd H' l (.lst [])) D (.lst (as.map V.ref ++ [.ref l]))) D (as ++ [l]) := by
  have hDl : D ≠ l := ne_of_none h.top hl
  have hla : ∀ a ∈ as, a ≠ l := fun a ha => ne_of_none (h.new a ha).2 hl
  have hDa : ∀ a ∈ as, a ≠ D := fun a ha z => h.no (z ▸ ha)
  refine ⟨same_upd_new (h.s.trans (same_upd hl)) h.D0, h.D0, by rw [upd_same, List.map_append]; rfl, ?_, fun m => ?_, fun a ha => ?_⟩
  · rw [List.nodup_append]
    refine ⟨h.nd, by simp, fun a ha b hb => ?_⟩
    rw [List.mem_singleton] at hb
    subst hb
    exact hla a ha
  · rcases List.mem_append.mp m with m | m
    · exact h.no m
    · rw [List.mem_singleton] at m
      exact hDl m
  · rcases List.mem_append.mp ha with ha | ha
    · exact ⟨(h.new a ha).1, by rw [upd_ne (hDa a ha), upd_ne (hla a ha)]; exact (h.new a ha).2⟩
    · rw [List.mem_singleton] at ha
      subst ha
      exact ⟨h.s.free hl, by rw [upd_ne (Ne.symm hDl), upd_same]⟩
theorem Fresh.more {H H' H'' : Hp} {D : Addr} {as : List Addr} (h : Fresh H H' D as) (e : Same H' H'') : Fresh H H'' D as := ⟨h.s.trans e, h.D0, e _ _ h.top, h.nd, h.no, fun a ha => ⟨(h.new a ha).1, e _ _ (h.new a ha).2⟩⟩
theorem Fresh.ll {α : Type} {P : Hp → V → α → Prop} {H H' : Hp} {D : Addr} {as : List Addr} (h : Fresh H H' D as) : LL P H' D as (List.replicate as.length []) := by
  refine ⟨h.top, h.nd, h.no, by rw [List.length_replicate], fun j a l e1 e2 => ?_⟩
  rw [List.getElem?_replicate] at e2
  split at e2
  · cases e2
    exact ⟨[], (h.new a (List.mem_of_getElem? e1)).2, .nil⟩
  · cases e2
theorem cntAt_mem {rows : List Row} {b : Nat} {d d' : List Nat} (h : ∀ x, x ∈ d ↔ x ∈ d') (j : Nat) : cntAt rows b d j = cntAt rows b d' j := by
  unfold cntAt
  by_cases hj : j ∈ d
  · rw [if_pos hj, if_pos ((h j).mp hj)]
  · rw [if_neg hj, if_neg fun z => hj ((h j).mpr z)]
theorem OrdOk.all {rows : List Row} {order : List Nat} (h : OrdOk rows order) (hl : order.length = rows.length) {j : Nat} (hj : j < rows.length) : j ∈ order := by
  refine nodup_sub_eq (l := order) (m := List.range rows.length) h.nd (fun x hx => List.mem_range.mpr (h.lt x hx)) (by rw [hl, List.length_range]) j (List.mem_range.mpr hj)
theorem mod_dec (b p : Nat) : decide (V.int (((0 : Int) + (b : Int)).fmod (p : Int)) = V.int 0) = decide (b % p = 0) := by
  have e : ((0 : Int) + (b : Int)).fmod (p : Int) = ((b % p : Nat) : Int) := by
    rw [Int.zero_add, Int.fmod_eq_emod_of_nonneg _ (Int.natCast_nonneg p)]
    exact (Int.natCast_emod b p).symm
  rw [e]
  refine decide_eq_decide.mpr ⟨fun h => ?_, fun h => by rw [h]; rfl⟩
  have q := V.int.inj h
  omega
theorem div_int (b p : Nat) : ((0 : Int) + (b : Int)) / (p : Int) = ((b / p : Nat) : Int) := by
  rw [Int.zero_add]
  exact (Int.natCast_ediv b p).symm
theorem GivenD.at {K : PySem.W.Frag} {H : Hp} {g : Addr} {rows : List Row} {beats : Nat} {gv : Str → Nat → Rat} (h : GivenD K H g rows beats gv) {r : Row} (hr : r ∈ rows) (hw : r.w = .spring) {c : Nat} (hc : c < manyN r.per beats) : GivenV K H g r.nm c (gv r.nm c) := by
  obtain ⟨gk, h1, h2⟩ := h
  obtain ⟨b, ws, qs, g1, g2, g3, g4, g5⟩ := h2 r hr hw
  exact ⟨b, ws, qs, .inl ⟨gk, .inr r.nm, h1, rfl, g1.symm⟩, g2, g3, g5 c hc⟩
section
variable {P : Program} {w : World} {K : PySem.W.Frag} {mg : Str → Option Value} {base : Heap}
/-- the graph stands at gr -/
def GraphV (K : PySem.W.Frag) (H : Hp) (gr : Addr) (rows : List Row) (ot : V) : Prop := ∃ (nd : Addr) (rvs : List V), SqT K H gr [.ref nd, ot] ∧ SqT K H nd rvs ∧ All2 (RowV K H) rvs rows
theorem GraphV.tk {H H' : Hp} {gr : Addr} {rows : List Row} {ot : V} (h : GraphV K H gr rows ot) (e : TK K H H') : GraphV K H' gr rows ot := by
  obtain ⟨nd, rvs, h1, h2, h3⟩ := h
  exact ⟨nd, rvs, e _ _ h1, e _ _ h2, h3.imp fun _ _ r => r.tk e⟩
def sp_numbers_of (K : PySem.W.Frag) : Sp := fun vs H Q _ => ∃ (gr g : Addr) (rows : List Row) (rk : Nat → Nat) (ot : V) (beats : Nat) (cut : Option Nat) (gv : Str → Nat → Rat) (v : Nat → Nat → Rat), vs = [.ref gr, .ref g, .int beats, figV cut] ∧ GraphV K H gr rows ot ∧ GOk rows rk ∧ beats ≤ 8 ∧
  GivenD K H g rows beats gv ∧ Sol rows gv cut beats v ∧ (∀ f, cut = some f → f ≤ 14) ∧ (∀ r ∈ rows, r.w = .spring → ∀ c, c < manyN r.per beats → Sz 20 20 (gv r.nm c)) ∧
  ∀ t as H', Same H H' → NLL K H' t as (tabC rows.length v fun j => manyN (perAt rows j) beats) → Q (.ref t) H'
/-! ### numbers_of -/
abbrev n_numbers_of : List Str := ["graph", "given", "beats", "figures", "nodes", "told", "order", "node", "beat", "row"]
theorem sc_numbers_of : FnScope n_numbers_of ["graph", "given", "beats", "figures"] (defScope s_numbers_of) := ⟨rfl, rfl, rfl, by decide +kernel, rfl, by decide +kernel, by decide +kernel⟩
theorem ok_numbers_of (T : TX K mg) {fd : FuncData} (F : FnP K "numbers_of" "numbers_of" s_numbers_of [] [("figures", .non)] (He.ga K "numbers_of") fd) : FnOk P w K mg base CX0 5 (He.ga K "numbers_of") fd ["graph", "given", "beats", "figures"] (sp_numbers_of K) := by
  refine okN F sc_numbers_of (fun vs H Q E h => ?_) (fun cdv A outer s H vs Q E hr h => ?_)
  · obtain ⟨gr, g, rows, rk, ot, beats, cut, gv, v, rfl, hgr, G, hb, hG, S, hcut, hsz, q⟩ := h
    rfl
  · obtain ⟨gr, g, rows, rk, ot, beats, cut, gv, v, rfl, hgr, G, hb, hG, S, hcut, hsz, q⟩ := h
    refine ⟨_, 
      (pss_cons
        (ps_set (i := 4) sc_numbers_of.nd rfl (by first | exact Or.inl rfl | exact Or.inr rfl) (pe_ix (ixT (K := K)) (pv 0) pe_int (fun _ _ => rfl)))
      (pss_cons
        (ps_expr (pe_cal (c_look_given T) (hr.mono (by decide)) (pa_cons (pv 4) (pa_cons (pv 1) (pa_cons (pv 2) pa_nil)))))
      (pss_cons
        (ps_par (i := 5) (j := 6) (by rfl) sc_numbers_of.nd rfl rfl (by decide) rfl rfl (pa_cons (pe_lc (own := [("node", 7)]) rfl sc_numbers_of.nd (pi_tup (pv 4)) (blkOk_by (N := n_numbers_of) (sc := defScope s_numbers_of) (by decide +kernel)) (fun _ _ _ _ _ => pg_name (i := 7) sc_numbers_of.nd rfl (by first | exact Or.inl rfl | exact Or.inr rfl)) (fun _ _ _ _ _ => pts_nil) (fun _ _ _ _ _ => (pe_lst pa_nil))) (pa_cons (pe_cal (c_now_order T) (hr.mono (by decide)) (pa_cons (pv 4) pa_nil)) pa_nil)) (by rfl))
      (pss_cons
        (ps_for PassesOwn.never rfl (pi_range1 (by rfl) T.z_range (pa_cons (pv 2) pa_nil)) (pg_name (i := 8) sc_numbers_of.nd rfl (by first | exact Or.inl rfl | exact Or.inr rfl))
          (pss_one
            (ps_for PassesOwn.never rfl (pi_list (pv 6)) (pg_name (i := 7) sc_numbers_of.nd rfl (by first | exact Or.inl rfl | exact Or.inr rfl))
              (pss_cons
                (ps_set (i := 9) sc_numbers_of.nd rfl (by first | exact Or.inl rfl | exact Or.inr rfl) (pe_ix (ixT (K := K)) (pv 4) (pv 7) (fun _ _ => rfl)))
              (pss_one
                (ps_if (pt_cmpR op_eq (pe_op op_modN (pv 8) (pe_ix (ixT (K := K)) (pv 9) pe_int (fun _ _ => rfl))) pe_int (nomark _))
                  (pss_one
                    (ps_expr (pe_bm PySem.F.plainAttrs_list PySem.F.slot_list_append PySem.F.type_list_append mt_append (pe_ix (ixL (K := K)) (pv 5) (pv 7) (fun _ _ => rfl)) (pa_cons (pe_cal (c_number_of T) (hr.mono (by decide)) (pa_cons (pv 9) (pa_cons (pv 5) (pa_cons (pv 1) (pa_cons (pe_op op_fdiv (pv 8) (pe_ix (ixT (K := K)) (pv 9) pe_int (fun _ _ => rfl))) (pa_cons (pv 3) pa_nil)))))) pa_nil))))
                  pss_nil))))))
      (pss_one
        (ps_ret (pv 5))))))), ?_⟩
    obtain ⟨nd, rvs, h1, h2, h3⟩ := id hgr
    have hlen := h3.len
    have h9 := G.len
    refine ⟨_, rfl, gr, _, 0, _, rfl, rfl, h1, at0, ?_⟩
    refine ⟨_, rfl, _, rfl, _, rfl, nd, g, rvs, rows, beats, gv, rfl, h2, h3, by omega, G.per, hG, fun H1 s1 => ?_⟩
    refine ⟨_, rfl, nd, rfl, ⟨_, SqT.same h2 s1⟩, fun D hD => ?_⟩
    refine lc_tup (K := K) (a := nd) (xs := rvs) (fun i H' => ∃ as, as.length = i ∧ Fresh H1 H' D as) ⟨[], rfl, Fresh.start hD⟩ (fun i H' _ z => by obtain ⟨as, _, z⟩ := z; exact SqT.same h2 (s1.trans z.s)) ?_ ?_
    · rintro i x H' hx ⟨as, z1, z2⟩
      have hi : i < rvs.length := (List.getElem?_eq_some_iff.mp hx).1
      refine ⟨rfl, by show 0 ≤ sizeLine; decide, fun l hl => ⟨_, same_upd hl _ _ z2.top, small1000 (by rw [List.length_map]; omega), as ++ [l], by rw [List.length_append, z1]; rfl, z2.step hl⟩⟩
    · rintro H2 ⟨as, z1, z2⟩
      have s2 := s1.trans z2.s
      refine ⟨_, rfl, nd, rvs, rows, rk, rfl, SqT.same h2 s2, h3.imp fun _ _ r => r.tk (tk_same s2), by omega, fun j r hr => ⟨?_, ?_⟩, fun o H3 order s3 ho ho0 hO hOl => ?_⟩
      · rw [G.ar r (List.mem_of_getElem? hr)]
        cases r.w <;> decide
      · exact fun hl a ha => ⟨G.lt r (List.mem_of_getElem? hr) a ha, (G.rk j r hr).2 hl a ha⟩
      have z3 := z2.more s3
      have s4 := s1.trans z3.s
      have hll : NLL K H3 D as (tabC rows.length v (cntAt rows 0 [])) := by
        rw [tabC_zero fun j hj => ?_]
        · have e := z3.ll (P := NumV K)
          rw [z1, hlen] at e
          exact e
        · unfold cntAt
          rw [if_neg List.not_mem_nil]
          refine manyN_zero ?_
          rw [perAt_eq (List.getElem?_eq_getElem hj)]
          exact (G.per _ (List.getElem_mem hj)).1
      have hoa : ∀ a ∈ as, a ≠ o := fun a ha => ne_of_none (z2.new a ha).2 ho0
      have haH : ∀ a ∈ as, H a = none := fun a ha => s1.free (z2.new a ha).1
      refine ⟨_, _, rfl, _, rfl, beats, rfl, by omega, by omega, ?_⟩
      refine for_range (n := beats) (fun b σ H' => Same H H' ∧ H' o = some (.lst (ivs order)) ∧ NLL K H' D as (tabC rows.length v (cntAt rows b [])) ∧ ∃ x7 x8 x9, σ = [some (.ref gr), some (.ref g), some (.int (beats : Int)), some (figV cut), some (.ref nd), some (.ref D), some (.ref o), x7, x8, x9])
        ⟨s4, ho, hll, none, none, none, rfl⟩ ?_ ?_
      · rintro b σ H' hb' ⟨y1, y2, y3, x7, x8, x9, rfl⟩
        refine ⟨_, rfl, o, rfl, ⟨_, SqL.of y2⟩, ?_⟩
        refine for_list (K := K) (a := o) (xs := ivs order) (fun i σ H' => Same H H' ∧ H' o = some (.lst (ivs order)) ∧ NLL K H' D as (tabC rows.length v (cntAt rows b (order.take i))) ∧ ∃ x7 x9, σ = [some (.ref gr), some (.ref g), some (.int (beats : Int)), some (figV cut), some (.ref nd), some (.ref D), some (.ref o), x7, some (.int (0 + (b : Int))), x9])
          ⟨y1, y2, y3, x7, x9, rfl⟩ (fun i σ H' _ z => SqL.of z.2.1) ?_ ?_
        · rintro i x σ H5 hx ⟨w1, w2, w3, w7, w9, rfl⟩
          obtain ⟨j, hj, rfl⟩ := ivs_get hx
          have hjn := hO.lt j (List.mem_of_getElem? hj)
          have hr' : rows[j]? = some rows[j] := List.getElem?_eq_getElem hjn
          generalize rows[j] = r at hr'
          have hm := List.mem_of_getElem? hr'
          have hp := G.per r hm
          obtain ⟨rv, hrv, hR⟩ := h3.at hr'
          obtain ⟨ra, ta, u, rfl, k1, k2, k3⟩ := id hR
          have k1' := SqT.same k1 w1
          have jn : j ∉ order.take i := by
            intro m
            obtain ⟨i', hi'⟩ := List.mem_iff_getElem?.mp m
            have hlt : i' < (order.take i).length := (List.getElem?_eq_some_iff.mp hi').1
            rw [List.length_take] at hlt
            rw [List.getElem?_take_of_lt (by omega)] at hi'
            have e := nd_ix hO.nd hi' hj
            omega
          have tk_mem : ∀ x, x ∈ j :: order.take i ↔ x ∈ order.take (i + 1) := by
            intro x
            rw [List.take_add_one, hj, Option.toList_some, List.mem_append, List.mem_singleton, List.mem_cons]
            exact Or.comm
          refine ⟨_, rfl, _, rfl, nd, _, (j : Nat), _, rfl, rfl, SqT.same h2 w1, atI_nat hrv, ?_⟩
          refine ⟨_, rfl, _, rfl, ra, _, 3, _, rfl, rfl, k1', at3, _, _, rfl, rfl, by omega, rfl, _, rfl, ?_⟩
          rw [mod_dec]
          by_cases hmod : b % r.per = 0
          · rw [decide_eq_true hmod]
            obtain ⟨c1, c2, c3, c4⟩ := G.ready hr' jn hmod fun hl a ha => hO.dep i j r hj hr' hl a ha
            have hcl : b / r.per < manyN r.per beats := (manyN_lt hp.1).mpr (by have := Nat.div_mul_le_self b r.per; omega)
            have hvof : ∀ a c, a < rows.length → c < cntAt rows b (order.take i) a → vof 0 (tabC rows.length v (cntAt rows b (order.take i))) a c = v a c := fun a c h1 h2 => tabC_vof h1 h2
            have hst : stepV gv (vof 0 (tabC rows.length v (cntAt rows b (order.take i)))) r (b / r.per) = stepV gv v r (b / r.per) := by
              refine stepV_congr (fun hl h0 => ?_) (fun _ _ hl a ha => ?_)
              · obtain ⟨d1, d2⟩ := (c3 hl).resolve_left h0
                exact hvof _ _ d1 d2
              · obtain ⟨d1, d2⟩ := c4 hl a ha
                exact hvof _ _ d1 d2
            have bd := sol_bd G S hcut hb hsz hr' hcl
            obtain ⟨aj, vsj, e1, e2, e3, e4⟩ := w3.get (tabC_get (v := v) (cnt := cntAt rows b (order.take i)) hjn)
            have hres := S j r (b / r.per) hr' hcl
            refine iteT ⟨_, rfl, _, rfl, D, _, (j : Nat), _, rfl, rfl, SqL.of w3.top, atI_nat e2, .inl ⟨rfl, _, SqL.of e3⟩, ?_⟩
            refine ⟨_, rfl, _, rfl, _, rfl, _, rfl, _, rfl, ra, _, 3, _, rfl, rfl, k1', at3, _, _, rfl, rfl, ⟨by omega, by omega⟩, _, rfl, ?_⟩
            dsimp only
            rw [div_int]
            refine ⟨_, r, D, as, _, g, b / r.per, cut, gv, rfl, hR.tk (tk_same w1), G.ar r hm, w3, fun hs => (hG.same w1).at hm hs hcl, fun hl => ?_, fun _ _ hl a ha => ?_, fun f hf => by have := hcut f hf; omega, fun j' l hl x hx => ?_, (G.q r hm).bd (by decide) (by decide), by rw [hst]; exact bd.2, fun v2 H6 s6 n6 => ?_⟩
            · refine (c3 hl).imp id fun d => ⟨_, tabC_get d.1, ?_⟩
              rw [List.length_map, List.length_range]
              exact d.2
            · obtain ⟨d1, d2⟩ := c4 hl a ha
              refine ⟨_, tabC_get d1, ?_⟩
              rw [List.length_map, List.length_range]
              exact d2
            · obtain ⟨d1, c', d2, rfl⟩ := tabC_mem hl hx
              have hr2 : rows[j']? = some rows[j'] := List.getElem?_eq_getElem d1
              refine (sol_bd G S hcut hb hsz hr2 ?_).1
              have p2 := G.per _ (List.getElem_mem d1)
              unfold cntAt at d2
              rw [perAt_eq hr2] at d2
              have d3 := (manyN_lt p2.1).mp d2
              refine (manyN_lt p2.1).mpr ?_
              split at d3 <;> omega
            · rw [hst, ← hres] at n6
              have w3' : NLL K H6 D as (tabC rows.length v (cntAt rows b (order.take i))) := w3.same s6
              have e3' := s6 _ _ e3
              have hvl : vsj.length < sizeLine := by
                rw [e4.len, List.length_map, List.length_range, c1]
                have := Nat.div_le_self b r.per
                exact small1000 (by omega)
              have hpush := w3'.push (fun _ _ _ _ d h => h.dk d) e1 (tabC_get (v := v) (cnt := cntAt rows b (order.take i)) hjn) e3' n6
              have ecj : v j (b / r.per) = v j (cntAt rows b (order.take i) j) := by rw [c1]
              rw [ecj, tabC_push (cnt' := cntAt rows b (j :: order.take i)) hjn (by rw [c2, c1]) (fun i' _ hne => cntAt_other hne), tabC_congr fun j' _ => cntAt_mem tk_mem j'] at hpush
              refine ⟨aj, _, _, rfl, rfl, e3', hvl, same_upd_new (w1.trans s6) (haH _ (List.mem_of_getElem? e1)), ?_, hpush, _, _, rfl⟩
              rw [upd_ne (Ne.symm (hoa _ (List.mem_of_getElem? e1)))]
              exact s6 _ _ w2
          · rw [decide_eq_false hmod]
            refine iteF ⟨w1, w2, ?_, _, _, rfl⟩
            rw [tabC_congr (cnt' := cntAt rows b (order.take i)) fun j' _ => ?_]
            · exact w3
            · rw [← cntAt_mem tk_mem j']
              exact cntAt_skip G hr' hmod j'
        · rintro σ H5 ⟨w1, w2, w3, w7, w9, rfl⟩
          rw [ivs_len, List.take_length] at w3
          refine ⟨w1, w2, ?_, _, _, _, rfl⟩
          rw [tabC_congr (cnt' := cntAt rows b order) fun j' hj' => ?_]
          · exact w3
          · unfold cntAt
            rw [if_pos (hO.all hOl hj'), if_neg List.not_mem_nil]
      · rintro σ H5 ⟨y1, y2, y3, x7, x8, x9, rfl⟩
        refine ⟨_, rfl, q D as H5 y1 ?_⟩
        rw [tabC_congr (cnt' := cntAt rows beats []) fun j' hj' => ?_]
        · exact y3
        · unfold cntAt
          rw [if_neg List.not_mem_nil]
theorem c_numbers_of (T : TX K mg) : Cal P w K mg base "numbers_of" ["graph", "given", "beats", "figures"] [.non] 5 (sp_numbers_of K) := by
  obtain ⟨fd, F⟩ := T.f_numbers_of
  obtain ⟨ds, hv, hb⟩ := b_numbers_of F
  exact ⟨⟨fd, ds, ok_numbers_of T F, hb, hv⟩, T.g_numbers_of, F.kp⟩
end
/-- a def called with keywords -/
structure CalK (P : Program) (w : World) (K : PySem.W.Frag) (mg : Str → Option Value) (base : Heap) (x : Str) (ps : List Str) (n : Nat) (ks : List Str) (gV : List V → List V → List V) (k : Nat) (sp : Sp) : Prop where
  ex : ∃ fd g, FnOk P w K mg base CX0 k (He.ga K x) fd ps sp ∧ KBn K fd ps n ks g gV
  g : mg x = some (.ref (He.ga K x))
  kp : PySem.W.keepIn K (.ref (He.ga K x)) = true
section
variable {X : Cx} {k n : Nat} {ps ks : List Str} {sp : Sp} {gV : List V → List V → List V} {x : Str} {p pos : Pos} {e : Expr} {es : List Expr} {kws : List Keyword} {t tk : TA}
theorem pe_calK (C : CalK X.prog X.w X.K X.mg X.base x ps n ks gV k sp) (hr : Room k X.A) (ha : PA X (e :: es) t) (hkw : PK X kws tk) (hg : Gl X x := by rfl) (hall : (backToKw pos (keywordEach kws X.env)).all (·.1.isSome) = true := by rfl) (hks : (backToKw pos (keywordEach kws X.env)).filterMap (·.1) = ks := by rfl)
    (hdb : (x == ("__debug__" : Str)) = false := by decide) (he : starEach (e :: es) X.env = (false, eval e X.env) :: starEach es X.env := by rfl)
    (hpl : ((backTo pos (starEach (e :: es) X.env)).any (·.1) || (backToKw pos (keywordEach kws X.env)).any (·.1.isNone)) = false := by rfl) :
    PE X (.Call (.Name x p) (e :: es) kws pos) (tCallN n ks.length sp gV E0 t tk) := by
  obtain ⟨⟨fd, g, F, b⟩, mgx, kp⟩ := C
  exact pe_callN F hr hg mgx kp b pass0 ha hkw hall hks hdb he hpl
end
section
variable {P : Program} {w : World} {K : PySem.W.Frag} {mg : Str → Option Value} {base : Heap}
theorem kc_numbers_of (T : TX K mg) : CalK P w K mg base "numbers_of" ["graph", "given", "beats", "figures"] 3 ["figures"] (fun vs zs => vs ++ zs) 5 (sp_numbers_of K) := by
  obtain ⟨fd, F⟩ := T.f_numbers_of
  obtain ⟨mv, hb⟩ := kb_numbers_of F
  exact ⟨⟨fd, _, ok_numbers_of T F, hb⟩, T.g_numbers_of, F.kp⟩
end
end K70
/-! K70, part P0: noise, plainly. -/
namespace K70
open PySem PySem.Spec PyProof.Rows L2
/-- forms at (j, c) -/
def setF (fv : Nat → Nat → Form) (j c : Nat) (f : Form) : Nat → Nat → Form := fun j' c' => if j' = j ∧ c' = c then f else fv j' c'
theorem setF_same (fv : Nat → Nat → Form) (j c : Nat) (f : Form) : setF fv j c f j c = f := if_pos ⟨rfl, rfl⟩
theorem setF_old {fv : Nat → Nat → Form} {j c : Nat} {f : Form} {j' c' : Nat} (h : ¬ (j' = j ∧ c' = c)) : setF fv j c f j' c' = fv j' c' := if_neg h
theorem tabC_ext {α : Type} {n : Nat} {v v' : Nat → Nat → α} {cnt : Nat → Nat} (h : ∀ j c, j < n → c < cnt j → v j c = v' j c) : tabC n v cnt = tabC n v' cnt := by
  unfold tabC
  refine List.map_congr_left fun j hj => List.map_congr_left fun c hc => ?_
  exact h j c (List.mem_range.mp hj) (List.mem_range.mp hc)
def Out0 (n : Nat) (f : Form) : Prop := ∀ i, n ≤ i → f.co i = 0
theorem lowF_app {spans t : List Span} {f : Form} (h : Out0 spans.length f) : lowF (spans ++ t) f = lowF spans f := by
  unfold lowF
  congr 1
  rw [List.length_append, List.range_add, List.map_append, sumR_append, List.map_map]
  have e2 : sumR ((List.range t.length).map (lowI (spans ++ t) f ∘ fun x => spans.length + x)) = 0 := sumR_zero fun i _ => by
    show lowI _ f (spans.length + i) = 0
    exact lowI_zero (h _ (Nat.le_add_right _ _))
  rw [e2, Rat.add_zero]
  congr 1
  refine List.map_congr_left fun i hi => ?_
  unfold lowI
  rw [spAt_app (List.mem_range.mp hi)]
theorem highF_app {spans t : List Span} {f : Form} (h : Out0 spans.length f) : highF (spans ++ t) f = highF spans f := by
  unfold highF
  congr 1
  rw [List.length_append, List.range_add, List.map_append, sumR_append, List.map_map]
  have e2 : sumR ((List.range t.length).map (highI (spans ++ t) f ∘ fun x => spans.length + x)) = 0 := sumR_zero fun i _ => by
    show highI _ f (spans.length + i) = 0
    exact highI_zero (h _ (Nat.le_add_right _ _))
  rw [e2, Rat.add_zero]
  congr 1
  refine List.map_congr_left fun i hi => ?_
  unfold highI
  rw [spAt_app (List.mem_range.mp hi)]
theorem evalF_app {n m : Nat} {f : Form} {ε ε' : Nat → Rat} (h : Out0 n f) (hm : n ≤ m) (he : ∀ i, i < n → ε i = ε' i) : evalF m f ε' = evalF n f ε := eval_more hm h he
/-- ε with one more -/
def extE (ε : Nat → Rat) (n : Nat) (x : Rat) : Nat → Rat := fun i => if i = n then x else ε i
theorem inSp_ext {spans : List Span} {ε : Nat → Rat} {s : Span} {x : Rat} (h : InSp spans ε) (h1 : s.1 ≤ x) (h2 : x ≤ s.2) : InSp (spans ++ [s]) (extE ε spans.length x) := by
  intro i hi
  rw [List.length_append, List.length_cons, List.length_nil] at hi
  by_cases e : i = spans.length
  · subst e
    rw [spAt_new]
    unfold extE
    rw [if_pos rfl]
    exact ⟨h1, h2⟩
  · rw [spAt_app (by omega)]
    unfold extE
    rw [if_neg e]
    exact h i (by omega)
/-- the cases in which a pick's test is known -/
def PickZ (rows : List Row) (fv : Nat → Nat → Form) (cnt : Nat → Nat) (spans : List Span) : Prop := ∀ (j : Nat) (r : Row), rows[j]? = some r → r.w = .pick → ∀ c, c < cnt (r.args.getD 0 0) → lowF spans (fv (r.args.getD 0 0) c) = 0 ∧ highF spans (fv (r.args.getD 0 0) c) = 0
structure Pair (rows : List Row) (fig fine beats : Nat) (gv : Str → Nat → Rat) (ve vf : Nat → Nat → Rat) : Prop where
  e : Sol rows gv none beats ve
  f : Sol rows gv (some fig) beats vf
  d : ∀ r ∈ rows, r.w = .spring → ∀ c, c < manyN r.per beats → (gv r.nm c).den ∣ 2 ^ fine
/-- the forms told so far hold what the numbers differ by -/
def NInv (rows : List Row) (fig fine beats : Nat) (fv : Nat → Nat → Form) (cnt : Nat → Nat) (spans : List Span) : Prop := ∀ gv ve vf, Pair rows fig fine beats gv ve vf → PickZ rows fv cnt spans →
  ∃ ε, InSp spans ε ∧ ∀ j c, j < rows.length → c < cnt j → vf j c - ve j c = evalF spans.length (fv j c) ε
theorem NInv.zero {rows : List Row} {fig fine beats : Nat} {fv : Nat → Nat → Form} {cnt : Nat → Nat} (h : ∀ j, j < rows.length → cnt j = 0) : NInv rows fig fine beats fv cnt [] := by
  intro gv ve vf _ _
  refine ⟨fun _ => 0, fun i hi => absurd hi (Nat.not_lt_zero i), fun j c hj hc => ?_⟩
  rw [h j hj] at hc
  omega
theorem max_diff {a a' b b' l h : Rat} (h1 : l ≤ a' - a) (h2 : a' - a ≤ h) (h3 : l ≤ b' - b) (h4 : b' - b ≤ h) :
    (l ≤ (if a' < b' then b' else a') - (if a < b then b else a) ∧ (if a' < b' then b' else a') - (if a < b then b else a) ≤ h) ∧ (l ≤ (if a' < b' then a' else b') - (if a < b then a else b) ∧ (if a' < b' then a' else b') - (if a < b then a else b) ≤ h) := by
  constructor <;> constructor <;> (split <;> split <;> grind)
theorem figs_den {q : Rat} (h : Sz 4 4 q) : q.den ∣ 2 ^ figsN q := by
  obtain ⟨k, _, e⟩ := dvd_pow_two _ _ h.1
  rw [figsN_eq e, e]
  exact Nat.dvd_refl _
section
variable {rows : List Row} {rk : Nat → Nat}
/-- one more form -/
theorem NInv.step (G : GOk rows rk) {fig fine beats : Nat} {fv : Nat → Nat → Form} {cnt cnt' : Nat → Nat} {spans : List Span} {o : Option Span} {f : Form} {j : Nat} {r : Row} {tf : Nat → Nat → Form} (h : NInv rows fig fine beats fv cnt spans)
    (hr : rows[j]? = some r) (hc1 : cnt' j = cnt j + 1) (hc2 : ∀ i, i < rows.length → i ≠ j → cnt' i = cnt i) (hcb : cnt j < manyN r.per beats) (hcnt : ∀ i ri, rows[i]? = some ri → cnt i ≤ manyN ri.per beats)
    (hlate : r.w = .late → cnt j = 0 ∨ (r.args.getD 0 0 < rows.length ∧ cnt j - 1 < cnt (r.args.getD 0 0))) (hav : r.w ≠ .late → ∀ a ∈ r.args, a < rows.length ∧ placeR r.w (cnt j) < cnt a)
    (htf : ∀ a c, a < rows.length → c < cnt a → tf a c = fv a c) (hout : ∀ i c, i < rows.length → c < cnt i → Out0 spans.length (fv i c)) (hst : NStep fig fine spans tf r (cnt j) o f) :
    NInv rows fig fine beats (setF fv j (cnt j) f) cnt' (spans ++ o.toList) := by
  intro gv ve vf PP hZ
  have hm := List.mem_of_getElem? hr
  have hjn : j < rows.length := (List.getElem?_eq_some_iff.mp hr).1
  have old : ∀ i c, i < rows.length → c < cnt i → setF fv j (cnt j) f i c = fv i c := fun i c hi hc => setF_old fun ⟨e1, e2⟩ => by
    subst e1
    omega
  have hZ' : PickZ rows fv cnt spans := by
    intro i ri hri hw c hc
    have hi : ri.args.getD 0 0 < rows.length := by
      obtain ⟨x0, x1, x2, hx⟩ := len3 (l := ri.args) (by rw [G.ar ri (List.mem_of_getElem? hri), hw]; rfl)
      exact G.lt ri (List.mem_of_getElem? hri) _ (by rw [hx]; exact List.mem_cons_self)
    have hc' : c < cnt' (ri.args.getD 0 0) := by
      by_cases e : ri.args.getD 0 0 = j
      · rw [e, hc1]
        rw [e] at hc
        omega
      · rw [hc2 _ hi e]
        exact hc
    have z := hZ i ri hri hw c hc'
    rw [old _ c hi hc, lowF_app (hout _ _ hi hc), highF_app (hout _ _ hi hc)] at z
    exact z
  obtain ⟨ε, e1, e2⟩ := h gv ve vf PP hZ'
  have Df := PP.f j r (cnt j) hr hcb
  have De := PP.e j r (cnt j) hr hcb
  have denf : ∀ a c, a < rows.length → c < cnt a → (vf a c).den ∣ 2 ^ fig := fun a c ha hc => by
    have hra : rows[a]? = some rows[a] := List.getElem?_eq_getElem ha
    rw [PP.f a _ c hra (Nat.lt_of_lt_of_le hc (hcnt a _ hra))]
    exact cutR_den _ _
  -- when nothing new is cut
  have fin0 : o = none → vf j (cnt j) - ve j (cnt j) = evalF spans.length f ε → ∃ ε, InSp (spans ++ o.toList) ε ∧ ∀ i c, i < rows.length → c < cnt' i → vf i c - ve i c = evalF (spans ++ o.toList).length (setF fv j (cnt j) f i c) ε := by
    rintro rfl he
    rw [Option.toList_none, List.append_nil]
    refine ⟨ε, e1, fun i c hi hc => ?_⟩
    by_cases e : i = j
    · subst e
      by_cases ec : c = cnt i
      · subst ec
        rw [setF_same]
        exact he
      · rw [old i c hi (by omega)]
        exact e2 i c hi (by omega)
    · rw [hc2 i hi e] at hc
      rw [old i c hi hc]
      exact e2 i c hi hc
  -- when something is
  have fin1 : ∀ s, o = some s → ∀ x, s.1 ≤ x → x ≤ s.2 → (vf j (cnt j) - ve j (cnt j) = evalF (spans.length + 1) f (extE ε spans.length x)) → ∃ ε, InSp (spans ++ o.toList) ε ∧ ∀ i c, i < rows.length → c < cnt' i → vf i c - ve i c = evalF (spans ++ o.toList).length (setF fv j (cnt j) f i c) ε := by
    rintro s rfl x h1 h2 he
    rw [Option.toList_some, List.length_append, List.length_cons, List.length_nil]
    refine ⟨extE ε spans.length x, inSp_ext e1 h1 h2, fun i c hi hc => ?_⟩
    have oldE : ∀ i c, i < rows.length → c < cnt i → vf i c - ve i c = evalF (spans.length + 1) (fv i c) (extE ε spans.length x) := fun i c hi hc => by
      rw [evalF_app (n := spans.length) (ε := ε) (hout i c hi hc) (by omega) fun i' hi' => ?_]
      · exact e2 i c hi hc
      · unfold extE
        rw [if_neg (by omega)]
    by_cases e : i = j
    · subst e
      by_cases ec : c = cnt i
      · subst ec
        rw [setF_same]
        exact he
      · rw [old i c hi (by omega)]
        exact oldE i c hi (by omega)
    · rw [hc2 i hi e] at hc
      rw [old i c hi hc]
      exact oldE i c hi hc
  have newE : ∀ s x, evalF (spans.length + 1) (cutF spans.length (some s)) (extE ε spans.length x) = x := fun s x => by
    rw [eval_new]
    unfold extE
    exact if_pos rfl
  have noneE : evalF spans.length (cutF spans.length none) ε = 0 := eval_const _ _ _
  -- the two-way forms
  have bet : ∀ (a a' b b' y y' : Rat) (fa fb : Form), a' - a = evalF spans.length fa ε → b' - b = evalF spans.length fb ε → (∀ l h : Rat, l ≤ a' - a → a' - a ≤ h → l ≤ b' - b → b' - b ≤ h → l ≤ y' - y ∧ y' - y ≤ h) →
      vf j (cnt j) - ve j (cnt j) = y' - y → Bet spans fa fb o f → ∃ ε, InSp (spans ++ o.toList) ε ∧ ∀ i c, i < rows.length → c < cnt' i → vf i c - ve i c = evalF (spans ++ o.toList).length (setF fv j (cnt j) f i c) ε := by
    intro a a' b b' y y' fa fb ha hb' hy hD hB
    rcases hB with ⟨ho, hfg, hf⟩ | ⟨ho, hf⟩
    · refine fin0 ho ?_
      rw [hD, hf]
      have z := hy (evalF spans.length fa ε) (evalF spans.length fa ε) (by grind) (by grind) (by rw [hb', hfg]; grind) (by rw [hb', hfg]; grind)
      grind
    · refine fin1 _ ho (y' - y) ?_ ?_ ?_
      · have q1 := ends_hold (f := fa) e1
        have q2 := ends_hold (f := fb) e1
        have m1 := rmin_le1 (lowF spans fa) (lowF spans fb)
        have m2 := rmin_le2 (lowF spans fa) (lowF spans fb)
        have m3 := rmax_ge1 (highF spans fa) (highF spans fb)
        have m4 := rmax_ge2 (highF spans fa) (highF spans fb)
        exact (hy (rmin (lowF spans fa) (lowF spans fb)) (rmax (highF spans fa) (highF spans fb)) (by grind) (by grind) (by grind) (by grind)).1
      · have q1 := ends_hold (f := fa) e1
        have q2 := ends_hold (f := fb) e1
        have m1 := rmin_le1 (lowF spans fa) (lowF spans fb)
        have m2 := rmin_le2 (lowF spans fa) (lowF spans fb)
        have m3 := rmax_ge1 (highF spans fa) (highF spans fb)
        have m4 := rmax_ge2 (highF spans fa) (highF spans fb)
        exact (hy (rmin (lowF spans fa) (lowF spans fb)) (rmax (highF spans fa) (highF spans fb)) (by grind) (by grind) (by grind) (by grind)).2
      · rw [hD, hf, ho, newE]
  have q4 := G.q r hm
  have ar := G.ar r hm
  have cutid : ∀ x : Rat, x.den ∣ 2 ^ fig → cutO (some fig) x = x := fun x hx => cutR_id hx
  -- a copy of an older number
  have copy : ∀ a c, a < rows.length → c < cnt a → stepV gv vf r (cnt j) = vf a c → stepV gv ve r (cnt j) = ve a c → o = none → f = tf a c → ∃ ε, InSp (spans ++ o.toList) ε ∧ ∀ i c, i < rows.length → c < cnt' i → vf i c - ve i c = evalF (spans ++ o.toList).length (setF fv j (cnt j) f i c) ε := by
    intro a c ha hc h1 h2 ho hf
    refine fin0 ho ?_
    rw [Df, De, h1, h2, cutid _ (denf a c ha hc), hf, htf a c ha hc]
    exact e2 a c ha hc
  -- a fixed NUMBER
  have fixd : stepV gv vf r (cnt j) = r.q → stepV gv ve r (cnt j) = r.q → o = none → f = ⟨cutR fig r.q - r.q, fun _ => 0⟩ → ∃ ε, InSp (spans ++ o.toList) ε ∧ ∀ i c, i < rows.length → c < cnt' i → vf i c - ve i c = evalF (spans ++ o.toList).length (setF fv j (cnt j) f i c) ε := by
    intro h1 h2 ho hf
    refine fin0 ho ?_
    rw [Df, De, h1, h2, hf, eval_const]
    rfl
  unfold NStep at hst
  cases hw : r.w with
  | spring =>
    rw [hw] at hst
    obtain ⟨ho, hf⟩ := hst
    have s1 : ∀ v, stepV gv v r (cnt j) = gv r.nm (cnt j) := fun v => by
      unfold stepV
      rw [hw]
    have hd := PP.d r hm hw (cnt j) hcb
    rw [s1] at Df De
    unfold cutSpan at ho
    by_cases hle : fine ≤ fig
    · rw [if_pos hle] at ho
      refine fin0 ho ?_
      rw [hf, ho, noneE, Df, De, cutid _ (Nat.dvd_trans hd (Nat.pow_dvd_pow 2 hle))]
      show gv r.nm (cnt j) - gv r.nm (cnt j) = 0
      grind
    · rw [if_neg hle] at ho
      have z := cutR_span hd (show fig ≤ fine by omega)
      refine fin1 _ ho (vf j (cnt j) - ve j (cnt j)) ?_ ?_ ?_
      · rw [Df, De]
        exact z.1
      · rw [Df, De]
        exact z.2
      · rw [hf, ho, newE]
  | fixed =>
    rw [hw] at hst
    have s1 : ∀ v, stepV gv v r (cnt j) = r.q := fun v => by
      unfold stepV
      rw [hw]
    exact fixd (s1 _) (s1 _) hst.1 hst.2
  | late =>
    rw [hw] at hst
    have s1 : ∀ v, stepV gv v r (cnt j) = if cnt j = 0 then r.q else v (r.args.getD 0 0) (cnt j - 1) := fun v => by
      unfold stepV
      rw [hw]
    by_cases h0 : cnt j = 0
    · rw [if_pos h0] at hst
      exact fixd (by rw [s1, if_pos h0]) (by rw [s1, if_pos h0]) hst.1 hst.2
    · rw [if_neg h0] at hst
      obtain ⟨d1, d2⟩ := (hlate hw).resolve_left h0
      exact copy _ _ d1 d2 (by rw [s1, if_neg h0]) (by rw [s1, if_neg h0]) hst.1 hst.2
  | half =>
    rw [hw] at hst
    obtain ⟨x0, hx⟩ := len1 (l := r.args) (by rw [ar, hw]; rfl)
    obtain ⟨d1, d2⟩ := hav (by rw [hw]; decide) x0 (by rw [hx]; exact List.mem_cons_self)
    rw [hw] at d2
    have s1 : ∀ v, stepV gv v r (cnt j) = v x0 (2 * cnt j) := fun v => by
      unfold stepV
      rw [hw, hx]
      rfl
    rw [hx] at hst
    exact copy _ _ d1 d2 (s1 _) (s1 _) hst.1 hst.2
  | twice =>
    rw [hw] at hst
    obtain ⟨x0, hx⟩ := len1 (l := r.args) (by rw [ar, hw]; rfl)
    obtain ⟨d1, d2⟩ := hav (by rw [hw]; decide) x0 (by rw [hx]; exact List.mem_cons_self)
    rw [hw] at d2
    have s1 : ∀ v, stepV gv v r (cnt j) = v x0 (cnt j / 2) := fun v => by
      unfold stepV
      rw [hw, hx]
      rfl
    rw [hx] at hst
    exact copy _ _ d1 d2 (s1 _) (s1 _) hst.1 hst.2
  | «by» =>
    rw [hw] at hst
    obtain ⟨ho, hf⟩ := hst
    obtain ⟨x0, hx⟩ := len1 (l := r.args) (by rw [ar, hw]; rfl)
    obtain ⟨d1, d2⟩ := hav (by rw [hw]; decide) x0 (by rw [hx]; exact List.mem_cons_self)
    rw [hw] at d2
    have d2 : cnt j < cnt x0 := d2
    have s1 : ∀ v, stepV gv v r (cnt j) = r.q * v x0 (cnt j) := fun v => by
      unfold stepV
      rw [hw, hx]
      rfl
    rw [hx] at hf
    have hf' : f = sumF (timesF r.q (tf x0 (cnt j))) (cutF spans.length o) := hf
    rw [htf x0 _ d1 d2] at hf'
    have hd : (r.q * vf x0 (cnt j)).den ∣ 2 ^ (fig + figsN r.q) := by
      rw [Nat.add_comm]
      exact mul_den (figs_den q4) (denf x0 _ d1 d2)
    have ed := e2 x0 (cnt j) d1 d2
    rw [s1] at Df De
    have De' : ve j (cnt j) = r.q * ve x0 (cnt j) := De
    have Df' : vf j (cnt j) = cutR fig (r.q * vf x0 (cnt j)) := Df
    unfold cutSpan at ho
    by_cases hle : fig + figsN r.q ≤ fig
    · rw [if_pos hle] at ho
      refine fin0 ho ?_
      have e0 : fig + figsN r.q = fig := by omega
      rw [e0] at hd
      rw [hf', eval_sum, eval_times, ho, noneE, ← ed, De', Df', cutR_id hd]
      grind
    · rw [if_neg hle] at ho
      have z := cutR_span hd (show fig ≤ fig + figsN r.q by omega)
      refine fin1 _ ho (cutR fig (r.q * vf x0 (cnt j)) - r.q * vf x0 (cnt j)) z.1 z.2 ?_
      rw [hf', eval_sum, eval_times, ho, newE, evalF_app (n := spans.length) (ε := ε) (hout x0 (cnt j) d1 d2) (by omega) (fun i hi => by unfold extE; rw [if_neg (by omega)]), ← ed, De', Df']
      grind
  | sum =>
    rw [hw] at hst
    obtain ⟨ho, hf⟩ := hst
    obtain ⟨x0, x1, hx⟩ := len2 (l := r.args) (by rw [ar, hw]; rfl)
    obtain ⟨d1, d2⟩ := hav (by rw [hw]; decide) x0 (by rw [hx]; exact List.mem_cons_self)
    obtain ⟨d3, d4⟩ := hav (by rw [hw]; decide) x1 (by rw [hx]; exact List.mem_cons_of_mem _ List.mem_cons_self)
    rw [hw] at d2 d4
    have d2 : cnt j < cnt x0 := d2
    have d4 : cnt j < cnt x1 := d4
    have s1 : ∀ v, stepV gv v r (cnt j) = v x0 (cnt j) + v x1 (cnt j) := fun v => by
      unfold stepV
      rw [hw, hx]
      rfl
    rw [hx] at hf
    have hf' : f = sumF (tf x0 (cnt j)) (tf x1 (cnt j)) := hf
    rw [htf x0 _ d1 d2, htf x1 _ d3 d4] at hf'
    rw [s1] at Df De
    have De' : ve j (cnt j) = ve x0 (cnt j) + ve x1 (cnt j) := De
    have ed := e2 x0 (cnt j) d1 d2
    have ed' := e2 x1 (cnt j) d3 d4
    refine fin0 ho ?_
    rw [hf', eval_sum, ← ed, ← ed', Df, De', cutid _ (add_den (denf x0 _ d1 d2) (denf x1 _ d3 d4))]
    grind
  | less =>
    rw [hw] at hst
    obtain ⟨ho, hf⟩ := hst
    obtain ⟨x0, x1, hx⟩ := len2 (l := r.args) (by rw [ar, hw]; rfl)
    obtain ⟨d1, d2⟩ := hav (by rw [hw]; decide) x0 (by rw [hx]; exact List.mem_cons_self)
    obtain ⟨d3, d4⟩ := hav (by rw [hw]; decide) x1 (by rw [hx]; exact List.mem_cons_of_mem _ List.mem_cons_self)
    rw [hw] at d2 d4
    have d2 : cnt j < cnt x0 := d2
    have d4 : cnt j < cnt x1 := d4
    have s1 : ∀ v, stepV gv v r (cnt j) = v x0 (cnt j) - v x1 (cnt j) := fun v => by
      unfold stepV
      rw [hw, hx]
      rfl
    rw [hx] at hf
    have hf' : f = sumF (tf x0 (cnt j)) (timesF (-1) (tf x1 (cnt j))) := hf
    rw [htf x0 _ d1 d2, htf x1 _ d3 d4] at hf'
    rw [s1] at Df De
    have De' : ve j (cnt j) = ve x0 (cnt j) - ve x1 (cnt j) := De
    have ed := e2 x0 (cnt j) d1 d2
    have ed' := e2 x1 (cnt j) d3 d4
    have hd : (vf x0 (cnt j) - vf x1 (cnt j)).den ∣ 2 ^ fig := by
      have e : vf x0 (cnt j) - vf x1 (cnt j) = vf x0 (cnt j) + -vf x1 (cnt j) := by grind
      rw [e]
      exact add_den (denf x0 _ d1 d2) (by rw [Rat.neg_den]; exact denf x1 _ d3 d4)
    refine fin0 ho ?_
    rw [hf', eval_sum, eval_times, ← ed, ← ed', Df, De', cutid _ hd]
    grind
  | most =>
    rw [hw] at hst
    obtain ⟨x0, x1, hx⟩ := len2 (l := r.args) (by rw [ar, hw]; rfl)
    obtain ⟨d1, d2⟩ := hav (by rw [hw]; decide) x0 (by rw [hx]; exact List.mem_cons_self)
    obtain ⟨d3, d4⟩ := hav (by rw [hw]; decide) x1 (by rw [hx]; exact List.mem_cons_of_mem _ List.mem_cons_self)
    rw [hw] at d2 d4
    have d2 : cnt j < cnt x0 := d2
    have d4 : cnt j < cnt x1 := d4
    have s1 : ∀ v, stepV gv v r (cnt j) = if v x0 (cnt j) < v x1 (cnt j) then v x1 (cnt j) else v x0 (cnt j) := fun v => by
      unfold stepV
      rw [hw, hx]
      rfl
    rw [hx] at hst
    have hf' : Bet spans (tf x0 (cnt j)) (tf x1 (cnt j)) o f := hst
    rw [htf x0 _ d1 d2, htf x1 _ d3 d4] at hf'
    rw [s1] at Df De
    refine bet (ve x0 (cnt j)) (vf x0 (cnt j)) (ve x1 (cnt j)) (vf x1 (cnt j)) (if ve x0 (cnt j) < ve x1 (cnt j) then ve x1 (cnt j) else ve x0 (cnt j)) (if vf x0 (cnt j) < vf x1 (cnt j) then vf x1 (cnt j) else vf x0 (cnt j)) _ _ (e2 x0 (cnt j) d1 d2) (e2 x1 (cnt j) d3 d4) (fun l h h1 h2 h3 h4 => (max_diff h1 h2 h3 h4).1) ?_ hf'
    rw [Df, De, cutid _ (by split; exact denf x1 _ d3 d4; exact denf x0 _ d1 d2)]
    rfl
  | least =>
    rw [hw] at hst
    obtain ⟨x0, x1, hx⟩ := len2 (l := r.args) (by rw [ar, hw]; rfl)
    obtain ⟨d1, d2⟩ := hav (by rw [hw]; decide) x0 (by rw [hx]; exact List.mem_cons_self)
    obtain ⟨d3, d4⟩ := hav (by rw [hw]; decide) x1 (by rw [hx]; exact List.mem_cons_of_mem _ List.mem_cons_self)
    rw [hw] at d2 d4
    have d2 : cnt j < cnt x0 := d2
    have d4 : cnt j < cnt x1 := d4
    have s1 : ∀ v, stepV gv v r (cnt j) = if v x0 (cnt j) < v x1 (cnt j) then v x0 (cnt j) else v x1 (cnt j) := fun v => by
      unfold stepV
      rw [hw, hx]
      rfl
    rw [hx] at hst
    have hf' : Bet spans (tf x0 (cnt j)) (tf x1 (cnt j)) o f := hst
    rw [htf x0 _ d1 d2, htf x1 _ d3 d4] at hf'
    rw [s1] at Df De
    refine bet (ve x0 (cnt j)) (vf x0 (cnt j)) (ve x1 (cnt j)) (vf x1 (cnt j)) (if ve x0 (cnt j) < ve x1 (cnt j) then ve x0 (cnt j) else ve x1 (cnt j)) (if vf x0 (cnt j) < vf x1 (cnt j) then vf x0 (cnt j) else vf x1 (cnt j)) _ _ (e2 x0 (cnt j) d1 d2) (e2 x1 (cnt j) d3 d4) (fun l h h1 h2 h3 h4 => (max_diff h1 h2 h3 h4).2) ?_ hf'
    rw [Df, De, cutid _ (by split; exact denf x0 _ d1 d2; exact denf x1 _ d3 d4)]
    rfl
  | pick =>
    rw [hw] at hst
    obtain ⟨x0, x1, x2, hx⟩ := len3 (l := r.args) (by rw [ar, hw]; rfl)
    obtain ⟨d1, d2⟩ := hav (by rw [hw]; decide) x0 (by rw [hx]; exact List.mem_cons_self)
    obtain ⟨d3, d4⟩ := hav (by rw [hw]; decide) x1 (by rw [hx]; exact List.mem_cons_of_mem _ List.mem_cons_self)
    obtain ⟨d5, d6⟩ := hav (by rw [hw]; decide) x2 (by rw [hx]; exact List.mem_cons_of_mem _ (List.mem_cons_of_mem _ List.mem_cons_self))
    rw [hw] at d2 d4 d6
    have d2 : cnt j < cnt x0 := d2
    have d4 : cnt j < cnt x1 := d4
    have d6 : cnt j < cnt x2 := d6
    have s1 : ∀ v, stepV gv v r (cnt j) = if 0 < v x0 (cnt j) then v x1 (cnt j) else v x2 (cnt j) := fun v => by
      unfold stepV
      rw [hw, hx]
      rfl
    have zt := hZ' j r hr hw (cnt j) (by rw [hx]; exact d2)
    rw [hx] at zt hst
    have zl : lowF spans (fv x0 (cnt j)) = 0 := zt.1
    have zh : highF spans (fv x0 (cnt j)) = 0 := zt.2
    have zz := ends_hold (f := fv x0 (cnt j)) e1
    have et := e2 x0 (cnt j) d1 d2
    have eq0 : vf x0 (cnt j) = ve x0 (cnt j) := by grind
    have hf' : Bet spans (tf x1 (cnt j)) (tf x2 (cnt j)) o f := hst
    rw [htf x1 _ d3 d4, htf x2 _ d5 d6] at hf'
    rw [s1] at Df De
    refine bet (ve x1 (cnt j)) (vf x1 (cnt j)) (ve x2 (cnt j)) (vf x2 (cnt j)) (if 0 < ve x0 (cnt j) then ve x1 (cnt j) else ve x2 (cnt j)) (if 0 < vf x0 (cnt j) then vf x1 (cnt j) else vf x2 (cnt j)) _ _ (e2 x1 (cnt j) d3 d4) (e2 x2 (cnt j) d5 d6) (fun l h h1 h2 h3 h4 => ?_) ?_ hf'
    · rw [eq0]
      split
      · exact ⟨h1, h2⟩
      · exact ⟨h3, h4⟩
    · rw [Df, De, cutid _ (by split; exact denf x1 _ d3 d4; exact denf x2 _ d5 d6)]
      rfl
end
end K70
/-! K70, part P1: noise: how great the forms' numbers get; springs' forms. -/
namespace K70
open PySem PySem.Spec PyProof.Rows L2
structure NSz (n m : Nat) (fv : Nat → Nat → Form) (cnt : Nat → Nat) (spans : List Span) : Prop where
  len : spans.length ≤ m
  sp : ∀ i, Sz (20 + 4 * m) (20 + 100 * m) (spAt spans i).1 ∧ Sz (20 + 4 * m) (20 + 100 * m) (spAt spans i).2
  f : ∀ j c, j < n → c < cnt j → FSz (20 + 4 * m) (20 + 100 * m) spans (fv j c)
  out : ∀ j c, j < n → c < cnt j → Out0 spans.length (fv j c)
theorem NSz.zero {n : Nat} {fv : Nat → Nat → Form} {cnt : Nat → Nat} (h : ∀ j, j < n → cnt j = 0) (m : Nat) : NSz n m fv cnt [] := by
  refine ⟨Nat.zero_le _, fun i => ?_, fun j c hj hc => ?_, fun j c hj hc => ?_⟩
  · rw [spAt_out (Nat.zero_le i)]
    exact ⟨Sz.zero _ _, Sz.zero _ _⟩
  · rw [h j hj] at hc
    omega
  · rw [h j hj] at hc
    omega
theorem NSz.mono {n m m' : Nat} {fv : Nat → Nat → Form} {cnt : Nat → Nat} {spans : List Span} (h : NSz n m fv cnt spans) (e : m ≤ m') : NSz n m' fv cnt spans :=
  ⟨Nat.le_trans h.len e, fun i => ⟨(h.sp i).1.mono (by omega) (by omega), (h.sp i).2.mono (by omega) (by omega)⟩, fun j c hj hc => (h.f j c hj hc).mono (by omega) (by omega), h.out⟩
theorem NSz.congr {n m : Nat} {fv : Nat → Nat → Form} {cnt cnt' : Nat → Nat} {spans : List Span} (h : NSz n m fv cnt spans) (e : ∀ j, j < n → cnt j = cnt' j) : NSz n m fv cnt' spans :=
  ⟨h.len, h.sp, fun j c hj hc => h.f j c hj (by rw [e j hj]; exact hc), fun j c hj hc => h.out j c hj (by rw [e j hj]; exact hc)⟩
theorem NSz.spB {n m : Nat} {fv : Nat → Nat → Form} {cnt : Nat → Nat} {spans : List Span} (h : NSz n m fv cnt spans) (hm : m ≤ 80) : SpB spans :=
  ⟨by have := h.len; omega, fun i => (h.sp i).1.bd (by omega) (by omega), fun i => (h.sp i).2.bd (by omega) (by omega)⟩
theorem cutSpan_sz {fig fine : Nat} {s : Span} (h1 : fig ≤ 20) (h2 : fine ≤ 20) (h : cutSpan fig fine = some s) : Sz 20 1 s.1 ∧ Sz 20 1 s.2 := by
  unfold cutSpan at h
  split at h
  · cases h
  · cases h
    exact ⟨(un_sz h2).sub (un_sz h1), Sz.zero _ _⟩
section
variable {rows : List Row} {rk : Nat → Nat}
theorem spAt_sz {B k : Nat} {spans : List Span} {s : Span} (h : ∀ i, Sz B k (spAt spans i).1 ∧ Sz B k (spAt spans i).2) (h1 : Sz B k s.1) (h2 : Sz B k s.2) (i : Nat) : Sz B k (spAt (spans ++ [s]) i).1 ∧ Sz B k (spAt (spans ++ [s]) i).2 := by
  by_cases hi : i < spans.length
  · rw [spAt_app hi]
    exact h i
  · by_cases e : i = spans.length
    · subst e
      rw [spAt_new]
      exact ⟨h1, h2⟩
    · rw [spAt_out (by rw [List.length_append, List.length_cons, List.length_nil]; omega)]
      exact ⟨Sz.zero _ _, Sz.zero _ _⟩
theorem NSz.step (G : GOk rows rk) {fig fine m : Nat} {fv : Nat → Nat → Form} {cnt cnt' : Nat → Nat} {spans : List Span} {o : Option Span} {f : Form} {j : Nat} {r : Row} {tf : Nat → Nat → Form} (h : NSz rows.length m fv cnt spans)
    (hfig : fig ≤ 14) (hfine : fine ≤ 14) (hr : rows[j]? = some r) (hc1 : cnt' j = cnt j + 1) (hc2 : ∀ i, i < rows.length → i ≠ j → cnt' i = cnt i)
    (hlate : r.w = .late → cnt j = 0 ∨ (r.args.getD 0 0 < rows.length ∧ cnt j - 1 < cnt (r.args.getD 0 0))) (hav : r.w ≠ .late → ∀ a ∈ r.args, a < rows.length ∧ placeR r.w (cnt j) < cnt a)
    (htf : ∀ a c, a < rows.length → c < cnt a → tf a c = fv a c) (hst : NStep fig fine spans tf r (cnt j) o f) (hm : m ≤ 75) (hof : Out0 (spans ++ o.toList).length f) : NSz rows.length (m + 1) (setF fv j (cnt j) f) cnt' (spans ++ o.toList) := by
  have hmm := List.mem_of_getElem? hr
  have q4 := G.q r hmm
  have ar := G.ar r hmm
  have hL := h.len
  -- the new form and the new span
  have key : FSz (20 + 4 * (m + 1)) (20 + 100 * (m + 1)) (spans ++ o.toList) f ∧ ∀ s, o = some s → Sz (20 + 4 * (m + 1)) (20 + 100 * (m + 1)) s.1 ∧ Sz (20 + 4 * (m + 1)) (20 + 100 * (m + 1)) s.2 := by
    have arg : ∀ a c, a < rows.length → c < cnt a → FSz (20 + 4 * m) (20 + 100 * m) spans (tf a c) ∧ Out0 spans.length (tf a c) := fun a c ha hc => by
      rw [htf a c ha hc]
      exact ⟨h.f a c ha hc, h.out a c ha hc⟩
    have fixd : o = none → f = ⟨cutR fig r.q - r.q, fun _ => 0⟩ → FSz (20 + 4 * (m + 1)) (20 + 100 * (m + 1)) (spans ++ o.toList) f ∧ ∀ s, o = some s → Sz (20 + 4 * (m + 1)) (20 + 100 * (m + 1)) s.1 ∧ Sz (20 + 4 * (m + 1)) (20 + 100 * (m + 1)) s.2 := by
      rintro rfl rfl
      refine ⟨FSz.const ?_, fun s e => nomatch e⟩
      have z := ((cutR_sz (f := fig) q4).mono (d := 14) (k := 5) hfig (Nat.le_refl _)).sub (q4.mono (d := 14) (k := 5) (by decide) (by decide))
      exact z.mono (by omega) (by omega)
    have copy : ∀ a c, a < rows.length → c < cnt a → o = none → f = tf a c → FSz (20 + 4 * (m + 1)) (20 + 100 * (m + 1)) (spans ++ o.toList) f ∧ ∀ s, o = some s → Sz (20 + 4 * (m + 1)) (20 + 100 * (m + 1)) s.1 ∧ Sz (20 + 4 * (m + 1)) (20 + 100 * (m + 1)) s.2 := by
      rintro a c ha hc rfl rfl
      rw [Option.toList_none, List.append_nil]
      exact ⟨(arg a c ha hc).1.mono (by omega) (by omega), fun s e => nomatch e⟩
    have bet : ∀ fa fb, FSz (20 + 4 * m) (20 + 100 * m) spans fa → FSz (20 + 4 * m) (20 + 100 * m) spans fb → Bet spans fa fb o f → FSz (20 + 4 * (m + 1)) (20 + 100 * (m + 1)) (spans ++ o.toList) f ∧ ∀ s, o = some s → Sz (20 + 4 * (m + 1)) (20 + 100 * (m + 1)) s.1 ∧ Sz (20 + 4 * (m + 1)) (20 + 100 * (m + 1)) s.2 := by
      intro fa fb h1 h2 hB
      rcases hB with ⟨rfl, _, rfl⟩ | ⟨rfl, rfl⟩
      · rw [Option.toList_none, List.append_nil]
        exact ⟨h1.mono (by omega) (by omega), fun s e => nomatch e⟩
      · have b1 : Sz (20 + 4 * (m + 1)) (20 + 100 * (m + 1)) (betS spans fa fb).1 := (rmin_sz (lowF_sz h1) (lowF_sz h2)).mono (by omega) (by omega)
        have b2 : Sz (20 + 4 * (m + 1)) (20 + 100 * (m + 1)) (betS spans fa fb).2 := (rmax_sz (highF_sz h1) (highF_sz h2)).mono (by omega) (by omega)
        refine ⟨FSz.new b1 b2, fun s e => ?_⟩
        cases e
        exact ⟨b1, b2⟩
    have two : ∀ i, i < r.args.length → r.args.getD i 0 ∈ r.args := fun i hi => by
      rw [List.getD_eq_getElem?_getD, List.getElem?_eq_getElem hi, Option.getD_some]
      exact List.getElem_mem hi
    have A : ∀ i, r.w ≠ .late → placeR r.w (cnt j) = cnt j → i < r.args.length → FSz (20 + 4 * m) (20 + 100 * m) spans (tf (r.args.getD i 0) (cnt j)) ∧ Out0 spans.length (tf (r.args.getD i 0) (cnt j)) := fun i hl hp hi => by
      obtain ⟨d1, d2⟩ := hav hl _ (two i hi)
      rw [hp] at d2
      exact arg _ _ d1 d2
    unfold NStep at hst
    cases hw : r.w with
    | spring =>
      rw [hw] at hst
      obtain ⟨ho, hf⟩ := hst
      cases o with
      | none =>
        rw [hf, Option.toList_none, List.append_nil]
        exact ⟨FSz.const (Sz.zero _ _), fun s e => nomatch e⟩
      | some s =>
        obtain ⟨b1, b2⟩ := cutSpan_sz (by omega) (by omega) ho.symm
        have b1' : Sz (20 + 4 * (m + 1)) (20 + 100 * (m + 1)) s.1 := b1.mono (by omega) (by omega)
        have b2' : Sz (20 + 4 * (m + 1)) (20 + 100 * (m + 1)) s.2 := b2.mono (by omega) (by omega)
        rw [hf]
        refine ⟨FSz.new b1' b2', fun t e => ?_⟩
        cases e
        exact ⟨b1', b2'⟩
    | fixed =>
      rw [hw] at hst
      exact fixd hst.1 hst.2
    | late =>
      rw [hw] at hst
      by_cases h0 : cnt j = 0
      · rw [if_pos h0] at hst
        exact fixd hst.1 hst.2
      · rw [if_neg h0] at hst
        obtain ⟨d1, d2⟩ := (hlate hw).resolve_left h0
        exact copy _ _ d1 d2 hst.1 hst.2
    | half =>
      rw [hw] at hst
      obtain ⟨d1, d2⟩ := hav (by rw [hw]; decide) _ (two 0 (by rw [ar, hw]; decide))
      rw [hw] at d2
      exact copy _ _ d1 d2 hst.1 hst.2
    | twice =>
      rw [hw] at hst
      obtain ⟨d1, d2⟩ := hav (by rw [hw]; decide) _ (two 0 (by rw [ar, hw]; decide))
      rw [hw] at d2
      exact copy _ _ d1 d2 hst.1 hst.2
    | «by» =>
      rw [hw] at hst
      obtain ⟨ho, hf⟩ := hst
      have a0 := A 0 (by rw [hw]; decide) (by rw [hw]; rfl) (by rw [ar, hw]; decide)
      have t0 := a0.1.times q4
      have f4 : figsN r.q ≤ 4 := by
        obtain ⟨k, hk, e⟩ := dvd_pow_two _ _ q4.1
        rw [figsN_eq e]
        exact hk
      have hto : Out0 spans.length (timesF r.q (tf (r.args.getD 0 0) (cnt j))) := fun i hi => by
        show r.q * _ = 0
        rw [a0.2 i hi, Rat.mul_zero]
      rw [hf]
      cases o with
      | none =>
        rw [Option.toList_none, List.append_nil]
        refine ⟨(t0.sum (FSz.mono (FSz.const (B := 4 + (20 + 4 * m)) (Sz.zero _ _)) (Nat.le_refl _) (Nat.le_refl _))).mono (by omega) (by omega), fun s e => nomatch e⟩
      | some s =>
        obtain ⟨b1, b2⟩ := cutSpan_sz (by omega) (by omega) ho.symm
        have b1' : Sz (4 + (20 + 4 * m)) (4 + (20 + 100 * m)) s.1 := b1.mono (by omega) (by omega)
        have b2' : Sz (4 + (20 + 4 * m)) (4 + (20 + 100 * m)) s.2 := b2.mono (by omega) (by omega)
        refine ⟨((t0.app (t := [s]) hto).sum (FSz.new b1' b2')).mono (by omega) (by omega), fun t e => ?_⟩
        cases e
        exact ⟨b1.mono (by omega) (by omega), b2.mono (by omega) (by omega)⟩
    | sum =>
      rw [hw] at hst
      obtain ⟨rfl, hf⟩ := hst
      have a0 := A 0 (by rw [hw]; decide) (by rw [hw]; rfl) (by rw [ar, hw]; decide)
      have a1 := A 1 (by rw [hw]; decide) (by rw [hw]; rfl) (by rw [ar, hw]; decide)
      rw [hf, Option.toList_none, List.append_nil]
      exact ⟨(a0.1.sum a1.1).mono (by omega) (by omega), fun s e => nomatch e⟩
    | less =>
      rw [hw] at hst
      obtain ⟨rfl, hf⟩ := hst
      have a0 := A 0 (by rw [hw]; decide) (by rw [hw]; rfl) (by rw [ar, hw]; decide)
      have a1 := A 1 (by rw [hw]; decide) (by rw [hw]; rfl) (by rw [ar, hw]; decide)
      have t1 := (a1.1.times (q := -1) (b := 0) (j := 0) (Sz.one 0 0).neg).mono (B' := 20 + 4 * m) (k' := 20 + 100 * m) (by omega) (by omega)
      rw [hf, Option.toList_none, List.append_nil]
      exact ⟨(a0.1.sum t1).mono (by omega) (by omega), fun s e => nomatch e⟩
    | most =>
      rw [hw] at hst
      exact bet _ _ (A 0 (by rw [hw]; decide) (by rw [hw]; rfl) (by rw [ar, hw]; decide)).1 (A 1 (by rw [hw]; decide) (by rw [hw]; rfl) (by rw [ar, hw]; decide)).1 hst
    | least =>
      rw [hw] at hst
      exact bet _ _ (A 0 (by rw [hw]; decide) (by rw [hw]; rfl) (by rw [ar, hw]; decide)).1 (A 1 (by rw [hw]; decide) (by rw [hw]; rfl) (by rw [ar, hw]; decide)).1 hst
    | pick =>
      rw [hw] at hst
      exact bet _ _ (A 1 (by rw [hw]; decide) (by rw [hw]; rfl) (by rw [ar, hw]; decide)).1 (A 2 (by rw [hw]; decide) (by rw [hw]; rfl) (by rw [ar, hw]; decide)).1 hst
  obtain ⟨k1, k2⟩ := key
  have hlen : spans.length ≤ (spans ++ o.toList).length := by
    rw [List.length_append]
    omega
  refine ⟨?_, ?_, fun i c hi hc => ?_, fun i c hi hc => ?_⟩
  · rw [List.length_append]
    cases o <;> simp <;> omega
  · have hsp : ∀ i, Sz (20 + 4 * (m + 1)) (20 + 100 * (m + 1)) (spAt spans i).1 ∧ Sz (20 + 4 * (m + 1)) (20 + 100 * (m + 1)) (spAt spans i).2 := fun i => ⟨(h.sp i).1.mono (by omega) (by omega), (h.sp i).2.mono (by omega) (by omega)⟩
    cases o with
    | none =>
      rw [Option.toList_none, List.append_nil]
      exact hsp
    | some s => exact fun i => spAt_sz hsp (k2 s rfl).1 (k2 s rfl).2 i
  · by_cases e : i = j ∧ c = cnt j
    · rw [e.1, e.2, setF_same]
      exact k1
    · rw [setF_old e]
      have hc' : c < cnt i := by
        by_cases ei : i = j
        · subst ei
          rw [hc1] at hc
          have ne : c ≠ cnt i := fun z => e ⟨rfl, z⟩
          omega
        · rw [hc2 i hi ei] at hc
          exact hc
      exact ((h.f i c hi hc').app (h.out i c hi hc')).mono (by omega) (by omega)
  · by_cases e : i = j ∧ c = cnt j
    · rw [e.1, e.2, setF_same]
      exact hof
    · rw [setF_old e]
      have hc' : c < cnt i := by
        by_cases ei : i = j
        · subst ei
          rw [hc1] at hc
          have ne : c ≠ cnt i := fun z => e ⟨rfl, z⟩
          omega
        · rw [hc2 i hi ei] at hc
          exact hc
      exact fun x hx => h.out i c hi hc' x (Nat.le_trans hlen hx)
end
/-! ### springs' own forms -/
def SprI (rows : List Row) (fig fine : Nat) (fv : Nat → Nat → Form) (cnt : Nat → Nat) (spans : List Span) : Prop := ∀ (j : Nat) (r : Row), rows[j]? = some r → r.w = .spring → ∀ c, c < cnt j →
  (cutSpan fig fine = none ∧ fv j c = cutF 0 none) ∨ ∃ m s, cutSpan fig fine = some s ∧ m < spans.length ∧ spAt spans m = s ∧ fv j c = cutF m (some s)
theorem SprI.step {rows : List Row} {fig fine : Nat} {fv : Nat → Nat → Form} {cnt cnt' : Nat → Nat} {spans : List Span} {o : Option Span} {f : Form} {j : Nat} {r : Row} {tf : Nat → Nat → Form} (h : SprI rows fig fine fv cnt spans)
    (hr : rows[j]? = some r) (hc1 : cnt' j = cnt j + 1) (hc2 : ∀ i, i < rows.length → i ≠ j → cnt' i = cnt i) (hst : NStep fig fine spans tf r (cnt j) o f) : SprI rows fig fine (setF fv j (cnt j) f) cnt' (spans ++ o.toList) := by
  intro i ri hri hw c hc
  by_cases e : i = j ∧ c = cnt j
  · obtain ⟨rfl, rfl⟩ := e
    rw [hr] at hri
    cases hri
    rw [setF_same]
    unfold NStep at hst
    rw [hw] at hst
    obtain ⟨ho, hf⟩ := hst
    cases o with
    | none => exact .inl ⟨ho.symm, hf⟩
    | some s => exact .inr ⟨spans.length, s, ho.symm, by rw [Option.toList_some, List.length_append, List.length_cons, List.length_nil]; omega, spAt_new, hf⟩
  · rw [setF_old e]
    have hi := (List.getElem?_eq_some_iff.mp hri).1
    have hc' : c < cnt i := by
      by_cases ei : i = j
      · subst ei
        rw [hc1] at hc
        have ne : c ≠ cnt i := fun z => e ⟨rfl, z⟩
        omega
      · rw [hc2 i hi ei] at hc
        exact hc
    rcases h i ri hri hw c hc' with z | ⟨m, s, z1, z2, z3, z4⟩
    · exact .inl z
    · exact .inr ⟨m, s, z1, by rw [List.length_append]; omega, by rw [spAt_app z2]; exact z3, z4⟩
theorem un_mono {a b : Nat} (h : a ≤ b) : un b ≤ un a := by
  have e1 := un_mul a
  have e2 := un_mul b
  have p := pow_mono_two h
  have u := un_pos a
  have u2 := un_pos b
  have pa := pow_pos_two a
  have nz : ¬ un a < un b := by
    intro c
    have m1 := Rat.mul_le_mul_of_nonneg_left p (show (0 : Rat) ≤ un b by grind)
    have m2 := Rat.mul_lt_mul_of_pos_right c pa
    grind
  grind
/-- a spring's form's ends are its span -/
theorem spring_ends {fig fine m : Nat} {s : Span} {spans : List Span} (h : cutSpan fig fine = some s) (hm : m < spans.length) (e : spAt spans m = s) : lowF spans (cutF m (some s)) = s.1 ∧ highF spans (cutF m (some s)) = s.2 := by
  have hs : s.1 ≤ s.2 := by
    unfold cutSpan at h
    split at h
    · cases h
    · rename_i c
      cases h
      have z := un_mono (show fig ≤ fine by omega)
      show un fine - un fig ≤ 0
      grind
  have one : ∀ g : Nat → Rat, (∀ i, i ≠ m → g i = 0) → sumR ((List.range spans.length).map g) = g m := fun g hg => by
    rw [← sum_nodup (n := spans.length) (ks := [m]) (by simp) (fun i hi => by rw [List.mem_singleton] at hi; omega) (fun i _ hi => hg i (by rwa [List.mem_singleton] at hi))]
    exact sumR_one _
  have c0 : ∀ i, i ≠ m → (cutF m (some s)).co i = 0 := fun i hi => if_neg hi
  have c1 : (cutF m (some s)).co m = 1 := if_pos rfl
  constructor
  · unfold lowF
    rw [one _ fun i hi => lowI_zero (c0 i hi)]
    unfold lowI
    rw [c1, e, Rat.one_mul, Rat.one_mul]
    show 0 + rmin s.1 s.2 = s.1
    unfold rmin
    split <;> grind
  · unfold highF
    rw [one _ fun i hi => highI_zero (c0 i hi)]
    unfold highI
    rw [c1, e, Rat.one_mul, Rat.one_mul]
    show 0 + rmax s.1 s.2 = s.2
    unfold rmax
    split <;> grind
theorem none_ends (spans : List Span) (m : Nat) : lowF spans (cutF m none) = 0 ∧ highF spans (cutF m none) = 0 := by
  have z1 : sumR ((List.range spans.length).map (lowI spans (cutF m none))) = 0 := sumR_zero fun i _ => lowI_zero rfl
  have z2 : sumR ((List.range spans.length).map (highI spans (cutF m none))) = 0 := sumR_zero fun i _ => highI_zero rfl
  unfold lowF highF
  rw [z1, z2]
  exact ⟨by show (0 : Rat) + 0 = 0; grind, by show (0 : Rat) + 0 = 0; grind⟩
end K70
/-! K70, part P2: what noise_of wants besides. -/
namespace K70
open PySem PySem.Spec PyProof.Rows L2
theorem LL.keep2 {α : Type} {P P' : Hp → V → α → Prop} {H H' : Hp} {t : Addr} {as : List Addr} {L : List (List α)} (h : LL P H t as L) (hP : ∀ v x, P H v x → P' H' v x) (k : ∀ a o, (a = t ∨ a ∈ as) → H a = some o → H' a = some o) : LL P' H' t as L :=
  ⟨k _ _ (.inl rfl) h.top, h.nd, h.no, h.ln, fun j a l e1 e2 => by
    obtain ⟨vs, h1, h2⟩ := h.it j a l e1 e2
    exact ⟨vs, k _ _ (.inr (List.mem_of_getElem? e1)) h1, h2.imp hP⟩⟩
/-! ### data compared -/
def numD (q : Rat) : PyData := .tuple [.int q.num, .int (q.den : Int)]
def spanD (s : Span) : PyData := .tuple [numD s.1, numD s.2]
section
variable {K : PySem.W.Frag} {H : Hp}
theorem NumV.dp {v : V} {q : Rat} (h : NumV K H v q) : Dp K H v (numD q) := by
  obtain ⟨a, rfl, h⟩ := h
  exact .tup h (.cons (.int _) (.cons (.int _) .nil))
theorem SpanV.dp {v : V} {s : Span} (h : SpanV K H v s) : Dp K H v (spanD s) := by
  obtain ⟨a, u1, u2, rfl, h, h1, h2⟩ := h
  exact .tup h (.cons h1.dp (.cons h2.dp .nil))
end
theorem numD_eqv (p q : Rat) : PyData.eqv (numD p) (numD q) = decide (p = q) := by
  unfold numD
  simp only [PyData.eqv, PyData.eqvAll, Bool.and_true]
  rw [← rat_ext_iff]
  rfl
theorem spanD_eqv (s t : Span) : PyData.eqv (spanD s) (spanD t) = (decide (s.1 = t.1) && decide (s.2 = t.2)) := by
  unfold spanD
  simp only [PyData.eqv, PyData.eqvAll, Bool.and_true, numD_eqv]
theorem spanD_shaped (s : Span) : SeqAt.shaped (spanD s) = true := by
  unfold SeqAt.shaped spanD numD
  simp [PyData.canLay0, PyData.canLayAll0, PyData.depth, PyData.depthAll]
section
variable {X : Cx} {K : PySem.W.Frag}
theorem opNeK (hu : X.A.units + 64 < cLine) (hK : X.K = K := by rfl) : OpR X (compareOp .NotEq) (rNeD K) := hK ▸ op_neD hu
theorem opEqK (hu : X.A.units + 64 < cLine) (hK : X.K = K := by rfl) : OpR X (compareOp .Eq) (rEqD K) := hK ▸ op_eqD hu
end
/-! ### a dict of lists, told by the outs -/
def DOut {α : Type} (R : Hp → V → α → Prop) (g : Nat → List α) (H : Hp) : List (Key × V) → List (Str × Nat) → Prop := All2 fun p o => p.1 = .inr o.1 ∧ ∃ l ws, p.2 = .ref l ∧ H l = some (.lst ws) ∧ All2 (R H) ws (g o.2)
theorem DOut.keys {α : Type} {R : Hp → V → α → Prop} {g : Nat → List α} {H : Hp} {kk : List (Key × V)} {outs : List (Str × Nat)} (h : DOut R g H kk outs) : kk.map (·.1) = outs.map fun o => (.inr o.1 : Key) := by
  induction h with
  | nil => rfl
  | cons h1 _ ih => rw [List.map_cons, List.map_cons, h1.1, ih]
theorem DOut.val {α : Type} {R : Hp → V → α → Prop} {g : Nat → List α} {H : Hp} {kk : List (Key × V)} {outs : List (Str × Nat)} (h : DOut R g H kk outs) (hn : (outs.map (·.1)).Nodup) {o : Str × Nat} (ho : o ∈ outs) :
    ∃ l ws, valV kk (.inr o.1) = some (.ref l) ∧ H l = some (.lst ws) ∧ All2 (R H) ws (g o.2) := by
  induction h with
  | nil => cases ho
  | @cons p o' as bs h1 _ ih =>
    obtain ⟨e, l, ws, e2, e3, e4⟩ := h1
    rw [List.map_cons, List.nodup_cons] at hn
    rcases List.mem_cons.mp ho with rfl | ho
    · exact ⟨l, ws, by rw [valV_pos e, e2], e3, e4⟩
    · have ne : ¬ p.1 = .inr o.1 := by
        rw [e]
        intro z
        have z' := Sum.inr.inj z
        exact hn.1 (z' ▸ List.mem_map.mpr ⟨o, ho, rfl⟩)
      rw [valV_neg ne]
      exact ih hn.2 ho
theorem DOut.none {α : Type} {R : Hp → V → α → Prop} {g : Nat → List α} {H : Hp} {kk : List (Key × V)} {outs : List (Str × Nat)} (h : DOut R g H kk outs) {nm : Str} (hn : nm ∉ outs.map (·.1)) : valV kk (.inr nm) = none := by
  cases hv : valV kk (.inr nm) with
  | none => rfl
  | some y =>
    have m := valV_mem hv
    have m2 : (.inr nm : Key) ∈ kk.map (·.1) := List.mem_map.mpr ⟨_, m, rfl⟩
    rw [h.keys] at m2
    obtain ⟨o, ho, e⟩ := List.mem_map.mp m2
    have e' := Sum.inr.inj e
    exact absurd (List.mem_map.mpr ⟨o, ho, e'⟩) hn
theorem DOut.keep {α : Type} {R : Hp → V → α → Prop} {g : Nat → List α} {H H' : Hp} {kk : List (Key × V)} {outs : List (Str × Nat)} (h : DOut R g H kk outs) (hR : ∀ v x, R H v x → R H' v x) (k : ∀ a xs, H a = some (.lst xs) → H' a = some (.lst xs)) : DOut R g H' kk outs :=
  All2.imp h fun p o ⟨e, l, ws, e2, e3, e4⟩ => ⟨e, l, ws, e2, k _ _ e3, e4.imp hR⟩
/-- the outs stand at v -/
def OutsV (K : PySem.W.Frag) (H : Hp) (v : V) (outs : List (Str × Nat)) : Prop := ∃ oa ovs, v = .ref oa ∧ SqT K H oa ovs ∧ All2 (fun v (o : Str × Nat) => ∃ p, v = .ref p ∧ SqT K H p [.str o.1, .int (o.2 : Int)]) ovs outs
theorem OutsV.tk {K : PySem.W.Frag} {H H' : Hp} {v : V} {outs : List (Str × Nat)} (h : OutsV K H v outs) (e : TK K H H') : OutsV K H' v outs := by
  obtain ⟨oa, ovs, h1, h2, h3⟩ := h
  exact ⟨oa, ovs, h1, e _ _ h2, h3.imp fun _ _ ⟨p, z1, z2⟩ => ⟨p, z1, e _ _ z2⟩⟩
/-! ### Unsure.__init__ -/
section
variable {P : Program} {w : World} {K : PySem.W.Frag} {mg : Str → Option Value} {base : Heap}
def sp_Unsure_init (K : PySem.W.Frag) : Sp := fun vs H Q _ => ∃ (a : Addr) (v : V), vs = [.ref a, v] ∧ H a = some (exo a (He.ga K "Unsure") none) ∧ ∀ d, H d = none → d ≠ a → Q .non (upd (upd H d (exd d [("node", v)])) a (exo a (He.ga K "Unsure") (some d)))
abbrev n_Unsure_init : List Str := ["self", "node"]
theorem sc_Unsure_init : FnScope n_Unsure_init ["self", "node"] (defScope s_Unsure_init) := ⟨rfl, rfl, rfl, by decide +kernel, rfl, by decide +kernel, by decide +kernel⟩
theorem ok_Unsure_init (T : TX K mg) : ∃ fd, FnOk P w K mg base CX0 1 (He.ma K (He.ga K "Unsure") "__init__") fd ["self", "node"] (sp_Unsure_init K) ∧ Binds K fd ["self", "node"] [] := by
  obtain ⟨fd, F⟩ := T.f_Unsure_init
  refine ⟨fd, ?_, F.bindsN (fun _ _ _ _ _ _ us hl => match us, hl with | [_, _], _ => rfl)⟩
  refine okN F sc_Unsure_init (fun vs H Q E h => ?_) (fun cdv A outer s H vs Q E hr h => ?_)
  · obtain ⟨a, v, rfl, _⟩ := h
    rfl
  · obtain ⟨a, v, rfl, h1, q⟩ := h
    refine ⟨_,
      (pss_cons
        (ps_expr (pe_reinit (by rfl) T.z_RuntimeError (exB_init T.ex) (pa_cons (pv 0) (pa_cons pe_str pa_nil))))
      (pss_one
        (ps_reSet (pv 0) (pv 1)))), ?_⟩
    have U := exB_unsure T.ex
    refine ⟨_, rfl, a, _, _, rfl, by show 1 ≤ 1000; decide, U.o, h1, ?_⟩
    exact ⟨_, rfl, _, rfl, a, _, rfl, U.o, U.nf, h1, fun dx hd hne => q dx hd hne⟩
end
end K70
/-! K70, part P: noise_of. -/
namespace K70
open PySem PySem.Spec PyProof.Rows L2
def NoiseOk (rows : List Row) (fig fine beats : Nat) (lh : Nat → Nat → Span) : Prop := (∀ gv ve vf, Pair rows fig fine beats gv ve vf → ∀ (j : Nat) (r : Row) (c : Nat), rows[j]? = some r → c < manyN r.per beats → (lh j c).1 ≤ vf j c - ve j c ∧ vf j c - ve j c ≤ (lh j c).2) ∧
  (∀ (j : Nat) (r : Row), rows[j]? = some r → r.w = .spring → ∀ c, c < manyN r.per beats → lh j c = (cutSpan fig fine).getD (0, 0)) ∧ ∀ (j : Nat) (r : Row) (c : Nat), rows[j]? = some r → c < manyN r.per beats → Bd (lh j c).1 ∧ Bd (lh j c).2
section
variable {P : Program} {w : World} {K : PySem.W.Frag} {mg : Str → Option Value} {base : Heap}
theorem pi_listK {X : Cx} {tg l : Expr} {tl : TE} (hl : PE X l tl) (hK : X.K = K := by rfl) : PI X tg l (iList K tl) := hK ▸ pi_list hl
theorem pi_tupK {X : Cx} {tg l : Expr} {tl : TE} (hl : PE X l tl) (hK : X.K = K := by rfl) : PI X tg l (iTup K tl) := hK ▸ pi_tup hl
theorem pe_methK {X : Cx} {k : Nat} {ps : List Str} {sp : Sp} {m : Str} {apos pos : Pos} {o e : Expr} {es : List Expr} {ta : TE} {t : TA} {pl : Sem Bool} (C : CalM X.prog X.w K X.mg X.base m ps k sp) (c : Cls K (He.ga K "Forms")) (hm : Meth K (He.ga K "Forms") m (He.ma K (He.ga K "Forms") m)) (hr : Room k X.A) (he : PE X o ta) (ha : PA X (e :: es) t)
    (hK : X.K = K := by rfl) (hst : starEach (e :: es) X.env = (false, eval e X.env) :: starEach es X.env := by rfl) (hpl : (backTo pos (starEach es X.env)).any (·.1) = false := by rfl)
    (ht : eval (.Call (.Attribute o m apos) (e :: es) [] pos) X.env = (do
      let ov ← eval o X.env
      standAt apos.atName
      let (f, first) ← holding [ov] (getMethod ov m pl)
      callWith pos f first (backTo pos (starEach (e :: es) X.env)) (backToKw pos (keywordEach [] X.env))) := by rfl) :
    PE X (.Call (.Attribute o m apos) (e :: es) [] pos) (tMeth (He.ga K "Forms") m sp [] E0 ta t) := by
  subst hK
  exact pe_methC C c hm hr he ha hst hpl ht
theorem mkForms {X : Cx} {pos p : Pos} (T : TX K X.mg) (hr : Room 6 X.A) (hK : X.K = K := by rfl) (hg : Gl X "Forms" := by rfl) : PE X (.Call (.Name "Forms" p) [] [] pos) (tMake (He.ga K "Forms") (sp_Forms_init K) [] E0 tNil) := by
  subst hK
  obtain ⟨⟨fd, F, b⟩⟩ := m_Forms_init (P := X.prog) (w := X.w) (base := X.base) T
  exact pe_make0 T.mkF F (hr.mono (by decide)) hg T.g_Forms b .nil pass0
theorem raiseU {X : Cx} {p pos : Pos} {e : Expr} {es : List Expr} {ta : TA} (T : TX K X.mg) (hr : Room 6 X.A) (ha : PA X (e :: es) ta) (hK : X.K = K := by rfl) (hg : Gl X "Unsure" := by rfl)
    (he : starEach (e :: es) X.env = (false, eval e X.env) :: starEach es X.env := by rfl) (hpl : (backTo pos (starEach es X.env)).any (·.1) = false := by rfl) :
    PMk X (.Call (.Name "Unsure" p) (e :: es) [] pos) (tMkO (He.ga K "Unsure") (sp_Unsure_init K) [] ta) := by
  subst hK
  obtain ⟨fd, F, b⟩ := ok_Unsure_init (P := X.prog) (w := X.w) (base := X.base) T
  have U := exB_unsure T.ex
  exact pmk_re U.o U.iC U.tI F (hr.mono (by decide)) b .nil pass0 hg T.g_Unsure ha (by decide) he hpl
def sp_noise_of (K : PySem.W.Frag) : Sp := fun vs H Q E => ∃ (gr : Addr) (rows : List Row) (rk : Nat → Nat) (ot : V) (outs : List (Str × Nat)) (beats fig fine : Nat), vs = [.ref gr, .int beats, .int fig, .int fine] ∧ GraphV K H gr rows ot ∧ OutsV K H ot outs ∧ GOk rows rk ∧ beats ≤ 8 ∧ fig ≤ 14 ∧ fine ≤ 14 ∧
  (∀ o ∈ outs, o.2 < rows.length) ∧ (outs.map (·.1)).Nodup ∧ outs.length ≤ 100 ∧ (∀ d fs H', Same H H' → H' d = some (.xd fs) → E (.ref (He.ga K "Unsure")) (some d) H') ∧
  ∀ d H' kk lh, Same H H' → H d = none → H' d = some (.dK kk) → DOut (SpanV K) (fun j => (List.range (manyN (perAt rows j) beats)).map (lh j)) H' kk outs → NoiseOk rows fig fine beats lh → Q (.ref d) H'
/-! ### noise_of -/
abbrev n_noise_of : List Str := ["graph", "beats", "figures", "fine", "nodes", "outs", "forms", "told", "order", "node", "beat", "row", "form", "name"]
theorem sc_noise_of : FnScope n_noise_of ["graph", "beats", "figures", "fine"] (defScope s_noise_of) := ⟨rfl, rfl, rfl, by decide +kernel, rfl, by decide +kernel, by decide +kernel⟩
theorem ok_noise_of (T : TX K mg) {fd : FuncData} (F : FnP K "noise_of" "noise_of" s_noise_of [] [("figures", .int 8), ("fine", .int 6)] (He.ga K "noise_of") fd) : FnOk P w K mg base (L2.CX P w) 7 (He.ga K "noise_of") fd ["graph", "beats", "figures", "fine"] (sp_noise_of K) := by
  refine FunD.ok F sc_noise_of (fun vs H Q E h => ?_) (fun cdv A outer s H vs Q E hr h => ?_)
  · obtain ⟨gr, rows, rk, ot, outs, beats, fig, fine, rfl, hgr, hot, G, hb, hfig, hfine, hon, hond, hol, q2, q⟩ := h
    rfl
  · obtain ⟨gr, rows, rk, ot, outs, beats, fig, fine, rfl, hgr, hot, G, hb, hfig, hfine, hon, hond, hol, q2, q⟩ := h
    refine ⟨_, 
      (pss_cons
        (ps_asg (pv 0) (pg_tup (by rfl) (pgs_cons (pg_name (i := 4) sc_noise_of.nd rfl (by first | exact Or.inl rfl | exact Or.inr rfl)) (pgs_cons (pg_name (i := 5) sc_noise_of.nd rfl (by first | exact Or.inl rfl | exact Or.inr rfl)) pgs_nil))))
      (pss_cons
        (ps_asg (pe_tup (pa_cons (mkForms T hr) (pa_cons (pe_lc (own := [("node", 9)]) rfl sc_noise_of.nd (pi_tup (pv 4)) (blkOk_by (N := n_noise_of) (sc := defScope s_noise_of) (by decide +kernel)) (fun _ _ _ _ _ => pg_name (i := 9) sc_noise_of.nd rfl (by first | exact Or.inl rfl | exact Or.inr rfl)) (fun _ _ _ _ _ => pts_nil) (fun _ _ _ _ _ => (pe_lst pa_nil))) (pa_cons (pe_cal (c_now_order T) (hr.mono (by decide)) (pa_cons (pv 4) pa_nil)) pa_nil)))) (pg_tup (by rfl) (pgs_cons (pg_name (i := 6) sc_noise_of.nd rfl (by first | exact Or.inl rfl | exact Or.inr rfl)) (pgs_cons (pg_name (i := 7) sc_noise_of.nd rfl (by first | exact Or.inl rfl | exact Or.inr rfl)) (pgs_cons (pg_name (i := 8) sc_noise_of.nd rfl (by first | exact Or.inl rfl | exact Or.inr rfl)) pgs_nil)))))
      (pss_cons
        (ps_for (passes_of rfl) rfl (pi_range1 (by rfl) T.z_range (pa_cons (pv 1) pa_nil)) (pg_name (i := 10) sc_noise_of.nd rfl (by first | exact Or.inl rfl | exact Or.inr rfl))
          (pss_one
            (ps_for (passes_of rfl) rfl (pi_list (pv 8)) (pg_name (i := 9) sc_noise_of.nd rfl (by first | exact Or.inl rfl | exact Or.inr rfl))
              (pss_cons
                (ps_set (i := 11) sc_noise_of.nd rfl (by first | exact Or.inl rfl | exact Or.inr rfl) (pe_ix (ixT (K := K)) (pv 4) (pv 9) (fun _ _ => rfl)))
              (pss_one
                (ps_if (pt_cmpR op_eq (pe_op op_modN (pv 10) (pe_ix (ixT (K := K)) (pv 11) pe_int (fun _ _ => rfl))) pe_int (nomark _))
                  (pss_one
                    (ps_expr (pe_bm PySem.F.plainAttrs_list PySem.F.slot_list_append PySem.F.type_list_append mt_append (pe_ix (ixL (K := K)) (pv 7) (pv 9) (fun _ _ => rfl)) (pa_cons (pe_cal (c_form_of T) (hr.mono (by decide)) (pa_cons (pv 11) (pa_cons (pv 7) (pa_cons (pe_op op_fdiv (pv 10) (pe_ix (ixT (K := K)) (pv 11) pe_int (fun _ _ => rfl))) (pa_cons (pv 6) (pa_cons (pv 2) (pa_cons (pv 3) pa_nil))))))) pa_nil))))
                  pss_nil))))))
      (pss_cons
        (ps_for (passes_of rfl) rfl (pi_enumT (by rfl) T.z_enumerate (pa_cons (pv 4) pa_nil)) (pg_tup (by rfl) (pgs_cons (pg_name (i := 9) sc_noise_of.nd rfl (by first | exact Or.inl rfl | exact Or.inr rfl)) (pgs_cons (pg_name (i := 11) sc_noise_of.nd rfl (by first | exact Or.inl rfl | exact Or.inr rfl)) pgs_nil)))
          (pss_one
            (ps_if (PW.pt (pw_and (pt_cmpR op_eq (pe_ix (ixT (K := K)) (pv 11) pe_int (fun _ _ => rfl)) pe_str (nomark _)) (pw_and1 (pt_val (pe_callB (cr_any rfl) (by rfl) T.z_any (by decide +kernel) (pa_cons (pe_lc (own := [("form", 12)]) rfl sc_noise_of.nd (pi_list (pe_ix (ixL (K := K)) (pv 7) (pe_ix (ixT (K := K)) (pe_ix (ixT (K := K)) (pv 11) pe_int (fun _ _ => rfl)) pe_int (fun _ _ => rfl)) (fun _ _ => rfl))) (blkOk_by (N := n_noise_of) (sc := defScope s_noise_of) (by decide +kernel)) (fun _ _ _ _ _ => pg_name (i := 12) sc_noise_of.nd rfl (by first | exact Or.inl rfl | exact Or.inr rfl)) (fun _ _ _ _ _ => pts_nil) (fun _ _ _ _ _ => (pe_cmpR (opNeK (K := K) hr.units) (pe_methK (K := K) (m_Forms_ends T) T.cl T.m_ends (hr.mono (by decide)) (pv 6) (pa_cons (pv 12) pa_nil)) (pe_tup (pa_cons (pe_glob rfl T.g_NOUGHT (show L2.RelV (.ref (He.ga K "NOUGHT")) _ from rfl)) (pa_cons (pe_glob rfl T.g_NOUGHT (show L2.RelV (.ref (He.ga K "NOUGHT")) _ from rfl)) pa_nil))) (nomark _)))) pa_nil))))))
              (pss_one
                (ps_raise rfl (takes_of rfl rfl rfl rfl) (raiseU T hr (pa_cons (pv 9) pa_nil))))
              pss_nil)))
      (pss_one
        (ps_ret (pe_dc (own := [("name", 13), ("node", 9)]) (g := gTup K 2 (gCons (gName 13) (gCons (gName 9) (gNil)))) rfl sc_noise_of.nd (pi_tup (pv 5)) (blkOk_by (N := n_noise_of) (sc := defScope s_noise_of) (by decide +kernel)) (fun _ _ _ _ _ => pg_tup (by rfl) (pgs_cons (pg_name (i := 13) sc_noise_of.nd rfl (by first | exact Or.inl rfl | exact Or.inr rfl)) (pgs_cons (pg_name (i := 9) sc_noise_of.nd rfl (by first | exact Or.inl rfl | exact Or.inr rfl)) pgs_nil))) (fun _ _ _ _ _ => pts_nil) (fun _ _ _ _ _ => (pv 13)) (fun _ _ _ _ _ => (pe_lc (own := [("form", 12)]) rfl sc_noise_of.nd (pi_listK (K := K) (pe_ix (ixL (K := K)) (pv 7) (pv 9) (fun _ _ => rfl))) (blkOk_by (N := n_noise_of) (sc := _) (by kernel_rfl)) (fun _ _ _ _ _ => pg_name (i := 12) sc_noise_of.nd rfl (by first | exact Or.inl rfl | exact Or.inr rfl)) (fun _ _ _ _ _ => pts_nil) (fun _ _ _ _ _ => (pe_methK (K := K) (m_Forms_ends T) T.cl T.m_ends (hr.mono (by decide)) (pv 6) (pa_cons (pv 12) pa_nil)))))))))))), ?_⟩
    obtain ⟨nd, rvs, h1, h2, h3⟩ := id hgr
    obtain ⟨oa, ovs, rfl, o1, o2⟩ := id hot
    have hlen := h3.len
    have holen := o2.len
    have h9 := G.len
    refine ⟨_, rfl, gr, _, rfl, h1, rfl, _, _, rfl, _, _, rfl, rfl, ?_⟩
    -- Forms(), the lists, the order
    intro fo dx nfo ndx nex
    refine ⟨fo, dx, rfl, upd_same, fun sl hsl => ⟨rfl, ?_⟩⟩
    have sdx := same_upd (o := .own fo) ndx
    have sfo : Same (upd H dx (.own fo)) (upd (upd H dx (.own fo)) fo (.ins (He.ga K "Forms") dx [])) := same_upd (by rw [upd_ne (Ne.symm nex)]; exact nfo)
    have ssl := same_upd (o := .lst []) hsl
    have nsf : sl ≠ fo := by
      rintro rfl
      rw [upd_same] at hsl
      cases hsl
    have hslH : H sl = none := (sdx.trans sfo).free hsl
    have s0 : Same H (upd (upd (upd (upd H dx (.own fo)) fo (.ins (He.ga K "Forms") dx [])) sl (.lst [])) fo (.ins (He.ga K "Forms") dx [("spans", .ref sl)])) := same_upd_new ((sdx.trans sfo).trans ssl) nfo
    have hF0 : IsF K (upd (upd (upd (upd H dx (.own fo)) fo (.ins (He.ga K "Forms") dx [])) sl (.lst [])) fo (.ins (He.ga K "Forms") dx [("spans", .ref sl)])) fo sl := ⟨dx, upd_same⟩
    have hS0 : FrS K (upd (upd (upd (upd H dx (.own fo)) fo (.ins (He.ga K "Forms") dx [])) sl (.lst [])) fo (.ins (He.ga K "Forms") dx [("spans", .ref sl)])) sl [] := ⟨[], by rw [upd_ne nsf, upd_same], .nil⟩
    generalize upd (upd (upd (upd H dx (.own fo)) fo (.ins (He.ga K "Forms") dx [])) sl (.lst [])) fo (.ins (He.ga K "Forms") dx [("spans", .ref sl)]) = H1 at s0 hF0 hS0
    refine ⟨_, rfl, nd, rfl, ⟨_, SqT.same h2 s0⟩, fun D hD => ?_⟩
    refine lc_tup (K := K) (a := nd) (xs := rvs) (fun i H' => ∃ as, as.length = i ∧ Fresh H1 H' D as) ⟨[], rfl, Fresh.start hD⟩ (fun i H' _ z => by obtain ⟨as, _, z⟩ := z; exact SqT.same h2 (s0.trans z.s)) ?_ ?_
    · rintro i x H' hx ⟨as, z1, z2⟩
      have hi : i < rvs.length := (List.getElem?_eq_some_iff.mp hx).1
      refine ⟨rfl, by show 0 ≤ sizeLine; decide, fun l hl => ⟨_, same_upd hl _ _ z2.top, small1000 (by rw [List.length_map]; omega), as ++ [l], by rw [List.length_append, z1]; rfl, z2.step hl⟩⟩
    · rintro H2 ⟨as, z1, z2⟩
      have s2 := s0.trans z2.s
      refine ⟨_, rfl, nd, rvs, rows, rk, rfl, SqT.same h2 s2, h3.imp fun _ _ r => r.tk (tk_same s2), by omega, fun j r hr => ⟨?_, ?_⟩, fun o H3 order s3 ho ho0 hO hOl => ?_⟩
      · rw [G.ar r (List.mem_of_getElem? hr)]
        cases r.w <;> decide
      · exact fun hl a ha => ⟨G.lt r (List.mem_of_getElem? hr) a ha, (G.rk j r hr).2 hl a ha⟩
      refine ⟨by show 3 ≤ sizeLine; decide, fun tt htt => ?_⟩
      have stt := same_upd (o := .tup [.ref fo, .ref D, .ref o]) htt
      refine ⟨tt, _, rfl, SqT.of upd_same, rfl, _, _, rfl, _, _, rfl, _, _, rfl, rfl, ?_⟩
      have z3 := (z2.more s3).more stt
      have ho' := stt _ _ ho
      generalize upd H3 tt (.tup [.ref fo, .ref D, .ref o]) = H4 at z3 ho'
      have s4 := s0.trans z3.s
      have hF4 := hF0.same z3.s
      have hS4 := hS0.same z3.s
      obtain ⟨dx', hfo0⟩ := id hF0
      obtain ⟨ws0, hsl0, _⟩ := id hS0
      have nDs : sl ≠ D := ne_of_none hsl0 z3.D0
      have nas : ∀ a ∈ as, a ≠ sl := fun a ha => Ne.symm (ne_of_none hsl0 (z2.new a ha).1)
      have naf : ∀ a ∈ as, a ≠ fo := fun a ha => Ne.symm (ne_of_none hfo0 (z2.new a ha).1)
      have nso : sl ≠ o := ne_of_none (z2.s _ _ hsl0) ho0
      have hoa : ∀ a ∈ as, a ≠ o := fun a ha => ne_of_none (z2.new a ha).2 ho0
      have haH : ∀ a ∈ as, H a = none := fun a ha => s0.free (z2.new a ha).1
      have hll : LL (FormV K ([] : List Span).length) H4 D as (tabC rows.length (fun _ _ => dF) (cntAt rows 0 [])) := by
        rw [tabC_zero fun j hj => ?_]
        · have e := z3.ll (P := FormV K ([] : List Span).length)
          rw [z1, hlen] at e
          exact e
        · unfold cntAt
          rw [if_neg List.not_mem_nil]
          refine manyN_zero ?_
          rw [perAt_eq (List.getElem?_eq_getElem hj)]
          exact (G.per _ (List.getElem_mem hj)).1
      have hz0 : ∀ j, j < rows.length → cntAt rows 0 [] j = 0 := fun j hj => by
        unfold cntAt
        rw [if_neg List.not_mem_nil]
        refine manyN_zero ?_
        rw [perAt_eq (List.getElem?_eq_getElem hj)]
        exact (G.per _ (List.getElem_mem hj)).1
      refine ⟨_, rfl, beats, rfl, by omega, by omega, ?_⟩
      refine for_range (n := beats) (fun b σ H' => Same H H' ∧ H' o = some (.lst (ivs order)) ∧ (∃ (fv : Nat → Nat → Form) (spans : List Span), LL (FormV K spans.length) H' D as (tabC rows.length fv (cntAt rows b [])) ∧ IsF K H' fo sl ∧ FrS K H' sl spans ∧ NInv rows fig fine beats fv (cntAt rows b []) spans ∧ NSz rows.length (9 * b) fv (cntAt rows b []) spans ∧ SprI rows fig fine fv (cntAt rows b []) spans) ∧
          ∃ x9 x10 x11, σ = [some (.ref gr), some (.int (beats : Int)), some (.int (fig : Int)), some (.int (fine : Int)), some (.ref nd), some (.ref oa), some (.ref fo), some (.ref D), some (.ref o), x9, x10, x11, none, none])
        ⟨s4, ho', ⟨fun _ _ => dF, [], hll, hF4, hS4, NInv.zero hz0, NSz.zero hz0 _, fun j r hr hw c hc => by rw [hz0 j (List.getElem?_eq_some_iff.mp hr).1] at hc; omega⟩, none, none, none, rfl⟩ ?_ ?_
      · rintro b σ H' hb' ⟨y1, y2, ⟨fv0, spans0, y3, y4, y5, y6, y7, y8⟩, x9, x10, x11, rfl⟩
        refine ⟨_, rfl, o, rfl, ⟨_, SqL.of y2⟩, ?_⟩
        refine for_list (K := K) (a := o) (xs := ivs order) (fun i σ H' => Same H H' ∧ H' o = some (.lst (ivs order)) ∧ (∃ (fv : Nat → Nat → Form) (spans : List Span), LL (FormV K spans.length) H' D as (tabC rows.length fv (cntAt rows b (order.take i))) ∧ IsF K H' fo sl ∧ FrS K H' sl spans ∧ NInv rows fig fine beats fv (cntAt rows b (order.take i)) spans ∧
            NSz rows.length (9 * b + i) fv (cntAt rows b (order.take i)) spans ∧ SprI rows fig fine fv (cntAt rows b (order.take i)) spans) ∧ ∃ x9 x11, σ = [some (.ref gr), some (.int (beats : Int)), some (.int (fig : Int)), some (.int (fine : Int)), some (.ref nd), some (.ref oa), some (.ref fo), some (.ref D), some (.ref o), x9, some (.int (0 + (b : Int))), x11, none, none])
          ⟨y1, y2, ⟨fv0, spans0, y3, y4, y5, y6, y7, y8⟩, x9, x11, rfl⟩ (fun i σ H' _ z => SqL.of z.2.1) ?_ ?_
        · rintro i x σ H5 hx ⟨w1, w2, ⟨fv, spans, w3, wF, wS, wI, wZ, wP⟩, w9, w11, rfl⟩
          obtain ⟨j, hj, rfl⟩ := ivs_get hx
          have hjn := hO.lt j (List.mem_of_getElem? hj)
          have hio : i < order.length := (List.getElem?_eq_some_iff.mp hj).1
          have hr' : rows[j]? = some rows[j] := List.getElem?_eq_getElem hjn
          generalize rows[j] = r at hr'
          have hm := List.mem_of_getElem? hr'
          have hp := G.per r hm
          obtain ⟨rv, hrv, hR⟩ := h3.at hr'
          obtain ⟨ra, ta, u, rfl, k1, k2, k3⟩ := id hR
          have k1' := SqT.same k1 w1
          have jn : j ∉ order.take i := by
            intro m
            obtain ⟨i', hi'⟩ := List.mem_iff_getElem?.mp m
            have hlt : i' < (order.take i).length := (List.getElem?_eq_some_iff.mp hi').1
            rw [List.length_take] at hlt
            rw [List.getElem?_take_of_lt (by omega)] at hi'
            have e := nd_ix hO.nd hi' hj
            omega
          have tk_mem : ∀ x, x ∈ j :: order.take i ↔ x ∈ order.take (i + 1) := by
            intro x
            rw [List.take_add_one, hj, Option.toList_some, List.mem_append, List.mem_singleton, List.mem_cons]
            exact Or.comm
          refine ⟨_, rfl, _, rfl, nd, _, (j : Nat), _, rfl, rfl, SqT.same h2 w1, atI_nat hrv, ?_⟩
          refine ⟨_, rfl, _, rfl, ra, _, 3, _, rfl, rfl, k1', at3, _, _, rfl, rfl, by omega, rfl, _, rfl, ?_⟩
          rw [mod_dec]
          by_cases hmod : b % r.per = 0
          · rw [decide_eq_true hmod]
            obtain ⟨c1, c2, c3, c4⟩ := G.ready hr' jn hmod fun hl a ha => hO.dep i j r hj hr' hl a ha
            have hcl : b / r.per < manyN r.per beats := (manyN_lt hp.1).mpr (by have := Nat.div_mul_le_self b r.per; omega)
            have hcnt : ∀ i' ri, rows[i']? = some ri → cntAt rows b (order.take i) i' ≤ manyN ri.per beats := fun i' ri hri => by
              have p2 := G.per ri (List.mem_of_getElem? hri)
              unfold cntAt
              rw [perAt_eq hri]
              refine Nat.not_lt.mp fun c => ?_
              have d3 := (manyN_lt p2.1).mp c
              have d4 : ¬ manyN ri.per beats * ri.per < beats := fun y => Nat.lt_irrefl _ ((manyN_lt p2.1).mpr y)
              split at d3 <;> omega
            obtain ⟨aj, vsj, e1, e2, e3, e4⟩ := w3.get (tabC_get (v := fv) (cnt := cntAt rows b (order.take i)) hjn)
            refine iteT ⟨_, rfl, _, rfl, D, _, (j : Nat), _, rfl, rfl, SqL.of w3.top, atI_nat e2, .inl ⟨rfl, _, SqL.of e3⟩, ?_⟩
            refine ⟨_, rfl, _, rfl, _, rfl, _, rfl, ra, _, 3, _, rfl, rfl, k1', at3, _, _, rfl, rfl, ⟨by omega, by omega⟩, _, rfl, _, rfl, _, rfl, ?_⟩
            dsimp only
            rw [div_int]
            refine ⟨_, r, D, fo, sl, as, _, b / r.per, fig, fine, 20 + 4 * (9 * b + i), 20 + 100 * (9 * b + i), spans, rfl, hR.tk (tk_same w1), G.ar r hm, w3, wF, wS, wZ.spB (by omega), by have := wZ.len; omega, by omega, by omega, fun j' l hl f hf => ?_, by omega, by omega, G.q r hm, fun hl => ?_, fun _ _ hl a ha => ?_, fun v2 H6 oo f hst s6 g6 f6 => ?_⟩
            · obtain ⟨d1, c', d2, rfl⟩ := tabC_mem hl hf
              exact wZ.f j' c' d1 d2
            · refine (c3 hl).imp id fun d => ⟨_, tabC_get d.1, ?_⟩
              rw [List.length_map, List.length_range]
              exact d.2
            · obtain ⟨d1, d2⟩ := c4 hl a ha
              refine ⟨_, tabC_get d1, ?_⟩
              rw [List.length_map, List.length_range]
              exact d2
            · have hc1 : cntAt rows b (order.take (i + 1)) j = cntAt rows b (order.take i) j + 1 := by rw [← cntAt_mem tk_mem j, c2, c1]
              have hc2 : ∀ i', i' < rows.length → i' ≠ j → cntAt rows b (order.take (i + 1)) i' = cntAt rows b (order.take i) i' := fun i' _ hne => by
                rw [← cntAt_mem tk_mem i']
                exact cntAt_other hne
              have htf : ∀ a c, a < rows.length → c < cntAt rows b (order.take i) a → vof dF (tabC rows.length fv (cntAt rows b (order.take i))) a c = fv a c := fun a c h1 h2 => tabC_vof h1 h2
              rw [← c1] at hst hcl
              have c3' : r.w = .late → cntAt rows b (order.take i) j = 0 ∨ (r.args.getD 0 0 < rows.length ∧ cntAt rows b (order.take i) j - 1 < cntAt rows b (order.take i) (r.args.getD 0 0)) := by
                rw [c1]
                exact c3
              have c4' : r.w ≠ .late → ∀ a ∈ r.args, a < rows.length ∧ placeR r.w (cntAt rows b (order.take i) j) < cntAt rows b (order.take i) a := by
                rw [c1]
                exact c4
              have nI := NInv.step G wI hr' hc1 hc2 hcl hcnt c3' c4' htf (fun i' c hi hc => wZ.out i' c hi hc) hst
              have nZ := NSz.step G wZ hfig hfine hr' hc1 hc2 c3' c4' htf hst (by omega) f6.out
              have nP := SprI.step wP hr' hc1 hc2 hst
              have hlen2 : spans.length ≤ (spans ++ oo.toList).length := by
                rw [List.length_append]
                omega
              have w3' : LL (FormV K (spans ++ oo.toList).length) H6 D as (tabC rows.length (setF fv j (cntAt rows b (order.take i) j) f) (cntAt rows b (order.take i))) := by
                have q1 := w3.keep2 (P' := FormV K (spans ++ oo.toList).length) (H' := H6) (fun v x hv => (hv.sameB wS s6).mono hlen2) fun a o' ha e => s6 a o' (by
                  rcases ha with ha | ha
                  · rw [ha]
                    exact Ne.symm nDs
                  · exact nas a ha) e
                rw [tabC_ext (v' := setF fv j (cntAt rows b (order.take i) j) f) fun j' c' _ hc' => (setF_old fun ⟨z1, z2⟩ => by subst z1; omega).symm] at q1
                exact q1
              have e3' : H6 aj = some (.lst vsj) := s6 _ _ (nas aj (List.mem_of_getElem? e1)) e3
              have hvl : vsj.length < sizeLine := by
                rw [e4.len, List.length_map, List.length_range, c1]
                have := Nat.div_le_self b r.per
                exact small1000 (by omega)
              have f6' : FormV K (spans ++ oo.toList).length H6 v2 (setF fv j (cntAt rows b (order.take i) j) f j (cntAt rows b (order.take i) j)) := by
                rw [setF_same]
                exact f6
              have hpush := w3'.push (fun _ _ _ _ d h => h.dk d) e1 (tabC_get (v := setF fv j (cntAt rows b (order.take i) j) f) (cnt := cntAt rows b (order.take i)) hjn) e3' f6'
              rw [tabC_push (cnt' := cntAt rows b (order.take (i + 1))) hjn hc1 hc2] at hpush
              have naj := List.mem_of_getElem? e1
              have ho6 : H6 o = some (.lst (ivs order)) := s6 _ _ (Ne.symm nso) w2
              obtain ⟨dxx, hfo5⟩ := id wF
              have hfo6 := s6 _ _ (Ne.symm nsf) hfo5
              have dkp : DK K H6 (upd H6 aj (.lst (vsj ++ [v2]))) := dk_lst e3'
              obtain ⟨ws6, g61, g62⟩ := g6
              have sH6 : Same H H6 := fun b' x' e' => s6 b' x' (ne_of_none e' hslH) (w1 b' x' e')
              refine ⟨aj, _, _, rfl, rfl, e3', hvl, same_upd_new sH6 (haH _ naj), ?_, ⟨_, _, hpush, ⟨dxx, ?_⟩, ⟨ws6, ?_, g62.imp fun _ _ r => r.tk dkp.t⟩, nI, nZ, nP⟩, _, _, rfl⟩
              · rw [upd_ne (Ne.symm (hoa _ naj))]
                exact ho6
              · rw [upd_ne (Ne.symm (naf _ naj))]
                exact hfo6
              · rw [upd_ne (Ne.symm (nas _ naj))]
                exact g61
          · rw [decide_eq_false hmod]
            have ec : ∀ i', i' < rows.length → cntAt rows b (order.take i) i' = cntAt rows b (order.take (i + 1)) i' := fun i' _ => by
              rw [← cntAt_mem tk_mem i']
              exact (cntAt_skip G hr' hmod i').symm
            have ec2 : cntAt rows b (order.take i) = cntAt rows b (order.take (i + 1)) := by
              funext i'
              rw [← cntAt_mem tk_mem i']
              exact (cntAt_skip G hr' hmod i').symm
            rw [ec2] at w3 wI wZ wP
            exact iteF ⟨w1, w2, ⟨fv, spans, w3, wF, wS, wI, wZ.mono (by omega), wP⟩, _, _, rfl⟩
        · rintro σ H5 ⟨w1, w2, ⟨fv, spans, w3, wF, wS, wI, wZ, wP⟩, w9, w11, rfl⟩
          rw [ivs_len, List.take_length] at w3 wI wZ wP
          have ec : ∀ j', j' < rows.length → cntAt rows b order j' = cntAt rows (b + 1) [] j' := fun j' hj' => by
            unfold cntAt
            rw [if_pos (hO.all hOl hj'), if_neg List.not_mem_nil]
          rw [tabC_congr ec] at w3
          refine ⟨w1, w2, ⟨fv, spans, w3, wF, wS, fun gv ve vf pp pz => ?_, ((wZ.congr ec).mono (by omega)), fun j r hr hw c hc => wP j r hr hw c (by rw [ec j (List.getElem?_eq_some_iff.mp hr).1]; exact hc)⟩, _, _, _, rfl⟩
          obtain ⟨ε, q1, q2⟩ := wI gv ve vf pp fun j r hr hw c hc => by
            have hlt : r.args.getD 0 0 < rows.length := by
              obtain ⟨x0, x1, x2, hx⟩ := len3 (l := r.args) (by rw [G.ar r (List.mem_of_getElem? hr), hw]; rfl)
              exact G.lt r (List.mem_of_getElem? hr) _ (by rw [hx]; exact List.mem_cons_self)
            exact pz j r hr hw c (by rw [← ec _ hlt]; exact hc)
          exact ⟨ε, q1, fun j c hj hc => q2 j c hj (by rw [ec j hj]; exact hc)⟩
      · rintro σ H5 ⟨y1, y2, ⟨fv, spans, y3, y4, y5, y6, y7, y8⟩, x9, x10, x11, rfl⟩
        have ec : cntAt rows beats [] = fun j => manyN (perAt rows j) beats := by
          funext j'
          unfold cntAt
          rw [if_neg List.not_mem_nil]
        rw [ec] at y3 y6 y7 y8
        have hspB := y7.spB (by omega)
        obtain ⟨dxx, hfo5⟩ := id y4
        -- the picks
        refine ⟨_, rfl, nd, rvs, rfl, SqT.same h2 y1, ?_⟩
        refine for_it walk_enumT (fun i σ H' => Same H5 H' ∧ (∀ j < i, ∀ r, rows[j]? = some r → r.w = .pick → ∀ c, c < manyN (perAt rows (r.args.getD 0 0)) beats → lowF spans (fv (r.args.getD 0 0) c) = 0 ∧ highF spans (fv (r.args.getD 0 0) c) = 0) ∧
            ∃ x9 x10 x11, σ = [some (.ref gr), some (.int (beats : Int)), some (.int (fig : Int)), some (.int (fine : Int)), some (.ref nd), some (.ref oa), some (.ref fo), some (.ref D), some (.ref o), x9, x10, x11, none, none])
          ⟨fun _ _ h => h, fun j h => absurd h (Nat.not_lt_zero j), _, _, _, rfl⟩ (fun i σ H' _ z => SqT.same h2 (y1.trans z.1)) ?_ ?_
        · rintro i y σ H6 H6' hi ⟨v1, v2, q9, q10, q11, rfl⟩ ⟨T1, u1, u2, rfl, hT1, rfl, e1, e2⟩
          cases e1
          obtain ⟨r, hr', hR⟩ := h3.at' e2
          obtain ⟨ra, ta, u, rfl, k1, k2, k3⟩ := id hR
          have sT := same_upd (o := .tup [.int (i : Int), .ref ra]) hT1
          have v3 := v1.trans sT
          have v4 := y1.trans v3
          refine ⟨T1, _, rfl, SqT.of upd_same, rfl, _, _, rfl, _, _, rfl, rfl, ?_⟩
          generalize upd H6 T1 (.tup [.int (i : Int), .ref ra]) = H7 at sT v3 v4 ⊢
          refine ⟨_, rfl, ra, _, 0, _, rfl, rfl, SqT.same k1 v4, at0, rfl, _, rfl, wif r.w .pick (fun e => ?_) (fun e => ?_)⟩
          · obtain ⟨x0, x1, x2, hx⟩ := len3 (l := r.args) (by rw [G.ar r (List.mem_of_getElem? hr'), e]; rfl)
            have hx0 : x0 < rows.length := G.lt r (List.mem_of_getElem? hr') x0 (by rw [hx]; exact List.mem_cons_self)
            have k3' : SqT K H ta [.int (x0 : Int), .int (x1 : Int), .int (x2 : Int)] := by
              rw [hx] at k3
              exact k3
            obtain ⟨aj, vsj, f1, f2, f3, f4⟩ := y3.get (tabC_get (v := fv) (cnt := fun j => manyN (perAt rows j) beats) hx0)
            have f3' := v3 _ _ f3
            refine ⟨_, rfl, _, rfl, ra, _, 2, _, rfl, rfl, SqT.same k1 v4, at2, ta, _, 0, _, rfl, rfl, SqT.same k3' v4, at0, D, _, (x0 : Nat), _, rfl, rfl, SqL.of (v3 _ _ y3.top), atI_nat f2, aj, rfl, ⟨_, SqL.of f3'⟩, fun D2 hD2 => ?_⟩
            refine lc_list (K := K) (a := aj) (xs := vsj) (fun k H' => Same H7 H' ∧ H' D2 = some (.lst (((List.range (manyN (perAt rows x0) beats)).take k).map fun c => V.bl (!(decide (lowF spans (fv x0 c) = 0) && decide (highF spans (fv x0 c) = 0))))))
              ⟨same_upd hD2, by rw [List.take_zero]; exact upd_same⟩ (fun k H' _ z => z.1.seq (SqL.of f3')) ?_ ?_
            · rintro k x H8 hx8 ⟨m1, m2⟩
              obtain ⟨f, hf1, hf2⟩ := f4.at' hx8
              rw [List.getElem?_map] at hf1
              cases hk : (List.range (manyN (perAt rows x0) beats))[k]? with
              | none => rw [hk] at hf1; cases hf1
              | some c =>
                rw [hk] at hf1
                cases hf1
                have hcm : c < manyN (perAt rows x0) beats := List.mem_range.mp (List.mem_of_getElem? hk)
                have n8 := v3.trans m1
                refine ⟨rfl, _, rfl, fo, _, _, rfl, n8 _ _ hfo5, rfl, _, rfl, fo, sl, _, _, spans, _, _, rfl, y4.same n8, y5.same n8, hf2.same n8, hspB, y7.f x0 c hx0 hcm, by omega, by omega, fun v9 H9 s9 p9 => ?_⟩
                refine ⟨by show 2 ≤ sizeLine; decide, fun t ht => ?_⟩
                have st9 := same_upd (o := .tup [.ref (He.ga K "NOUGHT"), .ref (He.ga K "NOUGHT")]) ht
                have zz : SpanV K (upd H9 t (.tup [.ref (He.ga K "NOUGHT"), .ref (He.ga K "NOUGHT")])) (.ref t) (0, 0) := ⟨t, _, _, rfl, SqT.of upd_same, nought_num T _, nought_num T _⟩
                refine ⟨_, _, (p9.tk (tk_same st9)).dp, zz.dp, spanD_shaped _, spanD_shaped _, _, st9 _ _ (s9 _ _ m2), small1000 ?_, same_upd_new (m1.trans (s9.trans st9)) hD2, ?_⟩
                · rw [List.length_map, List.length_take]
                  have hpp := G.per _ (List.getElem_mem hx0)
                  have q5 : k < (List.range (manyN rows[x0].per beats)).length := by
                    have := (List.getElem?_eq_some_iff.mp hk).1
                    rwa [perAt_eq (List.getElem?_eq_getElem hx0)] at this
                  have q6 : manyN rows[x0].per beats ≤ beats := by
                    refine Nat.not_lt.mp fun z => ?_
                    have z2 := (manyN_lt hpp.1).mp z
                    have z3 := Nat.le_mul_of_pos_right beats (show 0 < rows[x0].per by omega)
                    omega
                  rw [List.length_range] at q5
                  omega
                · rw [upd_same, List.take_add_one, hk, Option.toList_some, List.map_append, spanD_eqv]
                  rfl
            · rintro H8 ⟨m1, m2⟩
              have hl : vsj.length = (List.range (manyN (perAt rows x0) beats)).length := by
                rw [f4.len, List.length_map]
              rw [hl, List.take_length] at m2
              refine ⟨D2, (List.range (manyN (perAt rows x0) beats)).map fun c => !(decide (lowF spans (fv x0 c) = 0) && decide (highF spans (fv x0 c) = 0)), rfl, SqL.of (by rw [List.map_map]; exact m2), _, rfl, ?_⟩
              by_cases hall : ∀ c, c < manyN (perAt rows x0) beats → lowF spans (fv x0 c) = 0 ∧ highF spans (fv x0 c) = 0
              · have eb : ((List.range (manyN (perAt rows x0) beats)).map fun c => !(decide (lowF spans (fv x0 c) = 0) && decide (highF spans (fv x0 c) = 0))).any id = false := by
                  rw [List.any_map, List.any_eq_false]
                  intro c hc
                  obtain ⟨g1, g2⟩ := hall c (List.mem_range.mp hc)
                  simp [g1, g2]
                rw [eb]
                refine iteF ⟨v3.trans m1, fun j hj r' hr2 hw c hc => ?_, _, _, _, rfl⟩
                by_cases hji : j = i
                · subst hji
                  rw [hr'] at hr2
                  cases hr2
                  rw [hx] at hc ⊢
                  exact hall c hc
                · exact v2 j (by omega) r' hr2 hw c hc
              · have eb : ((List.range (manyN (perAt rows x0) beats)).map fun c => !(decide (lowF spans (fv x0 c) = 0) && decide (highF spans (fv x0 c) = 0))).any id = true := by
                  rw [List.any_map, List.any_eq_true]
                  simp only [Classical.not_forall] at hall
                  obtain ⟨c, hc, hn⟩ := hall
                  refine ⟨c, List.mem_range.mpr hc, ?_⟩
                  simp only [Function.comp_apply, id, Bool.not_eq_true', Bool.and_eq_false_iff, decide_eq_false_iff_not]
                  exact Classical.not_and_iff_not_or_not.mp hn
                rw [eb]
                have v5 := v4.trans m1
                refine iteT ⟨_, rfl, by show 1 ≤ 1000; decide, fun ea hea => ⟨ea, _, rfl, upd_same, fun d hd hne => ⟨rfl, d, [("node", .int (i : Int))], upd_same, ?_, ?_, ?_⟩⟩⟩
                · rw [upd_ne hne, upd_same]
                · have hd' := hd
                  rw [upd_ne hne] at hd'
                  exact hd'
                · have hd' := hd
                  rw [upd_ne hne] at hd'
                  refine q2 d _ _ (fun b' x' e' => ?_) upd_same
                  have e5 := v5 _ _ e'
                  have n1 := ne_of_none e5 hd'
                  have n2 := ne_of_none e5 hea
                  rw [upd_ne n1]
                  unfold del
                  rw [if_neg n2, upd_ne n2, upd_ne n1, upd_ne n2]
                  exact e5
          · refine iteF ⟨v3, fun j hj r' hr2 hw c hc => ?_, _, _, _, rfl⟩
            by_cases hji : j = i
            · subst hji
              rw [hr'] at hr2
              cases hr2
              exact absurd hw e
            · exact v2 j (by omega) r' hr2 hw c hc
        · rintro σ H6 ⟨v1, v2, q9, q10, q11, rfl⟩
          rw [hlen] at v2
          have hZ : PickZ rows fv (fun j => manyN (perAt rows j) beats) spans := fun j r hr hw c hc => v2 j (List.getElem?_eq_some_iff.mp hr).1 r hr hw c hc
          have v4 := y1.trans v1
          have w3 : LL (FormV K spans.length) H6 D as (tabC rows.length fv fun j => manyN (perAt rows j) beats) := y3.keep (fun v x hv => hv.same v1) fun a o' _ e => v1 a o' e
          have wF := y4.same v1
          have wS := y5.same v1
          have hfo6 := v1 _ _ hfo5
          refine ⟨_, rfl, oa, rfl, ⟨_, SqT.same o1 v4⟩, fun R hR0 => ?_⟩
          refine dc_tup (K := K) (a := oa) (xs := ovs) (fun i H' => Same H6 H' ∧ ∃ kk, H' R = some (.dK kk) ∧ DOut (SpanV K) (fun j => (List.range (manyN (perAt rows j) beats)).map fun c => (lowF spans (fv j c), highF spans (fv j c))) H' kk (outs.take i))
            ⟨same_upd hR0, [], upd_same, by rw [List.take_zero]; exact .nil⟩ (fun i H' _ z => SqT.same o1 (v4.trans z.1)) ?_ ?_
          · rintro i x H7 hx ⟨n1, kk, n2, n3⟩
            obtain ⟨oo, ho1, po, rfl, ho2⟩ := o2.at' hx
            have v5 := v4.trans n1
            have hjn := hon oo (List.mem_of_getElem? ho1)
            obtain ⟨aj, vsj, e1, e2, e3, e4⟩ := w3.get (tabC_get (v := fv) (cnt := fun j => manyN (perAt rows j) beats) hjn)
            have e3' := n1 _ _ e3
            refine ⟨po, _, rfl, SqT.same ho2 v5, rfl, _, _, rfl, _, _, rfl, rfl, rfl, _, rfl, ?_⟩
            refine ⟨_, rfl, _, rfl, D, _, (oo.2 : Nat), _, rfl, rfl, SqL.of (n1 _ _ w3.top), atI_nat e2, aj, rfl, ⟨_, SqL.of e3'⟩, fun D2 hD2 => ?_⟩
            refine lc_list (K := K) (a := aj) (xs := vsj) (fun k H' => Same H7 H' ∧ ∃ ws, H' D2 = some (.lst ws) ∧ All2 (SpanV K H') ws (((List.range (manyN (perAt rows oo.2) beats)).take k).map fun c => (lowF spans (fv oo.2 c), highF spans (fv oo.2 c))))
              ⟨same_upd hD2, [], upd_same, by rw [List.take_zero]; exact .nil⟩ (fun k H' _ z => z.1.seq (SqL.of e3')) ?_ ?_
            · rintro k x H8 hx8 ⟨m1, ws, m2, m3⟩
              obtain ⟨f, hf1, hf2⟩ := e4.at' hx8
              rw [List.getElem?_map] at hf1
              cases hk : (List.range (manyN (perAt rows oo.2) beats))[k]? with
              | none => rw [hk] at hf1; cases hf1
              | some c =>
                rw [hk] at hf1
                cases hf1
                have hcm : c < manyN (perAt rows oo.2) beats := List.mem_range.mp (List.mem_of_getElem? hk)
                have n8 := n1.trans m1
                refine ⟨rfl, _, rfl, fo, _, _, rfl, n8 _ _ hfo6, rfl, _, rfl, fo, sl, _, _, spans, _, _, rfl, wF.same n8, wS.same n8, hf2.same n8, hspB, y7.f oo.2 c hjn hcm, by omega, by omega, fun v9 H9 s9 p9 => ?_⟩
                have hD9 := s9 _ _ m2
                refine ⟨ws, hD9, small1000 ?_, same_upd_new (m1.trans s9) hD2, _, upd_same, ?_⟩
                · rw [m3.len, List.length_map, List.length_take]
                  have hpp := G.per _ (List.getElem_mem hjn)
                  rw [perAt_eq (List.getElem?_eq_getElem hjn)] at hcm ⊢
                  have q5 : k < (List.range (manyN rows[oo.2].per beats)).length := by
                    have := (List.getElem?_eq_some_iff.mp hk).1
                    rwa [perAt_eq (List.getElem?_eq_getElem hjn)] at this
                  have q6 : manyN rows[oo.2].per beats ≤ beats := by
                    refine Nat.not_lt.mp fun z => ?_
                    have z2 := (manyN_lt hpp.1).mp z
                    have z3 := Nat.le_mul_of_pos_right beats (show 0 < rows[oo.2].per by omega)
                    omega
                  rw [List.length_range] at q5
                  omega
                · have dk : DK K H9 (upd H9 D2 (.lst (ws ++ [v9]))) := dk_lst hD9
                  rw [List.take_add_one, hk, Option.toList_some, List.map_append]
                  exact (m3.imp fun _ _ r => (r.tk (tk_same s9)).tk dk.t).snoc (p9.tk dk.t)
            · rintro H8 ⟨m1, ws, m2, m3⟩
              have hl : vsj.length = (List.range (manyN (perAt rows oo.2) beats)).length := by
                rw [e4.len, List.length_map]
              rw [hl, List.take_length] at m3
              have n2' := m1 _ _ n2
              have i3 : i < outs.length := (List.getElem?_eq_some_iff.mp ho1).1
              have kl : kk.length = i := by
                rw [n3.len, List.length_take]
                omega
              have newk : valV kk (.inr oo.1) = none := by
                refine n3.none fun m => ?_
                obtain ⟨o', ho', e'⟩ := List.mem_map.mp m
                obtain ⟨i', hi'⟩ := List.mem_iff_getElem?.mp ho'
                have hlt : i' < (outs.take i).length := (List.getElem?_eq_some_iff.mp hi').1
                rw [List.length_take] at hlt
                rw [List.getElem?_take_of_lt (by omega)] at hi'
                have z1 : (outs.map (·.1))[i']? = some oo.1 := by rw [List.getElem?_map, hi', ← e']; rfl
                have z2 : (outs.map (·.1))[i]? = some oo.1 := by rw [List.getElem?_map, ho1]; rfl
                have e := nd_ix hond z1 z2
                omega
              refine ⟨kk, .inr oo.1, rfl, n2', small1000 (by omega), same_upd_new (n1.trans m1) hR0, _, upd_same, ?_⟩
              rw [putK_new _ newk, List.take_add_one, ho1, Option.toList_some]
              have nD2R : D2 ≠ R := by
                rintro rfl
                rw [n2] at hD2
                cases hD2
              have tkR : TK K H8 (upd H8 R (.dK (kk ++ [(.inr oo.1, .ref D2)]))) := dic_tk n2'
              refine All2.snoc (DOut.keep (n3.keep (fun v x r => r.tk (tk_same m1)) fun a xs e => m1 _ _ e) (fun v x r => r.tk tkR) fun a xs e => ?_) ⟨rfl, D2, ws, rfl, by rw [upd_ne nD2R]; exact m2, m3.imp fun _ _ r => r.tk tkR⟩
              have na : a ≠ R := by
                rintro rfl
                rw [n2'] at e
                cases e
              rw [upd_ne na]
              exact e
          · rintro H7 ⟨n1, kk, n2, n3⟩
            rw [holen, List.take_length] at n3
            refine q R H7 kk _ (v4.trans n1) (v4.free hR0) n2 n3 ⟨fun gv ve vf pp j r c hr hc => ?_, fun j r hr hw c hc => ?_, fun j r c hr hc => ?_⟩
            · obtain ⟨ε, p1, p2⟩ := y6 gv ve vf pp hZ
              have hjn := (List.getElem?_eq_some_iff.mp hr).1
              have z := p2 j c hjn (by show c < manyN (perAt rows j) beats; rw [perAt_eq hr]; exact hc)
              rw [z]
              exact ends_hold p1
            · rcases y8 j r hr hw c (by show c < manyN (perAt rows j) beats; rw [perAt_eq hr]; exact hc) with ⟨z1, z2⟩ | ⟨m, s, z1, z2, z3, z4⟩
              · have ze := none_ends spans 0
                show (lowF spans (fv j c), highF spans (fv j c)) = _
                rw [z2, z1, ze.1, ze.2]
                rfl
              · have ze := spring_ends z1 z2 z3
                show (lowF spans (fv j c), highF spans (fv j c)) = _
                rw [z4, z1, ze.1, ze.2]
                rfl
            · have hjn := (List.getElem?_eq_some_iff.mp hr).1
              have zz := y7.f j c hjn (by show c < manyN (perAt rows j) beats; rw [perAt_eq hr]; exact hc)
              have l1 := hspB.len
              exact ⟨(lowF_sz zz).bd (by omega) (by omega), (highF_sz zz).bd (by omega) (by omega)⟩
def sp_noise_of0 (K : PySem.W.Frag) : Sp := fun vs H Q E => ∃ (gr : Addr) (rows : List Row) (rk : Nat → Nat) (ot : V) (outs : List (Str × Nat)) (beats fig fine : Nat), vs = [.ref gr, .int beats, .int fig, .int fine] ∧ GraphV K H gr rows ot ∧ OutsV K H ot outs ∧ GOk rows rk ∧ beats ≤ 8 ∧ fig ≤ 14 ∧ fine ≤ 14 ∧
  (∀ o ∈ outs, o.2 < rows.length) ∧ (outs.map (·.1)).Nodup ∧ outs.length ≤ 100 ∧ (∀ r ∈ rows, r.w ≠ .pick) ∧
  ∀ d H' kk lh, Same H H' → H d = none → H' d = some (.dK kk) → DOut (SpanV K) (fun j => (List.range (manyN (perAt rows j) beats)).map (lh j)) H' kk outs → NoiseOk rows fig fine beats lh → Q (.ref d) H'
theorem ok_noise_of0 (T : TX K mg) {fd : FuncData} (F : FnP K "noise_of" "noise_of" s_noise_of [] [("figures", .int 8), ("fine", .int 6)] (He.ga K "noise_of") fd) : FnOk P w K mg base CX0 7 (He.ga K "noise_of") fd ["graph", "beats", "figures", "fine"] (sp_noise_of0 K) := by
  refine okN F sc_noise_of (fun vs H Q E h => ?_) (fun cdv A outer s H vs Q E hr h => ?_)
  · obtain ⟨gr, rows, rk, ot, outs, beats, fig, fine, rfl, hgr, hot, G, hb, hfig, hfine, hon, hond, hol, q2, q⟩ := h
    rfl
  · obtain ⟨gr, rows, rk, ot, outs, beats, fig, fine, rfl, hgr, hot, G, hb, hfig, hfine, hon, hond, hol, q2, q⟩ := h
    refine ⟨_, 
      (pss_cons
        (ps_asg (pv 0) (pg_tup (by rfl) (pgs_cons (pg_name (i := 4) sc_noise_of.nd rfl (by first | exact Or.inl rfl | exact Or.inr rfl)) (pgs_cons (pg_name (i := 5) sc_noise_of.nd rfl (by first | exact Or.inl rfl | exact Or.inr rfl)) pgs_nil))))
      (pss_cons
        (ps_asg (pe_tup (pa_cons (mkForms T hr) (pa_cons (pe_lc (own := [("node", 9)]) rfl sc_noise_of.nd (pi_tup (pv 4)) (blkOk_by (N := n_noise_of) (sc := defScope s_noise_of) (by decide +kernel)) (fun _ _ _ _ _ => pg_name (i := 9) sc_noise_of.nd rfl (by first | exact Or.inl rfl | exact Or.inr rfl)) (fun _ _ _ _ _ => pts_nil) (fun _ _ _ _ _ => (pe_lst pa_nil))) (pa_cons (pe_cal (c_now_order T) (hr.mono (by decide)) (pa_cons (pv 4) pa_nil)) pa_nil)))) (pg_tup (by rfl) (pgs_cons (pg_name (i := 6) sc_noise_of.nd rfl (by first | exact Or.inl rfl | exact Or.inr rfl)) (pgs_cons (pg_name (i := 7) sc_noise_of.nd rfl (by first | exact Or.inl rfl | exact Or.inr rfl)) (pgs_cons (pg_name (i := 8) sc_noise_of.nd rfl (by first | exact Or.inl rfl | exact Or.inr rfl)) pgs_nil)))))
      (pss_cons
        (ps_for PassesOwn.never rfl (pi_range1 (by rfl) T.z_range (pa_cons (pv 1) pa_nil)) (pg_name (i := 10) sc_noise_of.nd rfl (by first | exact Or.inl rfl | exact Or.inr rfl))
          (pss_one
            (ps_for PassesOwn.never rfl (pi_list (pv 8)) (pg_name (i := 9) sc_noise_of.nd rfl (by first | exact Or.inl rfl | exact Or.inr rfl))
              (pss_cons
                (ps_set (i := 11) sc_noise_of.nd rfl (by first | exact Or.inl rfl | exact Or.inr rfl) (pe_ix (ixT (K := K)) (pv 4) (pv 9) (fun _ _ => rfl)))
              (pss_one
                (ps_if (pt_cmpR op_eq (pe_op op_modN (pv 10) (pe_ix (ixT (K := K)) (pv 11) pe_int (fun _ _ => rfl))) pe_int (nomark _))
                  (pss_one
                    (ps_expr (pe_bm PySem.F.plainAttrs_list PySem.F.slot_list_append PySem.F.type_list_append mt_append (pe_ix (ixL (K := K)) (pv 7) (pv 9) (fun _ _ => rfl)) (pa_cons (pe_cal (c_form_of T) (hr.mono (by decide)) (pa_cons (pv 11) (pa_cons (pv 7) (pa_cons (pe_op op_fdiv (pv 10) (pe_ix (ixT (K := K)) (pv 11) pe_int (fun _ _ => rfl))) (pa_cons (pv 6) (pa_cons (pv 2) (pa_cons (pv 3) pa_nil))))))) pa_nil))))
                  pss_nil))))))
      (pss_cons
        (ps_for PassesOwn.never rfl (pi_enumT (by rfl) T.z_enumerate (pa_cons (pv 4) pa_nil)) (pg_tup (by rfl) (pgs_cons (pg_name (i := 9) sc_noise_of.nd rfl (by first | exact Or.inl rfl | exact Or.inr rfl)) (pgs_cons (pg_name (i := 11) sc_noise_of.nd rfl (by first | exact Or.inl rfl | exact Or.inr rfl)) pgs_nil)))
          (pss_one
            (ps_if (PW.pt (pw_and (pt_cmpR op_eq (pe_ix (ixT (K := K)) (pv 11) pe_int (fun _ _ => rfl)) pe_str (nomark _)) (pw_and1 (pt_val (pe_callB (cr_any rfl) (by rfl) T.z_any (by decide +kernel) (pa_cons (pe_lc (own := [("form", 12)]) rfl sc_noise_of.nd (pi_list (pe_ix (ixL (K := K)) (pv 7) (pe_ix (ixT (K := K)) (pe_ix (ixT (K := K)) (pv 11) pe_int (fun _ _ => rfl)) pe_int (fun _ _ => rfl)) (fun _ _ => rfl))) (blkOk_by (N := n_noise_of) (sc := defScope s_noise_of) (by decide +kernel)) (fun _ _ _ _ _ => pg_name (i := 12) sc_noise_of.nd rfl (by first | exact Or.inl rfl | exact Or.inr rfl)) (fun _ _ _ _ _ => pts_nil) (fun _ _ _ _ _ => (pe_cmpR (opNeK (K := K) hr.units) (pe_methK (K := K) (m_Forms_ends T) T.cl T.m_ends (hr.mono (by decide)) (pv 6) (pa_cons (pv 12) pa_nil)) (pe_tup (pa_cons (pe_glob rfl T.g_NOUGHT (show L2.RelV (.ref (He.ga K "NOUGHT")) _ from rfl)) (pa_cons (pe_glob rfl T.g_NOUGHT (show L2.RelV (.ref (He.ga K "NOUGHT")) _ from rfl)) pa_nil))) (nomark _)))) pa_nil))))))
              (pss_one
                ps_never)
              pss_nil)))
      (pss_one
        (ps_ret (pe_dc (own := [("name", 13), ("node", 9)]) (g := gTup K 2 (gCons (gName 13) (gCons (gName 9) (gNil)))) rfl sc_noise_of.nd (pi_tup (pv 5)) (blkOk_by (N := n_noise_of) (sc := defScope s_noise_of) (by decide +kernel)) (fun _ _ _ _ _ => pg_tup (by rfl) (pgs_cons (pg_name (i := 13) sc_noise_of.nd rfl (by first | exact Or.inl rfl | exact Or.inr rfl)) (pgs_cons (pg_name (i := 9) sc_noise_of.nd rfl (by first | exact Or.inl rfl | exact Or.inr rfl)) pgs_nil))) (fun _ _ _ _ _ => pts_nil) (fun _ _ _ _ _ => (pv 13)) (fun _ _ _ _ _ => (pe_lc (own := [("form", 12)]) rfl sc_noise_of.nd (pi_listK (K := K) (pe_ix (ixL (K := K)) (pv 7) (pv 9) (fun _ _ => rfl))) (blkOk_by (N := n_noise_of) (sc := _) (by kernel_rfl)) (fun _ _ _ _ _ => pg_name (i := 12) sc_noise_of.nd rfl (by first | exact Or.inl rfl | exact Or.inr rfl)) (fun _ _ _ _ _ => pts_nil) (fun _ _ _ _ _ => (pe_methK (K := K) (m_Forms_ends T) T.cl T.m_ends (hr.mono (by decide)) (pv 6) (pa_cons (pv 12) pa_nil)))))))))))), ?_⟩
    obtain ⟨nd, rvs, h1, h2, h3⟩ := id hgr
    obtain ⟨oa, ovs, rfl, o1, o2⟩ := id hot
    have hlen := h3.len
    have holen := o2.len
    have h9 := G.len
    refine ⟨_, rfl, gr, _, rfl, h1, rfl, _, _, rfl, _, _, rfl, rfl, ?_⟩
    -- Forms(), the lists, the order
    intro fo dx nfo ndx nex
    refine ⟨fo, dx, rfl, upd_same, fun sl hsl => ⟨rfl, ?_⟩⟩
    have sdx := same_upd (o := .own fo) ndx
    have sfo : Same (upd H dx (.own fo)) (upd (upd H dx (.own fo)) fo (.ins (He.ga K "Forms") dx [])) := same_upd (by rw [upd_ne (Ne.symm nex)]; exact nfo)
    have ssl := same_upd (o := .lst []) hsl
    have nsf : sl ≠ fo := by
      rintro rfl
      rw [upd_same] at hsl
      cases hsl
    have hslH : H sl = none := (sdx.trans sfo).free hsl
    have s0 : Same H (upd (upd (upd (upd H dx (.own fo)) fo (.ins (He.ga K "Forms") dx [])) sl (.lst [])) fo (.ins (He.ga K "Forms") dx [("spans", .ref sl)])) := same_upd_new ((sdx.trans sfo).trans ssl) nfo
    have hF0 : IsF K (upd (upd (upd (upd H dx (.own fo)) fo (.ins (He.ga K "Forms") dx [])) sl (.lst [])) fo (.ins (He.ga K "Forms") dx [("spans", .ref sl)])) fo sl := ⟨dx, upd_same⟩
    have hS0 : FrS K (upd (upd (upd (upd H dx (.own fo)) fo (.ins (He.ga K "Forms") dx [])) sl (.lst [])) fo (.ins (He.ga K "Forms") dx [("spans", .ref sl)])) sl [] := ⟨[], by rw [upd_ne nsf, upd_same], .nil⟩
    generalize upd (upd (upd (upd H dx (.own fo)) fo (.ins (He.ga K "Forms") dx [])) sl (.lst [])) fo (.ins (He.ga K "Forms") dx [("spans", .ref sl)]) = H1 at s0 hF0 hS0
    refine ⟨_, rfl, nd, rfl, ⟨_, SqT.same h2 s0⟩, fun D hD => ?_⟩
    refine lc_tup (K := K) (a := nd) (xs := rvs) (fun i H' => ∃ as, as.length = i ∧ Fresh H1 H' D as) ⟨[], rfl, Fresh.start hD⟩ (fun i H' _ z => by obtain ⟨as, _, z⟩ := z; exact SqT.same h2 (s0.trans z.s)) ?_ ?_
    · rintro i x H' hx ⟨as, z1, z2⟩
      have hi : i < rvs.length := (List.getElem?_eq_some_iff.mp hx).1
      refine ⟨rfl, by show 0 ≤ sizeLine; decide, fun l hl => ⟨_, same_upd hl _ _ z2.top, small1000 (by rw [List.length_map]; omega), as ++ [l], by rw [List.length_append, z1]; rfl, z2.step hl⟩⟩
    · rintro H2 ⟨as, z1, z2⟩
      have s2 := s0.trans z2.s
      refine ⟨_, rfl, nd, rvs, rows, rk, rfl, SqT.same h2 s2, h3.imp fun _ _ r => r.tk (tk_same s2), by omega, fun j r hr => ⟨?_, ?_⟩, fun o H3 order s3 ho ho0 hO hOl => ?_⟩
      · rw [G.ar r (List.mem_of_getElem? hr)]
        cases r.w <;> decide
      · exact fun hl a ha => ⟨G.lt r (List.mem_of_getElem? hr) a ha, (G.rk j r hr).2 hl a ha⟩
      refine ⟨by show 3 ≤ sizeLine; decide, fun tt htt => ?_⟩
      have stt := same_upd (o := .tup [.ref fo, .ref D, .ref o]) htt
      refine ⟨tt, _, rfl, SqT.of upd_same, rfl, _, _, rfl, _, _, rfl, _, _, rfl, rfl, ?_⟩
      have z3 := (z2.more s3).more stt
      have ho' := stt _ _ ho
      generalize upd H3 tt (.tup [.ref fo, .ref D, .ref o]) = H4 at z3 ho'
      have s4 := s0.trans z3.s
      have hF4 := hF0.same z3.s
      have hS4 := hS0.same z3.s
      obtain ⟨dx', hfo0⟩ := id hF0
      obtain ⟨ws0, hsl0, _⟩ := id hS0
      have nDs : sl ≠ D := ne_of_none hsl0 z3.D0
      have nas : ∀ a ∈ as, a ≠ sl := fun a ha => Ne.symm (ne_of_none hsl0 (z2.new a ha).1)
      have naf : ∀ a ∈ as, a ≠ fo := fun a ha => Ne.symm (ne_of_none hfo0 (z2.new a ha).1)
      have nso : sl ≠ o := ne_of_none (z2.s _ _ hsl0) ho0
      have hoa : ∀ a ∈ as, a ≠ o := fun a ha => ne_of_none (z2.new a ha).2 ho0
      have haH : ∀ a ∈ as, H a = none := fun a ha => s0.free (z2.new a ha).1
      have hll : LL (FormV K ([] : List Span).length) H4 D as (tabC rows.length (fun _ _ => dF) (cntAt rows 0 [])) := by
        rw [tabC_zero fun j hj => ?_]
        · have e := z3.ll (P := FormV K ([] : List Span).length)
          rw [z1, hlen] at e
          exact e
        · unfold cntAt
          rw [if_neg List.not_mem_nil]
          refine manyN_zero ?_
          rw [perAt_eq (List.getElem?_eq_getElem hj)]
          exact (G.per _ (List.getElem_mem hj)).1
      have hz0 : ∀ j, j < rows.length → cntAt rows 0 [] j = 0 := fun j hj => by
        unfold cntAt
        rw [if_neg List.not_mem_nil]
        refine manyN_zero ?_
        rw [perAt_eq (List.getElem?_eq_getElem hj)]
        exact (G.per _ (List.getElem_mem hj)).1
      refine ⟨_, rfl, beats, rfl, by omega, by omega, ?_⟩
      refine for_range (n := beats) (fun b σ H' => Same H H' ∧ H' o = some (.lst (ivs order)) ∧ (∃ (fv : Nat → Nat → Form) (spans : List Span), LL (FormV K spans.length) H' D as (tabC rows.length fv (cntAt rows b [])) ∧ IsF K H' fo sl ∧ FrS K H' sl spans ∧ NInv rows fig fine beats fv (cntAt rows b []) spans ∧ NSz rows.length (9 * b) fv (cntAt rows b []) spans ∧ SprI rows fig fine fv (cntAt rows b []) spans) ∧
          ∃ x9 x10 x11, σ = [some (.ref gr), some (.int (beats : Int)), some (.int (fig : Int)), some (.int (fine : Int)), some (.ref nd), some (.ref oa), some (.ref fo), some (.ref D), some (.ref o), x9, x10, x11, none, none])
        ⟨s4, ho', ⟨fun _ _ => dF, [], hll, hF4, hS4, NInv.zero hz0, NSz.zero hz0 _, fun j r hr hw c hc => by rw [hz0 j (List.getElem?_eq_some_iff.mp hr).1] at hc; omega⟩, none, none, none, rfl⟩ ?_ ?_
      · rintro b σ H' hb' ⟨y1, y2, ⟨fv0, spans0, y3, y4, y5, y6, y7, y8⟩, x9, x10, x11, rfl⟩
        refine ⟨_, rfl, o, rfl, ⟨_, SqL.of y2⟩, ?_⟩
        refine for_list (K := K) (a := o) (xs := ivs order) (fun i σ H' => Same H H' ∧ H' o = some (.lst (ivs order)) ∧ (∃ (fv : Nat → Nat → Form) (spans : List Span), LL (FormV K spans.length) H' D as (tabC rows.length fv (cntAt rows b (order.take i))) ∧ IsF K H' fo sl ∧ FrS K H' sl spans ∧ NInv rows fig fine beats fv (cntAt rows b (order.take i)) spans ∧
            NSz rows.length (9 * b + i) fv (cntAt rows b (order.take i)) spans ∧ SprI rows fig fine fv (cntAt rows b (order.take i)) spans) ∧ ∃ x9 x11, σ = [some (.ref gr), some (.int (beats : Int)), some (.int (fig : Int)), some (.int (fine : Int)), some (.ref nd), some (.ref oa), some (.ref fo), some (.ref D), some (.ref o), x9, some (.int (0 + (b : Int))), x11, none, none])
          ⟨y1, y2, ⟨fv0, spans0, y3, y4, y5, y6, y7, y8⟩, x9, x11, rfl⟩ (fun i σ H' _ z => SqL.of z.2.1) ?_ ?_
        · rintro i x σ H5 hx ⟨w1, w2, ⟨fv, spans, w3, wF, wS, wI, wZ, wP⟩, w9, w11, rfl⟩
          obtain ⟨j, hj, rfl⟩ := ivs_get hx
          have hjn := hO.lt j (List.mem_of_getElem? hj)
          have hio : i < order.length := (List.getElem?_eq_some_iff.mp hj).1
          have hr' : rows[j]? = some rows[j] := List.getElem?_eq_getElem hjn
          generalize rows[j] = r at hr'
          have hm := List.mem_of_getElem? hr'
          have hp := G.per r hm
          obtain ⟨rv, hrv, hR⟩ := h3.at hr'
          obtain ⟨ra, ta, u, rfl, k1, k2, k3⟩ := id hR
          have k1' := SqT.same k1 w1
          have jn : j ∉ order.take i := by
            intro m
            obtain ⟨i', hi'⟩ := List.mem_iff_getElem?.mp m
            have hlt : i' < (order.take i).length := (List.getElem?_eq_some_iff.mp hi').1
            rw [List.length_take] at hlt
            rw [List.getElem?_take_of_lt (by omega)] at hi'
            have e := nd_ix hO.nd hi' hj
            omega
          have tk_mem : ∀ x, x ∈ j :: order.take i ↔ x ∈ order.take (i + 1) := by
            intro x
            rw [List.take_add_one, hj, Option.toList_some, List.mem_append, List.mem_singleton, List.mem_cons]
            exact Or.comm
          refine ⟨_, rfl, _, rfl, nd, _, (j : Nat), _, rfl, rfl, SqT.same h2 w1, atI_nat hrv, ?_⟩
          refine ⟨_, rfl, _, rfl, ra, _, 3, _, rfl, rfl, k1', at3, _, _, rfl, rfl, by omega, rfl, _, rfl, ?_⟩
          rw [mod_dec]
          by_cases hmod : b % r.per = 0
          · rw [decide_eq_true hmod]
            obtain ⟨c1, c2, c3, c4⟩ := G.ready hr' jn hmod fun hl a ha => hO.dep i j r hj hr' hl a ha
            have hcl : b / r.per < manyN r.per beats := (manyN_lt hp.1).mpr (by have := Nat.div_mul_le_self b r.per; omega)
            have hcnt : ∀ i' ri, rows[i']? = some ri → cntAt rows b (order.take i) i' ≤ manyN ri.per beats := fun i' ri hri => by
              have p2 := G.per ri (List.mem_of_getElem? hri)
              unfold cntAt
              rw [perAt_eq hri]
              refine Nat.not_lt.mp fun c => ?_
              have d3 := (manyN_lt p2.1).mp c
              have d4 : ¬ manyN ri.per beats * ri.per < beats := fun y => Nat.lt_irrefl _ ((manyN_lt p2.1).mpr y)
              split at d3 <;> omega
            obtain ⟨aj, vsj, e1, e2, e3, e4⟩ := w3.get (tabC_get (v := fv) (cnt := cntAt rows b (order.take i)) hjn)
            refine iteT ⟨_, rfl, _, rfl, D, _, (j : Nat), _, rfl, rfl, SqL.of w3.top, atI_nat e2, .inl ⟨rfl, _, SqL.of e3⟩, ?_⟩
            refine ⟨_, rfl, _, rfl, _, rfl, _, rfl, ra, _, 3, _, rfl, rfl, k1', at3, _, _, rfl, rfl, ⟨by omega, by omega⟩, _, rfl, _, rfl, _, rfl, ?_⟩
            dsimp only
            rw [div_int]
            refine ⟨_, r, D, fo, sl, as, _, b / r.per, fig, fine, 20 + 4 * (9 * b + i), 20 + 100 * (9 * b + i), spans, rfl, hR.tk (tk_same w1), G.ar r hm, w3, wF, wS, wZ.spB (by omega), by have := wZ.len; omega, by omega, by omega, fun j' l hl f hf => ?_, by omega, by omega, G.q r hm, fun hl => ?_, fun _ _ hl a ha => ?_, fun v2 H6 oo f hst s6 g6 f6 => ?_⟩
            · obtain ⟨d1, c', d2, rfl⟩ := tabC_mem hl hf
              exact wZ.f j' c' d1 d2
            · refine (c3 hl).imp id fun d => ⟨_, tabC_get d.1, ?_⟩
              rw [List.length_map, List.length_range]
              exact d.2
            · obtain ⟨d1, d2⟩ := c4 hl a ha
              refine ⟨_, tabC_get d1, ?_⟩
              rw [List.length_map, List.length_range]
              exact d2
            · have hc1 : cntAt rows b (order.take (i + 1)) j = cntAt rows b (order.take i) j + 1 := by rw [← cntAt_mem tk_mem j, c2, c1]
              have hc2 : ∀ i', i' < rows.length → i' ≠ j → cntAt rows b (order.take (i + 1)) i' = cntAt rows b (order.take i) i' := fun i' _ hne => by
                rw [← cntAt_mem tk_mem i']
                exact cntAt_other hne
              have htf : ∀ a c, a < rows.length → c < cntAt rows b (order.take i) a → vof dF (tabC rows.length fv (cntAt rows b (order.take i))) a c = fv a c := fun a c h1 h2 => tabC_vof h1 h2
              rw [← c1] at hst hcl
              have c3' : r.w = .late → cntAt rows b (order.take i) j = 0 ∨ (r.args.getD 0 0 < rows.length ∧ cntAt rows b (order.take i) j - 1 < cntAt rows b (order.take i) (r.args.getD 0 0)) := by
                rw [c1]
                exact c3
              have c4' : r.w ≠ .late → ∀ a ∈ r.args, a < rows.length ∧ placeR r.w (cntAt rows b (order.take i) j) < cntAt rows b (order.take i) a := by
                rw [c1]
                exact c4
              have nI := NInv.step G wI hr' hc1 hc2 hcl hcnt c3' c4' htf (fun i' c hi hc => wZ.out i' c hi hc) hst
              have nZ := NSz.step G wZ hfig hfine hr' hc1 hc2 c3' c4' htf hst (by omega) f6.out
              have nP := SprI.step wP hr' hc1 hc2 hst
              have hlen2 : spans.length ≤ (spans ++ oo.toList).length := by
                rw [List.length_append]
                omega
              have w3' : LL (FormV K (spans ++ oo.toList).length) H6 D as (tabC rows.length (setF fv j (cntAt rows b (order.take i) j) f) (cntAt rows b (order.take i))) := by
                have q1 := w3.keep2 (P' := FormV K (spans ++ oo.toList).length) (H' := H6) (fun v x hv => (hv.sameB wS s6).mono hlen2) fun a o' ha e => s6 a o' (by
                  rcases ha with ha | ha
                  · rw [ha]
                    exact Ne.symm nDs
                  · exact nas a ha) e
                rw [tabC_ext (v' := setF fv j (cntAt rows b (order.take i) j) f) fun j' c' _ hc' => (setF_old fun ⟨z1, z2⟩ => by subst z1; omega).symm] at q1
                exact q1
              have e3' : H6 aj = some (.lst vsj) := s6 _ _ (nas aj (List.mem_of_getElem? e1)) e3
              have hvl : vsj.length < sizeLine := by
                rw [e4.len, List.length_map, List.length_range, c1]
                have := Nat.div_le_self b r.per
                exact small1000 (by omega)
              have f6' : FormV K (spans ++ oo.toList).length H6 v2 (setF fv j (cntAt rows b (order.take i) j) f j (cntAt rows b (order.take i) j)) := by
                rw [setF_same]
                exact f6
              have hpush := w3'.push (fun _ _ _ _ d h => h.dk d) e1 (tabC_get (v := setF fv j (cntAt rows b (order.take i) j) f) (cnt := cntAt rows b (order.take i)) hjn) e3' f6'
              rw [tabC_push (cnt' := cntAt rows b (order.take (i + 1))) hjn hc1 hc2] at hpush
              have naj := List.mem_of_getElem? e1
              have ho6 : H6 o = some (.lst (ivs order)) := s6 _ _ (Ne.symm nso) w2
              obtain ⟨dxx, hfo5⟩ := id wF
              have hfo6 := s6 _ _ (Ne.symm nsf) hfo5
              have dkp : DK K H6 (upd H6 aj (.lst (vsj ++ [v2]))) := dk_lst e3'
              obtain ⟨ws6, g61, g62⟩ := g6
              have sH6 : Same H H6 := fun b' x' e' => s6 b' x' (ne_of_none e' hslH) (w1 b' x' e')
              refine ⟨aj, _, _, rfl, rfl, e3', hvl, same_upd_new sH6 (haH _ naj), ?_, ⟨_, _, hpush, ⟨dxx, ?_⟩, ⟨ws6, ?_, g62.imp fun _ _ r => r.tk dkp.t⟩, nI, nZ, nP⟩, _, _, rfl⟩
              · rw [upd_ne (Ne.symm (hoa _ naj))]
                exact ho6
              · rw [upd_ne (Ne.symm (naf _ naj))]
                exact hfo6
              · rw [upd_ne (Ne.symm (nas _ naj))]
                exact g61
          · rw [decide_eq_false hmod]
            have ec : ∀ i', i' < rows.length → cntAt rows b (order.take i) i' = cntAt rows b (order.take (i + 1)) i' := fun i' _ => by
              rw [← cntAt_mem tk_mem i']
              exact (cntAt_skip G hr' hmod i').symm
            have ec2 : cntAt rows b (order.take i) = cntAt rows b (order.take (i + 1)) := by
              funext i'
              rw [← cntAt_mem tk_mem i']
              exact (cntAt_skip G hr' hmod i').symm
            rw [ec2] at w3 wI wZ wP
            exact iteF ⟨w1, w2, ⟨fv, spans, w3, wF, wS, wI, wZ.mono (by omega), wP⟩, _, _, rfl⟩
        · rintro σ H5 ⟨w1, w2, ⟨fv, spans, w3, wF, wS, wI, wZ, wP⟩, w9, w11, rfl⟩
          rw [ivs_len, List.take_length] at w3 wI wZ wP
          have ec : ∀ j', j' < rows.length → cntAt rows b order j' = cntAt rows (b + 1) [] j' := fun j' hj' => by
            unfold cntAt
            rw [if_pos (hO.all hOl hj'), if_neg List.not_mem_nil]
          rw [tabC_congr ec] at w3
          refine ⟨w1, w2, ⟨fv, spans, w3, wF, wS, fun gv ve vf pp pz => ?_, ((wZ.congr ec).mono (by omega)), fun j r hr hw c hc => wP j r hr hw c (by rw [ec j (List.getElem?_eq_some_iff.mp hr).1]; exact hc)⟩, _, _, _, rfl⟩
          obtain ⟨ε, q1, q2⟩ := wI gv ve vf pp fun j r hr hw c hc => by
            have hlt : r.args.getD 0 0 < rows.length := by
              obtain ⟨x0, x1, x2, hx⟩ := len3 (l := r.args) (by rw [G.ar r (List.mem_of_getElem? hr), hw]; rfl)
              exact G.lt r (List.mem_of_getElem? hr) _ (by rw [hx]; exact List.mem_cons_self)
            exact pz j r hr hw c (by rw [← ec _ hlt]; exact hc)
          exact ⟨ε, q1, fun j c hj hc => q2 j c hj (by rw [ec j hj]; exact hc)⟩
      · rintro σ H5 ⟨y1, y2, ⟨fv, spans, y3, y4, y5, y6, y7, y8⟩, x9, x10, x11, rfl⟩
        have ec : cntAt rows beats [] = fun j => manyN (perAt rows j) beats := by
          funext j'
          unfold cntAt
          rw [if_neg List.not_mem_nil]
        rw [ec] at y3 y6 y7 y8
        have hspB := y7.spB (by omega)
        obtain ⟨dxx, hfo5⟩ := id y4
        -- the picks
        refine ⟨_, rfl, nd, rvs, rfl, SqT.same h2 y1, ?_⟩
        refine for_it walk_enumT (fun i σ H' => Same H5 H' ∧ (∀ j < i, ∀ r, rows[j]? = some r → r.w = .pick → ∀ c, c < manyN (perAt rows (r.args.getD 0 0)) beats → lowF spans (fv (r.args.getD 0 0) c) = 0 ∧ highF spans (fv (r.args.getD 0 0) c) = 0) ∧
            ∃ x9 x10 x11, σ = [some (.ref gr), some (.int (beats : Int)), some (.int (fig : Int)), some (.int (fine : Int)), some (.ref nd), some (.ref oa), some (.ref fo), some (.ref D), some (.ref o), x9, x10, x11, none, none])
          ⟨fun _ _ h => h, fun j h => absurd h (Nat.not_lt_zero j), _, _, _, rfl⟩ (fun i σ H' _ z => SqT.same h2 (y1.trans z.1)) ?_ ?_
        · rintro i y σ H6 H6' hi ⟨v1, v2, q9, q10, q11, rfl⟩ ⟨T1, u1, u2, rfl, hT1, rfl, e1, e2⟩
          cases e1
          obtain ⟨r, hr', hR⟩ := h3.at' e2
          obtain ⟨ra, ta, u, rfl, k1, k2, k3⟩ := id hR
          have sT := same_upd (o := .tup [.int (i : Int), .ref ra]) hT1
          have v3 := v1.trans sT
          have v4 := y1.trans v3
          refine ⟨T1, _, rfl, SqT.of upd_same, rfl, _, _, rfl, _, _, rfl, rfl, ?_⟩
          generalize upd H6 T1 (.tup [.int (i : Int), .ref ra]) = H7 at sT v3 v4 ⊢
          refine ⟨_, rfl, ra, _, 0, _, rfl, rfl, SqT.same k1 v4, at0, rfl, _, rfl, wif r.w .pick (fun e => ?_) (fun e => ?_)⟩
          · exact absurd e (q2 r (List.mem_of_getElem? hr'))
          · refine iteF ⟨v3, fun j hj r' hr2 hw c hc => ?_, _, _, _, rfl⟩
            by_cases hji : j = i
            · subst hji
              rw [hr'] at hr2
              cases hr2
              exact absurd hw e
            · exact v2 j (by omega) r' hr2 hw c hc
        · rintro σ H6 ⟨v1, v2, q9, q10, q11, rfl⟩
          rw [hlen] at v2
          have hZ : PickZ rows fv (fun j => manyN (perAt rows j) beats) spans := fun j r hr hw c hc => v2 j (List.getElem?_eq_some_iff.mp hr).1 r hr hw c hc
          have v4 := y1.trans v1
          have w3 : LL (FormV K spans.length) H6 D as (tabC rows.length fv fun j => manyN (perAt rows j) beats) := y3.keep (fun v x hv => hv.same v1) fun a o' _ e => v1 a o' e
          have wF := y4.same v1
          have wS := y5.same v1
          have hfo6 := v1 _ _ hfo5
          refine ⟨_, rfl, oa, rfl, ⟨_, SqT.same o1 v4⟩, fun R hR0 => ?_⟩
          refine dc_tup (K := K) (a := oa) (xs := ovs) (fun i H' => Same H6 H' ∧ ∃ kk, H' R = some (.dK kk) ∧ DOut (SpanV K) (fun j => (List.range (manyN (perAt rows j) beats)).map fun c => (lowF spans (fv j c), highF spans (fv j c))) H' kk (outs.take i))
            ⟨same_upd hR0, [], upd_same, by rw [List.take_zero]; exact .nil⟩ (fun i H' _ z => SqT.same o1 (v4.trans z.1)) ?_ ?_
          · rintro i x H7 hx ⟨n1, kk, n2, n3⟩
            obtain ⟨oo, ho1, po, rfl, ho2⟩ := o2.at' hx
            have v5 := v4.trans n1
            have hjn := hon oo (List.mem_of_getElem? ho1)
            obtain ⟨aj, vsj, e1, e2, e3, e4⟩ := w3.get (tabC_get (v := fv) (cnt := fun j => manyN (perAt rows j) beats) hjn)
            have e3' := n1 _ _ e3
            refine ⟨po, _, rfl, SqT.same ho2 v5, rfl, _, _, rfl, _, _, rfl, rfl, rfl, _, rfl, ?_⟩
            refine ⟨_, rfl, _, rfl, D, _, (oo.2 : Nat), _, rfl, rfl, SqL.of (n1 _ _ w3.top), atI_nat e2, aj, rfl, ⟨_, SqL.of e3'⟩, fun D2 hD2 => ?_⟩
            refine lc_list (K := K) (a := aj) (xs := vsj) (fun k H' => Same H7 H' ∧ ∃ ws, H' D2 = some (.lst ws) ∧ All2 (SpanV K H') ws (((List.range (manyN (perAt rows oo.2) beats)).take k).map fun c => (lowF spans (fv oo.2 c), highF spans (fv oo.2 c))))
              ⟨same_upd hD2, [], upd_same, by rw [List.take_zero]; exact .nil⟩ (fun k H' _ z => z.1.seq (SqL.of e3')) ?_ ?_
            · rintro k x H8 hx8 ⟨m1, ws, m2, m3⟩
              obtain ⟨f, hf1, hf2⟩ := e4.at' hx8
              rw [List.getElem?_map] at hf1
              cases hk : (List.range (manyN (perAt rows oo.2) beats))[k]? with
              | none => rw [hk] at hf1; cases hf1
              | some c =>
                rw [hk] at hf1
                cases hf1
                have hcm : c < manyN (perAt rows oo.2) beats := List.mem_range.mp (List.mem_of_getElem? hk)
                have n8 := n1.trans m1
                refine ⟨rfl, _, rfl, fo, _, _, rfl, n8 _ _ hfo6, rfl, _, rfl, fo, sl, _, _, spans, _, _, rfl, wF.same n8, wS.same n8, hf2.same n8, hspB, y7.f oo.2 c hjn hcm, by omega, by omega, fun v9 H9 s9 p9 => ?_⟩
                have hD9 := s9 _ _ m2
                refine ⟨ws, hD9, small1000 ?_, same_upd_new (m1.trans s9) hD2, _, upd_same, ?_⟩
                · rw [m3.len, List.length_map, List.length_take]
                  have hpp := G.per _ (List.getElem_mem hjn)
                  rw [perAt_eq (List.getElem?_eq_getElem hjn)] at hcm ⊢
                  have q5 : k < (List.range (manyN rows[oo.2].per beats)).length := by
                    have := (List.getElem?_eq_some_iff.mp hk).1
                    rwa [perAt_eq (List.getElem?_eq_getElem hjn)] at this
                  have q6 : manyN rows[oo.2].per beats ≤ beats := by
                    refine Nat.not_lt.mp fun z => ?_
                    have z2 := (manyN_lt hpp.1).mp z
                    have z3 := Nat.le_mul_of_pos_right beats (show 0 < rows[oo.2].per by omega)
                    omega
                  rw [List.length_range] at q5
                  omega
                · have dk : DK K H9 (upd H9 D2 (.lst (ws ++ [v9]))) := dk_lst hD9
                  rw [List.take_add_one, hk, Option.toList_some, List.map_append]
                  exact (m3.imp fun _ _ r => (r.tk (tk_same s9)).tk dk.t).snoc (p9.tk dk.t)
            · rintro H8 ⟨m1, ws, m2, m3⟩
              have hl : vsj.length = (List.range (manyN (perAt rows oo.2) beats)).length := by
                rw [e4.len, List.length_map]
              rw [hl, List.take_length] at m3
              have n2' := m1 _ _ n2
              have i3 : i < outs.length := (List.getElem?_eq_some_iff.mp ho1).1
              have kl : kk.length = i := by
                rw [n3.len, List.length_take]
                omega
              have newk : valV kk (.inr oo.1) = none := by
                refine n3.none fun m => ?_
                obtain ⟨o', ho', e'⟩ := List.mem_map.mp m
                obtain ⟨i', hi'⟩ := List.mem_iff_getElem?.mp ho'
                have hlt : i' < (outs.take i).length := (List.getElem?_eq_some_iff.mp hi').1
                rw [List.length_take] at hlt
                rw [List.getElem?_take_of_lt (by omega)] at hi'
                have z1 : (outs.map (·.1))[i']? = some oo.1 := by rw [List.getElem?_map, hi', ← e']; rfl
                have z2 : (outs.map (·.1))[i]? = some oo.1 := by rw [List.getElem?_map, ho1]; rfl
                have e := nd_ix hond z1 z2
                omega
              refine ⟨kk, .inr oo.1, rfl, n2', small1000 (by omega), same_upd_new (n1.trans m1) hR0, _, upd_same, ?_⟩
              rw [putK_new _ newk, List.take_add_one, ho1, Option.toList_some]
              have nD2R : D2 ≠ R := by
                rintro rfl
                rw [n2] at hD2
                cases hD2
              have tkR : TK K H8 (upd H8 R (.dK (kk ++ [(.inr oo.1, .ref D2)]))) := dic_tk n2'
              refine All2.snoc (DOut.keep (n3.keep (fun v x r => r.tk (tk_same m1)) fun a xs e => m1 _ _ e) (fun v x r => r.tk tkR) fun a xs e => ?_) ⟨rfl, D2, ws, rfl, by rw [upd_ne nD2R]; exact m2, m3.imp fun _ _ r => r.tk tkR⟩
              have na : a ≠ R := by
                rintro rfl
                rw [n2'] at e
                cases e
              rw [upd_ne na]
              exact e
          · rintro H7 ⟨n1, kk, n2, n3⟩
            rw [holen, List.take_length] at n3
            refine q R H7 kk _ (v4.trans n1) (v4.free hR0) n2 n3 ⟨fun gv ve vf pp j r c hr hc => ?_, fun j r hr hw c hc => ?_, fun j r c hr hc => ?_⟩
            · obtain ⟨ε, p1, p2⟩ := y6 gv ve vf pp hZ
              have hjn := (List.getElem?_eq_some_iff.mp hr).1
              have z := p2 j c hjn (by show c < manyN (perAt rows j) beats; rw [perAt_eq hr]; exact hc)
              rw [z]
              exact ends_hold p1
            · rcases y8 j r hr hw c (by show c < manyN (perAt rows j) beats; rw [perAt_eq hr]; exact hc) with ⟨z1, z2⟩ | ⟨m, s, z1, z2, z3, z4⟩
              · have ze := none_ends spans 0
                show (lowF spans (fv j c), highF spans (fv j c)) = _
                rw [z2, z1, ze.1, ze.2]
                rfl
              · have ze := spring_ends z1 z2 z3
                show (lowF spans (fv j c), highF spans (fv j c)) = _
                rw [z4, z1, ze.1, ze.2]
                rfl
            · have hjn := (List.getElem?_eq_some_iff.mp hr).1
              have zz := y7.f j c hjn (by show c < manyN (perAt rows j) beats; rw [perAt_eq hr]; exact hc)
              have l1 := hspB.len
              exact ⟨(lowF_sz zz).bd (by omega) (by omega), (highF_sz zz).bd (by omega) (by omega)⟩
end
end K70
/-! K70, part Q: noise_of by keywords; off_by. -/
namespace K70
open PySem PySem.Spec PyProof.Rows L2
section
variable {P : Program} {w : World} {K : PySem.W.Frag} {mg : Str → Option Value} {base : Heap}
theorem kc_noise_of0 (T : TX K mg) : CalK P w K mg base "noise_of" ["graph", "beats", "figures", "fine"] 2 ["figures"] (fun vs zs => vs ++ zs ++ [.int 6]) 7 (sp_noise_of0 K) := by
  obtain ⟨fd, F⟩ := T.f_noise_of
  obtain ⟨mv, hb⟩ := kb1_noise_of F
  exact ⟨⟨fd, _, ok_noise_of0 T F, hb⟩, T.g_noise_of, F.kp⟩
theorem pi_zipSK {X : Cx} {e e2 : Expr} {ta tk : TA} {kws : List Keyword} {p pos tpos : Pos} {elts : List Expr} {kk : Nat} (hg : Gl X "zip") (hm : X.mg "zip" = none) (ha : PA X [e, e2] ta) (hk : PK X kws tk) (hK : X.K = K := by rfl)
    (he : backTo pos (starEach [e, e2] X.env) = (false, eval e X.env) :: backTo pos (starEach [e2] X.env) := by rfl) (hpl : (backTo pos (starEach [e, e2] X.env)).any (·.1) = false := by rfl)
    (hall : (backToKw pos (keywordEach kws X.env)).all (·.1.isSome) = true := by rfl) (hnone : (backToKw pos (keywordEach kws X.env)).any (·.1.isNone) = false := by rfl)
    (hks : (backToKw pos (keywordEach kws X.env)).filterMap (·.1) = [Str.ofString "strict"] := by rfl) :
    PI X (.Tuple elts kk tpos) (.Call (.Name "zip" p) [e, e2] kws pos) (iZipS K ta tk) := by
  subst hK
  exact pi_zipS hg hm ha hk he hpl hall hnone hks
def sp_off_by (K : PySem.W.Frag) : Sp := fun vs H Q _ => ∃ (gr g : Addr) (rows : List Row) (rk : Nat → Nat) (ot : V) (outs : List (Str × Nat)) (beats fig : Nat) (gv : Str → Nat → Rat) (ve vf : Nat → Nat → Rat), vs = [.ref gr, .ref g, .int beats, .int fig] ∧ GraphV K H gr rows ot ∧ OutsV K H ot outs ∧ GOk rows rk ∧ beats ≤ 8 ∧ fig ≤ 14 ∧
  (∀ o ∈ outs, o.2 < rows.length) ∧ (outs.map (·.1)).Nodup ∧ outs.length ≤ 100 ∧ GivenD K H g rows beats gv ∧ Sol rows gv none beats ve ∧ Sol rows gv (some fig) beats vf ∧ (∀ r ∈ rows, r.w = .spring → ∀ c, c < manyN r.per beats → Sz 20 20 (gv r.nm c)) ∧
  ∀ d H' kk, Same H H' → H d = none → H' d = some (.dK kk) → DOut (NumV K) (fun j => (List.range (manyN (perAt rows j) beats)).map fun c => vf j c - ve j c) H' kk outs → Q (.ref d) H'
/-! ### off_by -/
abbrev n_off_by : List Str := ["graph", "given", "beats", "figures", "exact", "few", "name", "node", "one", "other"]
theorem sc_off_by : FnScope n_off_by ["graph", "given", "beats", "figures"] (defScope s_off_by) := ⟨rfl, rfl, rfl, by decide +kernel, rfl, by decide +kernel, by decide +kernel⟩
theorem ok_off_by (T : TX K mg) {fd : FuncData} (F : FnP K "off_by" "off_by" s_off_by [] [("figures", .int 8)] (He.ga K "off_by") fd) : FnOk P w K mg base CX0 6 (He.ga K "off_by") fd ["graph", "given", "beats", "figures"] (sp_off_by K) := by
  refine okN F sc_off_by (fun vs H Q E h => ?_) (fun cdv A outer s H vs Q E hr h => ?_)
  · obtain ⟨gr, g, rows, rk, ot, outs, beats, fig, gv, ve, vf, rfl, hgr, hot, G, hb, hfig, hon, hond, hol, hG, Se, Sf, hsz, q⟩ := h
    rfl
  · obtain ⟨gr, g, rows, rk, ot, outs, beats, fig, gv, ve, vf, rfl, hgr, hot, G, hb, hfig, hon, hond, hol, hG, Se, Sf, hsz, q⟩ := h
    refine ⟨_, 
      (pss_cons
        (ps_set (i := 4) sc_off_by.nd rfl (by first | exact Or.inl rfl | exact Or.inr rfl) (pe_cal (c_numbers_of T) (hr.mono (by decide)) (pa_cons (pv 0) (pa_cons (pv 1) (pa_cons (pv 2) pa_nil)))))
      (pss_cons
        (ps_set (i := 5) sc_off_by.nd rfl (by first | exact Or.inl rfl | exact Or.inr rfl) (pe_calK (kc_numbers_of T) (hr.mono (by decide)) (pa_cons (pv 0) (pa_cons (pv 1) (pa_cons (pv 2) pa_nil))) (pk_cons (pv 3) pk_nil)))
      (pss_one
        (ps_ret (pe_dc (own := [("name", 6), ("node", 7)]) (g := gTup K 2 (gCons (gName 6) (gCons (gName 7) (gNil)))) rfl sc_off_by.nd (pi_tup (pe_ix (ixT (K := K)) (pv 0) pe_int (fun _ _ => rfl))) (blkOk_by (N := n_off_by) (sc := defScope s_off_by) (by decide +kernel)) (fun _ _ _ _ _ => pg_tup (by rfl) (pgs_cons (pg_name (i := 6) sc_off_by.nd rfl (by first | exact Or.inl rfl | exact Or.inr rfl)) (pgs_cons (pg_name (i := 7) sc_off_by.nd rfl (by first | exact Or.inl rfl | exact Or.inr rfl)) pgs_nil))) (fun _ _ _ _ _ => pts_nil) (fun _ _ _ _ _ => (pv 6)) (fun _ _ _ _ _ => (pe_lc (own := [("one", 8), ("other", 9)]) (g := gTup K 2 (gCons (gName 8) (gCons (gName 9) (gNil)))) rfl sc_off_by.nd (pi_zipSK (K := K) (by rfl) T.z_zip (pa_cons (pe_ix (ixL (K := K)) (pv 5) (pv 7) (fun _ _ => rfl)) (pa_cons (pe_ix (ixL (K := K)) (pv 4) (pv 7) (fun _ _ => rfl)) pa_nil)) (pk_cons pe_bl pk_nil)) (blkOk_by (N := n_off_by) (sc := _) (by kernel_rfl)) (fun _ _ _ _ _ => pg_tup (by rfl) (pgs_cons (pg_name (i := 8) sc_off_by.nd rfl (by first | exact Or.inl rfl | exact Or.inr rfl)) (pgs_cons (pg_name (i := 9) sc_off_by.nd rfl (by first | exact Or.inl rfl | exact Or.inr rfl)) pgs_nil))) (fun _ _ _ _ _ => pts_nil) (fun _ _ _ _ _ => (pe_cal (c_less_of T) (hr.mono (by decide)) (pa_cons (pv 8) (pa_cons (pv 9) pa_nil))))))))))), ?_⟩
    obtain ⟨nd, rvs, h1, h2, h3⟩ := id hgr
    obtain ⟨oa, ovs, rfl, o1, o2⟩ := id hot
    have holen := o2.len
    have h9 := G.len
    refine ⟨_, rfl, _, rfl, _, rfl, gr, g, rows, rk, _, beats, none, gv, ve, rfl, hgr, G, hb, hG, Se, (fun f e => nomatch e), hsz, fun t1 as1 H1 s1 l1 => ?_⟩
    refine ⟨_, rfl, _, rfl, _, rfl, _, rfl, rfl, rfl, gr, g, rows, rk, _, beats, some fig, gv, vf, rfl, hgr.tk (tk_same s1), G, hb, hG.same s1, Sf, (fun f e => by cases e; exact hfig), hsz, fun t2 as2 H2 s2 l2 => ?_⟩
    have l1' := l1.same s2
    have s3 := s1.trans s2
    refine ⟨_, rfl, gr, _, 1, _, rfl, rfl, SqT.same h1 s3, at1, oa, rfl, ⟨_, SqT.same o1 s3⟩, fun R hR0 => ?_⟩
    refine dc_tup (K := K) (a := oa) (xs := ovs) (fun i H' => Same H2 H' ∧ ∃ kk, H' R = some (.dK kk) ∧ DOut (NumV K) (fun j => (List.range (manyN (perAt rows j) beats)).map fun c => vf j c - ve j c) H' kk (outs.take i))
      ⟨same_upd hR0, [], upd_same, by rw [List.take_zero]; exact .nil⟩ (fun i H' _ z => SqT.same o1 (s3.trans z.1)) ?_ ?_
    · rintro i x H7 hx ⟨n1, kk, n2, n3⟩
      obtain ⟨oo, ho1, po, rfl, ho2⟩ := o2.at' hx
      have v5 := s3.trans n1
      have hjn := hon oo (List.mem_of_getElem? ho1)
      obtain ⟨aj, vsj, e1, e2, e3, e4⟩ := l2.get (tabC_get (v := vf) (cnt := fun j => manyN (perAt rows j) beats) hjn)
      obtain ⟨bj, wsj, f1, f2, f3, f4⟩ := l1'.get (tabC_get (v := ve) (cnt := fun j => manyN (perAt rows j) beats) hjn)
      have e3' := n1 _ _ e3
      have f3' := n1 _ _ f3
      have ll1 := e4.len
      have ll2 := f4.len
      rw [List.length_map] at ll1 ll2
      have hr := List.getElem?_eq_getElem hjn
      have hpp := G.per _ (List.getElem_mem hjn)
      have q6 : manyN (perAt rows oo.2) beats ≤ beats := by
        rw [perAt_eq hr]
        refine Nat.not_lt.mp fun z => ?_
        have z2 := (manyN_lt hpp.1).mp z
        have z3 := Nat.le_mul_of_pos_right beats (show 0 < rows[oo.2].per by omega)
        omega
      refine ⟨po, _, rfl, SqT.same ho2 v5, rfl, _, _, rfl, _, _, rfl, rfl, rfl, _, rfl, ?_⟩
      refine ⟨_, rfl, _, rfl, t2, _, (oo.2 : Nat), _, rfl, rfl, SqL.of (n1 _ _ l2.top), atI_nat e2, _, rfl, _, rfl, t1, _, (oo.2 : Nat), _, rfl, rfl, SqL.of (n1 _ _ l1'.top), atI_nat f2, aj, bj, vsj, wsj, rfl, rfl, SqL.of e3', SqL.of f3', fun D2 hD2 => ?_⟩
      refine lc_it (walk_zipS (by rw [ll1, ll2])) (fun k H' => Same H7 H' ∧ ∃ ws, H' D2 = some (.lst ws) ∧ All2 (NumV K H') ws (((List.range (manyN (perAt rows oo.2) beats)).take k).map fun c => vf oo.2 c - ve oo.2 c))
        ⟨same_upd hD2, [], upd_same, by rw [List.take_zero]; exact .nil⟩ (fun k H' _ z => ⟨z.1.seq (SqL.of e3'), z.1.seq (SqL.of f3')⟩) ?_ ?_
      · rintro k x H8 H8' hk8 ⟨m1, ws, m2, m3⟩ ⟨T1, x1, x2, rfl, hT1, rfl, g1, g2⟩
        obtain ⟨y1, hf1, hf2⟩ := e4.at' g1
        obtain ⟨y2, hg1, hg2⟩ := f4.at' g2
        rw [List.getElem?_map] at hf1 hg1
        cases hk : (List.range (manyN (perAt rows oo.2) beats))[k]? with
        | none => rw [hk] at hf1; cases hf1
        | some c =>
          rw [hk] at hf1 hg1
          cases hf1
          cases hg1
          have hcm : c < manyN (perAt rows oo.2) beats := List.mem_range.mp (List.mem_of_getElem? hk)
          have hcm' : c < manyN rows[oo.2].per beats := by
            rw [← perAt_eq hr]
            exact hcm
          have bde := (sol_bd G Se (fun f e => nomatch e) hb hsz hr hcm').1
          have bdf := (sol_bd G Sf (fun f e => by cases e; exact hfig) hb hsz hr hcm').1
          have sT := same_upd (o := .tup [x1, x2]) hT1
          have n8 := (n1.trans m1).trans sT
          refine ⟨T1, _, rfl, SqT.of upd_same, rfl, _, _, rfl, _, _, rfl, rfl, rfl, ?_⟩
          refine ⟨_, rfl, _, rfl, x1, x2, _, _, rfl, hf2.same n8, hg2.same n8, bdf, bde, fun v9 H9 s9 p9 => ?_⟩
          have hD9 := s9 _ _ (sT _ _ m2)
          refine ⟨ws, hD9, small1000 ?_, same_upd_new (m1.trans (sT.trans s9)) hD2, _, upd_same, ?_⟩
          · have q5 : k < (List.range (manyN (perAt rows oo.2) beats)).length := (List.getElem?_eq_some_iff.mp hk).1
            rw [m3.len, List.length_map, List.length_take]
            rw [List.length_range] at q5
            omega
          · have dk : DK K H9 (upd H9 D2 (.lst (ws ++ [v9]))) := dk_lst hD9
            rw [List.take_add_one, hk, Option.toList_some, List.map_append]
            exact (m3.imp fun _ _ r => ((r.same sT).same s9).dk dk).snoc (p9.dk dk)
      · rintro H8 ⟨m1, ws, m2, m3⟩
        rw [ll1, List.take_length] at m3
        have n2' := m1 _ _ n2
        have i3 : i < outs.length := (List.getElem?_eq_some_iff.mp ho1).1
        have kl : kk.length = i := by
          rw [n3.len, List.length_take]
          omega
        have newk : valV kk (.inr oo.1) = none := by
          refine n3.none fun m => ?_
          obtain ⟨o', ho', e'⟩ := List.mem_map.mp m
          obtain ⟨i', hi'⟩ := List.mem_iff_getElem?.mp ho'
          have hlt : i' < (outs.take i).length := (List.getElem?_eq_some_iff.mp hi').1
          rw [List.length_take] at hlt
          rw [List.getElem?_take_of_lt (by omega)] at hi'
          have z1 : (outs.map (·.1))[i']? = some oo.1 := by rw [List.getElem?_map, hi', ← e']; rfl
          have z2 : (outs.map (·.1))[i]? = some oo.1 := by rw [List.getElem?_map, ho1]; rfl
          have e := nd_ix hond z1 z2
          omega
        refine ⟨kk, .inr oo.1, rfl, n2', small1000 (by omega), same_upd_new (n1.trans m1) hR0, _, upd_same, ?_⟩
        rw [putK_new _ newk, List.take_add_one, ho1, Option.toList_some]
        have nD2R : D2 ≠ R := by
          rintro rfl
          rw [n2] at hD2
          cases hD2
        have tkR : TK K H8 (upd H8 R (.dK (kk ++ [(.inr oo.1, .ref D2)]))) := dic_tk n2'
        refine All2.snoc (DOut.keep (n3.keep (fun v x r => r.same m1) fun a xs e => m1 _ _ e) (fun v x r => r.tk tkR) fun a xs e => ?_) ⟨rfl, D2, ws, rfl, by rw [upd_ne nD2R]; exact m2, m3.imp fun _ _ r => r.tk tkR⟩
        have na : a ≠ R := by
          rintro rfl
          rw [n2'] at e
          cases e
        rw [upd_ne na]
        exact e
    · rintro H7 ⟨n1, kk, n2, n3⟩
      rw [holen, List.take_length] at n3
      exact q R H7 kk (s3.trans n1) (s3.free hR0) n2 n3
theorem kc_off_by (T : TX K mg) : CalK P w K mg base "off_by" ["graph", "given", "beats", "figures"] 3 ["figures"] (fun vs zs => vs ++ zs) 6 (sp_off_by K) := by
  obtain ⟨fd, F⟩ := T.f_off_by
  obtain ⟨mv, hb⟩ := kb_off_by F
  exact ⟨⟨fd, _, ok_off_by T F, hb⟩, T.g_off_by, F.kp⟩
end
end K70
/-! K70, part LA: the box. -/
namespace K70
open PySem PySem.Spec PyProof.Rows L2
/-- the box at b: at most n draws so far -/
def BoxV (H : Hp) (b : Addr) (n : Nat) : Prop := ∃ x y z : Int, H b = some (.lst [.int x, .int y, .int z]) ∧ 0 ≤ x ∧ 0 ≤ y ∧ y < 2 ^ 62 ∧ 0 ≤ z ∧ z ≤ (n : Int)
theorem BoxV.same {H H' : Hp} {b : Addr} {n : Nat} (h : BoxV H b n) (e : Same H H') : BoxV H' b n := by
  obtain ⟨x, y, z, h1, h2⟩ := h
  exact ⟨x, y, z, e _ _ h1, h2⟩
theorem BoxV.mono {H : Hp} {b : Addr} {n m : Nat} (h : BoxV H b n) (e : n ≤ m) : BoxV H b m := by
  obtain ⟨x, y, z, h1, h2, h3, h4, h5, h6⟩ := h
  exact ⟨x, y, z, h1, h2, h3, h4, h5, by omega⟩
theorem BoxV.keep {H H' : Hp} {b : Addr} {n : Nat} (h : BoxV H b n) (e : H' b = H b) : BoxV H' b n := by
  obtain ⟨x, y, z, h1, h2⟩ := h
  exact ⟨x, y, z, by rw [e]; exact h1, h2⟩
section
variable {P : Program} {w : World} {K : PySem.W.Frag} {mg : Str → Option Value} {base : Heap}
def sp_law_take : Sp := fun vs H Q _ => ∃ (b : Addr) (many n : Nat), vs = [.ref b, .int many] ∧ 1 ≤ many ∧ many ≤ 1000000 ∧ BoxV H b n ∧ n ≤ 2 ^ 39 ∧ ∀ (r : Nat) H', r < many → SameB b H H' → BoxV H' b (n + 1) → Q (.int r) H'
theorem int_nat {i : Int} (h : 0 ≤ i) : V.int i = V.int ((i.toNat : Nat) : Int) := by
  congr 1
  omega
/-! ### _law_take -/
abbrev n_law_take : List Str := ["_law_box", "_law_many", "_law_found", "_law_once", "_law_pair"]
theorem sc_law_take : FnScope n_law_take ["_law_box", "_law_many"] (defScope s_law_take) := ⟨rfl, rfl, rfl, by decide +kernel, rfl, by decide +kernel, by decide +kernel⟩
theorem c_law_take (T : TX K mg) : Cal P w K mg base "_law_take" ["_law_box", "_law_many"] [] 1 sp_law_take := by
  refine cal_of T.g_law_take T.f_law_take (fun _ _ _ _ _ _ us hl => match us, hl with | [_, _], _ => rfl) fun fd F => okN F sc_law_take (fun vs H Q E h => ?_) (fun cdv A outer s H vs Q E hr h => ?_)
  · obtain ⟨b, many, n, rfl, h1, h2, ⟨x, y, z, hb, x0, y0, y1, z0, z1⟩, hn, q⟩ := h
    rfl
  · obtain ⟨b, many, n, rfl, h1, h2, ⟨x, y, z, hb, x0, y0, y1, z0, z1⟩, hn, q⟩ := h
    refine ⟨_, 
      (pss_cons
        (ps_if (pt_cmpR op_gt (pe_ix (ixL (K := K)) (pv 0) pe_int (fun _ _ => rfl)) pe_int (nomark _))
          (pss_cons
            (ps_set (i := 2) sc_law_take.nd rfl (by first | exact Or.inl rfl | exact Or.inr rfl) (pe_op op_mod (pe_ix (ixL (K := K)) (pv 0) pe_int (fun _ _ => rfl)) (pv 1)))
          (pss_cons
            (ps_asg (pe_op op_fdiv (pe_ix (ixL (K := K)) (pv 0) pe_int (fun _ _ => rfl)) (pv 1)) (pg_sub (pv 0) pe_int set_list))
          (pss_one
            (ps_ret (pv 2)))))
          pss_nil)
      (pss_cons
        (ps_asg (pe_op op_add (pe_ix (ixL (K := K)) (pv 0) pe_int (fun _ _ => rfl)) pe_int) (pg_sub (pv 0) pe_int set_list))
      (pss_cons
        (ps_set (i := 3) sc_law_take.nd rfl (by first | exact Or.inl rfl | exact Or.inr rfl) (pe_op op_mod (pe_op op_pow (pe_op op_add (pe_ix (ixL (K := K)) (pv 0) pe_int (fun _ _ => rfl)) (pe_op op_mul pe_int (pe_ix (ixL (K := K)) (pv 0) pe_int (fun _ _ => rfl)))) pe_int) pe_int))
      (pss_cons
        (ps_set (i := 4) sc_law_take.nd rfl (by first | exact Or.inl rfl | exact Or.inr rfl) (pe_op op_mod (pe_op op_mul (pe_op op_add (pe_op op_add (pv 3) (pe_ix (ixL (K := K)) (pv 0) pe_int (fun _ _ => rfl))) (pe_op op_fdiv (pe_ix (ixL (K := K)) (pv 0) pe_int (fun _ _ => rfl)) pe_int)) (pe_op op_add (pe_op op_add (pe_op op_mod (pv 3) pe_int) pe_int) (pe_ix (ixL (K := K)) (pv 0) pe_int (fun _ _ => rfl)))) pe_int))
      (pss_one
        (ps_ret (pe_op op_mod (pe_op op_fdiv (pe_op op_mod (pe_op op_add (pe_op op_mul (pv 4) pe_int) (pv 3)) pe_int) pe_int) (pv 1)))))))), ?_⟩
    have m0 : (0 : Int) < (many : Int) := by omega
    refine ⟨_, rfl, b, _, 0, _, rfl, rfl, SqL.of hb, at0, _, _, rfl, rfl, _, rfl, ?_⟩
    by_cases hx : x > 0
    · rw [decide_eq_true hx]
      refine iteT ⟨_, rfl, b, _, 0, _, rfl, rfl, SqL.of hb, at0, _, rfl, _, _, rfl, rfl, m0, ?_⟩
      refine ⟨_, rfl, b, _, 0, _, rfl, rfl, SqL.of hb, at0, _, rfl, _, _, rfl, rfl, ⟨m0, by omega⟩, _, rfl, b, _, _, 0, rfl, rfl, hb, rfl, _, rfl, ?_⟩
      have e1 := Int.emod_nonneg x (show (many : Int) ≠ 0 by omega)
      have e2 := Int.emod_lt_of_pos x m0
      show Q (V.int (x % (many : Int))) _
      rw [int_nat e1]
      exact q _ _ (by omega) sameB_upd ⟨x / (many : Int), y, z, upd_same, Int.ediv_nonneg x0 (by omega), y0, y1, z0, by omega⟩
    · rw [decide_eq_false hx]
      refine iteF ⟨_, rfl, b, _, 2, _, rfl, rfl, SqL.of hb, at2, _, _, rfl, rfl, _, rfl, b, _, _, 2, rfl, rfl, hb, rfl, ?_⟩
      have hb2 : (upd H b (.lst [.int x, .int y, .int (z + 1)])) b = some (.lst [.int x, .int y, .int (z + 1)]) := upd_same
      have sB : SameB b H (upd H b (.lst [.int x, .int y, .int (z + 1)])) := sameB_upd
      have hS : SqL K (upd H b (.lst [.int x, .int y, .int (z + 1)])) b [.int x, .int y, .int (z + 1)] := SqL.of hb2
      have big : (2 : Int) ^ 64 = 18446744073709551616 := by decide
      have big2 : (2 : Int) ^ 62 = 4611686018427387904 := by decide
      have big3 : (2 : Nat) ^ 39 = 549755813888 := by decide
      rw [big2] at y1
      rw [big3] at hn
      -- once
      refine ⟨_, rfl, b, _, 1, _, rfl, rfl, hS, at1, _, rfl, b, _, 2, _, rfl, rfl, hS, at2, _, _, rfl, rfl, .inl ⟨by decide, by decide⟩, _, _, rfl, rfl, _, _, rfl, rfl, ⟨by decide, by decide, ?_⟩, _, _, rfl, rfl, (show (0 : Int) < 2147483647 by decide), ?_⟩
      · show (y + 39373 * (z + 1)).natAbs < 2 ^ 64
        have e : (2 : Nat) ^ 64 = 18446744073709551616 := by decide
        rw [e]
        omega
      generalize ho : (y + 39373 * (z + 1)) ^ (5 : Int).toNat % 2147483647 = once
      have o0 : 0 ≤ once := by
        rw [← ho]
        exact Int.emod_nonneg _ (by decide)
      have o1 : once < 2147483647 := by
        rw [← ho]
        exact Int.emod_lt_of_pos _ (by decide)
      dsimp only
      rw [ho]
      refine ⟨_, rfl, _, rfl, b, _, 2, _, rfl, rfl, hS, at2, _, _, rfl, rfl, _, rfl, b, _, 1, _, rfl, rfl, hS, at1, _, _, rfl, rfl, ⟨by decide, by decide⟩, _, _, rfl, rfl, ?_⟩
      refine ⟨_, rfl, _, _, rfl, rfl, (show (0 : Int) < 40009 by decide), _, _, rfl, rfl, _, rfl, b, _, 2, _, rfl, rfl, hS, at2, _, _, rfl, rfl, _, _, rfl, rfl, .inl ?_, _, _, rfl, rfl, (show (0 : Int) < 2147483629 by decide), ?_⟩
      · have d0 := Int.ediv_nonneg y0 (show (0 : Int) ≤ 1000003 by decide)
        have d1 := Int.ediv_le_self 1000003 y0
        show -(2 ^ 64) < once + (z + 1) + y / 1000003 ∧ once + (z + 1) + y / 1000003 < 2 ^ 64
        rw [big]
        constructor <;> omega
      dsimp only
      generalize hp : (once + (z + 1) + y / 1000003) * (once % 40009 + 7 + (z + 1)) % 2147483629 = pair
      have p0 : 0 ≤ pair := by
        rw [← hp]
        exact Int.emod_nonneg _ (by decide)
      have p1 : pair < 2147483629 := by
        rw [← hp]
        exact Int.emod_lt_of_pos _ (by decide)
      refine ⟨_, rfl, _, _, rfl, rfl, .inl ?_, _, rfl, _, _, rfl, rfl, _, _, rfl, rfl, (show (0 : Int) < 2147483587 by decide), _, _, rfl, rfl, ⟨by decide, by decide⟩, _, rfl, _, _, rfl, rfl, m0, ?_⟩
      · show -(2 ^ 64) < pair ∧ pair < 2 ^ 64
        rw [big]
        constructor <;> omega
      have e1 := Int.emod_nonneg ((pair * 48271 + once) % 2147483587 / 64) (show (many : Int) ≠ 0 by omega)
      have e2 := Int.emod_lt_of_pos ((pair * 48271 + once) % 2147483587 / 64) m0
      show Q (V.int ((pair * 48271 + once) % 2147483587 / 64 % (many : Int))) _
      rw [int_nat e1]
      exact q _ _ (by omega) sB ⟨x, y, z + 1, hb2, x0, y0, by rw [big2]; exact y1, by omega, by omega⟩
end
end K70
/-! K70, part LB: dips, folds, small draws. -/
namespace K70
open PySem PySem.Spec PyProof.Rows L2
theorem SqL.sameB {K : PySem.W.Frag} {H H' : Hp} {a b : Addr} {xs : List V} (h : SqL K H a xs) (n : a ≠ b) (e : SameB b H H') : SqL K H' a xs := by
  rcases h with (h | ⟨o, h⟩) | h
  · exact .inl (.inl (e _ _ n h))
  · exact .inl (.inr ⟨o, e _ _ n h⟩)
  · exact .inr h
theorem mk_sz {n : Int} {k j : Nat} (h1 : -(2 : Rat) ^ j ≤ (n : Rat)) (h2 : (n : Rat) ≤ (2 : Rat) ^ j) : Sz k j (mkRat n (2 ^ k)) := by
  have e : mkRat n (2 ^ k) = (n : Rat) * un k := by
    unfold un
    rw [Rat.mkRat_eq_div, Rat.mkRat_eq_div, Rat.div_def, Rat.div_def, Rat.intCast_one, Rat.one_mul]
  refine ⟨mkRat_den_dvd n k, ?_, ?_⟩
  · rw [e]
    have u := un_pos k
    have v := un_le k
    have z := (mul_range h1 h2 (show -(1 : Rat) ≤ un k by grind) v).1
    grind
  · rw [e]
    have u := un_pos k
    have v := un_le k
    have z := (mul_range h1 h2 (show -(1 : Rat) ≤ un k by grind) v).2
    grind
theorem ite01 (k : Bool) : -(2 : Int) ^ 64 < (if k = true then 1 else 0) ∧ (if k = true then (1 : Int) else 0) < 2 ^ 64 := by cases k <;> decide
theorem ite0 (k : Bool) : (0 : Int) ≤ (if k = true then 1 else 0) := by cases k <;> decide
def zvs (l : List Int) : List V := l.map V.int
section
variable {P : Program} {w : World} {K : PySem.W.Frag} {mg : Str → Option Value} {base : Heap}
def sp_law_dip (K : PySem.W.Frag) : Sp := fun vs H Q _ => ∃ (a : Addr) (zs : List Int) (k : Nat), vs = [.ref a, .int k] ∧ k ≤ 63 ∧ SqL K H a (zvs zs) ∧ ∀ b H', Same H H' → H b = none → BoxV H' b 0 → Q (.ref b) H'
/-! ### _law_dip -/
abbrev n_law_dip : List Str := ["_law_script", "_law_k", "_law_cell"]
theorem sc_law_dip : FnScope n_law_dip ["_law_script", "_law_k"] (defScope s_law_dip) := ⟨rfl, rfl, rfl, by decide +kernel, rfl, by decide +kernel, by decide +kernel⟩
theorem c_law_dip (T : TX K mg) : Cal P w K mg base "_law_dip" ["_law_script", "_law_k"] [] 1 (sp_law_dip K) := by
  refine cal_of T.g_law_dip T.f_law_dip (fun _ _ _ _ _ _ us hl => match us, hl with | [_, _], _ => rfl) fun fd F => okN F sc_law_dip (fun vs H Q E h => ?_) (fun cdv A outer s H vs Q E hr h => ?_)
  · obtain ⟨a, zs, k, rfl, hk, hS, q⟩ := h
    rfl
  · obtain ⟨a, zs, k, rfl, hk, hS, q⟩ := h
    refine ⟨_, 
      (pss_cons
        (ps_set (i := 2) sc_law_dip.nd rfl (by first | exact Or.inl rfl | exact Or.inr rfl) (pe_ifExp (pt_cmpR op_lt (pv 1) (pe_callB (lenSeqK (K := K)) (by rfl) T.z_len (by decide +kernel) (pa_cons (pv 0) pa_nil)) (nomark _)) (pe_ix (ixL (K := K)) (pv 0) (pv 1) (fun _ _ => rfl)) pe_int))
      (pss_one
        (ps_ret (pe_lst (pa_cons (pe_op op_mul (pe_callB call_abs (by rfl) T.z_abs (by decide +kernel) (pa_cons (pv 2) pa_nil)) (pe_callTy call_int1 (by rfl) T.z_int (by decide +kernel) (pa_cons (pe_cmpR op_ge (pe_callB call_abs (by rfl) T.z_abs (by decide +kernel) (pa_cons (pv 2) pa_nil)) (pe_op op_pow pe_int pe_int) (nomark _)) pa_nil))) (pa_cons (pe_op op_add (pe_op op_add (pe_op op_mod (pv 2) pe_int) (pe_op op_mul pe_int (pv 1))) pe_int) (pa_cons pe_int pa_nil))))))), ?_⟩
    have hlen : (zvs zs).length = zs.length := List.length_map _
    -- the cell is some number
    refine ⟨_, rfl, _, rfl, a, _, rfl, .inl hS, _, _, rfl, rfl, _, rfl, ?_⟩
    have e10 : ((10 : Int) ^ (18 : Int).toNat) = 1000000000000000000 := by decide
    by_cases hc : (k : Int) < ((zvs zs).length : Int)
    · rw [decide_eq_true hc]
      rw [hlen] at hc
      have hk2 : k < zs.length := by omega
      have e : (zvs zs)[k]? = some (.int zs[k]) := by
        unfold zvs
        rw [List.getElem?_map, List.getElem?_eq_getElem hk2]
        rfl
      refine iteT ⟨_, rfl, _, rfl, a, _, (k : Nat), _, rfl, rfl, hS, atI_nat e, ?_⟩
      generalize zs[k] = c
      refine ⟨_, rfl, c, rfl, _, rfl, c, rfl, _, _, rfl, rfl, ⟨by decide, by decide, by decide⟩, _, _, rfl, rfl, .inr ⟨_, rfl, _, _, rfl, rfl, .inr ?_, _, rfl, _, _, rfl, rfl, (show (0 : Int) < 2305843009213693951 by decide), _, rfl, _, _, rfl, rfl, .inl ⟨by decide, by decide⟩, _, _, rfl, rfl, _, _, rfl, rfl, by show 3 ≤ sizeLine; decide, fun b hb => ?_⟩⟩
      · exact ite01 _
      have m0 := Int.emod_nonneg c (show (2305843009213693951 : Int) ≠ 0 by decide)
      have m1 := Int.emod_lt_of_pos c (show (0 : Int) < 2305843009213693951 by decide)
      have big : (2 : Int) ^ 62 = 4611686018427387904 := by decide
      refine q b _ (same_upd hb) hb ⟨_, _, 0, upd_same, ?_, ?_, ?_, by decide, by decide⟩
      · refine Int.mul_nonneg ?_ ?_
        · split <;> omega
        · exact ite0 _
      · show 0 ≤ c % 2305843009213693951 + 39373 * (k : Int) + 17
        omega
      · show c % 2305843009213693951 + 39373 * (k : Int) + 17 < 2 ^ 62
        rw [big]
        omega
    · rw [decide_eq_false hc]
      refine iteF ?_
      refine ⟨_, rfl, (0 : Int), rfl, _, rfl, (0 : Int), rfl, _, _, rfl, rfl, ⟨by decide, by decide, by decide⟩, _, _, rfl, rfl, .inr ⟨_, rfl, _, _, rfl, rfl, .inr ?_, _, rfl, _, _, rfl, rfl, (show (0 : Int) < 2305843009213693951 by decide), _, rfl, _, _, rfl, rfl, .inl ⟨by decide, by decide⟩, _, _, rfl, rfl, _, _, rfl, rfl, by show 3 ≤ sizeLine; decide, fun b hb => ?_⟩⟩
      · exact ite01 _
      have m0 := Int.emod_nonneg (0 : Int) (show (2305843009213693951 : Int) ≠ 0 by decide)
      have m1 := Int.emod_lt_of_pos (0 : Int) (show (0 : Int) < 2305843009213693951 by decide)
      have big : (2 : Int) ^ 62 = 4611686018427387904 := by decide
      refine q b _ (same_upd hb) hb ⟨_, _, 0, upd_same, ?_, ?_, ?_, by decide, by decide⟩
      · refine Int.mul_nonneg ?_ ?_
        · split <;> omega
        · exact ite0 _
      · show 0 ≤ (0 : Int) % 2305843009213693951 + 39373 * (k : Int) + 17
        omega
      · show (0 : Int) % 2305843009213693951 + 39373 * (k : Int) + 17 < 2 ^ 62
        rw [big]
        omega
def sp_law_one_of (K : PySem.W.Frag) : Sp := fun vs H Q _ => ∃ (b pl : Addr) (xs : List V) (n : Nat), vs = [.ref b, .ref pl] ∧ pl ≠ b ∧ SqL K H pl xs ∧ 1 ≤ xs.length ∧ xs.length ≤ 1000 ∧ BoxV H b n ∧ n ≤ 2 ^ 39 ∧ ∀ (r : Nat) v H', xs[r]? = some v → SameB b H H' → BoxV H' b (n + 1) → Q v H'
/-! ### _law_one_of -/
abbrev n_law_one_of : List Str := ["_law_box", "_law_pool"]
theorem sc_law_one_of : FnScope n_law_one_of ["_law_box", "_law_pool"] (defScope s_law_one_of) := ⟨rfl, rfl, rfl, by decide +kernel, rfl, by decide +kernel, by decide +kernel⟩
theorem c_law_one_of (T : TX K mg) : Cal P w K mg base "_law_one_of" ["_law_box", "_law_pool"] [] 2 (sp_law_one_of K) := by
  refine cal_of T.g_law_one_of T.f_law_one_of (fun _ _ _ _ _ _ us hl => match us, hl with | [_, _], _ => rfl) fun fd F => okN F sc_law_one_of (fun vs H Q E h => ?_) (fun cdv A outer s H vs Q E hr h => ?_)
  · obtain ⟨b, pl, xs, n, rfl, hne, hS, h1, h2, hB, hn, q⟩ := h
    rfl
  · obtain ⟨b, pl, xs, n, rfl, hne, hS, h1, h2, hB, hn, q⟩ := h
    refine ⟨_, 
      (pss_one
        (ps_ret (pe_ix (ixL (K := K)) (pv 1) (pe_cal (c_law_take T) (hr.mono (by decide)) (pa_cons (pv 0) (pa_cons (pe_callB (lenSeqK (K := K)) (by rfl) T.z_len (by decide +kernel) (pa_cons (pv 1) pa_nil)) pa_nil))) (fun _ _ => rfl)))), ?_⟩
    refine ⟨_, rfl, _, rfl, _, rfl, pl, xs, rfl, .inl hS, b, xs.length, n, rfl, h1, by omega, hB, hn, fun r H1 hr s1 B1 => ?_⟩
    have e : xs[r]? = some xs[r] := List.getElem?_eq_getElem hr
    exact ⟨pl, xs, (r : Nat), _, rfl, rfl, SqL.sameB hS hne s1, atI_nat e, q r _ H1 e s1 B1⟩
def sp_law_strewn (K : PySem.W.Frag) : Sp := fun vs H Q _ => ∃ (b pl : Addr) (l : List Nat) (n : Nat), vs = [.ref b, .ref pl] ∧ pl ≠ b ∧ H pl = some (.lst (ivs l)) ∧ l.length ≤ 100 ∧ BoxV H b n ∧ n ≤ 2 ^ 38 ∧ ∀ p H' l', SameB b H H' → H p = none → p ≠ b → H' p = some (.lst (ivs l')) → l'.Perm l → BoxV H' b (n + l.length) → Q (.ref p) H'
theorem ivs_append (l m : List Nat) : ivs (l ++ m) = ivs l ++ ivs m := List.map_append
/-! ### _law_strewn -/
abbrev n_law_strewn : List Str := ["_law_box", "_law_pool", "_law_found", "_law_one"]
theorem sc_law_strewn : FnScope n_law_strewn ["_law_box", "_law_pool"] (defScope s_law_strewn) := ⟨rfl, rfl, rfl, by decide +kernel, rfl, by decide +kernel, by decide +kernel⟩
theorem c_law_strewn (T : TX K mg) : Cal P w K mg base "_law_strewn" ["_law_box", "_law_pool"] [] 2 (sp_law_strewn K) := by
  refine cal_of T.g_law_strewn T.f_law_strewn (fun _ _ _ _ _ _ us hl => match us, hl with | [_, _], _ => rfl) fun fd F => okN F sc_law_strewn (fun vs H Q E h => ?_) (fun cdv A outer s H vs Q E hr h => ?_)
  · obtain ⟨b, pl, l, n, rfl, hne, hS0, h1, hB, hn, q⟩ := h
    rfl
  · obtain ⟨b, pl, l, n, rfl, hne, hS0, h1, hB, hn, q⟩ := h
    refine ⟨_, 
      (pss_cons
        (ps_set (i := 2) sc_law_strewn.nd rfl (by first | exact Or.inl rfl | exact Or.inr rfl) (pe_lst pa_nil))
      (pss_cons
        (ps_for PassesOwn.never rfl (pi_list (pv 1)) (pg_name (i := 3) sc_law_strewn.nd rfl (by first | exact Or.inl rfl | exact Or.inr rfl))
          (pss_one
            (ps_expr (pe_bm PySem.F.plainAttrs_list PySem.F.slot_list_insert PySem.F.type_list_insert mt_insert (pv 2) (pa_cons (pe_cal (c_law_take T) (hr.mono (by decide)) (pa_cons (pv 0) (pa_cons (pe_op op_add (pe_callB (lenSeqK (K := K)) (by rfl) T.z_len (by decide +kernel) (pa_cons (pv 2) pa_nil)) pe_int) pa_nil))) (pa_cons (pv 3) pa_nil))))))
      (pss_one
        (ps_ret (pv 2))))), ?_⟩
    have hS : SqL K H pl (ivs l) := SqL.of hS0
    have e38 : (2 : Nat) ^ 38 = 274877906944 := by decide
    have e39 : (2 : Nat) ^ 39 = 549755813888 := by decide
    refine ⟨by show 0 ≤ sizeLine; decide, fun f hf => ?_⟩
    have s0 := same_upd (o := .lst []) hf
    have hfb : f ≠ b := by
      rintro rfl
      obtain ⟨_, _, _, e, _⟩ := hB
      rw [hf] at e
      cases e
    have hfp : pl ≠ f := by
      rintro rfl
      rw [hf] at hS0
      cases hS0
    refine ⟨_, rfl, pl, rfl, ⟨_, s0.seq hS⟩, ?_⟩
    refine for_list (K := K) (a := pl) (xs := ivs l) (fun i σ H' => (∀ a o, a ≠ b → a ≠ f → H a = some o → H' a = some o) ∧ SqL K H' pl (ivs l) ∧ (∃ m, H' f = some (.lst (ivs m)) ∧ m.Perm (l.take i)) ∧ BoxV H' b (n + i) ∧ ∃ x, σ = [some (.ref b), some (.ref pl), some (.ref f), x])
      ⟨fun a o _ _ e => s0 a o e, s0.seq hS, ⟨[], upd_same, by rw [List.take_zero]⟩, hB.same s0, none, rfl⟩ (fun i σ H' _ z => z.2.1) ?_ ?_
    · rintro i x σ H1 hx ⟨z1, z2, ⟨m, z3, z4⟩, z5, y, rfl⟩
      obtain ⟨a, ha, rfl⟩ := ivs_get hx
      have hi := (List.getElem?_eq_some_iff.mp ha).1
      have hml : m.length = i := by
        rw [z4.length_eq, List.length_take]
        omega
      refine ⟨_, rfl, .inl ⟨rfl, _, SqL.of z3⟩, _, rfl, _, rfl, f, _, rfl, .inl (SqL.of z3), _, _, rfl, rfl, b, m.length + 1, n + i, ?_, by omega, by omega, z5, by omega, fun r H2 hr s2 B2 => ?_⟩
      · rw [ivs_len]
        rfl
      · have z3' := s2 _ _ hfb z3
        refine ⟨_, rfl, f, _, _, _, rfl, rfl, z3', small1000 (by rw [ivs_len]; omega), by omega, by omega, ?_⟩
        refine ⟨fun c o n1 n2 e => ?_, ?_, ⟨m.take r ++ [a] ++ m.drop r, ?_, ?_⟩, ?_, _, rfl⟩
        · rw [upd_ne n2]
          exact s2 _ _ n1 (z1 c o n1 n2 e)
        · exact SqL.sameB (SqL.sameB z2 hne s2) hfp sameB_upd
        · rw [upd_same, ivs_append, ivs_append]
          unfold ivs
          rw [List.map_take, List.map_drop]
          rfl
        · rw [List.take_add_one, ha, Option.toList_some]
          have p1 : (m.take r ++ [a] ++ m.drop r).Perm ([a] ++ (m.take r ++ m.drop r)) := by
            rw [List.append_assoc]
            exact List.perm_middle
          rw [List.take_append_drop] at p1
          exact (p1.trans List.perm_append_comm).trans (z4.append_right [a])
        · have B3 := B2.mono (show n + i + 1 ≤ n + (i + 1) by omega)
          exact B3.keep (by rw [upd_ne (Ne.symm hfb)])
    · rintro σ H1 ⟨z1, z2, ⟨m, z3, z4⟩, z5, y, rfl⟩
      rw [ivs_len] at z4 z5
      rw [List.take_length] at z4
      refine ⟨_, rfl, q f H1 m (fun a o n1 e => z1 a o n1 (ne_of_none e hf) e) hf hfb z3 z4 z5⟩
def sp_law_value (K : PySem.W.Frag) : Sp := fun vs H Q _ => ∃ (b : Addr) (n : Nat), vs = [.ref b] ∧ BoxV H b n ∧ n ≤ 2 ^ 38 ∧ ∀ v H' x, SameB b H H' → NumV K H' v x → Sz 4 4 x → BoxV H' b (n + 2) → Q v H'
/-! ### _law_value -/
abbrev n_law_value : List Str := ["_law_box"]
theorem sc_law_value : FnScope n_law_value ["_law_box"] (defScope s_law_value) := ⟨rfl, rfl, rfl, by decide +kernel, rfl, by decide +kernel, by decide +kernel⟩
theorem c_law_value (T : TX K mg) : Cal P w K mg base "_law_value" ["_law_box"] [] 2 (sp_law_value K) := by
  refine cal_of T.g_law_value T.f_law_value (fun _ _ _ _ _ _ us hl => match us, hl with | [_], _ => rfl) fun fd F => okN F sc_law_value (fun vs H Q E h => ?_) (fun cdv A outer s H vs Q E hr h => ?_)
  · obtain ⟨b, n, rfl, hB, hn, q⟩ := h
    rfl
  · obtain ⟨b, n, rfl, hB, hn, q⟩ := h
    refine ⟨_, 
      (pss_one
        (ps_ret (pe_cal (c_law_num T) (hr.mono (by decide)) (pa_cons (pe_op op_sub (pe_cal (c_law_take T) (hr.mono (by decide)) (pa_cons (pv 0) (pa_cons pe_int pa_nil))) pe_int) (pa_cons (pe_ix (ixL (K := K)) (pe_lst (pa_cons pe_int (pa_cons pe_int (pa_cons pe_int (pa_cons pe_int (pa_cons pe_int (pa_cons pe_int pa_nil))))))) (pe_cal (c_law_take T) (hr.mono (by decide)) (pa_cons (pv 0) (pa_cons pe_int pa_nil))) (fun _ _ => rfl)) pa_nil))))), ?_⟩
    have e38 : (2 : Nat) ^ 38 = 274877906944 := by decide
    have e39 : (2 : Nat) ^ 39 = 549755813888 := by decide
    refine ⟨_, rfl, b, 19, n, rfl, by decide, by decide, hB, by omega, fun r H1 hr s1 B1 => ?_⟩
    refine ⟨_, _, rfl, rfl, by show 6 ≤ sizeLine; decide, fun p hp => ?_⟩
    have s2 := same_upd (o := .lst [.int 1, .int 1, .int 1, .int 2, .int 4, .int 16]) hp
    have hpb : p ≠ b := by
      rintro rfl
      obtain ⟨_, _, _, e, _⟩ := B1
      rw [hp] at e
      cases e
    refine ⟨_, rfl, b, 6, n + 1, rfl, by decide, by decide, B1.same s2, by omega, fun t H2 ht s3 B2 => ?_⟩
    have hk : ∃ k : Nat, k ≤ 4 ∧ ([.int 1, .int 1, .int 1, .int 2, .int 4, .int 16] : List V)[t]? = some (.int (2 ^ k)) := by
      match t, ht with
      | 0, _ => exact ⟨0, by decide, rfl⟩
      | 1, _ => exact ⟨0, by decide, rfl⟩
      | 2, _ => exact ⟨0, by decide, rfl⟩
      | 3, _ => exact ⟨1, by decide, rfl⟩
      | 4, _ => exact ⟨2, by decide, rfl⟩
      | 5, _ => exact ⟨4, by decide, rfl⟩
    obtain ⟨k, hk4, hv⟩ := hk
    refine ⟨p, _, (t : Nat), _, rfl, rfl, SqL.of (s3 _ _ hpb upd_same), atI_nat hv, _, _, k, rfl, rfl, by omega, fun v H3 s4 n4 => ?_⟩
    refine q v H3 _ ((s1.trans (Same.b s2 b)).trans (s3.trans (Same.b s4 b))) n4 ?_ (B2.same s4)
    have z : Sz k 4 (mkRat ((r : Int) - 9) (2 ^ k)) := by
      have l1 : (-16 : Int) ≤ (r : Int) - 9 := by omega
      have l2 : (r : Int) - 9 ≤ (16 : Int) := by omega
      have c1 := (Rat.intCast_le_intCast).mpr l1
      have c2 := (Rat.intCast_le_intCast).mpr l2
      have e : (2 : Rat) ^ 4 = ((16 : Int) : Rat) := rfl
      refine mk_sz ?_ ?_
      · rw [e]
        exact c1
      · rw [e]
        exact c2
    exact z.mono hk4 (Nat.le_refl _)
end
end K70
/-! K70, part LC: folded, keywords. -/
namespace K70
open PySem PySem.Spec PyProof.Rows L2
theorem zvs_len (l : List Int) : (zvs l).length = l.length := List.length_map _
theorem zvs_get {l : List Int} {i : Nat} {x : V} (h : (zvs l)[i]? = some x) : ∃ z : Int, l[i]? = some z ∧ x = .int z := by
  unfold zvs at h
  rw [List.getElem?_map] at h
  cases e : l[i]? with
  | none => rw [e] at h; cases h
  | some z => rw [e] at h; exact ⟨z, rfl, (Option.some.inj h).symm⟩
theorem cut_lo (zs : List Int) : ∃ ys, cutV (zvs zs) none (some 2) = zvs ys ∧ ys.length = min 2 zs.length := by
  refine ⟨zs.take (min 2 zs.length), ?_, by rw [List.length_take]; omega⟩
  show ((zvs zs).drop 0).take (HT.sIx (zvs zs).length (zvs zs).length (some ((2 : Nat) : Int)) - 0) = _
  rw [HT.sIx_nat, zvs_len, List.drop_zero, Nat.sub_zero]
  unfold zvs
  rw [List.map_take]
theorem cut_hi (zs : List Int) : ∃ ys, cutV (zvs zs) (some 2) (some 63) = zvs ys ∧ (ys ≠ [] → 2 < zs.length) ∧ ys.length ≤ 63 := by
  refine ⟨(zs.drop (min 2 zs.length)).take (min 63 zs.length - min 2 zs.length), ?_, fun h => ?_, by rw [List.length_take]; omega⟩
  · show ((zvs zs).drop (HT.sIx (zvs zs).length 0 (some ((2 : Nat) : Int)))).take (HT.sIx (zvs zs).length (zvs zs).length (some ((63 : Nat) : Int)) - HT.sIx (zvs zs).length 0 (some ((2 : Nat) : Int))) = _
    rw [HT.sIx_nat, HT.sIx_nat, zvs_len]
    unfold zvs
    rw [List.map_take, List.map_drop]
  · refine Nat.not_le.mp fun c => h ?_
    have e : min 63 zs.length - min 2 zs.length = 0 := by omega
    rw [e, List.take_zero]
section
variable {P : Program} {w : World} {K : PySem.W.Frag} {mg : Str → Option Value} {base : Heap}
def sp_law_folded (K : PySem.W.Frag) : Sp := fun vs H Q _ => ∃ (a : Addr) (zs : List Int), vs = [.ref a, .int 2] ∧ SqL K H a (zvs zs) ∧ ∀ c H' ys, Same H H' → H c = none → H' c = some (.lst (zvs ys)) → ys.length ≤ 2 → Q (.ref c) H'
/-! ### _law_folded -/
abbrev n_law_folded : List Str := ["_law_script", "_law_many", "_law_cells", "_law_k", "_law_cell"]
theorem sc_law_folded : FnScope n_law_folded ["_law_script", "_law_many"] (defScope s_law_folded) := ⟨rfl, rfl, rfl, by decide +kernel, rfl, by decide +kernel, by decide +kernel⟩
theorem c_law_folded (T : TX K mg) : Cal P w K mg base "_law_folded" ["_law_script", "_law_many"] [] 1 (sp_law_folded K) := by
  refine cal_of T.g_law_folded T.f_law_folded (fun _ _ _ _ _ _ us hl => match us, hl with | [_, _], _ => rfl) fun fd F => okN F sc_law_folded (fun vs H Q E h => ?_) (fun cdv A outer s H vs Q E hr h => ?_)
  · obtain ⟨a, zs, rfl, hS, q⟩ := h
    rfl
  · obtain ⟨a, zs, rfl, hS, q⟩ := h
    refine ⟨_, 
      (pss_cons
        (ps_set (i := 2) sc_law_folded.nd rfl (by first | exact Or.inl rfl | exact Or.inr rfl) (pe_callTy (listOfK (K := K)) (by rfl) T.z_list (by decide +kernel) (pa_cons (pe_slice sl_list (pv 0) po_none (po_some (pv 1))) pa_nil)))
      (pss_cons
        (ps_for PassesOwn.never rfl (pi_enum (by rfl) T.z_enumerate (pa_cons (pe_slice sl_list (pv 0) (po_some (pv 1)) (po_some pe_int)) pa_nil)) (pg_tup (by rfl) (pgs_cons (pg_name (i := 3) sc_law_folded.nd rfl (by first | exact Or.inl rfl | exact Or.inr rfl)) (pgs_cons (pg_name (i := 4) sc_law_folded.nd rfl (by first | exact Or.inl rfl | exact Or.inr rfl)) pgs_nil)))
          (pss_one
            (ps_asg (pe_op op_add (pe_ix (ixL (K := K)) (pv 2) (pe_op op_mod (pv 3) (pv 1)) (fun _ _ => rfl)) (pe_op op_mul (pv 4) (pe_op op_add (pv 3) pe_int))) (pg_sub (pv 2) (pe_op op_mod (pv 3) (pv 1)) set_list))))
      (pss_one
        (ps_ret (pv 2))))), ?_⟩
    obtain ⟨y0, ey, ly⟩ := cut_lo zs
    obtain ⟨w0, ew, lw, l63⟩ := cut_hi zs
    refine ⟨_, rfl, _, rfl, 2, rfl, a, _, rfl, hS, fun p hp => ?_⟩
    rw [ey]
    have s1 := same_upd (o := .lst (zvs y0)) hp
    refine ⟨p, _, rfl, .inl (SqL.of upd_same), fun c hc => ?_⟩
    have s2 := same_upd (o := .lst (zvs y0)) hc
    refine ⟨_, rfl, _, rfl, 2, rfl, 63, rfl, a, _, rfl, (s1.trans s2).seq hS, fun r hr => ?_⟩
    rw [ew]
    have s3 := same_upd (o := .lst (zvs w0)) hr
    have hcr : c ≠ r := by
      rintro rfl
      rw [upd_same] at hr
      cases hr
    have h3 : (upd (upd (upd H p (.lst (zvs y0))) c (.lst (zvs y0))) r (.lst (zvs w0))) c = some (.lst (zvs y0)) := s3 _ _ upd_same
    have s13 := s1.trans (s2.trans s3)
    refine ⟨r, _, rfl, SqL.of upd_same, ?_⟩
    have hr3 : (upd (upd (upd H p (.lst (zvs y0))) c (.lst (zvs y0))) r (.lst (zvs w0))) r = some (.lst (zvs w0)) := upd_same
    have hcH : H c = none := s1.free hc
    generalize upd (upd (upd H p (.lst (zvs y0))) c (.lst (zvs y0))) r (.lst (zvs w0)) = H3 at h3 s13 hr3
    refine for_it walk_enum (fun i σ H' => (∀ b o, b ≠ c → H3 b = some o → H' b = some o) ∧ (∃ ys, H' c = some (.lst (zvs ys)) ∧ ys.length = min 2 zs.length) ∧ ∃ x y, σ = [some (.ref a), some (.int 2), some (.ref c), x, y])
      ⟨fun _ _ _ h => h, ⟨y0, h3, ly⟩, none, none, rfl⟩ (fun i σ H' _ z => SqL.of (z.1 _ _ (Ne.symm hcr) hr3)) ?_ ?_
    · rintro i v σ H4 H4' hi ⟨z1, ⟨ys, z2, z3⟩, x3, x4, rfl⟩ ⟨T1, u1, u2, rfl, hT1, rfl, e1, e2⟩
      cases e1
      obtain ⟨z, ez, rfl⟩ := zvs_get e2
      have hw : 2 < zs.length := lw fun e => by
        rw [e] at ez
        cases ez
      have hl : ys.length = 2 := by omega
      have sT := same_upd (o := .tup [.int (i : Int), .int z]) hT1
      have z2' := sT _ _ z2
      refine ⟨T1, _, rfl, SqT.of upd_same, rfl, _, _, rfl, _, _, rfl, rfl, ?_⟩
      have hm : i % 2 < ys.length := by omega
      have ei : ((i : Nat) : Int) % 2 = ((i % 2 : Nat) : Int) := by omega
      have eg : (zvs ys)[i % 2]? = some (.int ys[i % 2]) := by
        unfold zvs
        rw [List.getElem?_map, List.getElem?_eq_getElem hm]
        rfl
      refine ⟨_, rfl, _, rfl, _, rfl, _, _, rfl, rfl, (show (0 : Int) < 2 by decide), c, _, ((i : Nat) : Int) % 2, _, rfl, rfl, SqL.of z2', (by rw [ei]; exact atI_nat eg), _, rfl, _, rfl, _, _, rfl, rfl, _, _, rfl, rfl, .inr ?_, _, _, rfl, rfl, ?_⟩
      · have hi' : i < (zvs w0).length := hi
        rw [zvs_len] at hi'
        have big : (2 : Int) ^ 64 = 18446744073709551616 := by decide
        show -(2 ^ 64) < (i : Int) + 2 ∧ (i : Int) + 2 < 2 ^ 64
        rw [big]
        omega
      · refine ⟨_, rfl, _, rfl, _, rfl, _, _, rfl, rfl, (show (0 : Int) < 2 by decide), c, _, ((i : Nat) : Int) % 2, i % 2, rfl, rfl, z2', ?_, ?_⟩
        · rw [zvs_len, ei, hl]
          unfold ixN
          rw [if_pos (by omega), if_pos (by omega)]
          congr 1
        · refine ⟨fun b o n e => ?_, ⟨ys.set (i % 2) (ys[i % 2] + z * ((i : Int) + 2)), ?_, by rw [List.length_set]; exact z3⟩, _, _, rfl⟩
          · rw [upd_ne n]
            exact sT _ _ (z1 b o n e)
          · rw [upd_same]
            unfold zvs
            rw [List.map_set]
    · rintro σ H4 ⟨z1, ⟨ys, z2, z3⟩, x3, x4, rfl⟩
      exact ⟨_, rfl, q c H4 ys (fun b o e => z1 b o (ne_of_none e hcH) (s13 b o e)) hcH z2 (by omega)⟩
end
end K70
/-! K70, part LD: names. -/
namespace K70
open PySem PySem.Spec PyProof.Rows L2
def kwText : Str := "fixed sum less by pick late half twice most least over spring brook out beat"
def kws : List Str := Txt.split kwText " "
theorem kws_len : kws.length = 15 := by kernel_rfl
theorem small2 {n : Nat} (h : n ≤ 10000) : n ≤ sizeLine := by
  rw [sizeLine_eq]
  omega
def svs (l : List Str) : List V := l.map V.str
theorem svs_len (l : List Str) : (svs l).length = l.length := List.length_map _
theorem svs_in (x : Str) (l : List Str) : inV (.str x) (svs l) = decide (x ∈ l) := by
  rw [Bool.eq_iff_iff, decide_eq_true_iff]
  unfold inV svs
  rw [List.any_map, List.any_eq_true]
  constructor
  · rintro ⟨y, hy, e⟩
    have e' : (y == x) = true := e
    rw [beq_iff_eq] at e'
    exact e' ▸ hy
  · intro h
    exact ⟨x, h, by show (x == x) = true; exact beq_self_eq_true x⟩
theorem svs_flat (l : List Str) : (svs l).all flatV = true := by
  unfold svs
  rw [List.all_map, List.all_eq_true]
  intro x _
  rfl
/-- a candidate of turn j: its last two signs are an a and the j-th letter -/
def mkc (p : Str) (j : Nat) : Str := p ++ ⟨#[97]⟩ ++ ⟨#[97 + j]⟩
theorem mkc_rev (p : Str) (j : Nat) : (mkc p j).cps.toList.reverse = (97 + j) :: 97 :: p.cps.toList.reverse := by
  have e : (mkc p j).cps.toList = p.cps.toList ++ [97] ++ [97 + j] := by
    show ((p.cps ++ #[97]) ++ #[97 + j]).toList = _
    simp
  rw [e]
  simp
theorem mkc_inj {p q : Str} {i j : Nat} (h : mkc p i = mkc q j) : i = j := by
  have e := congrArg (fun s : Str => s.cps.toList.reverse) h
  simp only [mkc_rev] at e
  injection e with e1 _
  omega
/-- so far no candidate is free -/
structure Tried (F : List Str) (t : Nat) (one : Str) (cs : List Str) : Prop where
  len : cs.length = t
  mkd : ∀ (j : Nat) (c : Str), cs[j]? = some c → ∃ p, c = mkc p j
  inF : ∀ (j : Nat) (c : Str), j + 1 < t → cs[j]? = some c → c ∈ F
  last : 0 < t → cs[t - 1]? = some one
def Named (F : List Str) (t : Nat) (one : Str) : Prop := one ∉ F ∨ ∃ cs, Tried F t one cs
theorem Named.zero (F : List Str) (one : Str) : Named F 0 one := .inr ⟨[], rfl, (fun _ _ h => nomatch h), (fun j _ h => absurd h (Nat.not_lt_zero _)), fun h => absurd h (Nat.lt_irrefl 0)⟩
theorem Named.keep {F : List Str} {t t' : Nat} {one : Str} (h : one ∉ F) : Named F t' one := .inl h
theorem Named.next {F : List Str} {t : Nat} {one p : Str} (h : Named F t one) (hm : one ∈ F) : Named F (t + 1) (mkc p t) := by
  obtain ⟨cs, h⟩ := h.resolve_left fun z => z hm
  refine .inr ⟨cs ++ [mkc p t], by rw [List.length_append, h.len]; rfl, fun j c e => ?_, fun j c hj e => ?_, fun _ => ?_⟩
  · by_cases hj : j < cs.length
    · rw [List.getElem?_append_left hj] at e
      exact h.mkd j c e
    · rw [List.getElem?_append_right (by omega)] at e
      have hj0 : j - cs.length = 0 := by
        have z := (List.getElem?_eq_some_iff.mp e).1
        rw [List.length_cons, List.length_nil] at z
        omega
      rw [hj0] at e
      have ec : mkc p t = c := Option.some.inj e
      have l := h.len
      have ejt : j = t := by omega
      rw [← ec, ejt]
      exact ⟨p, rfl⟩
  · have hjt : j < t := by omega
    rw [List.getElem?_append_left (by rw [h.len]; exact hjt)] at e
    by_cases hl : j + 1 < t
    · exact h.inF j c hl e
    · have ejt : j = t - 1 := by omega
      rw [ejt, h.last (by omega)] at e
      cases e
      exact hm
  · rw [Nat.add_sub_cancel, List.getElem?_append_right (by rw [h.len]; exact Nat.le_refl _), h.len, Nat.sub_self]
    rfl
/-- at the end the name is free -/
theorem Named.done {found : List Str} {one : Str} (h : Named (found ++ kws) (found.length + 16) one) : one ∉ found := by
  intro hm
  have hm' : one ∈ found ++ kws := List.mem_append_left _ hm
  obtain ⟨cs, h⟩ := h.resolve_left fun z => z hm'
  have lenF : (found ++ kws).length = found.length + 15 := by rw [List.length_append, kws_len]
  have all : ∀ c ∈ cs, c ∈ found ++ kws := by
    intro c hc
    obtain ⟨j, hj⟩ := List.mem_iff_getElem?.mp hc
    have hlt := (List.getElem?_eq_some_iff.mp hj).1
    rw [h.len] at hlt
    by_cases hl : j + 1 < found.length + 16
    · exact h.inF j c hl hj
    · have ejt : j = found.length + 16 - 1 := by omega
      rw [ejt, h.last (by omega)] at hj
      cases hj
      exact hm'
  have nd : cs.Nodup := by
    rw [List.Nodup, List.pairwise_iff_getElem]
    intro i j hi hj hij e
    obtain ⟨p, ep⟩ := h.mkd i _ (List.getElem?_eq_getElem hi)
    obtain ⟨q, eq⟩ := h.mkd j _ (List.getElem?_eq_getElem hj)
    rw [ep, eq] at e
    have z := mkc_inj e
    omega
  have z := nodup_sub (l := cs) (m := found ++ kws) nd all
  rw [h.len, lenF] at z
  omega
theorem str_len_app (a b : Str) : (a ++ b).length = a.length + b.length := by
  show (a.cps ++ b.cps).size = a.cps.size + b.cps.size
  rw [Array.size_append]
theorem cut4 (z : Str) : (cutS z none (some 4)).length ≤ 4 := by
  show (((z.cps.toList.drop (HT.sIx z.length 0 none)).take (HT.sIx z.length z.length (some ((4 : Nat) : Int)) - HT.sIx z.length 0 none)).toArray).size ≤ 4
  rw [List.size_toArray, List.length_take, HT.sIx_nat, HT.sIx_none]
  omega
def letters : Str := "abcdefghijklmnopqrstuvwxyz"
theorem letters_at : ∀ j, j < 26 → letters.cps.toList[j]? = some (97 + j) := by decide +kernel
section
variable {X : Cx} {k : Nat} {ps : List Str} {sp : Sp} {dvs : List V} {x : Str} {p pos : Pos}
theorem pe_cal0 (C : Cal X.prog X.w X.K X.mg X.base x ps dvs k sp) (hr : Room k X.A) (hg : Gl X x := by rfl) (hdb : (x == ("__debug__" : Str)) = false := by decide) : PE X (.Call (.Name x p) [] [] pos) (tCall sp dvs E0 tNil) := by
  obtain ⟨⟨fd, ds, F, b, v⟩, g, kp⟩ := C
  exact pe_call0 F hr hg g kp b v pass0 hdb
end
section
variable {P : Program} {w : World} {K : PySem.W.Frag} {mg : Str → Option Value} {base : Heap}
def sp_law_keywords (K : PySem.W.Frag) : Sp := fun vs H Q _ => vs = [] ∧ ∀ p, H p = none → Q (.ref p) (upd H p (.lst (svs kws)))
/-! ### _law_keywords -/
abbrev n_law_keywords : List Str := ["_law_found"]
theorem sc_law_keywords : FnScope n_law_keywords [] (defScope s_law_keywords) := ⟨rfl, rfl, rfl, by decide +kernel, rfl, by decide +kernel, by decide +kernel⟩
theorem c_law_keywords (T : TX K mg) : Cal P w K mg base "_law_keywords" [] [] 1 (sp_law_keywords K) := by
  refine cal_of T.g_law_keywords T.f_law_keywords (fun _ _ _ _ _ _ us hl => match us, hl with | [], _ => rfl) fun fd F => okN F sc_law_keywords (fun vs H Q E h => ?_) (fun cdv A outer s H vs Q E hr h => ?_)
  · obtain ⟨rfl, q⟩ := h
    rfl
  · obtain ⟨rfl, q⟩ := h
    refine ⟨_, 
      (pss_cons
        (ps_set (i := 0) sc_law_keywords.nd rfl (by first | exact Or.inl rfl | exact Or.inr rfl) pe_str)
      (pss_one
        (ps_ret (pe_split (pv 0) pe_str)))), ?_⟩
    refine ⟨_, rfl, ⟨_, rfl⟩, kwText, _, rfl, rfl, by decide +kernel, by decide +kernel, fun p hp => q p hp⟩
def sp_law_named (K : PySem.W.Frag) : Sp := fun vs H Q _ => ∃ (b : Addr) (many n : Nat), vs = [.ref b, .int many] ∧ many ≤ 5 ∧ BoxV H b n ∧ n ≤ 2 ^ 37 ∧ ∀ f H' names, SameB b H H' → H f = none → f ≠ b → H' f = some (.lst (svs names)) → names.Nodup → names.length = many → (∀ x ∈ names, x.length ≤ 1000) → BoxV H' b (n + 7 * many) → Q (.ref f) H'
/-! ### _law_named -/
abbrev n_law_named : List Str := ["_law_box", "_law_many", "_law_letters", "_law_found", "_law_k", "_law_one", "_law_turn"]
theorem sc_law_named : FnScope n_law_named ["_law_box", "_law_many"] (defScope s_law_named) := ⟨rfl, rfl, rfl, by decide +kernel, rfl, by decide +kernel, by decide +kernel⟩
theorem c_law_named (T : TX K mg) : Cal P w K mg base "_law_named" ["_law_box", "_law_many"] [] 2 (sp_law_named K) := by
  refine cal_of T.g_law_named T.f_law_named (fun _ _ _ _ _ _ us hl => match us, hl with | [_, _], _ => rfl) fun fd F => okN F sc_law_named (fun vs H Q E h => ?_) (fun cdv A outer s H vs Q E hr h => ?_)
  · obtain ⟨b, many, n, rfl, hm, hB, hn, q⟩ := h
    rfl
  · obtain ⟨b, many, n, rfl, hm, hB, hn, q⟩ := h
    refine ⟨_, 
      (pss_cons
        (ps_asg (pe_tup (pa_cons pe_str (pa_cons (pe_lst pa_nil) pa_nil))) (pg_tup (by rfl) (pgs_cons (pg_name (i := 2) sc_law_named.nd rfl (by first | exact Or.inl rfl | exact Or.inr rfl)) (pgs_cons (pg_name (i := 3) sc_law_named.nd rfl (by first | exact Or.inl rfl | exact Or.inr rfl)) pgs_nil))))
      (pss_cons
        (ps_for PassesOwn.never rfl (pi_range1 (by rfl) T.z_range (pa_cons (pv 1) pa_nil)) (pg_name (i := 4) sc_law_named.nd rfl (by first | exact Or.inl rfl | exact Or.inr rfl))
          (pss_cons
            (ps_set (i := 5) sc_law_named.nd rfl (by first | exact Or.inl rfl | exact Or.inr rfl) (pe_join pe_str (pe_lc (own := [("_law_turn", 6)]) rfl sc_law_named.nd (pi_range1 (by rfl) T.z_range (pa_cons (pe_ix (ixL (K := K)) (pe_lst (pa_cons pe_int (pa_cons pe_int (pa_cons pe_int (pa_cons pe_int pa_nil))))) (pe_cal (c_law_take T) (hr.mono (by decide)) (pa_cons (pv 0) (pa_cons pe_int pa_nil))) (fun _ _ => rfl)) pa_nil)) (blkOk_by (N := n_law_named) (sc := defScope s_law_named) (by decide +kernel)) (fun _ _ _ _ _ => pg_name (i := 6) sc_law_named.nd rfl (by first | exact Or.inl rfl | exact Or.inr rfl)) (fun _ _ _ _ _ => pts_nil) (fun _ _ _ _ _ => (pe_ix ix_str (pv 2) (pe_cal (c_law_take T) (hr.mono (by decide)) (pa_cons (pv 0) (pa_cons pe_int pa_nil))) (fun _ _ => rfl))))))
          (pss_cons
            (ps_for PassesOwn.never rfl (pi_range1 (by rfl) T.z_range (pa_cons (pe_op op_add (pe_callB (lenSeqK (K := K)) (by rfl) T.z_len (by decide +kernel) (pa_cons (pv 3) pa_nil)) pe_int) pa_nil)) (pg_name (i := 6) sc_law_named.nd rfl (by first | exact Or.inl rfl | exact Or.inr rfl))
              (pss_one
                (ps_if (pt_cmpR (opIn (K := K)) (pv 5) (pe_op op_cat (pv 3) (pe_cal0 (c_law_keywords T) (hr.mono (by decide)))) (by rfl))
                  (pss_one
                    (ps_set (i := 5) sc_law_named.nd rfl (by first | exact Or.inl rfl | exact Or.inr rfl) (pe_op op_add_str (pe_op op_add_str (pe_slice sl_str (pv 5) po_none (po_some pe_int)) (pe_ix ix_str (pv 2) (pe_op op_fdiv (pv 6) pe_int) (fun _ _ => rfl))) (pe_ix ix_str (pv 2) (pe_op op_mod (pv 6) pe_int) (fun _ _ => rfl)))))
                  pss_nil)))
          (pss_one
            (ps_expr (pe_bm PySem.F.plainAttrs_list PySem.F.slot_list_append PySem.F.type_list_append mt_append (pv 3) (pa_cons (pv 5) pa_nil)))))))
      (pss_one
        (ps_ret (pv 3))))), ?_⟩
    have e37 : (2 : Nat) ^ 37 = 137438953472 := by decide
    have e39 : (2 : Nat) ^ 39 = 549755813888 := by decide
    refine ⟨by show 0 ≤ sizeLine; decide, fun f hf => ⟨by show 2 ≤ sizeLine; decide, fun t ht => ⟨t, _, rfl, SqT.of upd_same, rfl, _, _, rfl, _, _, rfl, rfl, ?_⟩⟩⟩
    have s1 := same_upd (o := .lst (svs [])) hf
    have s2 := same_upd (o := .tup [.str letters, .ref f]) ht
    have hfb : f ≠ b := by
      rintro rfl
      obtain ⟨_, _, _, e, _⟩ := hB
      rw [hf] at e
      cases e
    refine ⟨_, rfl, many, rfl, by omega, by omega, ?_⟩
    refine for_range (n := many) (fun i σ H' => (∀ a o, a ≠ b → a ≠ f → H a = some o → H' a = some o) ∧ (∃ names : List Str, H' f = some (.lst (svs names)) ∧ names.Nodup ∧ names.length = i ∧ ∀ x ∈ names, x.length ≤ 1000) ∧ BoxV H' b (n + 7 * i) ∧ ∃ x4 x5 x6, σ = [some (.ref b), some (.int (many : Int)), some (.str letters), some (.ref f), x4, x5, x6])
      ⟨fun a o _ _ e => s2 _ _ (s1 _ _ e), ⟨[], s2 _ _ upd_same, List.nodup_nil, rfl, fun _ h => nomatch h⟩, (hB.same s1).same s2, none, none, none, rfl⟩ ?_ ?_
    · rintro i σ H1 hi ⟨z1, ⟨names, z2, z3, z4, z5⟩, z6, x4, x5, x6, rfl⟩
      -- the first try
      refine ⟨⟨_, rfl⟩, by show 4 ≤ sizeLine; decide, fun p hp => ?_⟩
      have sp1 := same_upd (o := .lst [.int 1, .int 2, .int 3, .int 6]) hp
      have hpb : p ≠ b := by
        rintro rfl
        obtain ⟨_, _, _, e, _⟩ := z6
        rw [hp] at e
        cases e
      refine ⟨_, rfl, b, 4, n + 7 * i, rfl, by decide, by decide, z6.same sp1, by omega, fun r H2 hr s3 B2 => ?_⟩
      have hv : ∃ k : Nat, k ≤ 6 ∧ ([.int 1, .int 2, .int 3, .int 6] : List V)[r]? = some (.int (k : Int)) := by
        match r, hr with
        | 0, _ => exact ⟨1, by decide, rfl⟩
        | 1, _ => exact ⟨2, by decide, rfl⟩
        | 2, _ => exact ⟨3, by decide, rfl⟩
        | 3, _ => exact ⟨6, by decide, rfl⟩
      obtain ⟨k, hk6, hv⟩ := hv
      refine ⟨p, _, (r : Nat), _, rfl, rfl, SqL.of (s3 _ _ hpb upd_same), atI_nat hv, k, rfl, by omega, by omega, fun D hD => ?_⟩
      have hfp : f ≠ p := ne_of_none z2 hp
      have w1 : ∀ a o, a ≠ b → H1 a = some o → H2 a = some o := fun a o n1 e => s3 a o n1 (sp1 a o e)
      have hDb : D ≠ b := by
        rintro rfl
        obtain ⟨_, _, _, e, _⟩ := B2
        rw [hD] at e
        cases e
      refine lc_range (lo := 0) (n := k) (fun j H' => (∀ a o, a ≠ b → H1 a = some o → H' a = some o) ∧ BoxV H' b (n + 7 * i + 1 + j) ∧ ∃ ys : List Str, H' D = some (.lst (svs ys)) ∧ ys.length = j ∧ ∀ y ∈ ys, y.length = 1)
        ⟨fun a o n1 e => by rw [upd_ne (ne_of_none (w1 a o n1 e) hD)]; exact w1 a o n1 e, B2.same (same_upd hD), [], upd_same, rfl, fun _ h => nomatch h⟩ ?_ ?_
      · rintro j H3 hj ⟨y1, y2, ys, y3, y4, y5⟩
        refine ⟨rfl, _, rfl, _, rfl, b, 26, n + 7 * i + 1 + j, rfl, by decide, by decide, y2, by omega, fun r' H4 hr' s4 B4 => ?_⟩
        refine ⟨letters, (r' : Nat), 97 + r', rfl, rfl, by decide +kernel, atI_nat (letters_at r' hr'), svs ys, s4 _ _ hDb y3, small1000 (by rw [svs_len]; omega), ?_⟩
        have h1D : ∀ a o, H1 a = some o → a ≠ D := fun a o e => by
          rintro rfl
          by_cases hab : a = b
          · exact hDb hab
          · have z := w1 a o hab e
            rw [hD] at z
            cases z
        refine ⟨fun a o n1 e => ?_, B4.keep (by rw [upd_ne (Ne.symm hDb)]), ys ++ [⟨#[97 + r']⟩], ?_, by rw [List.length_append, y4]; rfl, fun y hy => ?_⟩
        · rw [upd_ne (h1D a o e)]
          exact s4 a o n1 (y1 a o n1 e)
        · rw [upd_same]
          unfold svs
          rw [List.map_append]
          rfl
        · rcases List.mem_append.mp hy with hy | hy
          · exact y5 y hy
          · rw [List.mem_singleton] at hy
            rw [hy]
            rfl
      · rintro H3 ⟨y1, y2, ys, y3, y4, y5⟩
        have hsum : (ys.map (·.length)).sum = ys.length := by
          clear y3 y4
          induction ys with
          | nil => rfl
          | cons a l ih =>
            rw [List.map_cons, List.sum_cons, ih fun y hy => y5 y (List.mem_cons_of_mem _ hy), y5 a List.mem_cons_self, List.length_cons]
            omega
        refine ⟨_, D, ys, rfl, rfl, .inl (SqL.of y3), ?_, ?_⟩
        · rw [hsum, y4]
          show k + k * 0 ≤ 16777216
          omega
        have hjl : (Txt.join "" ys).length ≤ 1000 := by
          unfold Txt.join
          rw [PySem.size_glued, hsum, y4]
          show k + _ * 0 ≤ 1000
          omega
        generalize Txt.join "" ys = one0 at hjl
        -- until it is free
        have z2' := y1 _ _ hfb z2
        refine ⟨_, rfl, f, _, rfl, .inl (SqL.of z2'), _, _, rfl, rfl, names.length + 16, ?_, by omega, by omega, ?_⟩
        · rw [svs_len]
        refine for_range (n := names.length + 16) (fun t σ H' => (∀ a o, a ≠ b → H1 a = some o → H' a = some o) ∧ BoxV H' b (n + 7 * (i + 1)) ∧ ∃ one x6, σ = [some (.ref b), some (.int (many : Int)), some (.str letters), some (.ref f), some (.int (0 + (i : Int))), some (.str one), x6] ∧ one.length ≤ 1000 ∧ Named (names ++ kws) t one)
          ⟨y1, y2.mono (by omega), one0, _, rfl, hjl, Named.zero _ _⟩ ?_ ?_
        · rintro t σ H4 ht ⟨v1, v2, one, x6, rfl, v3, v4⟩
          have z2'' := v1 _ _ hfb z2
          refine ⟨_, rfl, _, rfl, rfl, fun p1 hp1 => ?_⟩
          have sq1 := same_upd (o := .lst (svs kws)) hp1
          refine ⟨f, p1, _, _, rfl, rfl, sq1 _ _ z2'', upd_same, ?_, fun p2 hp2 => ?_⟩
          · exact small2 (by rw [svs_len, svs_len, kws_len]; omega)
          have sq2 := same_upd (o := .lst (svs names ++ svs kws)) hp2
          have sq := sq1.trans sq2
          have ev : svs names ++ svs kws = svs (names ++ kws) := List.map_append.symm
          refine ⟨p2, svs (names ++ kws), rfl, .inl (SqL.of (by rw [← ev]; exact upd_same)), rfl, svs_flat _, _, rfl, ?_⟩
          rw [svs_in]
          by_cases hin : one ∈ names ++ kws
          · rw [decide_eq_true hin]
            have ht26 : t < 26 := by omega
            have e0 : ((0 : Int) + (t : Int)) / 26 = ((0 : Nat) : Int) := by omega
            have e1 : ((0 : Int) + (t : Int)) % 26 = ((t : Nat) : Int) := by omega
            have hcl := cut4 one
            refine iteT ⟨_, rfl, 4, rfl, one, rfl, small2 (by omega), _, rfl, _, rfl, _, _, rfl, rfl, ⟨by decide, by decide⟩, letters, _, 97, rfl, rfl, by decide +kernel, (by rw [e0]; exact atI_nat (letters_at 0 (by decide))), _, _, rfl, rfl, ?_, _, rfl, _, rfl, _, _, rfl, rfl, (show (0 : Int) < 26 by decide), letters, _, 97 + t, rfl, rfl, by decide +kernel, (by rw [e1]; exact atI_nat (letters_at t ht26)), _, _, rfl, rfl, ?_, ?_⟩
            · refine small2 ?_
              show (cutS one none (some 4)).length + 1 ≤ 10000
              omega
            · refine small2 ?_
              rw [str_len_app]
              show (cutS one none (some 4)).length + 1 + 1 ≤ 10000
              omega
            · refine ⟨fun a o n1 e => sq _ _ (v1 a o n1 e), v2.same sq, mkc (cutS one none (some 4)) t, _, rfl, ?_, v4.next hin⟩
              unfold mkc
              rw [str_len_app, str_len_app]
              show (cutS one none (some 4)).length + 1 + 1 ≤ 1000
              omega
          · rw [decide_eq_false hin]
            exact iteF ⟨fun a o n1 e => sq _ _ (v1 a o n1 e), v2.same sq, one, _, rfl, v3, .inl hin⟩
        · rintro σ H4 ⟨v1, v2, one, x6, rfl, v3, v4⟩
          have z2'' := v1 _ _ hfb z2
          have hfree := v4.done
          refine ⟨_, rfl, .inl ⟨rfl, _, SqL.of z2''⟩, _, rfl, f, _, _, rfl, rfl, z2'', small1000 (by rw [svs_len]; omega), ?_⟩
          refine ⟨fun a o n1 n2 e => ?_, ⟨names ++ [one], ?_, ?_, by rw [List.length_append, z4]; rfl, fun x hx => ?_⟩, v2.keep (by rw [upd_ne (Ne.symm hfb)]), _, _, _, rfl⟩
          · rw [upd_ne n2]
            exact v1 a o n1 (z1 a o n1 n2 e)
          · rw [upd_same]
            unfold svs
            rw [List.map_append]
            rfl
          · rw [List.nodup_append]
            refine ⟨z3, by simp, fun a ha c hc => ?_⟩
            rw [List.mem_singleton] at hc
            subst hc
            exact fun z => hfree (z ▸ ha)
          · rcases List.mem_append.mp hx with hx | hx
            · exact z5 x hx
            · rw [List.mem_singleton] at hx
              rw [hx]
              exact v3
    · rintro σ H1 ⟨z1, ⟨names, z2, z3, z4, z5⟩, z6, x4, x5, x6, rfl⟩
      exact ⟨_, rfl, q f H1 names (fun a o n1 e => z1 a o n1 (ne_of_none e hf) e) hf hfb z2 z3 z4 z5 z6⟩
end
end K70
/-! K70, part LE: rows drawn. -/
namespace K70
open PySem PySem.Spec PyProof.Rows L2
/-- rows as they are drawn -/
structure DOk (rows : List Row) : Prop where
  ar : ∀ r ∈ rows, r.args.length = r.w.ar
  lt : ∀ (k : Nat) (r : Row), rows[k]? = some r → ∀ a ∈ r.args, a < rows.length ∧ (r.w ≠ .late → a < k)
  per : ∀ r ∈ rows, r.per ∈ [1, 2, 4, 8, 16]
  q : ∀ r ∈ rows, Sz 4 4 r.q
  rel : ∀ r ∈ rows, ∀ a ∈ r.args, ∀ ra, rows[a]? = some ra → match r.w with
    | .half => r.per = 2 * ra.per
    | .twice => 2 * r.per = ra.per
    | _ => ra.per = r.per
  spr : ∀ r ∈ rows, ∀ r' ∈ rows, r.w = .spring → r'.w = .spring → r.nm = r'.nm → r.per = r'.per
theorem per_bd {p : Nat} (h : p ∈ [1, 2, 4, 8, 16]) : 1 ≤ p ∧ p ≤ 16 := by
  simp only [List.mem_cons, List.not_mem_nil, or_false] at h
  omega
theorem DOk.gok {rows : List Row} (h : DOk rows) (hl : rows.length ≤ 9) : GOk rows id :=
  ⟨hl, h.ar, fun r hr a ha => by
    obtain ⟨k, hk⟩ := List.mem_iff_getElem?.mp hr
    exact (h.lt k r hk a ha).1, fun r hr => per_bd (h.per r hr), h.q, h.rel, fun j r hr => ⟨by
      have z := (List.getElem?_eq_some_iff.mp hr).1
      show j < 9
      omega, fun hw a ha => (h.lt j r hr a ha).2 hw⟩⟩
theorem DOk.nil : DOk [] := ⟨fun _ h => (nomatch h), fun _ _ h => (nomatch h), fun _ h => (nomatch h), fun _ h => (nomatch h), fun _ h => (nomatch h), fun _ h => (nomatch h)⟩
theorem DOk.snoc {rows : List Row} {r : Row} (h : DOk rows) (h1 : r.args.length = r.w.ar) (h2 : ∀ a ∈ r.args, a < rows.length) (h3 : r.per ∈ [1, 2, 4, 8, 16]) (h4 : Sz 4 4 r.q)
    (h5 : ∀ a ∈ r.args, ∀ ra, rows[a]? = some ra → match r.w with
    | .half => r.per = 2 * ra.per
    | .twice => 2 * r.per = ra.per
    | _ => ra.per = r.per) (h6 : r.w = .spring → ∀ r' ∈ rows, r'.w = .spring → r'.nm = r.nm → r'.per = r.per) : DOk (rows ++ [r]) := by
  have mem : ∀ x ∈ rows ++ [r], x ∈ rows ∨ x = r := fun x hx => by
    rcases List.mem_append.mp hx with hx | hx
    · exact .inl hx
    · exact .inr (List.mem_singleton.mp hx)
  refine ⟨fun x hx => ?_, fun k x hx a ha => ?_, fun x hx => ?_, fun x hx => ?_, fun x hx a ha ra hra => ?_, fun x hx y hy hwx hwy hn => ?_⟩
  · rcases mem x hx with hx | rfl
    · exact h.ar x hx
    · exact h1
  · rw [List.length_append, List.length_cons, List.length_nil]
    by_cases hk : k < rows.length
    · rw [List.getElem?_append_left hk] at hx
      have z := h.lt k x hx a ha
      exact ⟨by omega, z.2⟩
    · have z := (List.getElem?_eq_some_iff.mp hx).1
      rw [List.length_append, List.length_cons, List.length_nil] at z
      have ek : k = rows.length := by omega
      subst ek
      rw [List.getElem?_append_right (Nat.le_refl _), Nat.sub_self] at hx
      have ex : r = x := Option.some.inj hx
      subst ex
      have z2 := h2 a ha
      exact ⟨by omega, fun _ => z2⟩
  · rcases mem x hx with hx | rfl
    · exact h.per x hx
    · exact h3
  · rcases mem x hx with hx | rfl
    · exact h.q x hx
    · exact h4
  · rcases mem x hx with hx | rfl
    · obtain ⟨k, hk⟩ := List.mem_iff_getElem?.mp hx
      rw [List.getElem?_append_left (h.lt k x hk a ha).1] at hra
      exact h.rel x hx a ha ra hra
    · rw [List.getElem?_append_left (h2 a ha)] at hra
      exact h5 a ha ra hra
  · rcases mem x hx with hx1 | hx1
    · rcases mem y hy with hy1 | hy1
      · exact h.spr x hx1 y hy1 hwx hwy hn
      · rw [hy1] at hwy hn ⊢
        exact h6 hwy x hx1 hwx hn
    · rcases mem y hy with hy1 | hy1
      · rw [hx1] at hwx hn ⊢
        exact (h6 hwx y hy1 hwy hn.symm).symm
      · rw [hx1, hy1]
/-! ### lists of ints as data -/
def natsD (l : List Nat) : List PyData := l.map fun (n : Nat) => PyData.int (n : Int)
theorem ivs_dp {K : PySem.W.Frag} {H : Hp} : ∀ l : List Nat, DpAll K H (ivs l) (natsD l)
  | [] => .nil
  | n :: l => .cons (.int _) (ivs_dp l)
theorem natsD_lay : ∀ l : List Nat, PyData.canLayAll0 (natsD l) = true
  | [] => by simp [natsD, PyData.canLayAll0]
  | n :: l => by
    have z := natsD_lay l
    unfold natsD at z ⊢
    simp [PyData.canLayAll0, PyData.canLay0, z]
theorem natsD_depth : ∀ l : List Nat, PyData.depthAll (natsD l) ≤ 1
  | [] => by simp [natsD, PyData.depthAll]
  | n :: l => by
    have z := natsD_depth l
    unfold natsD at z ⊢
    simp [PyData.depthAll, PyData.depth]
    omega
theorem natsD_shaped (l : List Nat) (h : l.length ≤ 1000) : SeqAt.shaped (.list (natsD l)) = true := by
  have z1 := natsD_lay l
  have z2 := natsD_depth l
  unfold SeqAt.shaped
  simp [PyData.canLay0, PyData.depth, z1]
  omega
theorem nil_shaped : SeqAt.shaped (.list []) = true := natsD_shaped [] (by decide)
theorem natsD_nil (l : List Nat) : PyData.eqv (.list (natsD l)) (.list []) = l.isEmpty := by
  cases l with
  | nil => simp [natsD, PyData.eqv, PyData.eqvAll]
  | cons a l => simp [natsD, PyData.eqv, PyData.eqvAll]
section
variable {P : Program} {w : World} {K : PySem.W.Frag} {mg : Str → Option Value} {base : Heap}
theorem RowV.same {H H' : Hp} {v : V} {r : Row} (h : RowV K H v r) (e : Same H H') : RowV K H' v r := h.tk (tk_same e)
theorem box_ne {H : Hp} {b f : Addr} {n : Nat} (hB : BoxV H b n) (hf : H f = none) : f ≠ b := by
  rintro rfl
  obtain ⟨_, _, _, e, _⟩ := hB
  rw [hf] at e
  cases e
theorem BoxV.dk {H H' : Hp} {b : Addr} {n : Nat} (hB : BoxV H b n) (e : SameB b H H') : DK K H H' := by
  obtain ⟨_, _, _, h, _⟩ := hB
  exact dk_sameB e h
def befo (called : Str) (l : List Row) : List Nat := (l.filter fun r => decide (r.nm = called)).map Row.per
theorem befo_snoc (called : Str) (l : List Row) (r : Row) : befo called (l ++ [r]) = befo called l ++ (if r.nm = called then [r.per] else []) := by
  unfold befo
  rw [List.filter_append, List.map_append]
  congr 1
  by_cases h : r.nm = called
  · rw [if_pos h, List.filter_cons_of_pos (by simpa using h)]
    rfl
  · rw [if_neg h, List.filter_cons_of_neg (by simpa using h)]
    rfl
def sp_law_spring_rows (K : PySem.W.Frag) : Sp := fun vs H Q _ => ∃ (b nl : Addr) (names : List Str) (n : Nat), vs = [.ref b, .ref nl] ∧ H nl = some (.lst (svs names)) ∧ 2 ≤ names.length ∧ nl ≠ b ∧ BoxV H b n ∧ n ≤ 2 ^ 37 ∧
  ∀ f H' rvs rows, SameB b H H' → H f = none → f ≠ b → H' f = some (.lst rvs) → All2 (RowV K H') rvs rows → DOk rows → 1 ≤ rows.length → rows.length ≤ 3 → (∀ r ∈ rows, r.w = .spring) → BoxV H' b (n + 7) → Q (.ref f) H'
/-! ### _law_spring_rows -/
abbrev n_law_spring_rows : List Str := ["_law_box", "_law_names", "_law_found", "_law_k", "_law_called", "_law_before", "_law_row"]
theorem sc_law_spring_rows : FnScope n_law_spring_rows ["_law_box", "_law_names"] (defScope s_law_spring_rows) := ⟨rfl, rfl, rfl, by decide +kernel, rfl, by decide +kernel, by decide +kernel⟩
theorem c_law_spring_rows (T : TX K mg) : Cal P w K mg base "_law_spring_rows" ["_law_box", "_law_names"] [] 2 (sp_law_spring_rows K) := by
  refine cal_of T.g_law_spring_rows T.f_law_spring_rows (fun _ _ _ _ _ _ us hl => match us, hl with | [_, _], _ => rfl) fun fd F => okN F sc_law_spring_rows (fun vs H Q E h => ?_) (fun cdv A outer s H vs Q E hr h => ?_)
  · obtain ⟨b, nl, names, n, rfl, hN, hn2, hne, hB, hn, q⟩ := h
    rfl
  · obtain ⟨b, nl, names, n, rfl, hN, hn2, hne, hB, hn, q⟩ := h
    refine ⟨_, 
      (pss_cons
        (ps_set (i := 2) sc_law_spring_rows.nd rfl (by first | exact Or.inl rfl | exact Or.inr rfl) (pe_lst pa_nil))
      (pss_cons
        (ps_for PassesOwn.never rfl (pi_range1 (by rfl) T.z_range (pa_cons (pe_op op_add pe_int (pe_cal (c_law_take T) (hr.mono (by decide)) (pa_cons (pv 0) (pa_cons pe_int pa_nil)))) pa_nil)) (pg_name (i := 3) sc_law_spring_rows.nd rfl (by first | exact Or.inl rfl | exact Or.inr rfl))
          (pss_cons
            (ps_set (i := 4) sc_law_spring_rows.nd rfl (by first | exact Or.inl rfl | exact Or.inr rfl) (pe_ix (ixL (K := K)) (pv 1) (pe_cal (c_law_take T) (hr.mono (by decide)) (pa_cons (pv 0) (pa_cons pe_int pa_nil))) (fun _ _ => rfl)))
          (pss_cons
            (ps_setLc (i := 5) (own := [("_law_row", 6)]) rfl sc_law_spring_rows.nd rfl rfl (sw_true rfl rfl rfl (by decide +kernel)) (pi_list (pv 2)) (blkOk_by (N := n_law_spring_rows) (sc := defScope s_law_spring_rows) (by decide +kernel)) (fun _ _ _ _ _ => pg_name (i := 6) sc_law_spring_rows.nd rfl (by first | exact Or.inl rfl | exact Or.inr rfl)) (fun _ _ _ _ _ => pts_one (pt_cmpR op_eq (pe_ix (ixT (K := K)) (pv 6) pe_int (fun _ _ => rfl)) (pv 4) (nomark _))) (fun _ _ _ _ _ => (pe_ix (ixT (K := K)) (pv 6) pe_int (fun _ _ => rfl))))
          (pss_one
            (ps_expr (pe_bm PySem.F.plainAttrs_list PySem.F.slot_list_append PySem.F.type_list_append mt_append (pv 2) (pa_cons (pe_tup (pa_cons pe_str (pa_cons (pv 4) (pa_cons (pe_tup pa_nil) (pa_cons (pe_ifExp (pt_cmpR (op_neD hr.units) (pv 5) (pe_lst pa_nil) (nomark _)) (pe_ix (ixL (K := K)) (pv 5) pe_int (fun _ _ => rfl)) (pe_ix (ixL (K := K)) (pe_lst (pa_cons pe_int (pa_cons pe_int (pa_cons pe_int (pa_cons pe_int pa_nil))))) (pe_cal (c_law_take T) (hr.mono (by decide)) (pa_cons (pv 0) (pa_cons pe_int pa_nil))) (fun _ _ => rfl))) pa_nil))))) pa_nil)))))))
      (pss_one
        (ps_ret (pv 2))))), ?_⟩
    have e37 : (2 : Nat) ^ 37 = 137438953472 := by decide
    have e39 : (2 : Nat) ^ 39 = 549755813888 := by decide
    refine ⟨by show 0 ≤ sizeLine; decide, fun f hf => ?_⟩
    have s1 := same_upd (o := .lst []) hf
    have hfb := box_ne hB hf
    have hfn : nl ≠ f := ne_of_none hN hf
    refine ⟨_, rfl, b, 3, n, rfl, by decide, by decide, hB.same s1, by omega, fun m0 H1 hm0 sb1 B1 => ?_⟩
    refine ⟨_, _, rfl, rfl, 1 + m0, rfl, by omega, by omega, ?_⟩
    have w0 : ∀ a o, a ≠ b → a ≠ f → H a = some o → H1 a = some o := fun a o n1 n2 e => sb1 a o n1 (s1 a o e)
    have hf1 : H1 f = some (.lst []) := sb1 _ _ hfb upd_same
    have DK01 : DK K H H1 := (dk_same s1).trans ((hB.same s1).dk sb1)
    refine for_range (n := 1 + m0) (fun i σ H' => (∀ a o, a ≠ b → a ≠ f → H a = some o → H' a = some o) ∧ (∃ rvs rows, H' f = some (.lst rvs) ∧ All2 (RowV K H') rvs rows ∧ DOk rows ∧ rows.length = i ∧ ∀ r ∈ rows, r.w = .spring) ∧ BoxV H' b (n + 1 + 2 * i) ∧ ∃ x3 x4 x5, σ = [some (.ref b), some (.ref nl), some (.ref f), x3, x4, x5, none])
      ⟨w0, ⟨[], [], hf1, .nil, DOk.nil, rfl, fun _ h => nomatch h⟩, B1, none, none, none, rfl⟩ ?_ ?_
    · rintro i σ H2 hi ⟨z1, ⟨rvs, rows, z2, z3, z4, z5, z6⟩, z7, x3, x4, x5, rfl⟩
      have hN2 := z1 _ _ hne hfn hN
      refine ⟨_, rfl, _, rfl, b, 2, _, rfl, by decide, by decide, z7, by omega, fun r H3 hr sb3 B3 => ?_⟩
      have hrn : r < names.length := by omega
      have hg : (svs names)[r]? = some (.str names[r]) := by
        unfold svs
        rw [List.getElem?_map, List.getElem?_eq_getElem hrn]
        rfl
      refine ⟨nl, _, (r : Nat), _, rfl, rfl, SqL.of (sb3 _ _ hne hN2), atI_nat hg, ?_⟩
      generalize names[r] = called
      have z2' := sb3 _ _ hfb z2
      have dk3 : DK K H2 H3 := z7.dk sb3
      have z3' : All2 (RowV K H3) rvs rows := z3.imp fun _ _ h => h.dk dk3
      refine ⟨_, rfl, f, rfl, ⟨_, SqL.of z2'⟩, fun D hD => ?_⟩
      refine lc_list (K := K) (a := f) (xs := rvs) (fun k H' => Same H3 H' ∧ H' D = some (.lst (ivs (befo called (rows.take k))))) ⟨same_upd hD, by rw [List.take_zero]; exact upd_same⟩ (fun k H' _ z => z.1.seq (SqL.of z2')) ?_ ?_
      · rintro k x H4 hx ⟨y1, y2⟩
        obtain ⟨r', hr1, hr2⟩ := z3'.at' hx
        obtain ⟨a, ta, u, rfl, h1, h2, h3⟩ := id hr2
        have hw := z6 r' (List.mem_of_getElem? hr1)
        have hu1 : u = .str r'.nm := by
          unfold WhatV at h2
          rw [hw] at h2
          exact h2
        subst hu1
        have h1' := SqT.same h1 y1
        have et : befo called (rows.take (k + 1)) = befo called (rows.take k) ++ (if r'.nm = called then [r'.per] else []) := by
          rw [List.take_add_one, hr1, Option.toList_some, befo_snoc]
        refine ⟨rfl, _, rfl, a, _, 1, _, rfl, rfl, h1', at1, _, rfl, rfl, _, rfl, ?_⟩
        by_cases hc : r'.nm = called
        · have ed : decide (V.str r'.nm = V.str called) = true := decide_eq_true (by rw [hc])
          rw [ed]
          refine iteT ⟨_, rfl, a, _, 3, _, rfl, rfl, h1', at3, _, y2, small1000 ?_, same_upd_new y1 hD, ?_⟩
          · unfold befo
            rw [ivs_len, List.length_map]
            have z := List.length_filter_le (fun r => decide (r.nm = called)) (rows.take k)
            rw [List.length_take] at z
            omega
          · rw [upd_same, et, if_pos hc, ivs_append]
            rfl
        · have ed : decide (V.str r'.nm = V.str called) = false := decide_eq_false fun z => hc (V.str.inj z)
          rw [ed]
          refine iteF ⟨y1, ?_⟩
          rw [et, if_neg hc, List.append_nil]
          exact y2
      · rintro H4 ⟨y1, y2⟩
        rw [z3'.len, List.take_length] at y2
        have z2'' := y1 _ _ z2'
        have B4 := B3.same y1
        have lenb : (befo called rows).length ≤ 1000 := by
          unfold befo
          rw [List.length_map]
          have z := List.length_filter_le (fun r => decide (r.nm = called)) rows
          omega
        refine ⟨_, rfl, .inl ⟨rfl, _, SqL.of z2''⟩, _, rfl, by show 0 ≤ sizeLine; decide, fun t ht => ?_⟩
        have st := same_upd (o := .tup []) ht
        refine ⟨_, rfl, by show 0 ≤ sizeLine; decide, fun e he => ?_⟩
        have se := same_upd (o := .lst []) he
        have s45 := st.trans se
        refine ⟨.list (natsD (befo called rows)), .list [], .lst (SqL.of (s45 _ _ y2)) (ivs_dp _), .lst (SqL.of upd_same) .nil, natsD_shaped _ lenb, nil_shaped, _, rfl, ?_⟩
        rw [natsD_nil]
        -- behind the period
        have htt : (upd (upd H4 t (.tup [])) e (.lst [])) t = some (.tup []) := se _ _ upd_same
        have fin : ∀ (p : Nat) (H5 : Hp), SameB b (upd (upd H4 t (.tup [])) e (.lst [])) H5 → BoxV H5 b (n + 1 + 2 * (i + 1)) → p ∈ [1, 2, 4, 8, 16] → (∀ r' ∈ rows, r'.nm = called → r'.per = p) → ∀ tt, H5 tt = none →
            ∃ l xs y, V.ref f = .ref l ∧ [V.ref tt] = [y] ∧ (upd H5 tt (.tup [.str "spring", .str called, .ref t, .int (p : Int)])) l = some (.lst xs) ∧ xs.length < sizeLine ∧
              ((∀ a o, a ≠ b → a ≠ f → H a = some o → (upd (upd H5 tt (.tup [.str "spring", .str called, .ref t, .int (p : Int)])) l (.lst (xs ++ [y]))) a = some o) ∧ (∃ rvs rows, (upd (upd H5 tt (.tup [.str "spring", .str called, .ref t, .int (p : Int)])) l (.lst (xs ++ [y]))) f = some (.lst rvs) ∧ All2 (RowV K (upd (upd H5 tt (.tup [.str "spring", .str called, .ref t, .int (p : Int)])) l (.lst (xs ++ [y])))) rvs rows ∧ DOk rows ∧ rows.length = i + 1 ∧ ∀ r ∈ rows, r.w = .spring) ∧
              BoxV (upd (upd H5 tt (.tup [.str "spring", .str called, .ref t, .int (p : Int)])) l (.lst (xs ++ [y]))) b (n + 1 + 2 * (i + 1)) ∧ ∃ x3 x4 x5, ([some (.ref b), some (.ref nl), some (.ref f), some (.int (0 + (i : Int))), some (.str called), some (.ref D), none] : L2.St) = [some (.ref b), some (.ref nl), some (.ref f), x3, x4, x5, none]) := by
          intro p H5 sb5 B5 hp5 hsp tt htt5
          have stt := same_upd (o := .tup [.str "spring", .str called, .ref t, .int (p : Int)]) htt5
          have sbA : SameB b H3 (upd H5 tt (.tup [.str "spring", .str called, .ref t, .int (p : Int)])) := (Same.b (y1.trans s45) b).trans (sb5.trans (Same.b stt b))
          have hfA := sbA _ _ hfb z2'
          have hrow : RowV K (upd H5 tt (.tup [.str "spring", .str called, .ref t, .int (p : Int)])) (.ref tt) ⟨.spring, called, 0, [], p⟩ := by
            refine ⟨tt, t, .str called, rfl, SqT.of upd_same, rfl, SqT.of (stt _ _ (sb5 _ _ ?_ htt))⟩
            rintro rfl
            obtain ⟨_, _, _, e4, _⟩ := B4
            rw [ht] at e4
            cases e4
          have dkA : DK K H3 (upd H5 tt (.tup [.str "spring", .str called, .ref t, .int (p : Int)])) := B3.dk sbA
          have dkB : DK K (upd H5 tt (.tup [.str "spring", .str called, .ref t, .int (p : Int)])) (upd (upd H5 tt (.tup [.str "spring", .str called, .ref t, .int (p : Int)])) f (.lst (rvs ++ [.ref tt]))) := dk_lst hfA
          refine ⟨f, rvs, _, rfl, rfl, hfA, small1000 (by rw [z3.len]; omega), fun a o n1 n2 ea => ?_, ⟨rvs ++ [.ref tt], rows ++ [⟨.spring, called, 0, [], p⟩], upd_same, (z3'.imp fun _ _ h => (h.dk dkA).dk dkB).snoc (hrow.dk dkB), ?_, by rw [List.length_append, z5]; rfl, fun r'' hr'' => ?_⟩, ?_, _, _, _, rfl⟩
          · rw [upd_ne n2]
            exact sbA _ _ n1 (sb3 a o n1 (z1 a o n1 n2 ea))
          · exact z4.snoc rfl (fun _ h => nomatch h) hp5 (Sz.zero _ _) (fun _ h => nomatch h) fun _ r' hr' _ hnm => hsp r' hr' hnm
          · rcases List.mem_append.mp hr'' with h | h
            · exact z6 r'' h
            · rw [List.mem_singleton] at h
              rw [h]
          · exact (B5.same stt).keep (by rw [upd_ne (Ne.symm hfb)])
        cases hbl : befo called rows with
        | nil =>
          refine iteF ?_
          refine ⟨by show 4 ≤ sizeLine; decide, fun p4 hp4 => ?_⟩
          have s4 := same_upd (o := .lst [.int 1, .int 1, .int 2, .int 4]) hp4
          have B5 := (B4.same s45).same s4
          have hp4b := box_ne (B4.same s45) hp4
          refine ⟨_, rfl, b, 4, _, rfl, by decide, by decide, B5, by omega, fun rr H6 hrr sb6 B6 => ?_⟩
          have hv : ∃ k : Nat, k ∈ [1, 2, 4, 8, 16] ∧ ([.int 1, .int 1, .int 2, .int 4] : List V)[rr]? = some (.int (k : Int)) := by
            match rr, hrr with
            | 0, _ => exact ⟨1, by decide, rfl⟩
            | 1, _ => exact ⟨1, by decide, rfl⟩
            | 2, _ => exact ⟨2, by decide, rfl⟩
            | 3, _ => exact ⟨4, by decide, rfl⟩
          obtain ⟨k, hk, hv⟩ := hv
          refine ⟨p4, _, (rr : Nat), _, rfl, rfl, SqL.of (sb6 _ _ hp4b upd_same), atI_nat hv, by show 4 ≤ sizeLine; decide, fun tt htt5 => ?_⟩
          refine fin k H6 ((Same.b s4 b).trans sb6) (B6.mono (by omega)) hk (fun r' hr' hnm => ?_) tt htt5
          have m : r'.per ∈ befo called rows := List.mem_map.mpr ⟨r', List.mem_filter.mpr ⟨hr', by simpa using hnm⟩, rfl⟩
          rw [hbl] at m
          cases m
        | cons p0 rest =>
          refine iteT ⟨_, rfl, D, _, 0, .int (p0 : Int), rfl, rfl, SqL.of (s45 _ _ y2), ?_, by show 4 ≤ sizeLine; decide, fun tt htt5 => ?_⟩
          · rw [hbl]
            exact at0
          · have m0 : p0 ∈ befo called rows := by
              rw [hbl]
              exact List.mem_cons_self
            obtain ⟨r0, hr0, ep0⟩ := List.mem_map.mp m0
            have hr0' := List.mem_filter.mp hr0
            have hn0 : r0.nm = called := by simpa using hr0'.2
            refine fin p0 _ (SameB.refl _ _) ((B4.same s45).mono (by omega)) (by rw [← ep0]; exact z4.per r0 hr0'.1) (fun r' hr' hnm => ?_) tt htt5
            rw [← ep0]
            exact z4.spr r' hr' r0 hr0'.1 (z6 r' hr') (z6 r0 hr0'.1) (by rw [hnm, hn0])
    · rintro σ H2 ⟨z1, ⟨rvs, rows, z2, z3, z4, z5, z6⟩, z7, x3, x4, x5, rfl⟩
      exact ⟨_, rfl, q f H2 rvs rows (fun a o n1 e => z1 a o n1 (ne_of_none e hf) e) hf hfb z2 z3 z4 (by omega) (by omega) z6 (z7.mono (by omega))⟩
end
end K70
/-! K70, part LF: one more row. -/
namespace K70
open PySem PySem.Spec PyProof.Rows L2
theorem in_four (w x y z u : Wd) : inV (.str w.str) [.str x.str, .str y.str, .str z.str, .str u.str] = (decide (w = x) || (decide (w = y) || (decide (w = z) || decide (w = u)))) := by
  have e : ∀ a b : Wd, eqV (.str a.str) (.str b.str) = decide (a = b) := by
    intro a b
    cases a <;> cases b <;> decide +kernel
  have c : ∀ a b : Wd, decide (a = b) = decide (b = a) := fun a b => decide_eq_decide.mpr ⟨Eq.symm, Eq.symm⟩
  unfold inV
  rw [List.any_cons, List.any_cons, List.any_cons, List.any_cons, List.any_nil, Bool.or_false, e, e, e, e, c x w, c y w, c z w, c u w]
theorem wif4 {A B : Prop} (w x y z u : Wd) (h1 : w = x ∨ w = y ∨ w = z ∨ w = u → A) (h2 : w ≠ x → w ≠ y → w ≠ z → w ≠ u → B) : if inV (.str w.str) [.str x.str, .str y.str, .str z.str, .str u.str] = true then A else B := by
  rw [in_four]
  by_cases h : w = x ∨ w = y ∨ w = z ∨ w = u
  · have e : (decide (w = x) || (decide (w = y) || (decide (w = z) || decide (w = u)))) = true := by simpa using h
    rw [e]
    exact iteT (h1 h)
  · have e : (decide (w = x) || (decide (w = y) || (decide (w = z) || decide (w = u)))) = false := by
      rw [Bool.eq_false_iff]
      intro z'
      exact h (by simpa using z')
    rw [e]
    exact iteF (h2 (fun z' => h (.inl z')) (fun z' => h (.inr (.inl z'))) (fun z' => h (.inr (.inr (.inl z')))) (fun z' => h (.inr (.inr (.inr z')))))
def wvs (l : List Wd) : List V := l.map fun w => V.str w.str
def RelP (w : Wd) (p q : Nat) : Prop := match w with
  | .half => p = 2 * q
  | .twice => 2 * p = q
  | _ => q = p
/-- r can stand behind rows -/
def RowFit (rows : List Row) (r : Row) : Prop := r.args.length = r.w.ar ∧ (∀ a ∈ r.args, a < rows.length) ∧ r.per ∈ [1, 2, 4, 8, 16] ∧ Sz 4 4 r.q ∧ (∀ a ∈ r.args, ∀ ra, rows[a]? = some ra → RelP r.w r.per ra.per) ∧ r.w ≠ .spring
theorem DOk.fit {rows : List Row} {r : Row} (h : DOk rows) (f : RowFit rows r) : DOk (rows ++ [r]) := h.snoc f.1 f.2.1 f.2.2.1 f.2.2.2.1 (fun a ha ra hra => f.2.2.2.2.1 a ha ra hra) fun e => absurd e f.2.2.2.2.2
section
variable {P : Program} {w : World} {K : PySem.W.Frag} {mg : Str → Option Value} {base : Heap}
def sp_law_more_row (K : PySem.W.Frag) : Sp := fun vs H Q _ => ∃ (b f wl : Addr) (rvs : List V) (rows : List Row) (wds : List Wd) (n : Nat), vs = [.ref b, .ref f, .ref wl] ∧ H f = some (.lst rvs) ∧ All2 (RowV K H) rvs rows ∧ DOk rows ∧ 1 ≤ rows.length ∧ rows.length ≤ 50 ∧
  H wl = some (.lst (wvs wds)) ∧ 1 ≤ wds.length ∧ wds.length ≤ 100 ∧ (∀ w ∈ wds, w ≠ .spring) ∧ f ≠ b ∧ wl ≠ b ∧ BoxV H b n ∧ n ≤ 2 ^ 37 ∧
  ∀ v H' r, SameB b H H' → RowV K H' v r → RowFit rows r → BoxV H' b (n + 7) → Q v H'
/-! ### _law_more_row -/
abbrev n_law_more_row : List Str := ["_law_box", "_law_rows", "_law_words", "_law_first", "_law_period", "_law_word", "_law_like", "_law_k", "_law_row", "_law_second", "_law_third"]
theorem sc_law_more_row : FnScope n_law_more_row ["_law_box", "_law_rows", "_law_words"] (defScope s_law_more_row) := ⟨rfl, rfl, rfl, by decide +kernel, rfl, by decide +kernel, by decide +kernel⟩
theorem c_law_more_row (T : TX K mg) : Cal P w K mg base "_law_more_row" ["_law_box", "_law_rows", "_law_words"] [] 3 (sp_law_more_row K) := by
  refine cal_of T.g_law_more_row T.f_law_more_row (fun _ _ _ _ _ _ us hl => match us, hl with | [_, _, _], _ => rfl) fun fd F => okN F sc_law_more_row (fun vs H Q E h => ?_) (fun cdv A outer s H vs Q E hr h => ?_)
  · obtain ⟨b, f, wl, rvs, rows, wds, n, rfl, hf, hR, hD, h1, h50, hW, hw1, hw2, hws, hfb, hwb, hB, hn, q⟩ := h
    rfl
  · obtain ⟨b, f, wl, rvs, rows, wds, n, rfl, hf, hR, hD, h1, h50, hW, hw1, hw2, hws, hfb, hwb, hB, hn, q⟩ := h
    refine ⟨_, 
      (pss_cons
        (ps_set (i := 3) sc_law_more_row.nd rfl (by first | exact Or.inl rfl | exact Or.inr rfl) (pe_cal (c_law_take T) (hr.mono (by decide)) (pa_cons (pv 0) (pa_cons (pe_callB (lenSeqK (K := K)) (by rfl) T.z_len (by decide +kernel) (pa_cons (pv 1) pa_nil)) pa_nil))))
      (pss_cons
        (ps_asg (pe_tup (pa_cons (pe_ix (ixT (K := K)) (pe_ix (ixL (K := K)) (pv 1) (pv 3) (fun _ _ => rfl)) pe_int (fun _ _ => rfl)) (pa_cons (pe_cal (c_law_one_of T) (hr.mono (by decide)) (pa_cons (pv 0) (pa_cons (pv 2) pa_nil))) pa_nil))) (pg_tup (by rfl) (pgs_cons (pg_name (i := 4) sc_law_more_row.nd rfl (by first | exact Or.inl rfl | exact Or.inr rfl)) (pgs_cons (pg_name (i := 5) sc_law_more_row.nd rfl (by first | exact Or.inl rfl | exact Or.inr rfl)) pgs_nil))))
      (pss_cons
        (ps_setLc (i := 6) (own := [("_law_k", 7), ("_law_row", 8)]) (g := gTup K 2 (gCons (gName 7) (gCons (gName 8) (gNil)))) rfl sc_law_more_row.nd rfl rfl (sw_true rfl rfl rfl (by decide +kernel)) (pi_enum (by rfl) T.z_enumerate (pa_cons (pv 1) pa_nil)) (blkOk_by (N := n_law_more_row) (sc := defScope s_law_more_row) (by decide +kernel)) (fun _ _ _ _ _ => pg_tup (by rfl) (pgs_cons (pg_name (i := 7) sc_law_more_row.nd rfl (by first | exact Or.inl rfl | exact Or.inr rfl)) (pgs_cons (pg_name (i := 8) sc_law_more_row.nd rfl (by first | exact Or.inl rfl | exact Or.inr rfl)) pgs_nil))) (fun _ _ _ _ _ => pts_one (pt_cmpR op_eq (pe_ix (ixT (K := K)) (pv 8) pe_int (fun _ _ => rfl)) (pv 4) (nomark _))) (fun _ _ _ _ _ => (pv 7)))
      (pss_cons
        (ps_par (i := 9) (j := 10) (by rfl) sc_law_more_row.nd rfl rfl (by decide) rfl rfl (pa_cons (pe_cal (c_law_one_of T) (hr.mono (by decide)) (pa_cons (pv 0) (pa_cons (pv 6) pa_nil))) (pa_cons (pe_cal (c_law_one_of T) (hr.mono (by decide)) (pa_cons (pv 0) (pa_cons (pv 6) pa_nil))) pa_nil)) (by rfl))
      (pss_cons
        (ps_if (PW.pt (pw_or (PW.pt (pw_and (pt_cmpR op_eq (pv 5) pe_str (nomark _)) (pw_and1 (pt_cmpR op_gt (pv 4) pe_int (nomark _))))) (pw_or1 (PW.pt (pw_and (pt_cmpR op_eq (pv 5) pe_str (nomark _)) (pw_and1 (pt_cmpR op_lt (pv 4) pe_int (nomark _))))))))
          (pss_one
            (ps_set (i := 5) sc_law_more_row.nd rfl (by first | exact Or.inl rfl | exact Or.inr rfl) pe_str))
          pss_nil)
      (pss_cons
        (ps_if (pt_cmpR (opIn (K := K)) (pv 5) (pe_tup (pa_cons pe_str (pa_cons pe_str (pa_cons pe_str (pa_cons pe_str pa_nil))))) (by rfl))
          (pss_one
            (ps_ret (pe_tup (pa_cons (pv 5) (pa_cons pe_non (pa_cons (pe_tup (pa_cons (pv 3) (pa_cons (pv 9) pa_nil))) (pa_cons (pv 4) pa_nil)))))))
          pss_nil)
      (pss_cons
        (ps_if (pt_cmpR op_eq (pv 5) pe_str (nomark _))
          (pss_one
            (ps_ret (pe_tup (pa_cons pe_str (pa_cons pe_non (pa_cons (pe_tup (pa_cons (pv 3) (pa_cons (pv 9) (pa_cons (pv 10) pa_nil)))) (pa_cons (pv 4) pa_nil)))))))
          pss_nil)
      (pss_cons
        (ps_if (PW.pt (pw_or (pt_cmpR op_eq (pv 5) pe_str (nomark _)) (pw_or1 (pt_cmpR op_eq (pv 5) pe_str (nomark _)))))
          (pss_one
            (ps_ret (pe_tup (pa_cons (pv 5) (pa_cons pe_non (pa_cons (pe_tup (pa_cons (pv 3) pa_nil)) (pa_cons (pe_ifExp (pt_cmpR op_eq (pv 5) pe_str (nomark _)) (pe_op op_mul (pv 4) pe_int) (pe_op op_fdiv (pv 4) pe_int)) pa_nil)))))))
          pss_nil)
      (pss_cons
        (ps_if (pt_cmpR op_eq (pv 5) pe_str (nomark _))
          (pss_one
            (ps_ret (pe_tup (pa_cons pe_str (pa_cons (pe_cal (c_law_value T) (hr.mono (by decide)) (pa_cons (pv 0) pa_nil)) (pa_cons (pe_tup pa_nil) (pa_cons (pv 4) pa_nil)))))))
          pss_nil)
      (pss_one
        (ps_ret (pe_tup (pa_cons (pv 5) (pa_cons (pe_cal (c_law_value T) (hr.mono (by decide)) (pa_cons (pv 0) pa_nil)) (pa_cons (pe_tup (pa_cons (pv 3) pa_nil)) (pa_cons (pv 4) pa_nil)))))))))))))))), ?_⟩
    have e37 : (2 : Nat) ^ 37 = 137438953472 := by decide
    have e38 : (2 : Nat) ^ 38 = 274877906944 := by decide
    have e39 : (2 : Nat) ^ 39 = 549755813888 := by decide
    have hlen := hR.len
    refine ⟨_, rfl, _, rfl, f, _, rfl, .inl (SqL.of hf), b, rvs.length, n, rfl, by omega, by omega, hB, by omega, fun first H1 hf1 sb1 B1 => ?_⟩
    have hfirst : first < rows.length := by omega
    have hr0 : rows[first]? = some rows[first] := List.getElem?_eq_getElem hfirst
    generalize rows[first] = r0 at hr0
    have hper := hD.per r0 (List.mem_of_getElem? hr0)
    have dk1 : DK K _ _ := hB.dk sb1
    obtain ⟨rv, hrv, hR0⟩ := hR.at hr0
    obtain ⟨ra, ta, u, rfl, k1, k2, k3⟩ := id hR0
    have hf1' := sb1 _ _ hfb hf
    refine ⟨_, rfl, _, rfl, f, _, (first : Nat), _, rfl, rfl, SqL.of hf1', atI_nat hrv, ra, _, 3, _, rfl, rfl, dk1.t _ _ k1, at3, ?_⟩
    refine ⟨_, rfl, _, rfl, b, wl, _, n + 1, rfl, hwb, SqL.of (sb1 _ _ hwb hW), by unfold wvs; rw [List.length_map]; omega, by unfold wvs; rw [List.length_map]; omega, B1, by omega, fun wi wv H2 hwi sb2 B2 => ?_⟩
    have hwd : ∃ wd : Wd, wd ≠ .spring ∧ wv = .str wd.str := by
      unfold wvs at hwi
      rw [List.getElem?_map] at hwi
      cases e : wds[wi]? with
      | none => rw [e] at hwi; cases hwi
      | some wd =>
        rw [e] at hwi
        exact ⟨wd, hws wd (List.mem_of_getElem? e), (Option.some.inj hwi).symm⟩
    obtain ⟨wd, hwsp, rfl⟩ := hwd
    refine ⟨by show 2 ≤ sizeLine; decide, fun t ht => ?_⟩
    have st := same_upd (o := .tup [.int (r0.per : Int), .str wd.str]) ht
    refine ⟨t, _, rfl, SqT.of upd_same, rfl, _, _, rfl, _, _, rfl, rfl, ?_⟩
    have sb3 : SameB b H (upd H2 t (.tup [.int (r0.per : Int), .str wd.str])) := (sb1.trans sb2).trans (Same.b st b)
    have B3 := B2.same st
    generalize upd H2 t (.tup [.int (r0.per : Int), .str wd.str]) = H3 at sb3 B3
    have hf3 := sb3 _ _ hfb hf
    have dk3 : DK K _ _ := hB.dk sb3
    -- the rows of its period
    refine ⟨_, rfl, f, rvs, rfl, SqL.of hf3, fun D hD0 => ?_⟩
    refine lc_it walk_enum (fun k H' => Same H3 H' ∧ ∃ l, H' D = some (.lst (ivs l)) ∧ (∀ j ∈ l, ∃ r, rows[j]? = some r ∧ r.per = r0.per) ∧ l.length ≤ k ∧ (first < k → l ≠ []))
      ⟨same_upd hD0, [], upd_same, (fun _ h => nomatch h), Nat.le_refl _, fun h => absurd h (Nat.not_lt_zero _)⟩ (fun k H' _ z => z.1.seq (SqL.of hf3)) ?_ ?_
    · rintro k x H4 H4' hk ⟨y1, l, y2, y3, y4, y5⟩ ⟨T1, u1, u2, rfl, hT1, rfl, e1, e2⟩
      cases e1
      obtain ⟨r', hr1, hr2⟩ := hR.at' e2
      obtain ⟨a', ta', u', rfl, g1, g2, g3⟩ := id hr2
      have sT := same_upd (o := .tup [.int (k : Int), .ref a']) hT1
      have y6 := y1.trans sT
      have g1' := SqT.same (dk3.t _ _ g1) y6
      have y2' := sT _ _ y2
      refine ⟨T1, _, rfl, SqT.of upd_same, rfl, _, _, rfl, _, _, rfl, rfl, rfl, _, rfl, a', _, 3, _, rfl, rfl, g1', at3, _, rfl, rfl, _, rfl, ?_⟩
      by_cases hc : r'.per = r0.per
      · have ed : decide (V.int (r'.per : Int) = V.int (r0.per : Int)) = true := decide_eq_true (by rw [hc])
        rw [ed]
        refine iteT ⟨_, rfl, _, y2', small1000 (by rw [ivs_len]; omega), same_upd_new y6 hD0, l ++ [k], ?_, fun j hj => ?_, by rw [List.length_append]; exact Nat.succ_le_succ y4, fun _ => by simp⟩
        · rw [upd_same, ivs_append]
          rfl
        · rcases List.mem_append.mp hj with hj | hj
          · exact y3 j hj
          · rw [List.mem_singleton] at hj
            rw [hj]
            exact ⟨r', hr1, hc⟩
      · have ed : decide (V.int (r'.per : Int) = V.int (r0.per : Int)) = false := decide_eq_false fun z => hc (by have := V.int.inj z; omega)
        rw [ed]
        refine iteF ⟨y6, l, y2', y3, Nat.le_succ_of_le y4, fun hlt => ?_⟩
        by_cases hfk : first = k
        · subst hfk
          rw [hr0] at hr1
          cases hr1
          exact absurd rfl hc
        · exact y5 (by omega)
    · rintro H4 ⟨y1, like, y2, y3, y4, y5⟩
      have hne := y5 (by omega)
      have hll : 1 ≤ like.length := by
        cases like with
        | nil => exact absurd rfl hne
        | cons a l => rw [List.length_cons]; omega
      have B4 := B3.same y1
      have hDb : D ≠ b := box_ne B3 hD0
      refine ⟨_, rfl, _, rfl, b, D, _, _, rfl, hDb, SqL.of y2, by rw [ivs_len]; exact hll, by rw [ivs_len]; omega, B4, by omega, fun i5 v5 H5 e5 sb5 B5 => ?_⟩
      obtain ⟨second, hs1, rfl⟩ := ivs_get e5
      have hsecond := y3 second (List.mem_of_getElem? hs1)
      refine ⟨_, rfl, _, rfl, b, D, _, _, rfl, hDb, SqL.of (sb5 _ _ hDb y2), by rw [ivs_len]; exact hll, by rw [ivs_len]; omega, B5, by omega, fun i6 v6 H6 e6 sb6 B6 => ?_⟩
      obtain ⟨third, ht1, rfl⟩ := ivs_get e6
      have hthird := y3 third (List.mem_of_getElem? ht1)
      have sbZ : SameB b H H6 := ((sb3.trans (Same.b y1 b)).trans sb5).trans sb6
      have BZ := B6
      refine ⟨_, _, rfl, ?_⟩
      refine ⟨_, rfl, rfl, _, rfl, wif wd .half (fun a1 => ?_) (fun a1 => ?_)⟩
      · refine ⟨_, rfl, _, _, rfl, rfl, _, rfl, ?_⟩
        by_cases h9 : (r0.per : Int) > 8
        · rw [decide_eq_true h9]
          refine iteT ?_
          have hsp : Wd.sum ≠ .spring := by decide
          have h8 : Wd.sum = .half → r0.per ≤ 8 := fun e => nomatch e
          have h2 : Wd.sum = .twice → 2 ≤ r0.per := fun e => nomatch e
          -- the kinds of row
          have hWn : ∀ x : Wd, Wd.sum = x → x ≠ .spring := fun x e => e ▸ hsp
          refine ⟨_, rfl, by show 4 ≤ sizeLine; decide, fun t4 ht4 => ?_⟩
          have s4 := same_upd (o := .tup [.str "sum", .str "less", .str "most", .str "least"]) ht4
          refine ⟨t4, _, rfl, .inr (SqT.of upd_same), rfl, rfl, _, rfl, wif4 Wd.sum .sum .less .most .least (fun e => ?_) (fun e1 e2 e3 e4 => ?_)⟩
          · refine ⟨_, rfl, _, rfl, _, rfl, by show 2 ≤ sizeLine; decide, fun t5 ht5 => ?_⟩
            refine ⟨_, rfl, by show 4 ≤ sizeLine; decide, fun t6 ht6 => ?_⟩
            have s5 := same_upd (o := .tup [.int (first : Int), .int (second : Int)]) ht5
            have s6 := same_upd (o := .tup [.str Wd.sum.str, .non, .ref t5, .int (r0.per : Int)]) ht6
            refine q _ _ ⟨Wd.sum, "", 0, [first, second], r0.per⟩ (sbZ.trans (Same.b ((s4.trans s5).trans s6) b)) ⟨t6, t5, .non, rfl, SqT.of upd_same, ?_, SqT.same (SqT.of upd_same) s6⟩ ⟨?_, ?_, hper, Sz.zero _ _, ?_, hsp⟩ ((BZ.same ((s4.trans s5).trans s6)).mono (by omega))
            · rcases e with e | e | e | e <;> cases e <;> rfl
            · rcases e with e | e | e | e <;> cases e <;> rfl
            · intro a ha
              rcases List.mem_cons.mp ha with rfl | ha
              · exact hfirst
              · rw [List.mem_singleton.mp ha]
                exact (List.getElem?_eq_some_iff.mp hsecond.choose_spec.1).1
            · intro a ha ra hra
              have hp : ra.per = r0.per := by
                rcases List.mem_cons.mp ha with rfl | ha
                · rw [hr0] at hra
                  cases hra
                  rfl
                · rw [List.mem_singleton.mp ha, hsecond.choose_spec.1] at hra
                  cases hra
                  exact hsecond.choose_spec.2
              rcases e with e | e | e | e <;> cases e <;> exact hp
          · refine ⟨_, rfl, rfl, _, rfl, wif Wd.sum .pick (fun e => ?_) (fun e5 => ?_)⟩
            · refine ⟨_, rfl, _, rfl, _, rfl, by show 3 ≤ sizeLine; decide, fun t5 ht5 => ?_⟩
              refine ⟨_, rfl, by show 4 ≤ sizeLine; decide, fun t6 ht6 => ?_⟩
              have s5 := same_upd (o := .tup [.int (first : Int), .int (second : Int), .int (third : Int)]) ht5
              have s6 := same_upd (o := .tup [.str "pick", .non, .ref t5, .int (r0.per : Int)]) ht6
              refine q _ _ ⟨.pick, "", 0, [first, second, third], r0.per⟩ (sbZ.trans (Same.b ((s4.trans s5).trans s6) b)) ⟨t6, t5, .non, rfl, SqT.of upd_same, rfl, SqT.same (SqT.of upd_same) s6⟩ ⟨rfl, ?_, hper, Sz.zero _ _, ?_, (by first | (show Wd.pick ≠ Wd.spring; decide) | (show Wd.half ≠ Wd.spring; decide) | (show Wd.twice ≠ Wd.spring; decide))⟩ ((BZ.same ((s4.trans s5).trans s6)).mono (by omega))
              · intro a ha
                rcases List.mem_cons.mp ha with rfl | ha
                · exact hfirst
                · rcases List.mem_cons.mp ha with rfl | ha
                  · exact (List.getElem?_eq_some_iff.mp hsecond.choose_spec.1).1
                  · rw [List.mem_singleton.mp ha]
                    exact (List.getElem?_eq_some_iff.mp hthird.choose_spec.1).1
              · intro a ha ra hra
                show ra.per = r0.per
                rcases List.mem_cons.mp ha with rfl | ha
                · rw [hr0] at hra
                  cases hra
                  rfl
                · rcases List.mem_cons.mp ha with rfl | ha
                  · rw [hsecond.choose_spec.1] at hra
                    cases hra
                    exact hsecond.choose_spec.2
                  · rw [List.mem_singleton.mp ha, hthird.choose_spec.1] at hra
                    cases hra
                    exact hthird.choose_spec.2
            · -- half, twice
              have one : ∀ a ∈ [first], a < rows.length := fun a ha => by
                rw [List.mem_singleton.mp ha]
                exact hfirst
              have onep : ∀ a ∈ [first], ∀ ra, rows[a]? = some ra → ra = r0 := fun a ha ra hra => by
                rw [List.mem_singleton.mp ha, hr0] at hra
                cases hra
                rfl
              refine ⟨_, rfl, rfl, _, rfl, wif Wd.sum .half (fun e => ?_) (fun e6 => ?_)⟩
              · cases e
              · refine ⟨_, rfl, rfl, _, rfl, wif Wd.sum .twice (fun e => ?_) (fun e7 => ?_)⟩
                · cases e
                · refine ⟨_, rfl, rfl, _, rfl, wif Wd.sum .fixed (fun e => ?_) (fun e8 => ?_)⟩
                  · cases e
                  · exact absurd rfl e1
        · rw [decide_eq_false h9]
          refine iteF ⟨_, rfl, rfl, _, rfl, wif wd .twice (fun a2 => by rw [a1] at a2; cases a2) (fun a2 => ?_)⟩
          have hsp := hwsp
          have h8 : wd = .half → r0.per ≤ 8 := fun _ => by omega
          have h2 : wd = .twice → 2 ≤ r0.per := fun e => absurd e a2
          -- the kinds of row
          have hWn : ∀ x : Wd, wd = x → x ≠ .spring := fun x e => e ▸ hsp
          refine ⟨_, rfl, by show 4 ≤ sizeLine; decide, fun t4 ht4 => ?_⟩
          have s4 := same_upd (o := .tup [.str "sum", .str "less", .str "most", .str "least"]) ht4
          refine ⟨t4, _, rfl, .inr (SqT.of upd_same), rfl, rfl, _, rfl, wif4 wd .sum .less .most .least (fun e => ?_) (fun e1 e2 e3 e4 => ?_)⟩
          · refine ⟨_, rfl, _, rfl, _, rfl, by show 2 ≤ sizeLine; decide, fun t5 ht5 => ?_⟩
            refine ⟨_, rfl, by show 4 ≤ sizeLine; decide, fun t6 ht6 => ?_⟩
            have s5 := same_upd (o := .tup [.int (first : Int), .int (second : Int)]) ht5
            have s6 := same_upd (o := .tup [.str wd.str, .non, .ref t5, .int (r0.per : Int)]) ht6
            refine q _ _ ⟨wd, "", 0, [first, second], r0.per⟩ (sbZ.trans (Same.b ((s4.trans s5).trans s6) b)) ⟨t6, t5, .non, rfl, SqT.of upd_same, ?_, SqT.same (SqT.of upd_same) s6⟩ ⟨?_, ?_, hper, Sz.zero _ _, ?_, hsp⟩ ((BZ.same ((s4.trans s5).trans s6)).mono (by omega))
            · rcases e with e | e | e | e <;> cases e <;> rfl
            · rcases e with e | e | e | e <;> cases e <;> rfl
            · intro a ha
              rcases List.mem_cons.mp ha with rfl | ha
              · exact hfirst
              · rw [List.mem_singleton.mp ha]
                exact (List.getElem?_eq_some_iff.mp hsecond.choose_spec.1).1
            · intro a ha ra hra
              have hp : ra.per = r0.per := by
                rcases List.mem_cons.mp ha with rfl | ha
                · rw [hr0] at hra
                  cases hra
                  rfl
                · rw [List.mem_singleton.mp ha, hsecond.choose_spec.1] at hra
                  cases hra
                  exact hsecond.choose_spec.2
              rcases e with e | e | e | e <;> cases e <;> exact hp
          · refine ⟨_, rfl, rfl, _, rfl, wif wd .pick (fun e => ?_) (fun e5 => ?_)⟩
            · refine ⟨_, rfl, _, rfl, _, rfl, by show 3 ≤ sizeLine; decide, fun t5 ht5 => ?_⟩
              refine ⟨_, rfl, by show 4 ≤ sizeLine; decide, fun t6 ht6 => ?_⟩
              have s5 := same_upd (o := .tup [.int (first : Int), .int (second : Int), .int (third : Int)]) ht5
              have s6 := same_upd (o := .tup [.str "pick", .non, .ref t5, .int (r0.per : Int)]) ht6
              refine q _ _ ⟨.pick, "", 0, [first, second, third], r0.per⟩ (sbZ.trans (Same.b ((s4.trans s5).trans s6) b)) ⟨t6, t5, .non, rfl, SqT.of upd_same, rfl, SqT.same (SqT.of upd_same) s6⟩ ⟨rfl, ?_, hper, Sz.zero _ _, ?_, (by first | (show Wd.pick ≠ Wd.spring; decide) | (show Wd.half ≠ Wd.spring; decide) | (show Wd.twice ≠ Wd.spring; decide))⟩ ((BZ.same ((s4.trans s5).trans s6)).mono (by omega))
              · intro a ha
                rcases List.mem_cons.mp ha with rfl | ha
                · exact hfirst
                · rcases List.mem_cons.mp ha with rfl | ha
                  · exact (List.getElem?_eq_some_iff.mp hsecond.choose_spec.1).1
                  · rw [List.mem_singleton.mp ha]
                    exact (List.getElem?_eq_some_iff.mp hthird.choose_spec.1).1
              · intro a ha ra hra
                show ra.per = r0.per
                rcases List.mem_cons.mp ha with rfl | ha
                · rw [hr0] at hra
                  cases hra
                  rfl
                · rcases List.mem_cons.mp ha with rfl | ha
                  · rw [hsecond.choose_spec.1] at hra
                    cases hra
                    exact hsecond.choose_spec.2
                  · rw [List.mem_singleton.mp ha, hthird.choose_spec.1] at hra
                    cases hra
                    exact hthird.choose_spec.2
            · -- half, twice
              have one : ∀ a ∈ [first], a < rows.length := fun a ha => by
                rw [List.mem_singleton.mp ha]
                exact hfirst
              have onep : ∀ a ∈ [first], ∀ ra, rows[a]? = some ra → ra = r0 := fun a ha ra hra => by
                rw [List.mem_singleton.mp ha, hr0] at hra
                cases hra
                rfl
              refine ⟨_, rfl, rfl, _, rfl, wif wd .half (fun e => ?_) (fun e6 => ?_)⟩
              · refine ⟨_, rfl, _, rfl, by show 1 ≤ sizeLine; decide, fun t5 ht5 => ?_⟩
                refine ⟨_, rfl, rfl, _, rfl, wif wd .half (fun _ => ?_) (fun z => absurd e z)⟩
                refine ⟨_, rfl, _, _, rfl, rfl, .inr ⟨by decide, by decide⟩, by show 4 ≤ sizeLine; decide, fun t6 ht6 => ?_⟩
                have s5 := same_upd (o := .tup [.int (first : Int)]) ht5
                have s6 := same_upd (o := .tup [.str wd.str, .non, .ref t5, .int ((r0.per : Int) * 2)]) ht6
                refine q _ _ ⟨.half, "", 0, [first], r0.per * 2⟩ (sbZ.trans (Same.b ((s4.trans s5).trans s6) b)) ⟨t6, t5, .non, rfl, SqT.of (by rw [e]; exact upd_same), rfl, SqT.same (SqT.of upd_same) s6⟩ ⟨rfl, one, ?_, Sz.zero _ _, ?_, (by first | (show Wd.pick ≠ Wd.spring; decide) | (show Wd.half ≠ Wd.spring; decide) | (show Wd.twice ≠ Wd.spring; decide))⟩ ((BZ.same ((s4.trans s5).trans s6)).mono (by omega))
                · have h := h8 e
                  simp only [List.mem_cons, List.not_mem_nil, or_false] at hper ⊢
                  omega
                · intro a ha ra hra
                  rw [onep a ha ra hra]
                  show r0.per * 2 = 2 * r0.per
                  omega
              · refine ⟨_, rfl, rfl, _, rfl, wif wd .twice (fun e => ?_) (fun e7 => ?_)⟩
                · refine ⟨_, rfl, _, rfl, by show 1 ≤ sizeLine; decide, fun t5 ht5 => ?_⟩
                  refine ⟨_, rfl, rfl, _, rfl, wif wd .half (fun z => absurd z e6) (fun _ => ?_)⟩
                  refine ⟨_, rfl, _, _, rfl, rfl, ⟨by decide, by decide⟩, by show 4 ≤ sizeLine; decide, fun t6 ht6 => ?_⟩
                  have s5 := same_upd (o := .tup [.int (first : Int)]) ht5
                  have s6 := same_upd (o := .tup [.str wd.str, .non, .ref t5, .int ((r0.per : Int) / 2)]) ht6
                  refine q _ _ ⟨.twice, "", 0, [first], r0.per / 2⟩ (sbZ.trans (Same.b ((s4.trans s5).trans s6) b)) ⟨t6, t5, .non, rfl, SqT.of (by rw [e]; exact upd_same), rfl, SqT.same (SqT.of upd_same) s6⟩ ⟨rfl, one, ?_, Sz.zero _ _, ?_, (by first | (show Wd.pick ≠ Wd.spring; decide) | (show Wd.half ≠ Wd.spring; decide) | (show Wd.twice ≠ Wd.spring; decide))⟩ ((BZ.same ((s4.trans s5).trans s6)).mono (by omega))
                  · have h := h2 e
                    simp only [List.mem_cons, List.not_mem_nil, or_false] at hper ⊢
                    omega
                  · intro a ha ra hra
                    rw [onep a ha ra hra]
                    show 2 * (r0.per / 2) = r0.per
                    have h := h2 e
                    simp only [List.mem_cons, List.not_mem_nil, or_false] at hper
                    omega
                · refine ⟨_, rfl, rfl, _, rfl, wif wd .fixed (fun e => ?_) (fun e8 => ?_)⟩
                  · refine ⟨_, rfl, b, _, rfl, BZ.same s4, by omega, fun v7 H7 x7 sb7 n7 hx7 B7 => ?_⟩
                    refine ⟨by show 0 ≤ sizeLine; decide, fun t5 ht5 => ?_⟩
                    refine ⟨_, rfl, by show 4 ≤ sizeLine; decide, fun t6 ht6 => ?_⟩
                    have s5 := same_upd (o := .tup []) ht5
                    have s6 := same_upd (o := .tup [.str "fixed", v7, .ref t5, .int (r0.per : Int)]) ht6
                    exact q _ _ ⟨.fixed, "", x7, [], r0.per⟩ ((sbZ.trans (Same.b s4 b)).trans (sb7.trans (Same.b (s5.trans s6) b))) ⟨t6, t5, v7, rfl, SqT.of upd_same, (n7.same s5).same s6, SqT.same (SqT.of upd_same) s6⟩ ⟨rfl, (fun _ h => nomatch h), hper, hx7, (fun _ h => nomatch h), (by show Wd.fixed ≠ Wd.spring; decide)⟩ ((B7.same (s5.trans s6)).mono (by omega))
                  · refine ⟨_, rfl, _, rfl, b, _, rfl, BZ.same s4, by omega, fun v7 H7 x7 sb7 n7 hx7 B7 => ?_⟩
                    refine ⟨_, rfl, by show 1 ≤ sizeLine; decide, fun t5 ht5 => ?_⟩
                    refine ⟨_, rfl, by show 4 ≤ sizeLine; decide, fun t6 ht6 => ?_⟩
                    have s5 := same_upd (o := .tup [.int (first : Int)]) ht5
                    have s6 := same_upd (o := .tup [.str wd.str, v7, .ref t5, .int (r0.per : Int)]) ht6
                    have hk : wd = .by ∨ wd = .late := by
                      revert hsp e1 e2 e3 e4 e5 e6 e7 e8
                      cases wd <;> intro hsp e1 e2 e3 e4 e5 e6 e7 e8 <;> first | contradiction | exact .inl rfl | exact .inr rfl
                    refine q _ _ ⟨wd, "", x7, [first], r0.per⟩ ((sbZ.trans (Same.b s4 b)).trans (sb7.trans (Same.b (s5.trans s6) b))) ⟨t6, t5, v7, rfl, SqT.of upd_same, ?_, SqT.same (SqT.of upd_same) s6⟩ ⟨?_, one, hper, hx7, ?_, hsp⟩ ((B7.same (s5.trans s6)).mono (by omega))
                    · have z := (n7.same s5).same s6
                      rcases hk with e | e <;> cases e <;> exact z
                    · rcases hk with e | e <;> cases e <;> rfl
                    · intro a ha ra hra
                      rw [onep a ha ra hra]
                      rcases hk with e | e <;> cases e <;> rfl
      · refine ⟨_, rfl, rfl, _, rfl, wif wd .twice (fun a2 => ?_) (fun a2 => ?_)⟩
        · refine ⟨_, rfl, _, _, rfl, rfl, _, rfl, ?_⟩
          by_cases h9 : (r0.per : Int) < 2
          · rw [decide_eq_true h9]
            refine iteT ?_
            have hsp : Wd.sum ≠ .spring := by decide
            have h8 : Wd.sum = .half → r0.per ≤ 8 := fun e => nomatch e
            have h2 : Wd.sum = .twice → 2 ≤ r0.per := fun e => nomatch e
            -- the kinds of row
            have hWn : ∀ x : Wd, Wd.sum = x → x ≠ .spring := fun x e => e ▸ hsp
            refine ⟨_, rfl, by show 4 ≤ sizeLine; decide, fun t4 ht4 => ?_⟩
            have s4 := same_upd (o := .tup [.str "sum", .str "less", .str "most", .str "least"]) ht4
            refine ⟨t4, _, rfl, .inr (SqT.of upd_same), rfl, rfl, _, rfl, wif4 Wd.sum .sum .less .most .least (fun e => ?_) (fun e1 e2 e3 e4 => ?_)⟩
            · refine ⟨_, rfl, _, rfl, _, rfl, by show 2 ≤ sizeLine; decide, fun t5 ht5 => ?_⟩
              refine ⟨_, rfl, by show 4 ≤ sizeLine; decide, fun t6 ht6 => ?_⟩
              have s5 := same_upd (o := .tup [.int (first : Int), .int (second : Int)]) ht5
              have s6 := same_upd (o := .tup [.str Wd.sum.str, .non, .ref t5, .int (r0.per : Int)]) ht6
              refine q _ _ ⟨Wd.sum, "", 0, [first, second], r0.per⟩ (sbZ.trans (Same.b ((s4.trans s5).trans s6) b)) ⟨t6, t5, .non, rfl, SqT.of upd_same, ?_, SqT.same (SqT.of upd_same) s6⟩ ⟨?_, ?_, hper, Sz.zero _ _, ?_, hsp⟩ ((BZ.same ((s4.trans s5).trans s6)).mono (by omega))
              · rcases e with e | e | e | e <;> cases e <;> rfl
              · rcases e with e | e | e | e <;> cases e <;> rfl
              · intro a ha
                rcases List.mem_cons.mp ha with rfl | ha
                · exact hfirst
                · rw [List.mem_singleton.mp ha]
                  exact (List.getElem?_eq_some_iff.mp hsecond.choose_spec.1).1
              · intro a ha ra hra
                have hp : ra.per = r0.per := by
                  rcases List.mem_cons.mp ha with rfl | ha
                  · rw [hr0] at hra
                    cases hra
                    rfl
                  · rw [List.mem_singleton.mp ha, hsecond.choose_spec.1] at hra
                    cases hra
                    exact hsecond.choose_spec.2
                rcases e with e | e | e | e <;> cases e <;> exact hp
            · refine ⟨_, rfl, rfl, _, rfl, wif Wd.sum .pick (fun e => ?_) (fun e5 => ?_)⟩
              · refine ⟨_, rfl, _, rfl, _, rfl, by show 3 ≤ sizeLine; decide, fun t5 ht5 => ?_⟩
                refine ⟨_, rfl, by show 4 ≤ sizeLine; decide, fun t6 ht6 => ?_⟩
                have s5 := same_upd (o := .tup [.int (first : Int), .int (second : Int), .int (third : Int)]) ht5
                have s6 := same_upd (o := .tup [.str "pick", .non, .ref t5, .int (r0.per : Int)]) ht6
                refine q _ _ ⟨.pick, "", 0, [first, second, third], r0.per⟩ (sbZ.trans (Same.b ((s4.trans s5).trans s6) b)) ⟨t6, t5, .non, rfl, SqT.of upd_same, rfl, SqT.same (SqT.of upd_same) s6⟩ ⟨rfl, ?_, hper, Sz.zero _ _, ?_, (by first | (show Wd.pick ≠ Wd.spring; decide) | (show Wd.half ≠ Wd.spring; decide) | (show Wd.twice ≠ Wd.spring; decide))⟩ ((BZ.same ((s4.trans s5).trans s6)).mono (by omega))
                · intro a ha
                  rcases List.mem_cons.mp ha with rfl | ha
                  · exact hfirst
                  · rcases List.mem_cons.mp ha with rfl | ha
                    · exact (List.getElem?_eq_some_iff.mp hsecond.choose_spec.1).1
                    · rw [List.mem_singleton.mp ha]
                      exact (List.getElem?_eq_some_iff.mp hthird.choose_spec.1).1
                · intro a ha ra hra
                  show ra.per = r0.per
                  rcases List.mem_cons.mp ha with rfl | ha
                  · rw [hr0] at hra
                    cases hra
                    rfl
                  · rcases List.mem_cons.mp ha with rfl | ha
                    · rw [hsecond.choose_spec.1] at hra
                      cases hra
                      exact hsecond.choose_spec.2
                    · rw [List.mem_singleton.mp ha, hthird.choose_spec.1] at hra
                      cases hra
                      exact hthird.choose_spec.2
              · -- half, twice
                have one : ∀ a ∈ [first], a < rows.length := fun a ha => by
                  rw [List.mem_singleton.mp ha]
                  exact hfirst
                have onep : ∀ a ∈ [first], ∀ ra, rows[a]? = some ra → ra = r0 := fun a ha ra hra => by
                  rw [List.mem_singleton.mp ha, hr0] at hra
                  cases hra
                  rfl
                refine ⟨_, rfl, rfl, _, rfl, wif Wd.sum .half (fun e => ?_) (fun e6 => ?_)⟩
                · cases e
                · refine ⟨_, rfl, rfl, _, rfl, wif Wd.sum .twice (fun e => ?_) (fun e7 => ?_)⟩
                  · cases e
                  · refine ⟨_, rfl, rfl, _, rfl, wif Wd.sum .fixed (fun e => ?_) (fun e8 => ?_)⟩
                    · cases e
                    · exact absurd rfl e1
          · rw [decide_eq_false h9]
            refine iteF ?_
            have hsp := hwsp
            have h8 : wd = .half → r0.per ≤ 8 := fun e => absurd e a1
            have h2 : wd = .twice → 2 ≤ r0.per := fun _ => by omega
            -- the kinds of row
            have hWn : ∀ x : Wd, wd = x → x ≠ .spring := fun x e => e ▸ hsp
            refine ⟨_, rfl, by show 4 ≤ sizeLine; decide, fun t4 ht4 => ?_⟩
            have s4 := same_upd (o := .tup [.str "sum", .str "less", .str "most", .str "least"]) ht4
            refine ⟨t4, _, rfl, .inr (SqT.of upd_same), rfl, rfl, _, rfl, wif4 wd .sum .less .most .least (fun e => ?_) (fun e1 e2 e3 e4 => ?_)⟩
            · refine ⟨_, rfl, _, rfl, _, rfl, by show 2 ≤ sizeLine; decide, fun t5 ht5 => ?_⟩
              refine ⟨_, rfl, by show 4 ≤ sizeLine; decide, fun t6 ht6 => ?_⟩
              have s5 := same_upd (o := .tup [.int (first : Int), .int (second : Int)]) ht5
              have s6 := same_upd (o := .tup [.str wd.str, .non, .ref t5, .int (r0.per : Int)]) ht6
              refine q _ _ ⟨wd, "", 0, [first, second], r0.per⟩ (sbZ.trans (Same.b ((s4.trans s5).trans s6) b)) ⟨t6, t5, .non, rfl, SqT.of upd_same, ?_, SqT.same (SqT.of upd_same) s6⟩ ⟨?_, ?_, hper, Sz.zero _ _, ?_, hsp⟩ ((BZ.same ((s4.trans s5).trans s6)).mono (by omega))
              · rcases e with e | e | e | e <;> cases e <;> rfl
              · rcases e with e | e | e | e <;> cases e <;> rfl
              · intro a ha
                rcases List.mem_cons.mp ha with rfl | ha
                · exact hfirst
                · rw [List.mem_singleton.mp ha]
                  exact (List.getElem?_eq_some_iff.mp hsecond.choose_spec.1).1
              · intro a ha ra hra
                have hp : ra.per = r0.per := by
                  rcases List.mem_cons.mp ha with rfl | ha
                  · rw [hr0] at hra
                    cases hra
                    rfl
                  · rw [List.mem_singleton.mp ha, hsecond.choose_spec.1] at hra
                    cases hra
                    exact hsecond.choose_spec.2
                rcases e with e | e | e | e <;> cases e <;> exact hp
            · refine ⟨_, rfl, rfl, _, rfl, wif wd .pick (fun e => ?_) (fun e5 => ?_)⟩
              · refine ⟨_, rfl, _, rfl, _, rfl, by show 3 ≤ sizeLine; decide, fun t5 ht5 => ?_⟩
                refine ⟨_, rfl, by show 4 ≤ sizeLine; decide, fun t6 ht6 => ?_⟩
                have s5 := same_upd (o := .tup [.int (first : Int), .int (second : Int), .int (third : Int)]) ht5
                have s6 := same_upd (o := .tup [.str "pick", .non, .ref t5, .int (r0.per : Int)]) ht6
                refine q _ _ ⟨.pick, "", 0, [first, second, third], r0.per⟩ (sbZ.trans (Same.b ((s4.trans s5).trans s6) b)) ⟨t6, t5, .non, rfl, SqT.of upd_same, rfl, SqT.same (SqT.of upd_same) s6⟩ ⟨rfl, ?_, hper, Sz.zero _ _, ?_, (by first | (show Wd.pick ≠ Wd.spring; decide) | (show Wd.half ≠ Wd.spring; decide) | (show Wd.twice ≠ Wd.spring; decide))⟩ ((BZ.same ((s4.trans s5).trans s6)).mono (by omega))
                · intro a ha
                  rcases List.mem_cons.mp ha with rfl | ha
                  · exact hfirst
                  · rcases List.mem_cons.mp ha with rfl | ha
                    · exact (List.getElem?_eq_some_iff.mp hsecond.choose_spec.1).1
                    · rw [List.mem_singleton.mp ha]
                      exact (List.getElem?_eq_some_iff.mp hthird.choose_spec.1).1
                · intro a ha ra hra
                  show ra.per = r0.per
                  rcases List.mem_cons.mp ha with rfl | ha
                  · rw [hr0] at hra
                    cases hra
                    rfl
                  · rcases List.mem_cons.mp ha with rfl | ha
                    · rw [hsecond.choose_spec.1] at hra
                      cases hra
                      exact hsecond.choose_spec.2
                    · rw [List.mem_singleton.mp ha, hthird.choose_spec.1] at hra
                      cases hra
                      exact hthird.choose_spec.2
              · -- half, twice
                have one : ∀ a ∈ [first], a < rows.length := fun a ha => by
                  rw [List.mem_singleton.mp ha]
                  exact hfirst
                have onep : ∀ a ∈ [first], ∀ ra, rows[a]? = some ra → ra = r0 := fun a ha ra hra => by
                  rw [List.mem_singleton.mp ha, hr0] at hra
                  cases hra
                  rfl
                refine ⟨_, rfl, rfl, _, rfl, wif wd .half (fun e => ?_) (fun e6 => ?_)⟩
                · refine ⟨_, rfl, _, rfl, by show 1 ≤ sizeLine; decide, fun t5 ht5 => ?_⟩
                  refine ⟨_, rfl, rfl, _, rfl, wif wd .half (fun _ => ?_) (fun z => absurd e z)⟩
                  refine ⟨_, rfl, _, _, rfl, rfl, .inr ⟨by decide, by decide⟩, by show 4 ≤ sizeLine; decide, fun t6 ht6 => ?_⟩
                  have s5 := same_upd (o := .tup [.int (first : Int)]) ht5
                  have s6 := same_upd (o := .tup [.str wd.str, .non, .ref t5, .int ((r0.per : Int) * 2)]) ht6
                  refine q _ _ ⟨.half, "", 0, [first], r0.per * 2⟩ (sbZ.trans (Same.b ((s4.trans s5).trans s6) b)) ⟨t6, t5, .non, rfl, SqT.of (by rw [e]; exact upd_same), rfl, SqT.same (SqT.of upd_same) s6⟩ ⟨rfl, one, ?_, Sz.zero _ _, ?_, (by first | (show Wd.pick ≠ Wd.spring; decide) | (show Wd.half ≠ Wd.spring; decide) | (show Wd.twice ≠ Wd.spring; decide))⟩ ((BZ.same ((s4.trans s5).trans s6)).mono (by omega))
                  · have h := h8 e
                    simp only [List.mem_cons, List.not_mem_nil, or_false] at hper ⊢
                    omega
                  · intro a ha ra hra
                    rw [onep a ha ra hra]
                    show r0.per * 2 = 2 * r0.per
                    omega
                · refine ⟨_, rfl, rfl, _, rfl, wif wd .twice (fun e => ?_) (fun e7 => ?_)⟩
                  · refine ⟨_, rfl, _, rfl, by show 1 ≤ sizeLine; decide, fun t5 ht5 => ?_⟩
                    refine ⟨_, rfl, rfl, _, rfl, wif wd .half (fun z => absurd z e6) (fun _ => ?_)⟩
                    refine ⟨_, rfl, _, _, rfl, rfl, ⟨by decide, by decide⟩, by show 4 ≤ sizeLine; decide, fun t6 ht6 => ?_⟩
                    have s5 := same_upd (o := .tup [.int (first : Int)]) ht5
                    have s6 := same_upd (o := .tup [.str wd.str, .non, .ref t5, .int ((r0.per : Int) / 2)]) ht6
                    refine q _ _ ⟨.twice, "", 0, [first], r0.per / 2⟩ (sbZ.trans (Same.b ((s4.trans s5).trans s6) b)) ⟨t6, t5, .non, rfl, SqT.of (by rw [e]; exact upd_same), rfl, SqT.same (SqT.of upd_same) s6⟩ ⟨rfl, one, ?_, Sz.zero _ _, ?_, (by first | (show Wd.pick ≠ Wd.spring; decide) | (show Wd.half ≠ Wd.spring; decide) | (show Wd.twice ≠ Wd.spring; decide))⟩ ((BZ.same ((s4.trans s5).trans s6)).mono (by omega))
                    · have h := h2 e
                      simp only [List.mem_cons, List.not_mem_nil, or_false] at hper ⊢
                      omega
                    · intro a ha ra hra
                      rw [onep a ha ra hra]
                      show 2 * (r0.per / 2) = r0.per
                      have h := h2 e
                      simp only [List.mem_cons, List.not_mem_nil, or_false] at hper
                      omega
                  · refine ⟨_, rfl, rfl, _, rfl, wif wd .fixed (fun e => ?_) (fun e8 => ?_)⟩
                    · refine ⟨_, rfl, b, _, rfl, BZ.same s4, by omega, fun v7 H7 x7 sb7 n7 hx7 B7 => ?_⟩
                      refine ⟨by show 0 ≤ sizeLine; decide, fun t5 ht5 => ?_⟩
                      refine ⟨_, rfl, by show 4 ≤ sizeLine; decide, fun t6 ht6 => ?_⟩
                      have s5 := same_upd (o := .tup []) ht5
                      have s6 := same_upd (o := .tup [.str "fixed", v7, .ref t5, .int (r0.per : Int)]) ht6
                      exact q _ _ ⟨.fixed, "", x7, [], r0.per⟩ ((sbZ.trans (Same.b s4 b)).trans (sb7.trans (Same.b (s5.trans s6) b))) ⟨t6, t5, v7, rfl, SqT.of upd_same, (n7.same s5).same s6, SqT.same (SqT.of upd_same) s6⟩ ⟨rfl, (fun _ h => nomatch h), hper, hx7, (fun _ h => nomatch h), (by show Wd.fixed ≠ Wd.spring; decide)⟩ ((B7.same (s5.trans s6)).mono (by omega))
                    · refine ⟨_, rfl, _, rfl, b, _, rfl, BZ.same s4, by omega, fun v7 H7 x7 sb7 n7 hx7 B7 => ?_⟩
                      refine ⟨_, rfl, by show 1 ≤ sizeLine; decide, fun t5 ht5 => ?_⟩
                      refine ⟨_, rfl, by show 4 ≤ sizeLine; decide, fun t6 ht6 => ?_⟩
                      have s5 := same_upd (o := .tup [.int (first : Int)]) ht5
                      have s6 := same_upd (o := .tup [.str wd.str, v7, .ref t5, .int (r0.per : Int)]) ht6
                      have hk : wd = .by ∨ wd = .late := by
                        revert hsp e1 e2 e3 e4 e5 e6 e7 e8
                        cases wd <;> intro hsp e1 e2 e3 e4 e5 e6 e7 e8 <;> first | contradiction | exact .inl rfl | exact .inr rfl
                      refine q _ _ ⟨wd, "", x7, [first], r0.per⟩ ((sbZ.trans (Same.b s4 b)).trans (sb7.trans (Same.b (s5.trans s6) b))) ⟨t6, t5, v7, rfl, SqT.of upd_same, ?_, SqT.same (SqT.of upd_same) s6⟩ ⟨?_, one, hper, hx7, ?_, hsp⟩ ((B7.same (s5.trans s6)).mono (by omega))
                      · have z := (n7.same s5).same s6
                        rcases hk with e | e <;> cases e <;> exact z
                      · rcases hk with e | e <;> cases e <;> rfl
                      · intro a ha ra hra
                        rw [onep a ha ra hra]
                        rcases hk with e | e <;> cases e <;> rfl
        · have hsp := hwsp
          have h8 : wd = .half → r0.per ≤ 8 := fun e => absurd e a1
          have h2 : wd = .twice → 2 ≤ r0.per := fun e => absurd e a2
          -- the kinds of row
          have hWn : ∀ x : Wd, wd = x → x ≠ .spring := fun x e => e ▸ hsp
          refine ⟨_, rfl, by show 4 ≤ sizeLine; decide, fun t4 ht4 => ?_⟩
          have s4 := same_upd (o := .tup [.str "sum", .str "less", .str "most", .str "least"]) ht4
          refine ⟨t4, _, rfl, .inr (SqT.of upd_same), rfl, rfl, _, rfl, wif4 wd .sum .less .most .least (fun e => ?_) (fun e1 e2 e3 e4 => ?_)⟩
          · refine ⟨_, rfl, _, rfl, _, rfl, by show 2 ≤ sizeLine; decide, fun t5 ht5 => ?_⟩
            refine ⟨_, rfl, by show 4 ≤ sizeLine; decide, fun t6 ht6 => ?_⟩
            have s5 := same_upd (o := .tup [.int (first : Int), .int (second : Int)]) ht5
            have s6 := same_upd (o := .tup [.str wd.str, .non, .ref t5, .int (r0.per : Int)]) ht6
            refine q _ _ ⟨wd, "", 0, [first, second], r0.per⟩ (sbZ.trans (Same.b ((s4.trans s5).trans s6) b)) ⟨t6, t5, .non, rfl, SqT.of upd_same, ?_, SqT.same (SqT.of upd_same) s6⟩ ⟨?_, ?_, hper, Sz.zero _ _, ?_, hsp⟩ ((BZ.same ((s4.trans s5).trans s6)).mono (by omega))
            · rcases e with e | e | e | e <;> cases e <;> rfl
            · rcases e with e | e | e | e <;> cases e <;> rfl
            · intro a ha
              rcases List.mem_cons.mp ha with rfl | ha
              · exact hfirst
              · rw [List.mem_singleton.mp ha]
                exact (List.getElem?_eq_some_iff.mp hsecond.choose_spec.1).1
            · intro a ha ra hra
              have hp : ra.per = r0.per := by
                rcases List.mem_cons.mp ha with rfl | ha
                · rw [hr0] at hra
                  cases hra
                  rfl
                · rw [List.mem_singleton.mp ha, hsecond.choose_spec.1] at hra
                  cases hra
                  exact hsecond.choose_spec.2
              rcases e with e | e | e | e <;> cases e <;> exact hp
          · refine ⟨_, rfl, rfl, _, rfl, wif wd .pick (fun e => ?_) (fun e5 => ?_)⟩
            · refine ⟨_, rfl, _, rfl, _, rfl, by show 3 ≤ sizeLine; decide, fun t5 ht5 => ?_⟩
              refine ⟨_, rfl, by show 4 ≤ sizeLine; decide, fun t6 ht6 => ?_⟩
              have s5 := same_upd (o := .tup [.int (first : Int), .int (second : Int), .int (third : Int)]) ht5
              have s6 := same_upd (o := .tup [.str "pick", .non, .ref t5, .int (r0.per : Int)]) ht6
              refine q _ _ ⟨.pick, "", 0, [first, second, third], r0.per⟩ (sbZ.trans (Same.b ((s4.trans s5).trans s6) b)) ⟨t6, t5, .non, rfl, SqT.of upd_same, rfl, SqT.same (SqT.of upd_same) s6⟩ ⟨rfl, ?_, hper, Sz.zero _ _, ?_, (by first | (show Wd.pick ≠ Wd.spring; decide) | (show Wd.half ≠ Wd.spring; decide) | (show Wd.twice ≠ Wd.spring; decide))⟩ ((BZ.same ((s4.trans s5).trans s6)).mono (by omega))
              · intro a ha
                rcases List.mem_cons.mp ha with rfl | ha
                · exact hfirst
                · rcases List.mem_cons.mp ha with rfl | ha
                  · exact (List.getElem?_eq_some_iff.mp hsecond.choose_spec.1).1
                  · rw [List.mem_singleton.mp ha]
                    exact (List.getElem?_eq_some_iff.mp hthird.choose_spec.1).1
              · intro a ha ra hra
                show ra.per = r0.per
                rcases List.mem_cons.mp ha with rfl | ha
                · rw [hr0] at hra
                  cases hra
                  rfl
                · rcases List.mem_cons.mp ha with rfl | ha
                  · rw [hsecond.choose_spec.1] at hra
                    cases hra
                    exact hsecond.choose_spec.2
                  · rw [List.mem_singleton.mp ha, hthird.choose_spec.1] at hra
                    cases hra
                    exact hthird.choose_spec.2
            · -- half, twice
              have one : ∀ a ∈ [first], a < rows.length := fun a ha => by
                rw [List.mem_singleton.mp ha]
                exact hfirst
              have onep : ∀ a ∈ [first], ∀ ra, rows[a]? = some ra → ra = r0 := fun a ha ra hra => by
                rw [List.mem_singleton.mp ha, hr0] at hra
                cases hra
                rfl
              refine ⟨_, rfl, rfl, _, rfl, wif wd .half (fun e => ?_) (fun e6 => ?_)⟩
              · refine ⟨_, rfl, _, rfl, by show 1 ≤ sizeLine; decide, fun t5 ht5 => ?_⟩
                refine ⟨_, rfl, rfl, _, rfl, wif wd .half (fun _ => ?_) (fun z => absurd e z)⟩
                refine ⟨_, rfl, _, _, rfl, rfl, .inr ⟨by decide, by decide⟩, by show 4 ≤ sizeLine; decide, fun t6 ht6 => ?_⟩
                have s5 := same_upd (o := .tup [.int (first : Int)]) ht5
                have s6 := same_upd (o := .tup [.str wd.str, .non, .ref t5, .int ((r0.per : Int) * 2)]) ht6
                refine q _ _ ⟨.half, "", 0, [first], r0.per * 2⟩ (sbZ.trans (Same.b ((s4.trans s5).trans s6) b)) ⟨t6, t5, .non, rfl, SqT.of (by rw [e]; exact upd_same), rfl, SqT.same (SqT.of upd_same) s6⟩ ⟨rfl, one, ?_, Sz.zero _ _, ?_, (by first | (show Wd.pick ≠ Wd.spring; decide) | (show Wd.half ≠ Wd.spring; decide) | (show Wd.twice ≠ Wd.spring; decide))⟩ ((BZ.same ((s4.trans s5).trans s6)).mono (by omega))
                · have h := h8 e
                  simp only [List.mem_cons, List.not_mem_nil, or_false] at hper ⊢
                  omega
                · intro a ha ra hra
                  rw [onep a ha ra hra]
                  show r0.per * 2 = 2 * r0.per
                  omega
              · refine ⟨_, rfl, rfl, _, rfl, wif wd .twice (fun e => ?_) (fun e7 => ?_)⟩
                · refine ⟨_, rfl, _, rfl, by show 1 ≤ sizeLine; decide, fun t5 ht5 => ?_⟩
                  refine ⟨_, rfl, rfl, _, rfl, wif wd .half (fun z => absurd z e6) (fun _ => ?_)⟩
                  refine ⟨_, rfl, _, _, rfl, rfl, ⟨by decide, by decide⟩, by show 4 ≤ sizeLine; decide, fun t6 ht6 => ?_⟩
                  have s5 := same_upd (o := .tup [.int (first : Int)]) ht5
                  have s6 := same_upd (o := .tup [.str wd.str, .non, .ref t5, .int ((r0.per : Int) / 2)]) ht6
                  refine q _ _ ⟨.twice, "", 0, [first], r0.per / 2⟩ (sbZ.trans (Same.b ((s4.trans s5).trans s6) b)) ⟨t6, t5, .non, rfl, SqT.of (by rw [e]; exact upd_same), rfl, SqT.same (SqT.of upd_same) s6⟩ ⟨rfl, one, ?_, Sz.zero _ _, ?_, (by first | (show Wd.pick ≠ Wd.spring; decide) | (show Wd.half ≠ Wd.spring; decide) | (show Wd.twice ≠ Wd.spring; decide))⟩ ((BZ.same ((s4.trans s5).trans s6)).mono (by omega))
                  · have h := h2 e
                    simp only [List.mem_cons, List.not_mem_nil, or_false] at hper ⊢
                    omega
                  · intro a ha ra hra
                    rw [onep a ha ra hra]
                    show 2 * (r0.per / 2) = r0.per
                    have h := h2 e
                    simp only [List.mem_cons, List.not_mem_nil, or_false] at hper
                    omega
                · refine ⟨_, rfl, rfl, _, rfl, wif wd .fixed (fun e => ?_) (fun e8 => ?_)⟩
                  · refine ⟨_, rfl, b, _, rfl, BZ.same s4, by omega, fun v7 H7 x7 sb7 n7 hx7 B7 => ?_⟩
                    refine ⟨by show 0 ≤ sizeLine; decide, fun t5 ht5 => ?_⟩
                    refine ⟨_, rfl, by show 4 ≤ sizeLine; decide, fun t6 ht6 => ?_⟩
                    have s5 := same_upd (o := .tup []) ht5
                    have s6 := same_upd (o := .tup [.str "fixed", v7, .ref t5, .int (r0.per : Int)]) ht6
                    exact q _ _ ⟨.fixed, "", x7, [], r0.per⟩ ((sbZ.trans (Same.b s4 b)).trans (sb7.trans (Same.b (s5.trans s6) b))) ⟨t6, t5, v7, rfl, SqT.of upd_same, (n7.same s5).same s6, SqT.same (SqT.of upd_same) s6⟩ ⟨rfl, (fun _ h => nomatch h), hper, hx7, (fun _ h => nomatch h), (by show Wd.fixed ≠ Wd.spring; decide)⟩ ((B7.same (s5.trans s6)).mono (by omega))
                  · refine ⟨_, rfl, _, rfl, b, _, rfl, BZ.same s4, by omega, fun v7 H7 x7 sb7 n7 hx7 B7 => ?_⟩
                    refine ⟨_, rfl, by show 1 ≤ sizeLine; decide, fun t5 ht5 => ?_⟩
                    refine ⟨_, rfl, by show 4 ≤ sizeLine; decide, fun t6 ht6 => ?_⟩
                    have s5 := same_upd (o := .tup [.int (first : Int)]) ht5
                    have s6 := same_upd (o := .tup [.str wd.str, v7, .ref t5, .int (r0.per : Int)]) ht6
                    have hk : wd = .by ∨ wd = .late := by
                      revert hsp e1 e2 e3 e4 e5 e6 e7 e8
                      cases wd <;> intro hsp e1 e2 e3 e4 e5 e6 e7 e8 <;> first | contradiction | exact .inl rfl | exact .inr rfl
                    refine q _ _ ⟨wd, "", x7, [first], r0.per⟩ ((sbZ.trans (Same.b s4 b)).trans (sb7.trans (Same.b (s5.trans s6) b))) ⟨t6, t5, v7, rfl, SqT.of upd_same, ?_, SqT.same (SqT.of upd_same) s6⟩ ⟨?_, one, hper, hx7, ?_, hsp⟩ ((B7.same (s5.trans s6)).mono (by omega))
                    · have z := (n7.same s5).same s6
                      rcases hk with e | e <;> cases e <;> exact z
                    · rcases hk with e | e <;> cases e <;> rfl
                    · intro a ha ra hra
                      rw [onep a ha ra hra]
                      rcases hk with e | e <;> cases e <;> rfl
end
end K70
/-! K70, part LG: come_to. -/
namespace K70
open PySem PySem.Spec PyProof.Rows L2
theorem ivs_in (a : Nat) (l : List Nat) : inV (.int (a : Int)) (ivs l) = decide (a ∈ l) := by
  rw [Bool.eq_iff_iff, decide_eq_true_iff]
  unfold inV ivs
  rw [List.any_map, List.any_eq_true]
  constructor
  · rintro ⟨y, hy, e⟩
    have e' : ((y : Int) == (a : Int)) = true := e
    rw [beq_iff_eq] at e'
    have e2 : y = a := by omega
    exact e2 ▸ hy
  · intro h
    exact ⟨a, h, by show ((a : Int) == (a : Int)) = true; exact beq_self_eq_true _⟩
theorem ivs_flat (l : List Nat) : (ivs l).all flatV = true := by
  unfold ivs
  rw [List.all_map, List.all_eq_true]
  intro x _
  rfl
theorem ivs_zvs (l : List Nat) : ivs l = (l.map fun (n : Nat) => (n : Int)).map V.int := by
  unfold ivs
  rw [List.map_map]
  rfl
section
variable {P : Program} {w : World} {K : PySem.W.Frag} {mg : Str → Option Value} {base : Heap}
def sp_law_come_to (K : PySem.W.Frag) : Sp := fun vs H Q _ => ∃ (f sl : Addr) (rvs : List V) (rows : List Row) (starts : List Nat), vs = [.ref f, .ref sl] ∧ H f = some (.lst rvs) ∧ All2 (RowV K H) rvs rows ∧ (∀ r ∈ rows, r.args.length ≤ 3 ∧ ∀ a ∈ r.args, a < rows.length) ∧ rows.length ≤ 50 ∧ H sl = some (.lst (ivs starts)) ∧ (∀ a ∈ starts, a < rows.length) ∧ starts.length ≤ 100 ∧
  ∀ p H' kept, Same H H' → H p = none → H' p = some (.lst (ivs kept)) → kept.Pairwise (· < ·) → (∀ a ∈ kept, a < rows.length) → (∀ a ∈ starts, a ∈ kept) → (∀ (x : Nat) (r : Row), x ∈ kept → rows[x]? = some r → ∀ a ∈ r.args, a ∈ kept) → Q (.ref p) H'
/-! ### _law_come_to -/
abbrev n_law_come_to : List Str := ["_law_rows", "_law_starts", "_law_found", "_law_left", "_law_one"]
theorem sc_law_come_to : FnScope n_law_come_to ["_law_rows", "_law_starts"] (defScope s_law_come_to) := ⟨rfl, rfl, rfl, by decide +kernel, rfl, by decide +kernel, by decide +kernel⟩
theorem c_law_come_to (T : TX K mg) : Cal P w K mg base "_law_come_to" ["_law_rows", "_law_starts"] [] 1 (sp_law_come_to K) := by
  refine cal_of T.g_law_come_to T.f_law_come_to (fun _ _ _ _ _ _ us hl => match us, hl with | [_, _], _ => rfl) fun fd F => okN F sc_law_come_to (fun vs H Q E h => ?_) (fun cdv A outer s H vs Q E hr h => ?_)
  · obtain ⟨f, sl, rvs, rows, starts, rfl, hf, hR, harg, h50, hsl, hst, h100, q⟩ := h
    rfl
  · obtain ⟨f, sl, rvs, rows, starts, rfl, hf, hR, harg, h50, hsl, hst, h100, q⟩ := h
    refine ⟨_, 
      (pss_cons
        (ps_par (i := 2) (j := 3) (by rfl) sc_law_come_to.nd rfl rfl (by decide) rfl rfl (pa_cons (pe_lst pa_nil) (pa_cons (pe_callTy (listOfK (K := K)) (by rfl) T.z_list (by decide +kernel) (pa_cons (pv 1) pa_nil)) pa_nil)) (by rfl))
      (pss_cons
        (ps_while PassesOwn.never (pt_cmpR (op_neD hr.units) (pv 3) (pe_lst pa_nil) (nomark _))
          (pss_cons
            (ps_set (i := 4) sc_law_come_to.nd rfl (by first | exact Or.inl rfl | exact Or.inr rfl) (pe_bm0 PySem.F.plainAttrs_list PySem.F.slot_list_pop PySem.F.type_list_pop mt_pop (pv 3)))
          (pss_one
            (ps_if (pt_cmpR (opNotIn (K := K)) (pv 4) (pv 2) (by rfl))
              (pss_cons
                (ps_expr (pe_bm PySem.F.plainAttrs_list PySem.F.slot_list_append PySem.F.type_list_append mt_append (pv 2) (pa_cons (pv 4) pa_nil)))
              (pss_one
                (ps_set (i := 3) sc_law_come_to.nd rfl (by first | exact Or.inl rfl | exact Or.inr rfl) (pe_op op_cat (pv 3) (pe_callTy (listOfK (K := K)) (by rfl) T.z_list (by decide +kernel) (pa_cons (pe_ix (ixT (K := K)) (pe_ix (ixL (K := K)) (pv 0) (pv 4) (fun _ _ => rfl)) pe_int (fun _ _ => rfl)) pa_nil))))))
              pss_nil))))
      (pss_one
        (ps_ret (pe_callB cr_sorted (by rfl) T.z_sorted (by decide +kernel) (pa_cons (pv 2) pa_nil)))))), ?_⟩
    refine ⟨by show 0 ≤ sizeLine; decide, fun fl hfl => ?_⟩
    have s1 := same_upd (o := .lst []) hfl
    refine ⟨_, rfl, sl, _, rfl, .inl (SqL.of (s1 _ _ hsl)), fun la hla => ?_⟩
    have s2 := same_upd (o := .lst (ivs starts)) hla
    refine ⟨_, _, rfl, ?_⟩
    have hfl2 : (upd (upd H fl (.lst [])) la (.lst (ivs starts))) fl = some (.lst (ivs [])) := s2 _ _ upd_same
    have hla2 : (upd (upd H fl (.lst [])) la (.lst (ivs starts))) la = some (.lst (ivs starts)) := upd_same
    have nal : la ≠ fl := by
      rintro rfl
      rw [upd_same] at hla
      cases hla
    have hlaH : H la = none := s1.free hla
    have s12 := s1.trans s2
    generalize upd (upd H fl (.lst [])) la (.lst (ivs starts)) = H2 at hfl2 hla2 s12
    refine ⟨fun m σ H' => ∃ (F L : List Nat) (la : Addr), m = 4 * (rows.length - F.length) + L.length ∧ Same H H' ∧ H' fl = some (.lst (ivs F)) ∧ H' la = some (.lst (ivs L)) ∧ la ≠ fl ∧ H la = none ∧ F.Nodup ∧ (∀ a ∈ F, a < rows.length) ∧ (∀ a ∈ L, a < rows.length) ∧ (∀ a ∈ starts, a ∈ F ∨ a ∈ L) ∧ L.length ≤ 100 + 2 * F.length ∧
        (∀ (x : Nat) (r : Row), x ∈ F → rows[x]? = some r → ∀ a ∈ r.args, a ∈ F ∨ a ∈ L) ∧ ∃ x4, σ = [some (.ref f), some (.ref sl), some (.ref fl), some (.ref la), x4],
      ⟨_, [], starts, la, rfl, s12, hfl2, hla2, nal, hlaH, List.nodup_nil, (fun _ h => nomatch h), hst, (fun a h => .inr h), by rw [List.length_nil]; omega, (fun _ _ h => nomatch h), none, rfl⟩, ?_⟩
    rintro m σ H' ⟨F, L, lb, rfl, z1, z2, z3, z4, z5, z6, z7, z8, z9, zl, z10, x4, rfl⟩
    have hFn : F.length ≤ rows.length := by
      have e := nodup_sub (m := List.range rows.length) z6 fun x hx => List.mem_range.mpr (z7 x hx)
      rwa [List.length_range] at e
    refine ⟨_, rfl, by show 0 ≤ sizeLine; decide, fun e he => ?_⟩
    have se := same_upd (o := .lst []) he
    have z3' := se _ _ z3
    have z2' := se _ _ z2
    have z1' := z1.trans se
    refine ⟨.list (natsD L), .list [], .lst (SqL.of z3') (ivs_dp _), .lst (SqL.of upd_same) .nil, natsD_shaped _ (by omega), nil_shaped, _, rfl, ?_⟩
    rw [natsD_nil]
    generalize upd H' e (.lst []) = H3 at z1' z2' z3'
    rcases List.eq_nil_or_concat L with hL | ⟨L0, one, hL⟩
    · subst hL
      refine iteF ?_
      refine ⟨_, rfl, fl, F.map fun (n : Nat) => (n : Int), rfl, by rw [← ivs_zvs]; exact SqL.of z2', by rw [List.length_map]; omega, fun ns' p hp hs hpn => ?_⟩
      have hmem : ∀ i ∈ ns', ∃ n : Nat, n ∈ F ∧ i = (n : Int) := fun i hi => by
        obtain ⟨n, hn, e⟩ := List.mem_map.mp (hp.mem_iff.mp hi)
        exact ⟨n, hn, e.symm⟩
      have ek : ns'.map V.int = ivs (ns'.map Int.toNat) := by
        unfold ivs
        rw [List.map_map]
        refine List.map_congr_left fun i hi => ?_
        obtain ⟨n, _, rfl⟩ := hmem i hi
        rfl
      have mem2 : ∀ a, a ∈ ns'.map Int.toNat ↔ a ∈ F := fun a => by
        constructor
        · intro h
          obtain ⟨i, hi, rfl⟩ := List.mem_map.mp h
          obtain ⟨n, hn, rfl⟩ := hmem i hi
          exact hn
        · intro h
          exact List.mem_map.mpr ⟨(a : Int), hp.mem_iff.mpr (List.mem_map.mpr ⟨a, h, rfl⟩), rfl⟩
      have ndp : ns'.Nodup := by
        refine hp.nodup_iff.mpr ?_
        rw [List.Nodup, List.pairwise_map]
        exact z6.imp fun h e => h (by omega)
      rw [ek]
      refine q p _ (ns'.map Int.toNat) (z1'.trans (same_upd hpn)) (z1'.free hpn) upd_same ?_ (fun a ha => z7 a ((mem2 a).mp ha)) (fun a ha => (mem2 a).mpr ((z9 a ha).resolve_right fun h => nomatch h)) fun x r hx hr a ha => (mem2 a).mpr ((z10 x r ((mem2 x).mp hx) hr a ha).resolve_right fun h => nomatch h)
      rw [List.pairwise_map]
      have both := hs.and ndp
      refine List.Pairwise.imp_of_mem ?_ both
      intro i j hi hj ⟨h1, h2⟩
      obtain ⟨n, _, rfl⟩ := hmem i hi
      obtain ⟨n', _, rfl⟩ := hmem j hj
      show ((n : Int).toNat) < ((n' : Int).toNat)
      omega
    · rw [List.concat_eq_append] at hL
      have hne : L.isEmpty = false := by rw [hL]; simp
      rw [hne]
      have hlt : one < rows.length := z8 one (by rw [hL]; exact List.mem_append_right _ List.mem_cons_self)
      have hr0 : rows[one]? = some rows[one] := List.getElem?_eq_getElem hlt
      generalize rows[one] = r0 at hr0
      have hlen : L.length = L0.length + 1 := by rw [hL, List.length_append]; rfl
      refine iteT ⟨fun σ' H'' => ∃ (F' L' : List Nat) (la : Addr), 4 * (rows.length - F'.length) + L'.length < 4 * (rows.length - F.length) + L.length ∧ Same H H'' ∧ H'' fl = some (.lst (ivs F')) ∧ H'' la = some (.lst (ivs L')) ∧ la ≠ fl ∧ H la = none ∧ F'.Nodup ∧ (∀ a ∈ F', a < rows.length) ∧ (∀ a ∈ L', a < rows.length) ∧ (∀ a ∈ starts, a ∈ F' ∨ a ∈ L') ∧ L'.length ≤ 100 + 2 * F'.length ∧
        (∀ (x : Nat) (r : Row), x ∈ F' → rows[x]? = some r → ∀ a ∈ r.args, a ∈ F' ∨ a ∈ L') ∧ ∃ x4, σ' = [some (.ref f), some (.ref sl), some (.ref fl), some (.ref la), x4], ?_, ?_⟩
      · rintro σ' H'' ⟨F', L', la', g0, g⟩
        exact ⟨_, g0, F', L', la', rfl, by simpa using g⟩
      have hpop : (ivs L)[(ivs L).length - 1]? = some (.int (one : Int)) := by
        rw [ivs_len, hlen, Nat.add_sub_cancel, hL, ivs_append, List.getElem?_append_right (by rw [ivs_len]; exact Nat.le_refl _), ivs_len, Nat.sub_self]
        rfl
      refine ⟨_, rfl, .inl ⟨rfl, _, SqL.of z3'⟩, lb, _, _, rfl, rfl, z3', hpop, ?_⟩
      have edl : (ivs L).dropLast = ivs L0 := by
        rw [hL, ivs_append]
        exact List.dropLast_concat
      rw [edl]
      have y2 : (upd H3 lb (.lst (ivs L0))) fl = some (.lst (ivs F)) := by
        rw [upd_ne (Ne.symm z4)]
        exact z2'
      have y3 : (upd H3 lb (.lst (ivs L0))) lb = some (.lst (ivs L0)) := upd_same
      have y1 : Same H (upd H3 lb (.lst (ivs L0))) := same_upd_new z1' z5
      generalize upd H3 lb (.lst (ivs L0)) = H4 at y1 y2 y3
      refine ⟨_, rfl, _, rfl, fl, _, rfl, .inl (SqL.of y2), rfl, ivs_flat _, _, rfl, ?_⟩
      have ein : (if true = true then !inV (.int (one : Int)) (ivs F) else inV (.int (one : Int)) (ivs F)) = !decide (one ∈ F) := by
        rw [ivs_in]
        rfl
      rw [ein]
      by_cases hin : one ∈ F
      · rw [decide_eq_true hin]
        refine iteF ⟨F, L0, lb, by omega, y1, y2, y3, z4, z5, z6, z7, (fun a ha => z8 a (by rw [hL]; exact List.mem_append_left _ ha)), fun a ha => ?_, by omega, fun x r hx hr a ha => ?_, _, rfl⟩
        · rcases z9 a ha with h | h
          · exact .inl h
          · rw [hL] at h
            rcases List.mem_append.mp h with h | h
            · exact .inr h
            · rw [List.mem_singleton] at h
              exact .inl (h ▸ hin)
        · rcases z10 x r hx hr a ha with h | h
          · exact .inl h
          · rw [hL] at h
            rcases List.mem_append.mp h with h | h
            · exact .inr h
            · rw [List.mem_singleton] at h
              exact .inl (h ▸ hin)
      · rw [decide_eq_false hin]
        obtain ⟨rv, hrv, hRo⟩ := hR.at hr0
        obtain ⟨ra, ta, u, rfl, k1, k2, k3⟩ := id hRo
        have hm0 := List.mem_of_getElem? hr0
        have hFlt : F.length < rows.length := by
          have e := nodup_sub (l := one :: F) (m := List.range rows.length) (List.nodup_cons.mpr ⟨hin, z6⟩) fun x hx => by
            rcases List.mem_cons.mp hx with rfl | hx
            · exact List.mem_range.mpr hlt
            · exact List.mem_range.mpr (z7 x hx)
          rw [List.length_range, List.length_cons] at e
          omega
        refine iteT ⟨_, rfl, .inl ⟨rfl, _, SqL.of y2⟩, _, rfl, fl, _, _, rfl, rfl, y2, small1000 (by rw [ivs_len]; omega), ?_⟩
        have hfH : H fl = none := hfl
        have x1 : Same H (upd H4 fl (.lst (ivs F ++ [.int (one : Int)]))) := same_upd_new y1 hfH
        have x2 : (upd H4 fl (.lst (ivs F ++ [.int (one : Int)]))) fl = some (.lst (ivs (F ++ [one]))) := by
          rw [upd_same, ivs_append]
          rfl
        have x3 : (upd H4 fl (.lst (ivs F ++ [.int (one : Int)]))) lb = some (.lst (ivs L0)) := by
          rw [upd_ne z4]
          exact y3
        generalize upd H4 fl (.lst (ivs F ++ [.int (one : Int)])) = H5 at x1 x2 x3
        refine ⟨_, rfl, _, rfl, _, rfl, f, _, (one : Nat), _, rfl, rfl, SqL.of (x1 _ _ hf), atI_nat hrv, ra, _, 2, _, rfl, rfl, SqT.same k1 x1, at2, ta, _, rfl, .inr (SqT.same k3 x1), fun n1 hn1 => ?_⟩
        have sn := same_upd (o := .lst (ivs r0.args)) hn1
        refine ⟨lb, n1, _, _, rfl, rfl, sn _ _ x3, upd_same, ?_, fun n2 hn2 => ?_⟩
        · have := harg r0 hm0
          refine small2 ?_
          rw [ivs_len, List.length_map]
          omega
        · have sn2 := same_upd (o := .lst (ivs L0 ++ ivs r0.args)) hn2
          have sall := x1.trans (sn.trans sn2)
          have h3 := (harg r0 hm0).1
          refine ⟨F ++ [one], L0 ++ r0.args, n2, ?_, sall, sn2 _ _ (sn _ _ x2), ?_, ?_, (x1.trans sn).free hn2, ?_, fun a ha => ?_, fun a ha => ?_, fun a ha => ?_, ?_, fun x r hx hr a ha => ?_, _, rfl⟩
          · rw [List.length_append, List.length_append, List.length_cons, List.length_nil]
            omega
          · rw [ivs_append]
            exact upd_same
          · exact Ne.symm (ne_of_none (sn _ _ x2) hn2)
          · rw [List.nodup_append]
            refine ⟨z6, by simp, fun a ha c hc => ?_⟩
            rw [List.mem_singleton] at hc
            subst hc
            exact fun z => hin (z ▸ ha)
          · rcases List.mem_append.mp ha with h | h
            · exact z7 a h
            · rw [List.mem_singleton] at h
              rw [h]
              exact hlt
          · rcases List.mem_append.mp ha with h | h
            · exact z8 a (by rw [hL]; exact List.mem_append_left _ h)
            · exact (harg r0 hm0).2 a h
          · rcases z9 a ha with h | h
            · exact .inl (List.mem_append_left _ h)
            · rw [hL] at h
              rcases List.mem_append.mp h with h | h
              · exact .inr (List.mem_append_left _ h)
              · exact .inl (List.mem_append_right _ h)
          · rw [List.length_append, List.length_append, List.length_cons, List.length_nil]
            omega
          · rcases List.mem_append.mp hx with hx | hx
            · rcases z10 x r hx hr a ha with h | h
              · exact .inl (List.mem_append_left _ h)
              · rw [hL] at h
                rcases List.mem_append.mp h with h | h
                · exact .inr (List.mem_append_left _ h)
                · exact .inl (List.mem_append_right _ h)
            · rw [List.mem_singleton] at hx
              rw [hx, hr0] at hr
              cases hr
              exact .inr (List.mem_append_right _ ha)
end
end K70
/-! K70, part LH: joined. -/
namespace K70
open PySem PySem.Spec PyProof.Rows L2
/-- r' is r, but for a late node's arg -/
def Joint (rows : List Row) (r r' : Row) : Prop := r'.w = r.w ∧ r'.nm = r.nm ∧ r'.q = r.q ∧ r'.per = r.per ∧ (r'.args = r.args ∨ (r.w = .late ∧ ∃ a ra, r'.args = [a] ∧ rows[a]? = some ra ∧ ra.per = r.per))
theorem Joint.refl (rows : List Row) (r : Row) : Joint rows r r := ⟨rfl, rfl, rfl, rfl, .inl rfl⟩
theorem DOk.joint {rows rows' : List Row} (h : DOk rows) (hl : rows'.length = rows.length) (hj : ∀ (k : Nat) (r r' : Row), rows[k]? = some r → rows'[k]? = some r' → Joint rows r r') : DOk rows' := by
  have back : ∀ (k : Nat) (r' : Row), rows'[k]? = some r' → ∃ r, rows[k]? = some r ∧ Joint rows r r' := fun k r' e => by
    have hk := (List.getElem?_eq_some_iff.mp e).1
    have e2 : rows[k]? = some (rows[k]'(by omega)) := List.getElem?_eq_getElem (by omega)
    exact ⟨_, e2, hj k _ _ e2 e⟩
  have back' : ∀ r' ∈ rows', ∃ r ∈ rows, Joint rows r r' := fun r' hr => by
    obtain ⟨k, hk⟩ := List.mem_iff_getElem?.mp hr
    obtain ⟨r, e, j⟩ := back k r' hk
    exact ⟨r, List.mem_of_getElem? e, j⟩
  refine ⟨fun r' hr => ?_, fun k r' hr a ha => ?_, fun r' hr => ?_, fun r' hr => ?_, fun r' hr a ha ra hra => ?_, fun r' hr s' hs hw hws hn => ?_⟩
  · obtain ⟨r, hm, j1, _, _, _, j5⟩ := back' r' hr
    rw [j1]
    rcases j5 with e | ⟨e, a, ra, e2, _⟩
    · rw [e]
      exact h.ar r hm
    · rw [e2, e]
      rfl
  · obtain ⟨r, e, j1, _, _, _, j5⟩ := back k r' hr
    rw [hl, j1]
    rcases j5 with e5 | ⟨e5, b, rb, e2, e3, _⟩
    · rw [e5] at ha
      exact h.lt k r e a ha
    · rw [e2, List.mem_singleton] at ha
      subst ha
      exact ⟨(List.getElem?_eq_some_iff.mp e3).1, fun z => absurd e5 z⟩
  · obtain ⟨r, hm, _, _, _, j4, _⟩ := back' r' hr
    rw [j4]
    exact h.per r hm
  · obtain ⟨r, hm, _, _, j3, _, _⟩ := back' r' hr
    rw [j3]
    exact h.q r hm
  · obtain ⟨r, hm, j1, _, _, j4, j5⟩ := back' r' hr
    obtain ⟨sa, ea, ja⟩ := back a ra hra
    have pa : ra.per = sa.per := ja.2.2.2.1
    rw [j1, j4, pa]
    rcases j5 with e5 | ⟨e5, b, rb, e2, e3, e4⟩
    · rw [e5] at ha
      exact h.rel r hm a ha sa ea
    · rw [e2, List.mem_singleton] at ha
      subst ha
      rw [ea] at e3
      cases e3
      rw [e5]
      exact e4
  · obtain ⟨r, hm, j1, j2, _, j4, _⟩ := back' r' hr
    obtain ⟨s, hm2, k1, k2, _, k4, _⟩ := back' s' hs
    rw [j4, k4]
    exact h.spr r hm s hm2 (by rw [← j1]; exact hw) (by rw [← k1]; exact hws) (by rw [← j2, ← k2]; exact hn)
theorem cut2_no {w x y z : V} : ¬ (HT.sIx ([w, x, y, z] : List V).length 0 none = 0 ∧ HT.sIx ([w, x, y, z] : List V).length ([w, x, y, z] : List V).length (some 2) = ([w, x, y, z] : List V).length) := by
  show ¬ (HT.sIx 4 0 none = 0 ∧ HT.sIx 4 4 (some 2) = 4)
  decide +kernel
section
variable {P : Program} {w : World} {K : PySem.W.Frag} {mg : Str → Option Value} {base : Heap}
def sp_law_joined (K : PySem.W.Frag) : Sp := fun vs H Q _ => ∃ (b f : Addr) (rvs : List V) (rows : List Row) (n : Nat), vs = [.ref b, .ref f] ∧ H f = some (.lst rvs) ∧ All2 (RowV K H) rvs rows ∧ DOk rows ∧ rows.length ≤ 50 ∧ f ≠ b ∧ BoxV H b n ∧ n ≤ 2 ^ 37 ∧
  ∀ f' H' rvs' rows', SameB b H H' → H f' = none → f' ≠ b → H' f' = some (.lst rvs') → All2 (RowV K H') rvs' rows' → DOk rows' → rows'.length = rows.length → BoxV H' b (n + 2 * rows.length) → Q (.ref f') H'
/-! ### _law_joined -/
abbrev n_law_joined : List Str := ["_law_box", "_law_rows", "_law_found", "_law_k", "_law_row", "_law_like", "_law_at", "_law_one"]
theorem sc_law_joined : FnScope n_law_joined ["_law_box", "_law_rows"] (defScope s_law_joined) := ⟨rfl, rfl, rfl, by decide +kernel, rfl, by decide +kernel, by decide +kernel⟩
theorem c_law_joined (T : TX K mg) : Cal P w K mg base "_law_joined" ["_law_box", "_law_rows"] [] 3 (sp_law_joined K) := by
  refine cal_of T.g_law_joined T.f_law_joined (fun _ _ _ _ _ _ us hl => match us, hl with | [_, _], _ => rfl) fun fd F => okN F sc_law_joined (fun vs H Q E h => ?_) (fun cdv A outer s H vs Q E hr h => ?_)
  · obtain ⟨b, f, rvs, rows, n, rfl, hf, hR, hD, h50, hfb, hB, hn, q⟩ := h
    rfl
  · obtain ⟨b, f, rvs, rows, n, rfl, hf, hR, hD, h50, hfb, hB, hn, q⟩ := h
    refine ⟨_, 
      (pss_cons
        (ps_set (i := 2) sc_law_joined.nd rfl (by first | exact Or.inl rfl | exact Or.inr rfl) (pe_callTy (listOfK (K := K)) (by rfl) T.z_list (by decide +kernel) (pa_cons (pv 1) pa_nil)))
      (pss_cons
        (ps_for PassesOwn.never rfl (pi_enum (by rfl) T.z_enumerate (pa_cons (pv 1) pa_nil)) (pg_tup (by rfl) (pgs_cons (pg_name (i := 3) sc_law_joined.nd rfl (by first | exact Or.inl rfl | exact Or.inr rfl)) (pgs_cons (pg_name (i := 4) sc_law_joined.nd rfl (by first | exact Or.inl rfl | exact Or.inr rfl)) pgs_nil)))
          (pss_one
            (ps_if (PW.pt (pw_and (pt_cmpR op_eq (pe_ix (ixT (K := K)) (pv 4) pe_int (fun _ _ => rfl)) pe_str (nomark _)) (pw_and1 (pt_cmpR op_eq (pe_cal (c_law_take T) (hr.mono (by decide)) (pa_cons (pv 0) (pa_cons pe_int pa_nil))) pe_int (nomark _)))))
              (pss_cons
                (ps_setLc (i := 5) (own := [("_law_at", 6), ("_law_one", 7)]) (g := gTup K 2 (gCons (gName 6) (gCons (gName 7) (gNil)))) rfl sc_law_joined.nd rfl rfl (sw_true rfl rfl rfl (by decide +kernel)) (pi_enum (by rfl) T.z_enumerate (pa_cons (pv 1) pa_nil)) (blkOk_by (N := n_law_joined) (sc := defScope s_law_joined) (by decide +kernel)) (fun _ _ _ _ _ => pg_tup (by rfl) (pgs_cons (pg_name (i := 6) sc_law_joined.nd rfl (by first | exact Or.inl rfl | exact Or.inr rfl)) (pgs_cons (pg_name (i := 7) sc_law_joined.nd rfl (by first | exact Or.inl rfl | exact Or.inr rfl)) pgs_nil))) (fun _ _ _ _ _ => pts_one (pt_cmpR op_eq (pe_ix (ixT (K := K)) (pv 7) pe_int (fun _ _ => rfl)) (pe_ix (ixT (K := K)) (pv 4) pe_int (fun _ _ => rfl)) (nomark _))) (fun _ _ _ _ _ => (pv 6)))
              (pss_one
                (ps_asg (pe_op op_catT (pe_slice sl_tup (pv 4) po_none (po_some pe_int)) (pe_tup (pa_cons (pe_tup (pa_cons (pe_cal (c_law_one_of T) (hr.mono (by decide)) (pa_cons (pv 0) (pa_cons (pv 5) pa_nil))) pa_nil)) (pa_cons (pe_ix (ixT (K := K)) (pv 4) pe_int (fun _ _ => rfl)) pa_nil)))) (pg_sub (pv 2) (pv 3) set_list))))
              pss_nil)))
      (pss_one
        (ps_ret (pv 2))))), ?_⟩
    have e37 : (2 : Nat) ^ 37 = 137438953472 := by decide
    have e38 : (2 : Nat) ^ 38 = 274877906944 := by decide
    have e39 : (2 : Nat) ^ 39 = 549755813888 := by decide
    have hlen := hR.len
    refine ⟨_, rfl, f, _, rfl, .inl (SqL.of hf), fun g hg => ?_⟩
    have s1 := same_upd (o := .lst rvs) hg
    have hgb := box_ne hB hg
    have hgf : f ≠ g := ne_of_none hf hg
    refine ⟨_, rfl, f, rvs, rfl, SqL.of (s1 _ _ hf), ?_⟩
    refine for_it walk_enum (fun k σ H' => (∀ a o, a ≠ b → a ≠ g → H a = some o → H' a = some o) ∧ (∃ rvs' rows', H' g = some (.lst rvs') ∧ All2 (RowV K H') rvs' rows' ∧ rows'.length = rows.length ∧ ∀ (k : Nat) (r r' : Row), rows[k]? = some r → rows'[k]? = some r' → Joint rows r r') ∧ BoxV H' b (n + 2 * k) ∧
        ∃ x3 x4 x5, σ = [some (.ref b), some (.ref f), some (.ref g), x3, x4, x5, none, none])
      ⟨fun a o _ _ e => s1 a o e, ⟨rvs, rows, upd_same, hR.imp fun _ _ h => h.same s1, rfl, fun k r r' e1 e2 => by rw [e1] at e2; cases e2; exact Joint.refl _ _⟩, hB.same s1, none, none, none, rfl⟩ (fun k σ H' _ z => SqL.of (z.1 _ _ hfb hgf hf)) ?_ ?_
    · rintro k y σ H1 H1' hk ⟨z1, ⟨rvs', rows', z2, z3, z4, z5⟩, z6, x3, x4, x5, rfl⟩ ⟨T1, u1, u2, rfl, hT1, rfl, e1, e2⟩
      cases e1
      obtain ⟨r, hr1, hr2⟩ := hR.at' e2
      obtain ⟨a, ta, u, rfl, k1, k2, k3⟩ := id hr2
      have sT := same_upd (o := .tup [.int (k : Int), .ref a]) hT1
      have hkl : k < rows.length := (List.getElem?_eq_some_iff.mp hr1).1
      -- tuples stand
      have tk1 : TK K H H1 := by
        have hd : DK K H (upd H g (.lst rvs)) := dk_same s1
        intro c xs hc
        rcases hc with hc | hc
        · have nb : c ≠ b := by
            rintro rfl
            obtain ⟨_, _, _, e, _⟩ := hB
            rcases hc with hc | ⟨o, hc⟩ <;> (rw [e] at hc; cases hc)
          have ng : c ≠ g := by
            rintro rfl
            rcases hc with hc | ⟨o, hc⟩ <;> (rw [hg] at hc; cases hc)
          rcases hc with hc | ⟨o, hc⟩
          · exact .inl (.inl (z1 _ _ nb ng hc))
          · exact .inl (.inr ⟨o, z1 _ _ nb ng hc⟩)
        · exact .inr hc
      have tk2 := tk1.trans (tk_same sT)
      have k1' := tk2 _ _ k1
      have z2' := sT _ _ z2
      have z6' := z6.same sT
      have z3' : All2 (RowV K (upd H1 T1 (.tup [.int (k : Int), .ref a]))) rvs' rows' := z3.imp fun _ _ h => h.same sT
      have hf1 : (upd H1 T1 (.tup [.int (k : Int), .ref a])) f = some (.lst rvs) := sT _ _ (z1 _ _ hfb hgf hf)
      have z1' : ∀ c o, c ≠ b → c ≠ g → H c = some o → (upd H1 T1 (.tup [.int (k : Int), .ref a])) c = some o := fun c o n1 n2 e => sT _ _ (z1 c o n1 n2 e)
      refine ⟨T1, _, rfl, SqT.of upd_same, rfl, _, _, rfl, _, _, rfl, rfl, ?_⟩
      generalize upd H1 T1 (.tup [.int (k : Int), .ref a]) = H2 at tk2 k1' z2' z6' z3' hf1 z1'
      refine ⟨_, rfl, a, _, 0, _, rfl, rfl, k1', at0, rfl, _, rfl, wif r.w .late (fun hw => ?_) (fun hw => ?_)⟩
      · refine ⟨_, rfl, b, 2, _, rfl, by decide, by decide, z6', by omega, fun d H3 hd sb3 B3 => ?_⟩
        have z2'' := sb3 _ _ hgb z2'
        have dk3 : DK K H2 H3 := z6'.dk sb3
        have z3'' : All2 (RowV K H3) rvs' rows' := z3'.imp fun _ _ h => h.dk dk3
        have hf3 := sb3 _ _ hfb hf1
        have k1'' := dk3.t _ _ k1'
        have tk3 := tk2.trans dk3.t
        refine ⟨rfl, _, rfl, ?_⟩
        by_cases hd0 : (d : Int) = 0
        · have ed : decide (V.int (d : Int) = V.int 0) = true := decide_eq_true (by rw [hd0])
          rw [ed]
          refine iteT ⟨_, rfl, f, rvs, rfl, SqL.of hf3, fun D hD0 => ?_⟩
          refine lc_it walk_enum (fun j H' => Same H3 H' ∧ ∃ l, H' D = some (.lst (ivs l)) ∧ (∀ i ∈ l, ∃ s, rows[i]? = some s ∧ s.per = r.per) ∧ l.length ≤ j ∧ (k < j → l ≠ []))
            ⟨same_upd hD0, [], upd_same, (fun _ h => nomatch h), Nat.le_refl _, fun h => absurd h (Nat.not_lt_zero _)⟩ (fun j H' _ z => z.1.seq (SqL.of hf3)) ?_ ?_
          · rintro j x H4 H4' hj ⟨y1, l, y2, y3, y4, y5⟩ ⟨T2, u1, u2, rfl, hT2, rfl, e1, e2'⟩
            cases e1
            obtain ⟨r', hr1', hr2'⟩ := hR.at' e2'
            obtain ⟨a', ta', u', rfl, g1, g2, g3⟩ := id hr2'
            have sT2 := same_upd (o := .tup [.int (j : Int), .ref a']) hT2
            have y6 := y1.trans sT2
            have g1' := SqT.same (tk3 _ _ g1) y6
            have y2' := sT2 _ _ y2
            refine ⟨T2, _, rfl, SqT.of upd_same, rfl, _, _, rfl, _, _, rfl, rfl, rfl, _, rfl, a', _, 3, _, rfl, rfl, g1', at3, _, rfl, a, _, 3, _, rfl, rfl, SqT.same k1'' y6, at3, rfl, _, rfl, ?_⟩
            by_cases hc : r'.per = r.per
            · have ed : decide (V.int (r'.per : Int) = V.int (r.per : Int)) = true := decide_eq_true (by rw [hc])
              rw [ed]
              refine iteT ⟨_, rfl, _, y2', small1000 (by rw [ivs_len]; omega), same_upd_new y6 hD0, l ++ [j], ?_, fun i hi => ?_, by rw [List.length_append]; exact Nat.succ_le_succ y4, fun _ => by simp⟩
              · rw [upd_same, ivs_append]
                rfl
              · rcases List.mem_append.mp hi with hi | hi
                · exact y3 i hi
                · rw [List.mem_singleton] at hi
                  rw [hi]
                  exact ⟨r', hr1', hc⟩
            · have ed : decide (V.int (r'.per : Int) = V.int (r.per : Int)) = false := decide_eq_false fun z => hc (by have := V.int.inj z; omega)
              rw [ed]
              refine iteF ⟨y6, l, y2', y3, Nat.le_succ_of_le y4, fun hlt => ?_⟩
              by_cases hfk : k = j
              · subst hfk
                rw [hr1] at hr1'
                cases hr1'
                exact absurd rfl hc
              · exact y5 (by omega)
          · rintro H4 ⟨y1, like, y2, y3, y4, y5⟩
            have hne := y5 (by omega)
            have hll : 1 ≤ like.length := by
              cases like with
              | nil => exact absurd rfl hne
              | cons a l => rw [List.length_cons]; omega
            have B4 := B3.same y1
            have hDb : D ≠ b := box_ne B3 hD0
            have k14 := SqT.same k1'' y1
            refine ⟨_, rfl, 2, rfl, a, _, rfl, k14, cut2_no, fun p hp => ?_⟩
            have ec : cutV [V.str r.w.str, u, .ref ta, .int (r.per : Int)] none (some 2) = [.str r.w.str, u] := by rfl
            rw [ec]
            have sp := same_upd (o := .tup [.str r.w.str, u]) hp
            refine ⟨_, rfl, _, rfl, b, D, _, _, rfl, hDb, SqL.of (sp _ _ y2), by rw [ivs_len]; exact hll, by rw [ivs_len]; omega, B4.same sp, by omega, fun i5 v5 H5 e5 sb5 B5 => ?_⟩
            obtain ⟨sec, hs1, rfl⟩ := ivs_get e5
            obtain ⟨rs, hrs, hrp⟩ := y3 sec (List.mem_of_getElem? hs1)
            refine ⟨by show 1 ≤ sizeLine; decide, fun t5 ht5 => ?_⟩
            have s5 := same_upd (o := .tup [.int (sec : Int)]) ht5
            have sbA : SameB b H4 (upd H5 t5 (.tup [.int (sec : Int)])) := (Same.b sp b).trans (sb5.trans (Same.b s5 b))
            have dkA : DK K H4 (upd H5 t5 (.tup [.int (sec : Int)])) := B4.dk sbA
            refine ⟨_, rfl, a, _, 3, _, rfl, rfl, dkA.t _ _ k14, at3, by show 2 ≤ sizeLine; decide, fun t6 ht6 => ?_⟩
            have s6 := same_upd (o := .tup [.ref t5, .int (r.per : Int)]) ht6
            have dkp : DK K (upd H4 p (.tup [.str r.w.str, u])) (upd H5 t5 (.tup [.int (sec : Int)])) := (B4.same sp).dk (sb5.trans (Same.b s5 b))
            refine ⟨p, t6, _, _, rfl, rfl, SqT.same (dkp.t _ _ (SqT.of upd_same)) s6, SqT.of upd_same, by simp, by show 2 + 2 ≤ sizeLine; decide, (fun z => by cases z), fun _ t7 ht7 => ?_⟩
            have s7 := same_upd (o := .tup ([.str r.w.str, u] ++ [.ref t5, .int (r.per : Int)])) ht7
            have sbB : SameB b H3 (upd (upd (upd H5 t5 (.tup [.int (sec : Int)])) t6 (.tup [.ref t5, .int (r.per : Int)])) t7 (.tup ([.str r.w.str, u] ++ [.ref t5, .int (r.per : Int)]))) := ((Same.b y1 b).trans sbA).trans (Same.b (s6.trans s7) b)
            have hgB := sbB _ _ hgb z2''
            have dkB : DK K H3 (upd (upd (upd H5 t5 (.tup [.int (sec : Int)])) t6 (.tup [.ref t5, .int (r.per : Int)])) t7 (.tup ([.str r.w.str, u] ++ [.ref t5, .int (r.per : Int)]))) := B3.dk sbB
            refine ⟨_, rfl, _, rfl, g, rvs', _, k, rfl, rfl, hgB, ?_, ?_⟩
            · have e : rvs'.length = rows.length := by rw [z3.len, z4]
              unfold ixN
              rw [if_pos (by omega), if_pos (by omega)]
              congr 1
            · have dkC : DK K (upd (upd (upd H5 t5 (.tup [.int (sec : Int)])) t6 (.tup [.ref t5, .int (r.per : Int)])) t7 (.tup ([.str r.w.str, u] ++ [.ref t5, .int (r.per : Int)]))) (upd (upd (upd (upd H5 t5 (.tup [.int (sec : Int)])) t6 (.tup [.ref t5, .int (r.per : Int)])) t7 (.tup ([.str r.w.str, u] ++ [.ref t5, .int (r.per : Int)]))) g (.lst (rvs'.set k (.ref t7)))) := dk_lst hgB
              have hrow : RowV K (upd (upd (upd H5 t5 (.tup [.int (sec : Int)])) t6 (.tup [.ref t5, .int (r.per : Int)])) t7 (.tup ([.str r.w.str, u] ++ [.ref t5, .int (r.per : Int)]))) (.ref t7) { r with args := [sec] } := by
                refine ⟨t7, t5, u, rfl, SqT.of upd_same, ?_, SqT.same (SqT.same (SqT.of upd_same) s6) s7⟩
                have k2' := (k2.tk tk3).tk dkB.t
                unfold WhatV at k2' ⊢
                exact k2'
              refine ⟨fun c o n1 n2 e => ?_, ⟨rvs'.set k (.ref t7), rows'.set k { r with args := [sec] }, upd_same, ?_, by rw [List.length_set]; exact z4, fun k' s s' es es' => ?_⟩, ?_, _, _, _, rfl⟩
              · rw [upd_ne n2]
                exact sbB _ _ n1 (sb3 _ _ n1 (z1' c o n1 n2 e))
              · refine All2.of_at (by rw [List.length_set, List.length_set, z3.len]) fun i x y ex ey => ?_
                by_cases hik : k = i
                · subst hik
                  rw [List.getElem?_set_self (by rw [z3.len, z4]; exact hkl)] at ex
                  rw [List.getElem?_set_self (by rw [z4]; exact hkl)] at ey
                  cases ex
                  cases ey
                  exact hrow.dk dkC
                · rw [List.getElem?_set_ne hik] at ex ey
                  obtain ⟨x', ex', hx'⟩ := z3''.at ey
                  rw [ex] at ex'
                  cases ex'
                  exact (hx'.dk dkB).dk dkC
              · by_cases hik : k = k'
                · subst hik
                  rw [List.getElem?_set_self (by rw [z4]; exact hkl)] at es'
                  rw [hr1] at es
                  cases es
                  cases es'
                  exact ⟨rfl, rfl, rfl, rfl, .inr ⟨hw, sec, rs, rfl, hrs, hrp⟩⟩
                · rw [List.getElem?_set_ne hik] at es'
                  exact z5 k' s s' es es'
              · have B7 := ((B5.same s5).same s6).same s7
                exact (B7.mono (by omega)).keep (by rw [upd_ne (Ne.symm hgb)])
        · have ed : decide (V.int (d : Int) = V.int 0) = false := decide_eq_false fun z => hd0 (V.int.inj z)
          rw [ed]
          exact iteF ⟨fun c o n1 n2 e => sb3 _ _ n1 (z1' c o n1 n2 e), ⟨rvs', rows', z2'', z3'', z4, z5⟩, B3.mono (by omega), _, _, _, rfl⟩
      · exact ⟨z1', ⟨rvs', rows', z2', z3', z4, z5⟩, z6'.mono (by omega), _, _, _, rfl⟩
    · rintro σ H1 ⟨z1, ⟨rvs', rows', z2, z3, z4, z5⟩, z6, x3, x4, x5, rfl⟩
      rw [hlen] at z6
      exact ⟨_, rfl, q g H1 rvs' rows' (fun a o n1 e => z1 a o n1 (ne_of_none e hg) e) hg hgb z2 z3 (hD.joint z4 z5) z4 z6⟩
end
end K70
/-! K70, part LI0: the kept rows, plainly. -/
namespace K70
open PySem PySem.Spec PyProof.Rows L2
def posOf (a : Nat) : List Nat → Nat
  | [] => 0
  | b :: l => if b = a then 0 else posOf a l + 1
theorem posOf_get {a : Nat} : ∀ {l : List Nat}, a ∈ l → l[posOf a l]? = some a
  | [], h => by cases h
  | b :: l, h => by
    unfold posOf
    by_cases e : b = a
    · rw [if_pos e, e]
      rfl
    · rw [if_neg e]
      exact posOf_get ((List.mem_cons.mp h).resolve_left fun z => e z.symm)
theorem posOf_first {a m : Nat} : ∀ {l : List Nat}, m < posOf a l → l[m]? ≠ some a
  | [], h => by cases h
  | b :: l, h => by
    unfold posOf at h
    by_cases e : b = a
    · rw [if_pos e] at h
      cases h
    · rw [if_neg e] at h
      cases m with
      | zero =>
        intro z
        exact e (Option.some.inj z)
      | succ m => exact posOf_first (l := l) (by omega)
def rowD : Row := ⟨.fixed, "", 0, [], 1⟩
def keepR (rows : List Row) (kept : List Nat) : List Row := kept.map fun k => { rows.getD k rowD with args := (rows.getD k rowD).args.map fun a => posOf a kept }
theorem keepR_len (rows : List Row) (kept : List Nat) : (keepR rows kept).length = kept.length := List.length_map _
theorem keepR_get {rows : List Row} {kept : List Nat} {i k : Nat} {r : Row} (h : kept[i]? = some k) (hr : rows[k]? = some r) : (keepR rows kept)[i]? = some { r with args := r.args.map fun a => posOf a kept } := by
  unfold keepR
  rw [List.getElem?_map, h]
  have e : rows.getD k rowD = r := by rw [List.getD_eq_getElem?_getD, hr, Option.getD_some]
  show some ({ rows.getD k rowD with args := (rows.getD k rowD).args.map fun a => posOf a kept } : Row) = _
  rw [e]
theorem keepR_inv {rows : List Row} {kept : List Nat} {i : Nat} {r' : Row} (hk : ∀ a ∈ kept, a < rows.length) (h : (keepR rows kept)[i]? = some r') : ∃ (k : Nat) (r : Row), kept[i]? = some k ∧ rows[k]? = some r ∧ r' = { r with args := r.args.map fun a => posOf a kept } := by
  have hi := (List.getElem?_eq_some_iff.mp h).1
  rw [keepR_len] at hi
  have e := List.getElem?_eq_getElem hi
  have hlt := hk _ (List.getElem_mem hi)
  have er := List.getElem?_eq_getElem hlt
  rw [keepR_get e er] at h
  exact ⟨_, _, e, er, (Option.some.inj h).symm⟩
theorem sorted_ix {l : List Nat} (h : l.Pairwise (· < ·)) {i j a b : Nat} (hi : l[i]? = some a) (hj : l[j]? = some b) (hab : a < b) : i < j := by
  refine Nat.not_le.mp fun hle => ?_
  rcases Nat.lt_or_eq_of_le hle with hlt | heq
  · obtain ⟨h1, e1⟩ := List.getElem?_eq_some_iff.mp hi
    obtain ⟨h2, e2⟩ := List.getElem?_eq_some_iff.mp hj
    have z := List.pairwise_iff_getElem.mp h j i h2 h1 hlt
    omega
  · subst heq
    rw [hi] at hj
    cases hj
    omega
theorem DOk.kept {rows : List Row} {kept : List Nat} (h : DOk rows) (hs : kept.Pairwise (· < ·)) (hk : ∀ a ∈ kept, a < rows.length) (hc : ∀ (x : Nat) (r : Row), x ∈ kept → rows[x]? = some r → ∀ a ∈ r.args, a ∈ kept) : DOk (keepR rows kept) := by
  have back : ∀ r' ∈ keepR rows kept, ∃ (i k : Nat) (r : Row), kept[i]? = some k ∧ rows[k]? = some r ∧ r' = { r with args := r.args.map fun a => posOf a kept } := fun r' hr => by
    obtain ⟨i, hi⟩ := List.mem_iff_getElem?.mp hr
    obtain ⟨k, r, e1, e2, e3⟩ := keepR_inv hk hi
    exact ⟨i, k, r, e1, e2, e3⟩
  have len : ∀ a ∈ kept, posOf a kept < kept.length := fun a ha => (List.getElem?_eq_some_iff.mp (posOf_get ha)).1
  refine ⟨fun r' hr => ?_, fun i r' hr a ha => ?_, fun r' hr => ?_, fun r' hr => ?_, fun r' hr a ha ra hra => ?_, fun r' hr s' hs' hw hws hn => ?_⟩
  · obtain ⟨i, k, r, e1, e2, rfl⟩ := back r' hr
    show (r.args.map _).length = r.w.ar
    rw [List.length_map]
    exact h.ar r (List.mem_of_getElem? e2)
  · obtain ⟨k, r, e1, e2, rfl⟩ := keepR_inv hk hr
    obtain ⟨a0, ha0, rfl⟩ := List.mem_map.mp ha
    have hak := hc k r (List.mem_of_getElem? e1) e2 a0 ha0
    refine ⟨by rw [keepR_len]; exact len a0 hak, fun hw => ?_⟩
    exact sorted_ix hs (posOf_get hak) e1 ((h.lt k r e2 a0 ha0).2 hw)
  · obtain ⟨i, k, r, e1, e2, rfl⟩ := back r' hr
    exact h.per r (List.mem_of_getElem? e2)
  · obtain ⟨i, k, r, e1, e2, rfl⟩ := back r' hr
    exact h.q r (List.mem_of_getElem? e2)
  · obtain ⟨i, k, r, e1, e2, rfl⟩ := back r' hr
    obtain ⟨a0, ha0, rfl⟩ := List.mem_map.mp ha
    have hak := hc k r (List.mem_of_getElem? e1) e2 a0 ha0
    obtain ⟨k2, r2, f1, f2, rfl⟩ := keepR_inv hk hra
    rw [posOf_get hak] at f1
    cases f1
    exact h.rel r (List.mem_of_getElem? e2) a0 ha0 r2 f2
  · obtain ⟨i, k, r, e1, e2, rfl⟩ := back r' hr
    obtain ⟨i', k', s, f1, f2, rfl⟩ := back s' hs'
    exact h.spr r (List.mem_of_getElem? e2) s (List.mem_of_getElem? f2) hw hws hn
theorem kept_len {n : Nat} {kept : List Nat} (hs : kept.Pairwise (· < ·)) (hk : ∀ a ∈ kept, a < n) : kept.length ≤ n := by
  have nd : kept.Nodup := hs.imp fun h => Nat.ne_of_lt h
  have e := nodup_sub (m := List.range n) nd fun x hx => List.mem_range.mpr (hk x hx)
  rwa [List.length_range] at e
/-! ### rules with the written part named -/
section
variable {X : Cx} {K : PySem.W.Frag}
theorem opCatTK (hK : X.K = K := by rfl) : OpR X (binaryOp .Add) (rCatT K) := hK ▸ op_catT
theorem slTupK (hK : X.K = K := by rfl) : L2.SlR X (rSlT K) := hK ▸ sl_tup
def rTupleOf (K : PySem.W.Frag) : List V → Hp → VK → Prop := fun xs H Q => ∃ p ys, xs = [.ref p] ∧ ((SqL K H p ys ∧ ∀ l, H l = none → Q (.ref l) (upd H l (.tup ys))) ∨ (SqT K H p ys ∧ Q (.ref p) H))
theorem tupleOfK (hK : X.K = K := by rfl) : CallR X (.type "tuple") (rTupleOf K) := hK ▸ call_tuple_of
theorem pe_bmK {T : String} {name : Str} {id : String} {r : V → List V → Hp → VK → Prop} {o e : Expr} {es : List Expr} {to : TE} {t : TA} {apos cpos : Pos} (pa : PlainAttrs T) (slot : Slot T name id) (hty : typeOf (.builtin id) = pure (.type "method_descriptor")) (hm : MtR X id r) (ho : PE X o to) (ha : PA X (e :: es) t) (hK : X.K = K := by rfl)
    (hbase : attributeBase o name X.env (eval o X.env) = eval o X.env := by rfl)
    (hfew : ((backTo cpos (starEach (e :: es) X.env)).all (fun x => !x.1) && (backToKw cpos (keywordEach [] X.env)).all (fun x => x.1.isSome)
      && decide ((e :: es).length + ([] : List Keyword).length + (if ([] : List Keyword).isEmpty then 0 else 1) < 30)) = true := by rfl)
    (hline : (apos.endLine == cpos.line) = true := by rfl) (hs : starEach (e :: es) X.env = (false, eval e X.env) :: starEach es X.env := by rfl) (hplain : (backTo cpos (starEach es X.env)).any (·.1) = false := by rfl) :
    PE X (.Call (.Attribute o name apos) (e :: es) [] cpos) (tBM K T r to t) := by
  subst hK
  exact pe_bm pa slot hty hm ho ha hbase hfew hline hs hplain
theorem mtIndexK (hK : X.K = K := by rfl) : MtR X "list.index" (rIndex K) := hK ▸ mt_index
end
theorem eqV_int (a b : Nat) : eqV (.int (a : Int)) (.int (b : Int)) = decide (a = b) := by
  show ((a : Int) == (b : Int)) = decide (a = b)
  rw [Bool.eq_iff_iff, beq_iff_eq, decide_eq_true_iff]
  omega
/-- the law's graph at wd -/
def WV (K : PySem.W.Frag) (H : Hp) (wd : Addr) (rows : List Row) (outs : List (Str × Nat)) (turned : List Nat) : Prop := ∃ (nl tl : Addr) (ot : V) (rvs : List V), H wd = some (.dK [(.inr "nodes", .ref nl), (.inr "outs", ot), (.inr "turned", .ref tl)]) ∧ H nl = some (.lst rvs) ∧ All2 (RowV K H) rvs rows ∧ OutsV K H ot outs ∧ H tl = some (.lst (ivs turned))
structure WOk (rows : List Row) (outs : List (Str × Nat)) (turned : List Nat) : Prop where
  d : DOk rows
  l1 : 1 ≤ rows.length
  l9 : rows.length ≤ 9
  t : turned.Perm (List.range rows.length)
  on : ∀ o ∈ outs, o.2 < rows.length
  nd : (outs.map (·.1)).Nodup
  ol : outs.length ≤ 3
end K70
/-! K70, part LI: graph_drawn. -/
namespace K70
open PySem PySem.Spec PyProof.Rows L2
section
variable {P : Program} {w : World} {K : PySem.W.Frag} {mg : Str → Option Value} {base : Heap}
theorem svs_get {l : List Str} {i : Nat} (h : i < l.length) : (svs l)[i]? = some (.str l[i]) := by
  unfold svs
  rw [List.getElem?_map, List.getElem?_eq_getElem h]
  rfl
theorem rg_ivs (n : Nat) : rgV 0 (n : Int) = ivs (List.range n) := by
  unfold rgV ivs
  rw [show ((n : Int) - 0).toNat = n by omega]
  refine List.map_congr_left fun i _ => ?_
  congr 1
  omega
def outsOf (names : List Str) (kept starts : List Nat) : List (Str × Nat) := (List.range starts.length).map fun k => (names.getD (2 + k) "", posOf (starts.getD k 0) kept)
theorem dist_set {names : List Str} (h : names.Nodup) (ln : names.length = 5) {i : Nat} (hi : i = 0 ∨ i = 2) (hl : i < names.length) : (names.set 2 names[i]).length = 5 ∧ ∀ a b, 2 ≤ a → a < 5 → 2 ≤ b → b < 5 → (names.set 2 names[i]).getD a "" = (names.set 2 names[i]).getD b "" → a = b := by
  refine ⟨by rw [List.length_set]; exact ln, ?_⟩
  have key : ∀ a, 2 ≤ a → a < 5 → ∃ c, names[c]? = some ((names.set 2 names[i]).getD a "") ∧ (c = a ∨ (a = 2 ∧ c = i)) := fun a h1 h2 => by
    by_cases e : a = 2
    · refine ⟨i, ?_, .inr ⟨e, rfl⟩⟩
      rw [List.getD_eq_getElem?_getD, e, List.getElem?_set_self (by omega), List.getElem?_eq_getElem hl]
      rfl
    · refine ⟨a, ?_, .inl rfl⟩
      rw [List.getD_eq_getElem?_getD, List.getElem?_set_ne (Ne.symm e), List.getElem?_eq_getElem (by omega)]
      rfl
  intro a b ha1 ha2 hb1 hb2 he
  obtain ⟨c, hc, kc⟩ := key a ha1 ha2
  obtain ⟨d, hd, kd⟩ := key b hb1 hb2
  rw [he] at hc
  have z := nd_ix h hc hd
  omega
theorem outs_nodup {names : List Str} {kept starts : List Nat} (ln : names.length = 5) (h : ∀ a b, 2 ≤ a → a < 5 → 2 ≤ b → b < 5 → names.getD a "" = names.getD b "" → a = b) (hs : starts.length ≤ 3) : ((outsOf names kept starts).map (·.1)).Nodup := by
  unfold outsOf
  rw [List.map_map, List.Nodup, List.pairwise_map]
  refine List.Pairwise.imp_of_mem ?_ (List.nodup_range (n := starts.length))
  intro a b ha hb hne e
  have h1 := List.mem_range.mp ha
  have h2 := List.mem_range.mp hb
  have z := h (2 + a) (2 + b) (by omega) (by omega) (by omega) (by omega) e
  omega
theorem merge3 (x y z : V) : mergeK [] [((.inr "nodes" : Key), x), (.inr "outs", y), (.inr "turned", z)] = [(.inr "nodes", x), (.inr "outs", y), (.inr "turned", z)] := by rfl
theorem ix2 {names : List Str} (h : names.length = 5) : ixN (svs names).length 2 = some 2 := by
  rw [svs_len, h]
  rfl
def sp_law_graph_drawn (K : PySem.W.Frag) : Sp := fun vs H Q _ => ∃ (b wl : Addr) (wds : List Wd) (n : Nat), vs = [.ref b, .int 9, .ref wl] ∧ H wl = some (.lst (wvs wds)) ∧ 1 ≤ wds.length ∧ wds.length ≤ 100 ∧ (∀ w ∈ wds, w ≠ .spring) ∧ wl ≠ b ∧ BoxV H b n ∧ n ≤ 2 ^ 36 ∧
  ∀ wd H' rows outs turned, SameB b H H' → H wd = none → WV K H' wd rows outs turned → (∀ H'', SameB b H' H'' → WV K H'' wd rows outs turned) → WOk rows outs turned → BoxV H' b (n + 400) → wd ≠ b → Q (.ref wd) H'
/-! ### _law_graph_drawn -/
abbrev n_law_graph_drawn : List Str := ["_law_box", "_law_many", "_law_words", "_law_names", "_law_rows", "_law_turn", "_law_starts", "_law_kept", "_law_nodes", "_law_k", "_law_one", "_law_outs", "_law_turned"]
theorem sc_law_graph_drawn : FnScope n_law_graph_drawn ["_law_box", "_law_many", "_law_words"] (defScope s_law_graph_drawn) := ⟨rfl, rfl, rfl, by decide +kernel, rfl, by decide +kernel, by decide +kernel⟩
theorem c_law_graph_drawn (T : TX K mg) : Cal P w K mg base "_law_graph_drawn" ["_law_box", "_law_many", "_law_words"] [] 4 (sp_law_graph_drawn K) := by
  refine cal_of T.g_law_graph_drawn T.f_law_graph_drawn (fun _ _ _ _ _ _ us hl => match us, hl with | [_, _, _], _ => rfl) fun fd F => okN F sc_law_graph_drawn (fun vs H Q E h => ?_) (fun cdv A outer s H vs Q E hr h => ?_)
  · obtain ⟨b, wl, wds, n, rfl, hW, hw1, hw2, hws, hwb, hB, hn, q⟩ := h
    rfl
  · obtain ⟨b, wl, wds, n, rfl, hW, hw1, hw2, hws, hwb, hB, hn, q⟩ := h
    refine ⟨_, 
      (pss_cons
        (ps_set (i := 3) sc_law_graph_drawn.nd rfl (by first | exact Or.inl rfl | exact Or.inr rfl) (pe_cal (c_law_named T) (hr.mono (by decide)) (pa_cons (pv 0) (pa_cons pe_int pa_nil))))
      (pss_cons
        (ps_set (i := 4) sc_law_graph_drawn.nd rfl (by first | exact Or.inl rfl | exact Or.inr rfl) (pe_cal (c_law_spring_rows T) (hr.mono (by decide)) (pa_cons (pv 0) (pa_cons (pv 3) pa_nil))))
      (pss_cons
        (ps_for PassesOwn.never rfl (pi_range1 (by rfl) T.z_range (pa_cons (pe_op op_add pe_int (pe_cal (c_law_take T) (hr.mono (by decide)) (pa_cons (pv 0) (pa_cons (pe_callB (call_max2 rfl) (by rfl) T.z_max (by decide +kernel) (pa_cons pe_int (pa_cons (pe_op op_sub (pv 1) pe_int) pa_nil))) pa_nil)))) pa_nil)) (pg_name (i := 5) sc_law_graph_drawn.nd rfl (by first | exact Or.inl rfl | exact Or.inr rfl))
          (pss_one
            (ps_expr (pe_bm PySem.F.plainAttrs_list PySem.F.slot_list_append PySem.F.type_list_append mt_append (pv 4) (pa_cons (pe_cal (c_law_more_row T) (hr.mono (by decide)) (pa_cons (pv 0) (pa_cons (pv 4) (pa_cons (pv 2) pa_nil)))) pa_nil)))))
      (pss_cons
        (ps_asg (pe_tup (pa_cons (pe_cal (c_law_joined T) (hr.mono (by decide)) (pa_cons (pv 0) (pa_cons (pv 4) pa_nil))) (pa_cons (pe_lst (pa_cons (pe_op op_sub (pe_callB (lenSeqK (K := K)) (by rfl) T.z_len (by decide +kernel) (pa_cons (pv 4) pa_nil)) pe_int) pa_nil)) pa_nil))) (pg_tup (by rfl) (pgs_cons (pg_name (i := 4) sc_law_graph_drawn.nd rfl (by first | exact Or.inl rfl | exact Or.inr rfl)) (pgs_cons (pg_name (i := 6) sc_law_graph_drawn.nd rfl (by first | exact Or.inl rfl | exact Or.inr rfl)) pgs_nil))))
      (pss_cons
        (ps_for PassesOwn.never rfl (pi_range1 (by rfl) T.z_range (pa_cons (pe_cal (c_law_take T) (hr.mono (by decide)) (pa_cons (pv 0) (pa_cons pe_int pa_nil))) pa_nil)) (pg_name (i := 5) sc_law_graph_drawn.nd rfl (by first | exact Or.inl rfl | exact Or.inr rfl))
          (pss_one
            (ps_expr (pe_bm PySem.F.plainAttrs_list PySem.F.slot_list_append PySem.F.type_list_append mt_append (pv 6) (pa_cons (pe_cal (c_law_take T) (hr.mono (by decide)) (pa_cons (pv 0) (pa_cons (pe_callB (lenSeqK (K := K)) (by rfl) T.z_len (by decide +kernel) (pa_cons (pv 4) pa_nil)) pa_nil))) pa_nil)))))
      (pss_cons
        (ps_set (i := 7) sc_law_graph_drawn.nd rfl (by first | exact Or.inl rfl | exact Or.inr rfl) (pe_cal (c_law_come_to T) (hr.mono (by decide)) (pa_cons (pv 4) (pa_cons (pv 6) pa_nil))))
      (pss_cons
        (ps_setLc (i := 8) (own := [("_law_k", 9)]) rfl sc_law_graph_drawn.nd rfl rfl (sw_true rfl rfl rfl (by decide +kernel)) (pi_list (pv 7)) (blkOk_by (N := n_law_graph_drawn) (sc := defScope s_law_graph_drawn) (by decide +kernel)) (fun _ _ _ _ _ => pg_name (i := 9) sc_law_graph_drawn.nd rfl (by first | exact Or.inl rfl | exact Or.inr rfl)) (fun _ _ _ _ _ => pts_nil) (fun _ _ _ _ _ => (pe_op (opCatTK (K := K)) (pe_slice (slTupK (K := K)) (pe_ix (ixL (K := K)) (pv 4) (pv 9) (fun _ _ => rfl)) po_none (po_some pe_int)) (pe_tup (pa_cons (pe_callTy (tupleOfK (K := K)) (by rfl) T.z_tuple (by decide +kernel) (pa_cons (pe_lc (own := [("_law_one", 10)]) rfl sc_law_graph_drawn.nd (pi_tupK (K := K) (pe_ix (ixT (K := K)) (pe_ix (ixL (K := K)) (pv 4) (pv 9) (fun _ _ => rfl)) pe_int (fun _ _ => rfl))) (blkOk_by (N := n_law_graph_drawn) (sc := _) (by kernel_rfl)) (fun _ _ _ _ _ => pg_name (i := 10) sc_law_graph_drawn.nd rfl (by first | exact Or.inl rfl | exact Or.inr rfl)) (fun _ _ _ _ _ => pts_nil) (fun _ _ _ _ _ => (pe_bmK (K := K) PySem.F.plainAttrs_list PySem.F.slot_list_index PySem.F.type_list_index (mtIndexK (K := K)) (pv 7) (pa_cons (pv 10) pa_nil)))) pa_nil)) (pa_cons (pe_ix (ixT (K := K)) (pe_ix (ixL (K := K)) (pv 4) (pv 9) (fun _ _ => rfl)) pe_int (fun _ _ => rfl)) pa_nil))))))
      (pss_cons
        (ps_asg (pe_ifExp (pt_cmpR op_eq (pe_cal (c_law_take T) (hr.mono (by decide)) (pa_cons (pv 0) (pa_cons pe_int pa_nil))) pe_int (nomark _)) (pe_ix (ixL (K := K)) (pv 3) pe_int (fun _ _ => rfl)) (pe_ix (ixL (K := K)) (pv 3) pe_int (fun _ _ => rfl))) (pg_sub (pv 3) pe_int set_list))
      (pss_cons
        (ps_set (i := 11) sc_law_graph_drawn.nd rfl (by first | exact Or.inl rfl | exact Or.inr rfl) (pe_callTy (tupleOfK (K := K)) (by rfl) T.z_tuple (by decide +kernel) (pa_cons (pe_lc (own := [("_law_k", 9), ("_law_one", 10)]) (g := gTup K 2 (gCons (gName 9) (gCons (gName 10) (gNil)))) rfl sc_law_graph_drawn.nd (pi_enum (by rfl) T.z_enumerate (pa_cons (pv 6) pa_nil)) (blkOk_by (N := n_law_graph_drawn) (sc := defScope s_law_graph_drawn) (by decide +kernel)) (fun _ _ _ _ _ => pg_tup (by rfl) (pgs_cons (pg_name (i := 9) sc_law_graph_drawn.nd rfl (by first | exact Or.inl rfl | exact Or.inr rfl)) (pgs_cons (pg_name (i := 10) sc_law_graph_drawn.nd rfl (by first | exact Or.inl rfl | exact Or.inr rfl)) pgs_nil))) (fun _ _ _ _ _ => pts_nil) (fun _ _ _ _ _ => (pe_tup (pa_cons (pe_ix (ixL (K := K)) (pv 3) (pe_op op_add pe_int (pv 9)) (fun _ _ => rfl)) (pa_cons (pe_bmK (K := K) PySem.F.plainAttrs_list PySem.F.slot_list_index PySem.F.type_list_index (mtIndexK (K := K)) (pv 7) (pa_cons (pv 10) pa_nil)) pa_nil))))) pa_nil)))
      (pss_cons
        (ps_set (i := 12) sc_law_graph_drawn.nd rfl (by first | exact Or.inl rfl | exact Or.inr rfl) (pe_ifExp (pt_cmpR op_eq (pe_cal (c_law_take T) (hr.mono (by decide)) (pa_cons (pv 0) (pa_cons pe_int pa_nil))) pe_int (nomark _)) (pe_cal (c_law_strewn T) (hr.mono (by decide)) (pa_cons (pv 0) (pa_cons (pe_listRg rfl (by rfl) T.z_list (prg_1 (by rfl) T.z_range (pe_callB (lenSeqK (K := K)) (by rfl) T.z_len (by decide +kernel) (pa_cons (pv 8) pa_nil)))) pa_nil))) (pe_listRg rfl (by rfl) T.z_list (prg_1 (by rfl) T.z_range (pe_callB (lenSeqK (K := K)) (by rfl) T.z_len (by decide +kernel) (pa_cons (pv 8) pa_nil))))))
      (pss_one
        (ps_ret (pe_disp (pps_cons pe_str (pv 8) (pps_cons pe_str (pv 11) (pps_cons pe_str (pv 12) pps_nil))) (by rfl) (by rfl) (fun z => by cases z) (by decide)))))))))))))), ?_⟩
    have e36 : (2 : Nat) ^ 36 = 68719476736 := by decide
    have e37 : (2 : Nat) ^ 37 = 137438953472 := by decide
    have e38 : (2 : Nat) ^ 38 = 274877906944 := by decide
    have e39 : (2 : Nat) ^ 39 = 549755813888 := by decide
    -- names
    refine ⟨_, rfl, b, 5, n, rfl, by decide, hB, by omega, fun f1 H1 names sb1 hf1 hf1b hn1 ndn ln lns B1 => ?_⟩
    -- springs
    refine ⟨_, rfl, _, rfl, b, f1, names, _, rfl, hn1, by omega, hf1b, B1, by omega, fun f H2 rvs rows sb2 hf hfb hf2 hR hD hr1 hr3 _ B2 => ?_⟩
    have hf1f : f1 ≠ f := ne_of_none hn1 hf
    have hfH : H f = none := by
      cases e : H f with
      | none => rfl
      | some o =>
        have z := sb1 f o hfb e
        rw [hf] at z
        cases z
    have sbH2 := sb1.trans sb2
    -- more rows
    refine ⟨_, rfl, _, rfl, _, _, rfl, rfl, _, _, rfl, b, 6, _, rfl, by decide, by decide, B2, by omega, fun m0 H3 hm0 sb3 B3 => ?_⟩
    refine ⟨_, _, rfl, rfl, 1 + m0, rfl, by omega, by omega, ?_⟩
    have dk3 : DK K H2 H3 := B2.dk sb3
    have sbH3 := sbH2.trans sb3
    refine for_range (n := 1 + m0) (fun i σ H' => (∀ a o, a ≠ b → a ≠ f → H3 a = some o → H' a = some o) ∧ (∃ rvs rows, H' f = some (.lst rvs) ∧ All2 (RowV K H') rvs rows ∧ DOk rows ∧ 1 ≤ rows.length ∧ rows.length ≤ 3 + i) ∧ BoxV H' b (n + 43 + 7 * i) ∧
        ∃ x5, σ = [some (.ref b), some (.int 9), some (.ref wl), some (.ref f1), some (.ref f), x5, none, none, none, none, none, none, none])
      ⟨fun a o _ _ e => e, ⟨rvs, rows, sb3 _ _ hfb hf2, hR.imp fun _ _ h => h.dk dk3, hD, hr1, by omega⟩, B3.mono (by omega), none, rfl⟩ ?_ ?_
    · rintro i σ H4 hi ⟨z1, ⟨rvs, rows, z2, z3, z4, z5, z6⟩, z7, x5, rfl⟩
      have hwf : wl ≠ f := ne_of_none hW hfH
      have hW4 := z1 _ _ hwb hwf (sbH3 _ _ hwb hW)
      refine ⟨_, rfl, .inl ⟨rfl, _, SqL.of z2⟩, _, rfl, _, rfl, _, rfl, b, f, wl, rvs, rows, wds, _, rfl, z2, z3, z4, z5, by omega, hW4, hw1, hw2, hws, hfb, hwb, z7, by omega, fun v H5 r sb5 hRv hfit B5 => ?_⟩
      have z2' := sb5 _ _ hfb z2
      have dk5 : DK K H4 H5 := z7.dk sb5
      have dk6 : DK K H5 (upd H5 f (.lst (rvs ++ [v]))) := dk_lst z2'
      refine ⟨f, rvs, v, rfl, rfl, z2', small1000 (by rw [z3.len]; omega), fun a o n1 n2 e => ?_, ⟨rvs ++ [v], rows ++ [r], upd_same, (z3.imp fun _ _ h => (h.dk dk5).dk dk6).snoc (hRv.dk dk6), z4.fit hfit, by rw [List.length_append]; omega, by rw [List.length_append, List.length_cons, List.length_nil]; omega⟩, (B5.mono (by omega)).keep (by rw [upd_ne (Ne.symm hfb)]), _, rfl⟩
      rw [upd_ne n2]
      exact sb5 _ _ n1 (z1 a o n1 n2 e)
    · rintro σ H4 ⟨z1, ⟨rvs, rows, z2, z3, z4, z5, z6⟩, z7, x5, rfl⟩
      -- joined, starts
      refine ⟨_, rfl, _, rfl, b, f, rvs, rows, _, rfl, z2, z3, z4, by omega, hfb, z7, by omega, fun g H5 rvs2 rows2 sb5 hg hgb hg5 hR2 hD2 hl2 B5 => ?_⟩
      refine ⟨_, rfl, f, _, rfl, .inl (SqL.of (sb5 _ _ hfb z2)), _, _, rfl, rfl, by show 1 ≤ sizeLine; decide, fun sl hsl => ?_⟩
      dsimp only
      have ss := same_upd (o := .lst [.int ((rvs.length : Int) - 1)]) hsl
      refine ⟨by show 2 ≤ sizeLine; decide, fun t ht => ⟨t, _, rfl, SqT.of upd_same, rfl, _, _, rfl, _, _, rfl, rfl, ?_⟩⟩
      have st := same_upd (o := .tup [.ref g, .ref sl]) ht
      have e1 : ((rvs.length : Int) - 1) = ((rows.length - 1 : Nat) : Int) := by
        have := z3.len
        omega
      have hsl6 : (upd (upd H5 sl (.lst [.int ((rvs.length : Int) - 1)])) t (.tup [.ref g, .ref sl])) sl = some (.lst (ivs [rows.length - 1])) := by
        refine st _ _ ?_
        rw [upd_same, e1]
        rfl
      have sst := ss.trans st
      have B6 := B5.same sst
      have hslb : sl ≠ b := box_ne B5 hsl
      have hg6 := sst _ _ hg5
      have hgs : g ≠ sl := ne_of_none hg5 hsl
      have hR6 : All2 (RowV K (upd (upd H5 sl (.lst [.int ((rvs.length : Int) - 1)])) t (.tup [.ref g, .ref sl]))) rvs2 rows2 := hR2.imp fun _ _ h => h.same sst
      have keep5 : ∀ a o, a ≠ b → a ≠ f → H3 a = some o → (upd (upd H5 sl (.lst [.int ((rvs.length : Int) - 1)])) t (.tup [.ref g, .ref sl])) a = some o := fun a o n1 n2 e => sst _ _ (sb5 _ _ n1 (z1 a o n1 n2 e))
      generalize upd (upd H5 sl (.lst [.int ((rvs.length : Int) - 1)])) t (.tup [.ref g, .ref sl]) = H6 at hsl6 B6 hg6 hR6 keep5
      have keepH6 : ∀ a o, a ≠ b → H a = some o → H6 a = some o := fun a o n1 e => keep5 a o n1 (ne_of_none e hfH) (sbH3 a o n1 e)
      have hn6 : H6 f1 = some (.lst (svs names)) := keep5 _ _ hf1b hf1f (sb3 _ _ hf1b (sb2 _ _ hf1b hn1))
      have r9 : rows2.length ≤ 9 := by omega
      refine ⟨_, rfl, b, 3, _, rfl, by decide, by decide, B6, by omega, fun ms H7 hms sb7 B7 => ?_⟩
      refine ⟨ms, rfl, by omega, by omega, ?_⟩
      have dk7 : DK K H6 H7 := B6.dk sb7
      have hg7 := sb7 _ _ hgb hg6
      have hR7 : All2 (RowV K H7) rvs2 rows2 := hR6.imp fun _ _ h => h.dk dk7
      refine for_range (n := ms) (fun i σ H' => (∀ a o, a ≠ b → a ≠ sl → H7 a = some o → H' a = some o) ∧ (∃ starts : List Nat, H' sl = some (.lst (ivs starts)) ∧ (∀ a ∈ starts, a < rows2.length) ∧ starts.length = 1 + i) ∧ TK K H7 H' ∧ BoxV H' b (n + 200 + i) ∧
          ∃ x5, σ = [some (.ref b), some (.int 9), some (.ref wl), some (.ref f1), some (.ref g), x5, some (.ref sl), none, none, none, none, none, none])
        ⟨fun a o _ _ e => e, ⟨[rows.length - 1], sb7 _ _ hslb hsl6, (fun a ha => by rw [List.mem_singleton] at ha; omega), rfl⟩, TK.refl _, B7.mono (by omega), _, rfl⟩ ?_ ?_
      · rintro i σ H8 hi ⟨y1, ⟨starts, y2, y3, y4⟩, y5, y6, x5, rfl⟩
        have hg8 := y1 _ _ hgb hgs hg7
        have lr := hR7.len
        refine ⟨_, rfl, .inl ⟨rfl, _, SqL.of y2⟩, _, rfl, _, rfl, g, _, rfl, .inl (SqL.of hg8), b, rvs2.length, _, rfl, by omega, by omega, y6, by omega, fun r H9 hr sb9 B9 => ?_⟩
        have y2' := sb9 _ _ hslb y2
        have dk9 : DK K H8 H9 := y6.dk sb9
        have dk10 : DK K H9 (upd H9 sl (.lst (ivs starts ++ [.int (r : Int)]))) := dk_lst y2'
        refine ⟨sl, _, _, rfl, rfl, y2', small1000 (by rw [ivs_len]; omega), fun a o n1 n2 e => ?_, ⟨starts ++ [r], ?_, fun a ha => ?_, by rw [List.length_append, y4]; rfl⟩, y5.trans (dk9.t.trans dk10.t), (B9.mono (by omega)).keep (by rw [upd_ne (Ne.symm hslb)]), _, rfl⟩
        · rw [upd_ne n2]
          exact sb9 _ _ n1 (y1 a o n1 n2 e)
        · rw [upd_same, ivs_append]
          rfl
        · rcases List.mem_append.mp ha with h | h
          · exact y3 a h
          · rw [List.mem_singleton] at h
            omega
      · rintro σ H8 ⟨y1, ⟨starts, y2, y3, y4⟩, y5, y6, x5, rfl⟩
        have hg8 := y1 _ _ hgb hgs hg7
        have hR8 : All2 (RowV K H8) rvs2 rows2 := hR7.imp fun _ _ h => h.tk y5
        have ne3 : ∀ a o, a ≠ b → a ≠ f → H3 a = some o → a ≠ sl := fun a o n1 n2 e => ne_of_none (sb5 _ _ n1 (z1 a o n1 n2 e)) hsl
        have keepH8 : ∀ a o, a ≠ b → H a = some o → H8 a = some o := fun a o n1 e =>
          y1 a o n1 (ne3 a o n1 (ne_of_none e hfH) (sbH3 a o n1 e)) (sb7 a o n1 (keepH6 a o n1 e))
        have hn8 : H8 f1 = some (.lst (svs names)) := y1 _ _ hf1b (ne3 _ _ hf1b hf1f (sb3 _ _ hf1b (sb2 _ _ hf1b hn1))) (sb7 _ _ hf1b hn6)
        -- kept
        refine ⟨_, rfl, _, rfl, g, sl, rvs2, rows2, starts, rfl, hg8, hR8, fun r hr => ⟨?_, fun a ha => ?_⟩, by omega, y2, y3, by omega, fun p H9 kept s9 hp hp9 hsrt hklt hkst hkcl => ?_⟩
        · rw [hD2.ar r hr]
          cases r.w <;> decide
        · obtain ⟨k, hk⟩ := List.mem_iff_getElem?.mp hr
          exact (hD2.lt k r hk a ha).1
        have hklen := kept_len hsrt hklt
        have hk1 : 1 ≤ kept.length := by
          have hne : starts ≠ [] := by
            intro h
            rw [h, List.length_nil] at y4
            omega
          obtain ⟨a, l, e⟩ := List.exists_cons_of_ne_nil hne
          exact List.length_pos_of_mem (hkst a (by rw [e]; exact List.mem_cons_self))
        have hg9 := s9 _ _ hg8
        have hR9 : All2 (RowV K H9) rvs2 rows2 := hR8.imp fun _ _ h => h.same s9
        have B9 := y6.same s9
        -- the nodes
        refine ⟨_, rfl, p, rfl, ⟨_, SqL.of hp9⟩, fun D hD0 => ?_⟩
        refine lc_list (K := K) (a := p) (xs := ivs kept) (fun i H' => Same H9 H' ∧ ∃ ws, H' D = some (.lst ws) ∧ All2 (RowV K H') ws ((keepR rows2 kept).take i)) ⟨same_upd hD0, [], upd_same, by rw [List.take_zero]; exact .nil⟩ (fun i H' _ z => z.1.seq (SqL.of hp9)) ?_ ?_
        · rintro i x Hi hx ⟨v1, ws, v2, v3⟩
          obtain ⟨k, hk, rfl⟩ := ivs_get hx
          have hkl := hklt k (List.mem_of_getElem? hk)
          have hr0 : rows2[k]? = some rows2[k] := List.getElem?_eq_getElem hkl
          generalize rows2[k] = r at hr0
          obtain ⟨rv, hrv, hRv⟩ := hR9.at hr0
          obtain ⟨ra, ta, u, rfl, k1, k2, k3⟩ := id hRv
          have k1i := SqT.same k1 v1
          have kcl := hkcl k r (List.mem_of_getElem? hk) hr0
          have hg10 := v1 _ _ hg9
          refine ⟨rfl, _, rfl, _, rfl, g, _, (k : Nat), _, rfl, rfl, SqL.of hg10, atI_nat hrv, 2, rfl, ra, _, rfl, k1i, cut2_no, fun p2 hp2 => ?_⟩
          have ec : cutV [V.str r.w.str, u, .ref ta, .int (r.per : Int)] none (some 2) = [.str r.w.str, u] := by rfl
          rw [ec]
          have sp2 := same_upd (o := .tup [.str r.w.str, u]) hp2
          have v5 := v1.trans sp2
          refine ⟨_, rfl, _, rfl, g, _, (k : Nat), _, rfl, rfl, SqL.of (sp2 _ _ hg10), atI_nat hrv, ra, _, 2, _, rfl, rfl, SqT.same k1 v5, at2, ta, rfl, ⟨_, SqT.same k3 v5⟩, fun D3 hD3 => ?_⟩
          have hp2' : SqT K (upd Hi p2 (.tup [.str r.w.str, u])) p2 [.str r.w.str, u] := SqT.of upd_same
          have v2p := sp2 _ _ v2
          generalize upd Hi p2 (.tup [.str r.w.str, u]) = Hp at sp2 v5 hD3 hp2' v2p
          refine lc_tup (K := K) (a := ta) (xs := r.args.map fun (n : Nat) => V.int (n : Int)) (fun j H' => Same Hp H' ∧ H' D3 = some (.lst (ivs ((r.args.take j).map fun a => posOf a kept)))) ⟨same_upd hD3, by rw [List.take_zero]; exact upd_same⟩ (fun j H' _ z => SqT.same k3 (v5.trans z.1)) ?_ ?_
          · rintro j x Hj hx2 ⟨w1, w2⟩
            obtain ⟨a, ha, rfl⟩ := ivs_get (l := r.args) hx2
            have hak := kcl a (List.mem_of_getElem? ha)
            have hpj : Hj p = some (.lst (ivs kept)) := (v5.trans w1) _ _ hp9
            refine ⟨rfl, _, rfl, .inl ⟨rfl, _, SqL.of hpj⟩, _, rfl, p, ivs kept, .int (a : Int), posOf a kept, .int (a : Int), rfl, rfl, SqL.of hpj, rfl, ivs_flat _, ?_, ?_, ?_, ?_⟩
            · unfold ivs
              rw [List.getElem?_map, posOf_get hak]
              rfl
            · rw [eqV_int]
              exact decide_eq_true rfl
            · intro m z hm hz
              obtain ⟨c, hc, rfl⟩ := ivs_get hz
              rw [eqV_int]
              exact decide_eq_false fun e => posOf_first hm (e ▸ hc)
            · refine ⟨_, w2, small1000 ?_, same_upd_new w1 hD3, ?_⟩
              · rw [ivs_len, List.length_map, List.length_take]
                have h3 : r.args.length ≤ 3 := by
                  rw [hD2.ar r (List.mem_of_getElem? hr0)]
                  cases r.w <;> decide
                omega
              · rw [upd_same, List.take_add_one, ha, Option.toList_some, List.map_append, ivs_append]
                rfl
          · rintro Hj ⟨w1, w2⟩
            rw [List.length_map, List.take_length] at w2
            refine ⟨D3, _, rfl, .inl ⟨SqL.of w2, fun t3 ht3 => ?_⟩⟩
            have s3 := same_upd (o := .tup (ivs (r.args.map fun a => posOf a kept))) ht3
            have v6 := (v5.trans w1).trans s3
            refine ⟨_, rfl, _, rfl, g, _, (k : Nat), _, rfl, rfl, SqL.of (v6 _ _ hg9), atI_nat hrv, ra, _, 3, _, rfl, rfl, SqT.same k1 v6, at3, by show 2 ≤ sizeLine; decide, fun t4 ht4 => ?_⟩
            have s4 := same_upd (o := .tup [.ref t3, .int (r.per : Int)]) ht4
            refine ⟨p2, t4, _, _, rfl, rfl, SqT.same hp2' ((w1.trans s3).trans s4), SqT.of upd_same, by simp, by show 2 + 2 ≤ sizeLine; decide, (fun z => by cases z), fun _ t5 ht5 => ?_⟩
            have s5 := same_upd (o := .tup ([.str r.w.str, u] ++ [.ref t3, .int (r.per : Int)])) ht5
            have s35 := (w1.trans s3).trans (s4.trans s5)
            have hD5 := s35 _ _ v2p
            refine ⟨ws, hD5, small1000 ?_, same_upd_new (v5.trans s35) hD0, _, upd_same, ?_⟩
            · rw [v3.len, List.length_take, keepR_len]
              omega
            · have dk : DK K (upd (upd (upd Hj t3 (.tup (ivs (r.args.map fun a => posOf a kept)))) t4 (.tup [.ref t3, .int (r.per : Int)])) t5 (.tup ([.str r.w.str, u] ++ [.ref t3, .int (r.per : Int)]))) (upd (upd (upd (upd Hj t3 (.tup (ivs (r.args.map fun a => posOf a kept)))) t4 (.tup [.ref t3, .int (r.per : Int)])) t5 (.tup ([.str r.w.str, u] ++ [.ref t3, .int (r.per : Int)]))) D (.lst (ws ++ [.ref t5]))) := dk_lst hD5
              have hrow : RowV K (upd (upd (upd Hj t3 (.tup (ivs (r.args.map fun a => posOf a kept)))) t4 (.tup [.ref t3, .int (r.per : Int)])) t5 (.tup ([.str r.w.str, u] ++ [.ref t3, .int (r.per : Int)]))) (.ref t5) { r with args := r.args.map fun a => posOf a kept } := by
                refine ⟨t5, t3, u, rfl, SqT.of upd_same, ?_, SqT.same (SqT.of upd_same) (s4.trans s5)⟩
                have z := k2.tk (tk_same (v5.trans s35))
                unfold WhatV at z ⊢
                exact z
              rw [List.take_add_one, keepR_get hk hr0, Option.toList_some]
              exact (v3.imp fun _ _ h => ((h.same sp2).same s35).dk dk).snoc (hrow.dk dk)
        · rintro H10 ⟨v1, nws, hD10, v3⟩
          have lk : (keepR rows2 kept).length = (ivs kept).length := by rw [keepR_len, ivs_len]
          rw [← lk, List.take_length] at v3
          have B10 := B9.same v1
          have hDb : D ≠ b := box_ne B9 hD0
          have s810 := s9.trans v1
          have hn10 := s810 _ _ hn8
          have hsl10 := s810 _ _ y2
          have hp10 := v1 _ _ hp9
          have hf1sl : f1 ≠ sl := ne3 _ _ hf1b hf1f (sb3 _ _ hf1b (sb2 _ _ hf1b hn1))
          have hf1p : f1 ≠ p := ne_of_none hn8 hp
          have hf1D : f1 ≠ D := ne_of_none (s9 _ _ hn8) hD0
          have hpb : p ≠ b := box_ne y6 hp
          -- names[2]
          refine ⟨_, rfl, b, 8, _, rfl, by decide, by decide, B10, by omega, fun r11 H11 hr11 sb11 B11' => ⟨rfl, _, rfl, ?_⟩⟩
          have hf1H : H f1 = none := hf1
          have hn11a := sb11 _ _ hf1b hn10
          by_cases hz8 : (r11 : Int) = 0
          · have ed : decide (V.int (r11 : Int) = V.int 0) = true := decide_eq_true (by rw [hz8])
            rw [ed]
            refine iteT ⟨_, rfl, f1, _, (0 : Nat), _, rfl, rfl, SqL.of hn11a, atI_nat (svs_get (by omega)), _, rfl, f1, _, _, 2, rfl, rfl, hn11a, ix2 ln, ?_⟩
            have en2 : (svs names).set 2 (.str (names[0]'(by omega))) = svs (names.set 2 (names[0]'(by omega))) := by
              unfold svs
              rw [List.map_set]
            rw [en2]
            have hnames2 := dist_set ndn ln (i := 0) (by decide) (by omega)
            generalize names.set 2 (names[0]'(by omega)) = names2 at hnames2
            have hn11 : (upd H11 f1 (.lst (svs names2))) f1 = some (.lst (svs names2)) := upd_same
            have hsl11 : (upd H11 f1 (.lst (svs names2))) sl = some (.lst (ivs starts)) := by
              rw [upd_ne (Ne.symm hf1sl)]
              exact sb11 _ _ hslb hsl10
            have hp11 : (upd H11 f1 (.lst (svs names2))) p = some (.lst (ivs kept)) := by
              rw [upd_ne (Ne.symm hf1p)]
              exact sb11 _ _ hpb hp10
            have hD11 : (upd H11 f1 (.lst (svs names2))) D = some (.lst nws) := by
              rw [upd_ne (Ne.symm hf1D)]
              exact sb11 _ _ hDb hD10
            have dk11 : DK K H10 (upd H11 f1 (.lst (svs names2))) := (B10.dk sb11).trans (dk_lst hn11a)
            have hn11' : All2 (RowV K (upd H11 f1 (.lst (svs names2)))) nws (keepR rows2 kept) := v3.imp fun _ _ h => h.dk dk11
            have B11 : BoxV (upd H11 f1 (.lst (svs names2))) b _ := B11'.keep (by rw [upd_ne (Ne.symm hf1b)])
            have keep11 : ∀ a o, a ≠ b → H a = some o → (upd H11 f1 (.lst (svs names2))) a = some o := fun a o n1 e => by
              rw [upd_ne (ne_of_none e hf1H)]
              exact sb11 _ _ n1 (s810 _ _ (keepH8 a o n1 e))
            generalize upd H11 f1 (.lst (svs names2)) = H11 at hn11 hsl11 hp11 hD11 hn11' B11 keep11
            -- the names for the outs
            have n5 : names2.length = 5 := hnames2.1
            have hdist := hnames2.2
            refine ⟨_, rfl, sl, _, rfl, SqL.of hsl11, fun D2 hE2 => ?_⟩
            refine lc_it walk_enum (fun k H' => Same H11 H' ∧ ∃ ws, H' D2 = some (.lst ws) ∧ All2 (fun v (o : Str × Nat) => ∃ p, v = .ref p ∧ SqT K H' p [.str o.1, .int (o.2 : Int)]) ws ((outsOf names2 kept starts).take k))
              ⟨same_upd hE2, [], upd_same, by rw [List.take_zero]; exact .nil⟩ (fun k H' _ z => z.1.seq (SqL.of hsl11)) ?_ ?_
            · rintro k x Hk Hk' hk ⟨v1, ws, v2, v3⟩ ⟨T1, u1, u2, rfl, hT1, rfl, e1, e2⟩
              cases e1
              obtain ⟨one, ho1, rfl⟩ := ivs_get e2
              have hks : k < starts.length := (List.getElem?_eq_some_iff.mp ho1).1
              have sT := same_upd (o := .tup [.int (k : Int), .int (one : Int)]) hT1
              have v4 := v1.trans sT
              have hone := hkst one (List.mem_of_getElem? ho1)
              have h2k : 2 + k < names2.length := by omega
              have ei : (2 : Int) + (k : Int) = ((2 + k : Nat) : Int) := by omega
              refine ⟨T1, _, rfl, SqT.of upd_same, rfl, _, _, rfl, _, _, rfl, rfl, rfl, ?_⟩
              refine ⟨_, rfl, _, rfl, _, _, rfl, rfl, f1, _, (2 : Int) + (k : Int), _, rfl, rfl, SqL.of (v4 _ _ hn11), (by rw [ei]; exact atI_nat (svs_get h2k)), ?_⟩
              refine ⟨_, rfl, .inl ⟨rfl, _, SqL.of (v4 _ _ hp11)⟩, _, rfl, p, ivs kept, .int (one : Int), posOf one kept, .int (one : Int), rfl, rfl, SqL.of (v4 _ _ hp11), rfl, ivs_flat _, ?_, ?_, ?_, ?_⟩
              · unfold ivs
                rw [List.getElem?_map, posOf_get hone]
                rfl
              · rw [eqV_int]
                exact decide_eq_true rfl
              · intro m z hm hz
                obtain ⟨c, hc, rfl⟩ := ivs_get hz
                rw [eqV_int]
                exact decide_eq_false fun e => posOf_first hm (e ▸ hc)
              · refine ⟨by show 2 ≤ sizeLine; decide, fun t2 ht2 => ?_⟩
                have s2 := same_upd (o := .tup [.str names2[2 + k], .int ((posOf one kept : Nat) : Int)]) ht2
                have hD2' := s2 _ _ (sT _ _ v2)
                refine ⟨ws, hD2', small1000 ?_, same_upd_new (v4.trans s2) hE2, _, upd_same, ?_⟩
                · rw [v3.len, List.length_take]
                  omega
                · have dk : DK K (upd (upd Hk T1 (.tup [.int (k : Int), .int (one : Int)])) t2 (.tup [.str names2[2 + k], .int ((posOf one kept : Nat) : Int)])) (upd (upd (upd Hk T1 (.tup [.int (k : Int), .int (one : Int)])) t2 (.tup [.str names2[2 + k], .int ((posOf one kept : Nat) : Int)])) D2 (.lst (ws ++ [.ref t2]))) := dk_lst hD2'
                  have eo : (outsOf names2 kept starts)[k]? = some (names2[2 + k], posOf one kept) := by
                    unfold outsOf
                    rw [List.getElem?_map, List.getElem?_range hks]
                    show some (names2.getD (2 + k) "", posOf (starts.getD k 0) kept) = _
                    rw [List.getD_eq_getElem?_getD, List.getD_eq_getElem?_getD, ho1, List.getElem?_eq_getElem h2k]
                    rfl
                  rw [List.take_add_one, eo, Option.toList_some]
                  exact (v3.imp fun _ _ ⟨p', z1, z2⟩ => ⟨p', z1, dk.t _ _ (SqT.same (SqT.same z2 sT) s2)⟩).snoc ⟨t2, rfl, dk.t _ _ (SqT.of upd_same)⟩
            · rintro Hk ⟨v1, ws, v2, v3⟩
              have lo : (outsOf names2 kept starts).length = (ivs starts).length := by
                unfold outsOf
                rw [List.length_map, List.length_range, ivs_len]
              rw [← lo, List.take_length] at v3
              refine ⟨D2, ws, rfl, .inl ⟨SqL.of v2, fun ot hot => ?_⟩⟩
              have sot := same_upd (o := .tup ws) hot
              have s12 := v1.trans sot
              have ho12 : OutsV K (upd Hk ot (.tup ws)) (.ref ot) (outsOf names2 kept starts) := ⟨ot, ws, rfl, SqT.of upd_same, v3.imp fun _ _ ⟨p', z1, z2⟩ => ⟨p', z1, SqT.same z2 sot⟩⟩
              have hD12 := s12 _ _ hD11
              have hn12 : All2 (RowV K (upd Hk ot (.tup ws))) nws (keepR rows2 kept) := hn11'.imp fun _ _ h => h.same s12
              have B12 := B11.same s12
              have keep12 : ∀ a o, a ≠ b → H a = some o → (upd Hk ot (.tup ws)) a = some o := fun a o n1 e => s12 _ _ (keep11 a o n1 e)
              generalize upd Hk ot (.tup ws) = H12 at ho12 hD12 hn12 B12 keep12
              -- turned
              have llen : nws.length = kept.length := by rw [hn12.len, keepR_len]
              have wokT : ∀ tl : List Nat, tl.Perm (List.range kept.length) → WOk (keepR rows2 kept) (outsOf names2 kept starts) tl := fun tl hp => ⟨hD2.kept hsrt hklt hkcl, by rw [keepR_len]; exact hk1, by rw [keepR_len]; omega, by rw [keepR_len]; exact hp, fun o ho => by
                rw [keepR_len]
                obtain ⟨k, hk, rfl⟩ := List.mem_map.mp ho
                have hks := List.mem_range.mp hk
                show posOf (starts.getD k 0) kept < kept.length
                refine (List.getElem?_eq_some_iff.mp (posOf_get (hkst _ ?_))).1
                rw [List.getD_eq_getElem?_getD, List.getElem?_eq_getElem hks, Option.getD_some]
                exact List.getElem_mem hks, outs_nodup n5 hdist (by omega), by unfold outsOf; rw [List.length_map, List.length_range]; omega⟩
              refine ⟨_, rfl, b, 2, _, rfl, by decide, by decide, B12, by omega, fun r13 H13 hr13 sb13 B13 => ⟨rfl, _, rfl, ?_⟩⟩
              have hD13 := sb13 _ _ hDb hD12
              have dk13 : DK K H12 H13 := B12.dk sb13
              have hn13 : All2 (RowV K H13) nws (keepR rows2 kept) := hn12.imp fun _ _ h => h.dk dk13
              have ho13 : OutsV K H13 (.ref ot) (outsOf names2 kept starts) := ho12.tk dk13.t
              have keep13 : ∀ a o, a ≠ b → H a = some o → H13 a = some o := fun a o n1 e => sb13 _ _ n1 (keep12 a o n1 e)
              by_cases hz : (r13 : Int) = 0
              · have ed : decide (V.int (r13 : Int) = V.int 0) = true := decide_eq_true (by rw [hz])
                rw [ed]
                refine iteT ⟨_, rfl, _, rfl, D, _, rfl, .inl (SqL.of hD13), nws.length, rfl, RgOk.of_le (by decide) (by omega) (by decide) (by omega), fun lr hlr => ?_⟩
                rw [rg_ivs]
                have slr := same_upd (o := .lst (ivs (List.range nws.length))) hlr
                have hlrb := box_ne B13 hlr
                refine ⟨b, lr, List.range nws.length, _, rfl, hlrb, upd_same, by rw [List.length_range]; omega, B13.same slr, by omega, fun TL HT tl sbT hTL0 hTLb hTL hperm BT => ?_⟩
                have sbA : SameB b H13 HT := (Same.b slr b).trans sbT
                have dkT : DK K H13 HT := B13.dk sbA
                have hDT := sbA _ _ hDb hD13
                have hnT : All2 (RowV K HT) nws (keepR rows2 kept) := hn13.imp fun _ _ h => h.dk dkT
                have hoT := ho13.tk dkT.t
                have keepT : ∀ a o, a ≠ b → H a = some o → HT a = some o := fun a o n1 e => sbA _ _ n1 (keep13 a o n1 e)
                have wok := wokT tl (by rw [← llen]; exact hperm)
                have lT : (List.range nws.length).length ≤ 10 := by rw [List.length_range]; omega
                -- the dict
                refine fun wd hwd => ⟨_, rfl, _, rfl, _, rfl, upd_same, [(.inr "nodes", .ref D), (.inr "outs", .ref ot), (.inr "turned", .ref TL)], rfl, by show 3 ≤ 15; decide, ?_⟩
                rw [merge3]
                have swd := same_upd (o := .dK []) hwd
                have hup : upd (upd HT wd (.dK [])) wd (.dK [(.inr "nodes", .ref D), (.inr "outs", .ref ot), (.inr "turned", .ref TL)]) = upd HT wd (.dK [(.inr "nodes", .ref D), (.inr "outs", .ref ot), (.inr "turned", .ref TL)]) := by
                  funext a
                  by_cases h : a = wd
                  · rw [h, upd_same, upd_same]
                  · rw [upd_ne h, upd_ne h, upd_ne h]
                rw [hup]
                have swd2 := same_upd (o := .dK [(.inr "nodes", .ref D), (.inr "outs", .ref ot), (.inr "turned", .ref TL)]) hwd
                have hwb2 := box_ne BT hwd
                refine q wd _ (keepR rows2 kept) (outsOf names2 kept starts) tl (fun a o n1 e => swd2 _ _ (keepT a o n1 e)) ?_ ⟨D, TL, .ref ot, nws, upd_same, swd2 _ _ hDT, hnT.imp fun _ _ h => h.same swd2, hoT.tk (tk_same swd2), swd2 _ _ hTL⟩ (fun H'' sb => ⟨D, TL, .ref ot, nws, sb _ _ hwb2 upd_same, sb _ _ hDb (swd2 _ _ hDT), hnT.imp (fun _ _ h => (h.same swd2).dk ((BT.same swd2).dk sb)), (hoT.tk (tk_same swd2)).tk ((BT.same swd2).dk sb).t, sb _ _ hTLb (swd2 _ _ hTL)⟩) wok ((BT.same swd2).mono (by omega)) hwb2
                cases e : H wd with
                | none => rfl
                | some o =>
                  have z := keepT wd o hwb2 e
                  rw [hwd] at z
                  cases z
              · have ed : decide (V.int (r13 : Int) = V.int 0) = false := decide_eq_false fun z => hz (V.int.inj z)
                rw [ed]
                refine iteF ⟨_, rfl, D, _, rfl, .inl (SqL.of hD13), nws.length, rfl, RgOk.of_le (by decide) (by omega) (by decide) (by omega), fun TL hTL0 => ?_⟩
                rw [rg_ivs]
                have sT := same_upd (o := .lst (ivs (List.range nws.length))) hTL0
                have hTLb : TL ≠ b := box_ne B13 hTL0
                have hTL : (upd H13 TL (.lst (ivs (List.range nws.length)))) TL = some (.lst (ivs (List.range nws.length))) := upd_same
                have hDT := sT _ _ hD13
                have hnT : All2 (RowV K (upd H13 TL (.lst (ivs (List.range nws.length))))) nws (keepR rows2 kept) := hn13.imp fun _ _ h => h.same sT
                have hoT := ho13.tk (tk_same sT)
                have keepT : ∀ a o, a ≠ b → H a = some o → (upd H13 TL (.lst (ivs (List.range nws.length)))) a = some o := fun a o n1 e => sT _ _ (keep13 a o n1 e)
                have BT := B13.same sT
                have wok := wokT (List.range nws.length) (by rw [llen])
                generalize upd H13 TL (.lst (ivs (List.range nws.length))) = HT at hTL hDT hnT hoT keepT BT
                -- the dict
                refine fun wd hwd => ⟨_, rfl, _, rfl, _, rfl, upd_same, [(.inr "nodes", .ref D), (.inr "outs", .ref ot), (.inr "turned", .ref TL)], rfl, by show 3 ≤ 15; decide, ?_⟩
                rw [merge3]
                have swd := same_upd (o := .dK []) hwd
                have hup : upd (upd HT wd (.dK [])) wd (.dK [(.inr "nodes", .ref D), (.inr "outs", .ref ot), (.inr "turned", .ref TL)]) = upd HT wd (.dK [(.inr "nodes", .ref D), (.inr "outs", .ref ot), (.inr "turned", .ref TL)]) := by
                  funext a
                  by_cases h : a = wd
                  · rw [h, upd_same, upd_same]
                  · rw [upd_ne h, upd_ne h, upd_ne h]
                rw [hup]
                have swd2 := same_upd (o := .dK [(.inr "nodes", .ref D), (.inr "outs", .ref ot), (.inr "turned", .ref TL)]) hwd
                have hwb2 := box_ne BT hwd
                refine q wd _ (keepR rows2 kept) (outsOf names2 kept starts) (List.range nws.length) (fun a o n1 e => swd2 _ _ (keepT a o n1 e)) ?_ ⟨D, TL, .ref ot, nws, upd_same, swd2 _ _ hDT, hnT.imp fun _ _ h => h.same swd2, hoT.tk (tk_same swd2), swd2 _ _ hTL⟩ (fun H'' sb => ⟨D, TL, .ref ot, nws, sb _ _ hwb2 upd_same, sb _ _ hDb (swd2 _ _ hDT), hnT.imp (fun _ _ h => (h.same swd2).dk ((BT.same swd2).dk sb)), (hoT.tk (tk_same swd2)).tk ((BT.same swd2).dk sb).t, sb _ _ hTLb (swd2 _ _ hTL)⟩) wok ((BT.same swd2).mono (by omega)) hwb2
                cases e : H wd with
                | none => rfl
                | some o =>
                  have z := keepT wd o hwb2 e
                  rw [hwd] at z
                  cases z
          · have ed : decide (V.int (r11 : Int) = V.int 0) = false := decide_eq_false fun z => hz8 (V.int.inj z)
            rw [ed]
            refine iteF ⟨_, rfl, f1, _, (2 : Nat), _, rfl, rfl, SqL.of hn11a, atI_nat (svs_get (by omega)), _, rfl, f1, _, _, 2, rfl, rfl, hn11a, ix2 ln, ?_⟩
            have en2 : (svs names).set 2 (.str (names[2]'(by omega))) = svs (names.set 2 (names[2]'(by omega))) := by
              unfold svs
              rw [List.map_set]
            rw [en2]
            have hnames2 := dist_set ndn ln (i := 2) (by decide) (by omega)
            generalize names.set 2 (names[2]'(by omega)) = names2 at hnames2
            have hn11 : (upd H11 f1 (.lst (svs names2))) f1 = some (.lst (svs names2)) := upd_same
            have hsl11 : (upd H11 f1 (.lst (svs names2))) sl = some (.lst (ivs starts)) := by
              rw [upd_ne (Ne.symm hf1sl)]
              exact sb11 _ _ hslb hsl10
            have hp11 : (upd H11 f1 (.lst (svs names2))) p = some (.lst (ivs kept)) := by
              rw [upd_ne (Ne.symm hf1p)]
              exact sb11 _ _ hpb hp10
            have hD11 : (upd H11 f1 (.lst (svs names2))) D = some (.lst nws) := by
              rw [upd_ne (Ne.symm hf1D)]
              exact sb11 _ _ hDb hD10
            have dk11 : DK K H10 (upd H11 f1 (.lst (svs names2))) := (B10.dk sb11).trans (dk_lst hn11a)
            have hn11' : All2 (RowV K (upd H11 f1 (.lst (svs names2)))) nws (keepR rows2 kept) := v3.imp fun _ _ h => h.dk dk11
            have B11 : BoxV (upd H11 f1 (.lst (svs names2))) b _ := B11'.keep (by rw [upd_ne (Ne.symm hf1b)])
            have keep11 : ∀ a o, a ≠ b → H a = some o → (upd H11 f1 (.lst (svs names2))) a = some o := fun a o n1 e => by
              rw [upd_ne (ne_of_none e hf1H)]
              exact sb11 _ _ n1 (s810 _ _ (keepH8 a o n1 e))
            generalize upd H11 f1 (.lst (svs names2)) = H11 at hn11 hsl11 hp11 hD11 hn11' B11 keep11
            -- the names for the outs
            have n5 : names2.length = 5 := hnames2.1
            have hdist := hnames2.2
            refine ⟨_, rfl, sl, _, rfl, SqL.of hsl11, fun D2 hE2 => ?_⟩
            refine lc_it walk_enum (fun k H' => Same H11 H' ∧ ∃ ws, H' D2 = some (.lst ws) ∧ All2 (fun v (o : Str × Nat) => ∃ p, v = .ref p ∧ SqT K H' p [.str o.1, .int (o.2 : Int)]) ws ((outsOf names2 kept starts).take k))
              ⟨same_upd hE2, [], upd_same, by rw [List.take_zero]; exact .nil⟩ (fun k H' _ z => z.1.seq (SqL.of hsl11)) ?_ ?_
            · rintro k x Hk Hk' hk ⟨v1, ws, v2, v3⟩ ⟨T1, u1, u2, rfl, hT1, rfl, e1, e2⟩
              cases e1
              obtain ⟨one, ho1, rfl⟩ := ivs_get e2
              have hks : k < starts.length := (List.getElem?_eq_some_iff.mp ho1).1
              have sT := same_upd (o := .tup [.int (k : Int), .int (one : Int)]) hT1
              have v4 := v1.trans sT
              have hone := hkst one (List.mem_of_getElem? ho1)
              have h2k : 2 + k < names2.length := by omega
              have ei : (2 : Int) + (k : Int) = ((2 + k : Nat) : Int) := by omega
              refine ⟨T1, _, rfl, SqT.of upd_same, rfl, _, _, rfl, _, _, rfl, rfl, rfl, ?_⟩
              refine ⟨_, rfl, _, rfl, _, _, rfl, rfl, f1, _, (2 : Int) + (k : Int), _, rfl, rfl, SqL.of (v4 _ _ hn11), (by rw [ei]; exact atI_nat (svs_get h2k)), ?_⟩
              refine ⟨_, rfl, .inl ⟨rfl, _, SqL.of (v4 _ _ hp11)⟩, _, rfl, p, ivs kept, .int (one : Int), posOf one kept, .int (one : Int), rfl, rfl, SqL.of (v4 _ _ hp11), rfl, ivs_flat _, ?_, ?_, ?_, ?_⟩
              · unfold ivs
                rw [List.getElem?_map, posOf_get hone]
                rfl
              · rw [eqV_int]
                exact decide_eq_true rfl
              · intro m z hm hz
                obtain ⟨c, hc, rfl⟩ := ivs_get hz
                rw [eqV_int]
                exact decide_eq_false fun e => posOf_first hm (e ▸ hc)
              · refine ⟨by show 2 ≤ sizeLine; decide, fun t2 ht2 => ?_⟩
                have s2 := same_upd (o := .tup [.str names2[2 + k], .int ((posOf one kept : Nat) : Int)]) ht2
                have hD2' := s2 _ _ (sT _ _ v2)
                refine ⟨ws, hD2', small1000 ?_, same_upd_new (v4.trans s2) hE2, _, upd_same, ?_⟩
                · rw [v3.len, List.length_take]
                  omega
                · have dk : DK K (upd (upd Hk T1 (.tup [.int (k : Int), .int (one : Int)])) t2 (.tup [.str names2[2 + k], .int ((posOf one kept : Nat) : Int)])) (upd (upd (upd Hk T1 (.tup [.int (k : Int), .int (one : Int)])) t2 (.tup [.str names2[2 + k], .int ((posOf one kept : Nat) : Int)])) D2 (.lst (ws ++ [.ref t2]))) := dk_lst hD2'
                  have eo : (outsOf names2 kept starts)[k]? = some (names2[2 + k], posOf one kept) := by
                    unfold outsOf
                    rw [List.getElem?_map, List.getElem?_range hks]
                    show some (names2.getD (2 + k) "", posOf (starts.getD k 0) kept) = _
                    rw [List.getD_eq_getElem?_getD, List.getD_eq_getElem?_getD, ho1, List.getElem?_eq_getElem h2k]
                    rfl
                  rw [List.take_add_one, eo, Option.toList_some]
                  exact (v3.imp fun _ _ ⟨p', z1, z2⟩ => ⟨p', z1, dk.t _ _ (SqT.same (SqT.same z2 sT) s2)⟩).snoc ⟨t2, rfl, dk.t _ _ (SqT.of upd_same)⟩
            · rintro Hk ⟨v1, ws, v2, v3⟩
              have lo : (outsOf names2 kept starts).length = (ivs starts).length := by
                unfold outsOf
                rw [List.length_map, List.length_range, ivs_len]
              rw [← lo, List.take_length] at v3
              refine ⟨D2, ws, rfl, .inl ⟨SqL.of v2, fun ot hot => ?_⟩⟩
              have sot := same_upd (o := .tup ws) hot
              have s12 := v1.trans sot
              have ho12 : OutsV K (upd Hk ot (.tup ws)) (.ref ot) (outsOf names2 kept starts) := ⟨ot, ws, rfl, SqT.of upd_same, v3.imp fun _ _ ⟨p', z1, z2⟩ => ⟨p', z1, SqT.same z2 sot⟩⟩
              have hD12 := s12 _ _ hD11
              have hn12 : All2 (RowV K (upd Hk ot (.tup ws))) nws (keepR rows2 kept) := hn11'.imp fun _ _ h => h.same s12
              have B12 := B11.same s12
              have keep12 : ∀ a o, a ≠ b → H a = some o → (upd Hk ot (.tup ws)) a = some o := fun a o n1 e => s12 _ _ (keep11 a o n1 e)
              generalize upd Hk ot (.tup ws) = H12 at ho12 hD12 hn12 B12 keep12
              -- turned
              have llen : nws.length = kept.length := by rw [hn12.len, keepR_len]
              have wokT : ∀ tl : List Nat, tl.Perm (List.range kept.length) → WOk (keepR rows2 kept) (outsOf names2 kept starts) tl := fun tl hp => ⟨hD2.kept hsrt hklt hkcl, by rw [keepR_len]; exact hk1, by rw [keepR_len]; omega, by rw [keepR_len]; exact hp, fun o ho => by
                rw [keepR_len]
                obtain ⟨k, hk, rfl⟩ := List.mem_map.mp ho
                have hks := List.mem_range.mp hk
                show posOf (starts.getD k 0) kept < kept.length
                refine (List.getElem?_eq_some_iff.mp (posOf_get (hkst _ ?_))).1
                rw [List.getD_eq_getElem?_getD, List.getElem?_eq_getElem hks, Option.getD_some]
                exact List.getElem_mem hks, outs_nodup n5 hdist (by omega), by unfold outsOf; rw [List.length_map, List.length_range]; omega⟩
              refine ⟨_, rfl, b, 2, _, rfl, by decide, by decide, B12, by omega, fun r13 H13 hr13 sb13 B13 => ⟨rfl, _, rfl, ?_⟩⟩
              have hD13 := sb13 _ _ hDb hD12
              have dk13 : DK K H12 H13 := B12.dk sb13
              have hn13 : All2 (RowV K H13) nws (keepR rows2 kept) := hn12.imp fun _ _ h => h.dk dk13
              have ho13 : OutsV K H13 (.ref ot) (outsOf names2 kept starts) := ho12.tk dk13.t
              have keep13 : ∀ a o, a ≠ b → H a = some o → H13 a = some o := fun a o n1 e => sb13 _ _ n1 (keep12 a o n1 e)
              by_cases hz : (r13 : Int) = 0
              · have ed : decide (V.int (r13 : Int) = V.int 0) = true := decide_eq_true (by rw [hz])
                rw [ed]
                refine iteT ⟨_, rfl, _, rfl, D, _, rfl, .inl (SqL.of hD13), nws.length, rfl, RgOk.of_le (by decide) (by omega) (by decide) (by omega), fun lr hlr => ?_⟩
                rw [rg_ivs]
                have slr := same_upd (o := .lst (ivs (List.range nws.length))) hlr
                have hlrb := box_ne B13 hlr
                refine ⟨b, lr, List.range nws.length, _, rfl, hlrb, upd_same, by rw [List.length_range]; omega, B13.same slr, by omega, fun TL HT tl sbT hTL0 hTLb hTL hperm BT => ?_⟩
                have sbA : SameB b H13 HT := (Same.b slr b).trans sbT
                have dkT : DK K H13 HT := B13.dk sbA
                have hDT := sbA _ _ hDb hD13
                have hnT : All2 (RowV K HT) nws (keepR rows2 kept) := hn13.imp fun _ _ h => h.dk dkT
                have hoT := ho13.tk dkT.t
                have keepT : ∀ a o, a ≠ b → H a = some o → HT a = some o := fun a o n1 e => sbA _ _ n1 (keep13 a o n1 e)
                have wok := wokT tl (by rw [← llen]; exact hperm)
                have lT : (List.range nws.length).length ≤ 10 := by rw [List.length_range]; omega
                -- the dict
                refine fun wd hwd => ⟨_, rfl, _, rfl, _, rfl, upd_same, [(.inr "nodes", .ref D), (.inr "outs", .ref ot), (.inr "turned", .ref TL)], rfl, by show 3 ≤ 15; decide, ?_⟩
                rw [merge3]
                have swd := same_upd (o := .dK []) hwd
                have hup : upd (upd HT wd (.dK [])) wd (.dK [(.inr "nodes", .ref D), (.inr "outs", .ref ot), (.inr "turned", .ref TL)]) = upd HT wd (.dK [(.inr "nodes", .ref D), (.inr "outs", .ref ot), (.inr "turned", .ref TL)]) := by
                  funext a
                  by_cases h : a = wd
                  · rw [h, upd_same, upd_same]
                  · rw [upd_ne h, upd_ne h, upd_ne h]
                rw [hup]
                have swd2 := same_upd (o := .dK [(.inr "nodes", .ref D), (.inr "outs", .ref ot), (.inr "turned", .ref TL)]) hwd
                have hwb2 := box_ne BT hwd
                refine q wd _ (keepR rows2 kept) (outsOf names2 kept starts) tl (fun a o n1 e => swd2 _ _ (keepT a o n1 e)) ?_ ⟨D, TL, .ref ot, nws, upd_same, swd2 _ _ hDT, hnT.imp fun _ _ h => h.same swd2, hoT.tk (tk_same swd2), swd2 _ _ hTL⟩ (fun H'' sb => ⟨D, TL, .ref ot, nws, sb _ _ hwb2 upd_same, sb _ _ hDb (swd2 _ _ hDT), hnT.imp (fun _ _ h => (h.same swd2).dk ((BT.same swd2).dk sb)), (hoT.tk (tk_same swd2)).tk ((BT.same swd2).dk sb).t, sb _ _ hTLb (swd2 _ _ hTL)⟩) wok ((BT.same swd2).mono (by omega)) hwb2
                cases e : H wd with
                | none => rfl
                | some o =>
                  have z := keepT wd o hwb2 e
                  rw [hwd] at z
                  cases z
              · have ed : decide (V.int (r13 : Int) = V.int 0) = false := decide_eq_false fun z => hz (V.int.inj z)
                rw [ed]
                refine iteF ⟨_, rfl, D, _, rfl, .inl (SqL.of hD13), nws.length, rfl, RgOk.of_le (by decide) (by omega) (by decide) (by omega), fun TL hTL0 => ?_⟩
                rw [rg_ivs]
                have sT := same_upd (o := .lst (ivs (List.range nws.length))) hTL0
                have hTLb : TL ≠ b := box_ne B13 hTL0
                have hTL : (upd H13 TL (.lst (ivs (List.range nws.length)))) TL = some (.lst (ivs (List.range nws.length))) := upd_same
                have hDT := sT _ _ hD13
                have hnT : All2 (RowV K (upd H13 TL (.lst (ivs (List.range nws.length))))) nws (keepR rows2 kept) := hn13.imp fun _ _ h => h.same sT
                have hoT := ho13.tk (tk_same sT)
                have keepT : ∀ a o, a ≠ b → H a = some o → (upd H13 TL (.lst (ivs (List.range nws.length)))) a = some o := fun a o n1 e => sT _ _ (keep13 a o n1 e)
                have BT := B13.same sT
                have wok := wokT (List.range nws.length) (by rw [llen])
                generalize upd H13 TL (.lst (ivs (List.range nws.length))) = HT at hTL hDT hnT hoT keepT BT
                -- the dict
                refine fun wd hwd => ⟨_, rfl, _, rfl, _, rfl, upd_same, [(.inr "nodes", .ref D), (.inr "outs", .ref ot), (.inr "turned", .ref TL)], rfl, by show 3 ≤ 15; decide, ?_⟩
                rw [merge3]
                have swd := same_upd (o := .dK []) hwd
                have hup : upd (upd HT wd (.dK [])) wd (.dK [(.inr "nodes", .ref D), (.inr "outs", .ref ot), (.inr "turned", .ref TL)]) = upd HT wd (.dK [(.inr "nodes", .ref D), (.inr "outs", .ref ot), (.inr "turned", .ref TL)]) := by
                  funext a
                  by_cases h : a = wd
                  · rw [h, upd_same, upd_same]
                  · rw [upd_ne h, upd_ne h, upd_ne h]
                rw [hup]
                have swd2 := same_upd (o := .dK [(.inr "nodes", .ref D), (.inr "outs", .ref ot), (.inr "turned", .ref TL)]) hwd
                have hwb2 := box_ne BT hwd
                refine q wd _ (keepR rows2 kept) (outsOf names2 kept starts) (List.range nws.length) (fun a o n1 e => swd2 _ _ (keepT a o n1 e)) ?_ ⟨D, TL, .ref ot, nws, upd_same, swd2 _ _ hDT, hnT.imp fun _ _ h => h.same swd2, hoT.tk (tk_same swd2), swd2 _ _ hTL⟩ (fun H'' sb => ⟨D, TL, .ref ot, nws, sb _ _ hwb2 upd_same, sb _ _ hDb (swd2 _ _ hDT), hnT.imp (fun _ _ h => (h.same swd2).dk ((BT.same swd2).dk sb)), (hoT.tk (tk_same swd2)).tk ((BT.same swd2).dk sb).t, sb _ _ hTLb (swd2 _ _ hTL)⟩) wok ((BT.same swd2).mono (by omega)) hwb2
                cases e : H wd with
                | none => rfl
                | some o =>
                  have z := keepT wd o hwb2 e
                  rw [hwd] at z
                  cases z
end
end K70
/-! K70, part LJ: graph_of. -/
namespace K70
open PySem PySem.Spec PyProof.Rows L2
def sig (turned : List Nat) (j : Nat) : Nat := turned.getD j 0
def turnRow (turned : List Nat) (r : Row) : Row := { r with args := r.args.map (sig turned) }
def turnR (rows : List Row) (turned : List Nat) : List Row := (List.range rows.length).map fun i => turnRow turned (rows.getD (posOf i turned) rowD)
theorem sig_get {turned : List Nat} {j : Nat} (h : j < turned.length) : turned[j]? = some (sig turned j) := by
  unfold sig
  rw [List.getD_eq_getElem?_getD, List.getElem?_eq_getElem h, Option.getD_some]
section
variable {rows : List Row} {outs : List (Str × Nat)} {turned : List Nat}
theorem WOk.tl (W : WOk rows outs turned) : turned.length = rows.length := by rw [W.t.length_eq, List.length_range]
theorem WOk.tm (W : WOk rows outs turned) {i : Nat} : i ∈ turned ↔ i < rows.length := by rw [W.t.mem_iff, List.mem_range]
theorem WOk.tn (W : WOk rows outs turned) : turned.Nodup := W.t.nodup_iff.mpr List.nodup_range
theorem WOk.sl (W : WOk rows outs turned) {j : Nat} (h : j < rows.length) : sig turned j < rows.length := W.tm.mp (List.mem_of_getElem? (sig_get (by rw [W.tl]; exact h)))
theorem WOk.pos (W : WOk rows outs turned) {j : Nat} (h : j < rows.length) : posOf (sig turned j) turned = j := by
  have e := sig_get (turned := turned) (j := j) (by rw [W.tl]; exact h)
  exact nd_ix W.tn (posOf_get (List.mem_of_getElem? e)) e
theorem WOk.sp (W : WOk rows outs turned) {i : Nat} (h : i < rows.length) : posOf i turned < rows.length ∧ sig turned (posOf i turned) = i := by
  have e := posOf_get (W.tm.mpr h)
  have hl := (List.getElem?_eq_some_iff.mp e).1
  have e2 := sig_get hl
  rw [e] at e2
  exact ⟨by rw [← W.tl]; exact hl, (Option.some.inj e2).symm⟩
theorem turnR_len : (turnR rows turned).length = rows.length := by
  unfold turnR
  rw [List.length_map, List.length_range]
theorem WOk.tr (W : WOk rows outs turned) {j : Nat} {r : Row} (h : rows[j]? = some r) : (turnR rows turned)[sig turned j]? = some (turnRow turned r) := by
  have hj := (List.getElem?_eq_some_iff.mp h).1
  unfold turnR
  rw [List.getElem?_map, List.getElem?_range (W.sl hj)]
  show some (turnRow turned (rows.getD (posOf (sig turned j) turned) rowD)) = _
  rw [W.pos hj, List.getD_eq_getElem?_getD, h, Option.getD_some]
theorem WOk.ti (W : WOk rows outs turned) {i : Nat} {r' : Row} (h : (turnR rows turned)[i]? = some r') : ∃ (j : Nat) (r : Row), rows[j]? = some r ∧ i = sig turned j ∧ r' = turnRow turned r := by
  have hi := (List.getElem?_eq_some_iff.mp h).1
  rw [turnR_len] at hi
  obtain ⟨h1, h2⟩ := W.sp hi
  have er := List.getElem?_eq_getElem h1
  refine ⟨_, _, er, h2.symm, ?_⟩
  have z := W.tr er
  rw [h2, h] at z
  exact Option.some.inj z
def rkT (turned : List Nat) (i : Nat) : Nat := posOf i turned
/-- the graph as the program has it -/
theorem WOk.gok (W : WOk rows outs turned) : GOk (turnR rows turned) (rkT turned) := by
  have G := W.d.gok W.l9
  have back : ∀ r' ∈ turnR rows turned, ∃ (j : Nat) (r : Row), rows[j]? = some r ∧ r' = turnRow turned r := fun r' hr => by
    obtain ⟨i, hi⟩ := List.mem_iff_getElem?.mp hr
    obtain ⟨j, r, e1, _, e2⟩ := W.ti hi
    exact ⟨j, r, e1, e2⟩
  refine ⟨by rw [turnR_len]; exact W.l9, fun r' hr => ?_, fun r' hr a ha => ?_, fun r' hr => ?_, fun r' hr => ?_, fun r' hr a ha ra hra => ?_, fun i r' hr => ?_⟩
  · obtain ⟨j, r, e, rfl⟩ := back r' hr
    show (r.args.map _).length = r.w.ar
    rw [List.length_map]
    exact G.ar r (List.mem_of_getElem? e)
  · obtain ⟨j, r, e, rfl⟩ := back r' hr
    obtain ⟨a0, ha0, rfl⟩ := List.mem_map.mp ha
    rw [turnR_len]
    exact W.sl (G.lt r (List.mem_of_getElem? e) a0 ha0)
  · obtain ⟨j, r, e, rfl⟩ := back r' hr
    exact G.per r (List.mem_of_getElem? e)
  · obtain ⟨j, r, e, rfl⟩ := back r' hr
    exact G.q r (List.mem_of_getElem? e)
  · obtain ⟨j, r, e, rfl⟩ := back r' hr
    obtain ⟨a0, ha0, rfl⟩ := List.mem_map.mp ha
    have hl := G.lt r (List.mem_of_getElem? e) a0 ha0
    have er := List.getElem?_eq_getElem hl
    have z := W.tr er
    rw [hra] at z
    cases z
    have y := G.rel r (List.mem_of_getElem? e) a0 ha0 rows[a0] er
    exact y
  · obtain ⟨j, r, e, rfl, rfl⟩ := W.ti hr
    have hj := (List.getElem?_eq_some_iff.mp e).1
    have g := G.rk j r e
    refine ⟨by unfold rkT; rw [W.pos hj]; exact g.1, fun hw a ha => ?_⟩
    obtain ⟨a0, ha0, rfl⟩ := List.mem_map.mp ha
    have hl := G.lt r (List.mem_of_getElem? e) a0 ha0
    unfold rkT
    rw [W.pos hj, W.pos hl]
    exact g.2 hw a0 ha0
end
section
variable {K : PySem.W.Frag} {H : Hp} {wd : Addr} {rows : List Row} {outs : List (Str × Nat)} {turned : List Nat}
theorem wget1 {x y z : V} (h : H wd = some (.dK [(.inr "nodes", x), (.inr "outs", y), (.inr "turned", z)])) : DGet H wd (.str "nodes") (some x) := .inl ⟨_, .inr "nodes", .inl h, rfl, rfl⟩
theorem wget2 {x y z : V} (h : H wd = some (.dK [(.inr "nodes", x), (.inr "outs", y), (.inr "turned", z)])) : DGet H wd (.str "outs") (some y) := .inl ⟨_, .inr "outs", .inl h, rfl, rfl⟩
theorem wget3 {x y z : V} (h : H wd = some (.dK [(.inr "nodes", x), (.inr "outs", y), (.inr "turned", z)])) : DGet H wd (.str "turned") (some z) := .inl ⟨_, .inr "turned", .inl h, rfl, rfl⟩
theorem WV.same {H' : Hp} (h : WV K H wd rows outs turned) (e : Same H H') : WV K H' wd rows outs turned := by
  obtain ⟨nl, tl, ot, rvs, h1, h2, h3, h4, h5⟩ := h
  exact ⟨nl, tl, ot, rvs, e _ _ h1, e _ _ h2, h3.imp fun _ _ r => r.same e, h4.tk (tk_same e), e _ _ h5⟩
end
section
variable {P : Program} {w : World} {K : PySem.W.Frag} {mg : Str → Option Value} {base : Heap}
def sp_law_graph_of (K : PySem.W.Frag) : Sp := fun vs H Q _ => ∃ (wd : Addr) (rows : List Row) (outs : List (Str × Nat)) (turned : List Nat), vs = [.ref wd] ∧ WV K H wd rows outs turned ∧ WOk rows outs turned ∧
  ∀ gr H' ot, Same H H' → GraphV K H' gr (turnR rows turned) ot → OutsV K H' ot (outs.map fun o => (o.1, sig turned o.2)) → Q (.ref gr) H'
/-! ### _law_graph_of -/
abbrev n_law_graph_of : List Str := ["_law_w", "_law_rows", "_law_k", "_law_row", "_law_one", "_law_called"]
theorem sc_law_graph_of : FnScope n_law_graph_of ["_law_w"] (defScope s_law_graph_of) := ⟨rfl, rfl, rfl, by decide +kernel, rfl, by decide +kernel, by decide +kernel⟩
theorem c_law_graph_of (T : TX K mg) : Cal P w K mg base "_law_graph_of" ["_law_w"] [] 1 (sp_law_graph_of K) := by
  refine cal_of T.g_law_graph_of T.f_law_graph_of (fun _ _ _ _ _ _ us hl => match us, hl with | [_], _ => rfl) fun fd F => okN F sc_law_graph_of (fun vs H Q E h => ?_) (fun cdv A outer s H vs Q E hr h => ?_)
  · obtain ⟨wd, rows, outs, turned, rfl, hW, W, q⟩ := h
    rfl
  · obtain ⟨wd, rows, outs, turned, rfl, hW, W, q⟩ := h
    have hu := hu_of hr
    refine ⟨_, 
      (pss_cons
        (ps_set (i := 1) sc_law_graph_of.nd rfl (by first | exact Or.inl rfl | exact Or.inr rfl) (pe_op op_rep (pe_lst (pa_cons pe_non pa_nil)) (pe_callB (lenSeqK (K := K)) (by rfl) T.z_len (by decide +kernel) (pa_cons (pe_dget hu (pv 0) pe_str (fun _ _ => rfl)) pa_nil))))
      (pss_cons
        (ps_for PassesOwn.never rfl (pi_enum (by rfl) T.z_enumerate (pa_cons (pe_dget hu (pv 0) pe_str (fun _ _ => rfl)) pa_nil)) (pg_tup (by rfl) (pgs_cons (pg_name (i := 2) sc_law_graph_of.nd rfl (by first | exact Or.inl rfl | exact Or.inr rfl)) (pgs_cons (pg_name (i := 3) sc_law_graph_of.nd rfl (by first | exact Or.inl rfl | exact Or.inr rfl)) pgs_nil)))
          (pss_one
            (ps_asg (pe_op (opCatTK (K := K)) (pe_slice (slTupK (K := K)) (pv 3) po_none (po_some pe_int)) (pe_tup (pa_cons (pe_callTy (tupleOfK (K := K)) (by rfl) T.z_tuple (by decide +kernel) (pa_cons (pe_lc (own := [("_law_one", 4)]) rfl sc_law_graph_of.nd (pi_tup (pe_ix (ixT (K := K)) (pv 3) pe_int (fun _ _ => rfl))) (blkOk_by (N := n_law_graph_of) (sc := defScope s_law_graph_of) (by decide +kernel)) (fun _ _ _ _ _ => pg_name (i := 4) sc_law_graph_of.nd rfl (by first | exact Or.inl rfl | exact Or.inr rfl)) (fun _ _ _ _ _ => pts_nil) (fun _ _ _ _ _ => (pe_ix (ixL (K := K)) (pe_dget hu (pv 0) pe_str (fun _ _ => rfl)) (pv 4) (fun _ _ => rfl)))) pa_nil)) (pa_cons (pe_ix (ixT (K := K)) (pv 3) pe_int (fun _ _ => rfl)) pa_nil)))) (pg_sub (pv 1) (pe_ix (ixL (K := K)) (pe_dget hu (pv 0) pe_str (fun _ _ => rfl)) (pv 2) (fun _ _ => rfl)) set_list))))
      (pss_one
        (ps_ret (pe_tup (pa_cons (pe_callTy (tupleOfK (K := K)) (by rfl) T.z_tuple (by decide +kernel) (pa_cons (pv 1) pa_nil)) (pa_cons (pe_callTy (tupleOfK (K := K)) (by rfl) T.z_tuple (by decide +kernel) (pa_cons (pe_lc (own := [("_law_called", 5), ("_law_one", 4)]) (g := gTup K 2 (gCons (gName 5) (gCons (gName 4) (gNil)))) rfl sc_law_graph_of.nd (pi_tup (pe_dget hu (pv 0) pe_str (fun _ _ => rfl))) (blkOk_by (N := n_law_graph_of) (sc := defScope s_law_graph_of) (by decide +kernel)) (fun _ _ _ _ _ => pg_tup (by rfl) (pgs_cons (pg_name (i := 5) sc_law_graph_of.nd rfl (by first | exact Or.inl rfl | exact Or.inr rfl)) (pgs_cons (pg_name (i := 4) sc_law_graph_of.nd rfl (by first | exact Or.inl rfl | exact Or.inr rfl)) pgs_nil))) (fun _ _ _ _ _ => pts_nil) (fun _ _ _ _ _ => (pe_tup (pa_cons (pv 5) (pa_cons (pe_ix (ixL (K := K)) (pe_dget hu (pv 0) pe_str (fun _ _ => rfl)) (pv 4) (fun _ _ => rfl)) pa_nil))))) pa_nil)) pa_nil))))))), ?_⟩
    obtain ⟨nl, tl, ot, rvs, h1, h2, h3, h4, h5⟩ := id hW
    have hlen := h3.len
    have l9 := W.l9
    have tlen := W.tl
    refine ⟨by show 1 ≤ sizeLine; decide, fun p hp => ?_⟩
    have s1 := same_upd (o := .lst [.non]) hp
    refine ⟨_, rfl, wd, _, rfl, wget1 (s1 _ _ h1), nl, _, rfl, .inl (SqL.of (s1 _ _ h2)), p, (rvs.length : Int), _, rfl, rfl, upd_same, by omega, by omega, ?_, fun R hR => ?_⟩
    · refine small2 ?_
      show 1 * _ ≤ 10000
      omega
    have s2 := same_upd (o := .lst (List.replicate ((rvs.length : Nat) : Int).toNat [V.non]).flatten) hR
    have s12 := s1.trans s2
    have erep : ((List.replicate ((rvs.length : Nat) : Int).toNat [V.non]).flatten).length = rows.length := by
      rw [List.length_flatten, List.map_replicate]
      simp
      omega
    refine ⟨_, rfl, wd, _, rfl, wget1 (s12 _ _ h1), nl, _, rfl, SqL.of (s12 _ _ h2), ?_⟩
    have hRH : H R = none := s1.free hR
    have hR2 : (upd (upd H p (.lst [.non])) R (.lst (List.replicate ((rvs.length : Nat) : Int).toNat [V.non]).flatten)) R = some (.lst (List.replicate ((rvs.length : Nat) : Int).toNat [V.non]).flatten) := upd_same
    generalize (List.replicate ((rvs.length : Nat) : Int).toNat [V.non]).flatten = vs0 at s2 s12 erep hR2
    generalize upd (upd H p (.lst [.non])) R (.lst vs0) = H2 at s12 hR2
    refine for_it walk_enum (fun k σ H' => Same H H' ∧ (∃ vs, H' R = some (.lst vs) ∧ vs.length = rows.length ∧ ∀ (j : Nat) (r : Row), j < k → rows[j]? = some r → ∃ v, vs[sig turned j]? = some v ∧ RowV K H' v (turnRow turned r)) ∧ ∃ x2 x3, σ = [some (.ref wd), some (.ref R), x2, x3, none, none])
      ⟨s12, ⟨vs0, hR2, erep, fun j r h => absurd h (Nat.not_lt_zero _)⟩, none, none, rfl⟩ (fun k σ H' _ z => z.1.seq (SqL.of h2)) ?_ ?_
    · rintro k y σ H3 H3' hk ⟨z1, ⟨vs, z2, z3, z4⟩, x2, x3, rfl⟩ ⟨T1, u1, u2, rfl, hT1, rfl, e1, e2⟩
      cases e1
      obtain ⟨r, hr, hRv⟩ := h3.at' e2
      obtain ⟨ra, ta, u, rfl, k1, k2, k3⟩ := id hRv
      have hkl := (List.getElem?_eq_some_iff.mp hr).1
      have sT := same_upd (o := .tup [.int (k : Int), .ref ra]) hT1
      have v1 := z1.trans sT
      have z2' := sT _ _ z2
      refine ⟨T1, _, rfl, SqT.of upd_same, rfl, _, _, rfl, _, _, rfl, rfl, ?_⟩
      have z4' : ∀ (j : Nat) (r : Row), j < k → rows[j]? = some r → ∃ v, vs[sig turned j]? = some v ∧ RowV K (upd H3 T1 (.tup [.int (k : Int), .ref ra])) v (turnRow turned r) := fun j r h e => by
        obtain ⟨v, e1, e2⟩ := z4 j r h e
        exact ⟨v, e1, e2.same sT⟩
      generalize upd H3 T1 (.tup [.int (k : Int), .ref ra]) = H4 at v1 z2' z4'
      refine ⟨_, rfl, 2, rfl, ra, _, rfl, SqT.same k1 v1, cut2_no, fun p2 hp2 => ?_⟩
      have ec : cutV [V.str r.w.str, u, .ref ta, .int (r.per : Int)] none (some 2) = [.str r.w.str, u] := by rfl
      rw [ec]
      have sp2 := same_upd (o := .tup [.str r.w.str, u]) hp2
      have v5 := v1.trans sp2
      refine ⟨_, rfl, ra, _, 2, _, rfl, rfl, SqT.same k1 v5, at2, ta, rfl, ⟨_, SqT.same k3 v5⟩, fun D3 hD3 => ?_⟩
      have hp2' : SqT K (upd H4 p2 (.tup [.str r.w.str, u])) p2 [.str r.w.str, u] := SqT.of upd_same
      generalize upd H4 p2 (.tup [.str r.w.str, u]) = Hp at sp2 v5 hD3 hp2'
      refine lc_tup (K := K) (a := ta) (xs := r.args.map fun (n : Nat) => V.int (n : Int)) (fun j H' => Same Hp H' ∧ H' D3 = some (.lst (ivs ((r.args.take j).map (sig turned))))) ⟨same_upd hD3, by rw [List.take_zero]; exact upd_same⟩ (fun j H' _ z => SqT.same k3 (v5.trans z.1)) ?_ ?_
      · rintro j x Hj hx2 ⟨w1, w2⟩
        obtain ⟨a, ha, rfl⟩ := ivs_get (l := r.args) hx2
        have hal := (W.d.lt k r hr a (List.mem_of_getElem? ha)).1
        have eg : (ivs turned)[a]? = some (.int (sig turned a : Int)) := by
          unfold ivs
          rw [List.getElem?_map, sig_get (by omega)]
          rfl
        refine ⟨rfl, _, rfl, wd, _, rfl, wget3 ((v5.trans w1) _ _ h1), _, rfl, tl, _, (a : Nat), _, rfl, rfl, SqL.of ((v5.trans w1) _ _ h5), atI_nat eg, _, w2, small1000 ?_, same_upd_new w1 hD3, ?_⟩
        · rw [ivs_len, List.length_map, List.length_take]
          have h3 : r.args.length ≤ 3 := by
            rw [W.d.ar r (List.mem_of_getElem? hr)]
            cases r.w <;> decide
          omega
        · rw [upd_same, List.take_add_one, ha, Option.toList_some, List.map_append, ivs_append]
          rfl
      · rintro Hj ⟨w1, w2⟩
        rw [List.length_map, List.take_length] at w2
        refine ⟨D3, _, rfl, .inl ⟨SqL.of w2, fun t3 ht3 => ?_⟩⟩
        have s3 := same_upd (o := .tup (ivs (r.args.map (sig turned)))) ht3
        have v6 := (v5.trans w1).trans s3
        refine ⟨_, rfl, ra, _, 3, _, rfl, rfl, SqT.same k1 v6, at3, by show 2 ≤ sizeLine; decide, fun t4 ht4 => ?_⟩
        have s4 := same_upd (o := .tup [.ref t3, .int (r.per : Int)]) ht4
        refine ⟨p2, t4, _, _, rfl, rfl, SqT.same hp2' ((w1.trans s3).trans s4), SqT.of upd_same, by simp, by show 2 + 2 ≤ sizeLine; decide, (fun z => by cases z), fun _ t5 ht5 => ?_⟩
        have s5 := same_upd (o := .tup ([.str r.w.str, u] ++ [.ref t3, .int (r.per : Int)])) ht5
        have s45 := s4.trans s5
        have s35 := (w1.trans s3).trans s45
        have v7 := v5.trans s35
        have sall := sp2.trans s35
        have hrow : RowV K (upd (upd (upd Hj t3 (.tup (ivs (r.args.map (sig turned))))) t4 (.tup [.ref t3, .int (r.per : Int)])) t5 (.tup ([.str r.w.str, u] ++ [.ref t3, .int (r.per : Int)]))) (.ref t5) (turnRow turned r) := by
          refine ⟨t5, t3, u, rfl, SqT.of upd_same, ?_, SqT.same (SqT.of upd_same) s45⟩
          have z := k2.tk (tk_same v7)
          unfold WhatV at z ⊢
          exact z
        have hR7 := sall _ _ z2'
        have z4'' : ∀ (j : Nat) (rr : Row), j < k → rows[j]? = some rr → ∃ v, vs[sig turned j]? = some v ∧ RowV K (upd (upd (upd Hj t3 (.tup (ivs (r.args.map (sig turned))))) t4 (.tup [.ref t3, .int (r.per : Int)])) t5 (.tup ([.str r.w.str, u] ++ [.ref t3, .int (r.per : Int)]))) v (turnRow turned rr) := by
          intro j rr h e
          obtain ⟨v, f1, f2⟩ := z4' j rr h e
          exact ⟨v, f1, f2.same sall⟩
        have egk : (ivs turned)[k]? = some (.int (sig turned k : Int)) := by
          unfold ivs
          rw [List.getElem?_map, sig_get (by omega)]
          rfl
        refine ⟨_, rfl, _, rfl, wd, _, rfl, wget3 (v7 _ _ h1), _, rfl, tl, _, (k : Nat), _, rfl, rfl, SqL.of (v7 _ _ h5), atI_nat egk, ?_⟩
        have hsk := W.sl hkl
        refine ⟨R, vs, _, sig turned k, rfl, rfl, hR7, ?_, ?_⟩
        · unfold ixN
          rw [if_pos (by omega), if_pos (by omega)]
          congr 1
        · have dk : DK K (upd (upd (upd Hj t3 (.tup (ivs (r.args.map (sig turned))))) t4 (.tup [.ref t3, .int (r.per : Int)])) t5 (.tup ([.str r.w.str, u] ++ [.ref t3, .int (r.per : Int)]))) (upd (upd (upd (upd Hj t3 (.tup (ivs (r.args.map (sig turned))))) t4 (.tup [.ref t3, .int (r.per : Int)])) t5 (.tup ([.str r.w.str, u] ++ [.ref t3, .int (r.per : Int)]))) R (.lst (vs.set (sig turned k) (.ref t5)))) := dk_lst hR7
          refine ⟨same_upd_new v7 hRH, ⟨vs.set (sig turned k) (.ref t5), upd_same, by rw [List.length_set]; exact z3, fun j r' hj hr' => ?_⟩, _, _, rfl⟩
          by_cases hjk : j = k
          · subst hjk
            rw [hr] at hr'
            cases hr'
            exact ⟨_, List.getElem?_set_self (by omega), hrow.dk dk⟩
          · have hjl := (List.getElem?_eq_some_iff.mp hr').1
            have hne : sig turned k ≠ sig turned j := fun z => by
              have e1 := W.pos hkl
              have e2 := W.pos hjl
              rw [z] at e1
              omega
            obtain ⟨v, f1, f2⟩ := z4'' j r' (by omega) hr'
            exact ⟨v, by rw [List.getElem?_set_ne hne]; exact f1, f2.dk dk⟩
    · rintro σ H3 ⟨z1, ⟨vs, z2, z3, z4⟩, x2, x3, rfl⟩
      rw [hlen] at z4
      obtain ⟨oa, ovs, rfl, o1, o2⟩ := id h4
      have hrows : All2 (RowV K H3) vs (turnR rows turned) := All2.of_at (by rw [z3, turnR_len]) fun i v r' ev er => by
        obtain ⟨j, r, e1, e2, e3⟩ := W.ti er
        obtain ⟨v', f1, f2⟩ := z4 j r (List.getElem?_eq_some_iff.mp e1).1 e1
        rw [← e2, ev] at f1
        cases f1
        rw [e3]
        exact f2
      refine ⟨_, rfl, R, vs, rfl, .inl ⟨SqL.of z2, fun nd hnd => ?_⟩⟩
      have snd := same_upd (o := .tup vs) hnd
      have v1 := z1.trans snd
      have hnd' : SqT K (upd H3 nd (.tup vs)) nd vs := SqT.of upd_same
      have hrows' : All2 (RowV K (upd H3 nd (.tup vs))) vs (turnR rows turned) := hrows.imp fun _ _ h => h.same snd
      generalize upd H3 nd (.tup vs) = H4 at v1 hnd' hrows'
      refine ⟨_, rfl, wd, _, rfl, wget2 (v1 _ _ h1), oa, rfl, ⟨_, SqT.same o1 v1⟩, fun D hD => ?_⟩
      refine lc_tup (K := K) (a := oa) (xs := ovs) (fun i H' => Same H4 H' ∧ ∃ ws, H' D = some (.lst ws) ∧ All2 (fun v (o : Str × Nat) => ∃ p, v = .ref p ∧ SqT K H' p [.str o.1, .int (o.2 : Int)]) ws ((outs.map fun o => (o.1, sig turned o.2)).take i))
        ⟨same_upd hD, [], upd_same, by rw [List.take_zero]; exact .nil⟩ (fun i H' _ z => SqT.same o1 (v1.trans z.1)) ?_ ?_
      · rintro i x H5 hx ⟨w1, ws, w2, w3⟩
        obtain ⟨oo, ho1, po, rfl, ho2⟩ := o2.at' hx
        have v5 := v1.trans w1
        have hon := W.on oo (List.mem_of_getElem? ho1)
        have eg : (ivs turned)[oo.2]? = some (.int (sig turned oo.2 : Int)) := by
          unfold ivs
          rw [List.getElem?_map, sig_get (by omega)]
          rfl
        refine ⟨po, _, rfl, SqT.same ho2 v5, rfl, _, _, rfl, _, _, rfl, rfl, rfl, _, rfl, _, rfl, wd, _, rfl, wget3 (v5 _ _ h1), _, rfl, tl, _, (oo.2 : Nat), _, rfl, rfl, SqL.of (v5 _ _ h5), atI_nat eg, by show 2 ≤ sizeLine; decide, fun t ht => ?_⟩
        have st := same_upd (o := .tup [.str oo.1, .int (sig turned oo.2 : Int)]) ht
        have hD5 := st _ _ w2
        have ol := W.ol
        have il := (List.getElem?_eq_some_iff.mp ho1).1
        refine ⟨ws, hD5, small1000 ?_, same_upd_new (w1.trans st) hD, _, upd_same, ?_⟩
        · rw [w3.len, List.length_take, List.length_map]
          omega
        · have dk : DK K (upd H5 t (.tup [.str oo.1, .int (sig turned oo.2 : Int)])) (upd (upd H5 t (.tup [.str oo.1, .int (sig turned oo.2 : Int)])) D (.lst (ws ++ [.ref t]))) := dk_lst hD5
          have eo : (outs.map fun o => (o.1, sig turned o.2))[i]? = some (oo.1, sig turned oo.2) := by
            rw [List.getElem?_map, ho1]
            rfl
          rw [List.take_add_one, eo, Option.toList_some]
          exact (w3.imp fun _ _ ⟨p', q1, q2⟩ => ⟨p', q1, dk.t _ _ (SqT.same q2 st)⟩).snoc ⟨t, rfl, dk.t _ _ (SqT.of upd_same)⟩
      · rintro H5 ⟨w1, ws, w2, w3⟩
        have lo : (outs.map fun o => (o.1, sig turned o.2)).length = ovs.length := by rw [List.length_map, o2.len]
        rw [← lo, List.take_length] at w3
        refine ⟨D, ws, rfl, .inl ⟨SqL.of w2, fun ot hot => ?_⟩⟩
        have sot := same_upd (o := .tup ws) hot
        refine ⟨by show 2 ≤ sizeLine; decide, fun gr hgr => ?_⟩
        have sgr := same_upd (o := .tup [.ref nd, .ref ot]) hgr
        have s2 := sot.trans sgr
        have s3 := w1.trans s2
        exact q gr _ (.ref ot) (v1.trans s3) ⟨nd, vs, SqT.of upd_same, SqT.same hnd' s3, hrows'.imp fun _ _ h => h.same s3⟩ ⟨ot, ws, rfl, SqT.same (SqT.of upd_same) sgr, w3.imp fun _ _ ⟨p', q1, q2⟩ => ⟨p', q1, SqT.same q2 s2⟩⟩
end
end K70
/-! K70, part LK: springs_of, told_by. -/
namespace K70
open PySem PySem.Spec PyProof.Rows L2
theorem pairs_of2 {K : PySem.W.Frag} {H : Hp} {rows : List Row} : ∀ ys : List V, (∀ y ∈ ys, ∃ t r, y = .ref t ∧ H t = some (.tup [.str r.nm, .int (r.per : Int)]) ∧ r ∈ rows ∧ r.w = .spring) →
    ∃ (ps : List Addr) (kvs : List (Key × V)), ys = ps.map V.ref ∧ Paired (fun p (kv : Key × V) => SqT K H p [kV kv.1, kv.2]) ps kvs ∧ (∀ k v, (k, v) ∈ kvs → SpK rows k v) ∧ kvs.length = ys.length ∧ ∀ t nm p, V.ref t ∈ ys → H t = some (.tup [.str nm, .int p]) → ((.inr nm : Key), V.int p) ∈ kvs
  | [], _ => ⟨[], [], rfl, .nil, (fun _ _ h => nomatch h), rfl, fun _ _ _ h => nomatch h⟩
  | y :: ys, h => by
    obtain ⟨ps, kvs, e1, e2, e3, e4, e5⟩ := pairs_of2 (K := K) ys fun z hz => h z (List.mem_cons_of_mem _ hz)
    obtain ⟨t, r, rfl, ht, hr, hw⟩ := h y List.mem_cons_self
    refine ⟨t :: ps, (.inr r.nm, .int (r.per : Int)) :: kvs, by rw [e1]; rfl, .cons (SqT.of ht) e2, fun k v m => ?_, by rw [List.length_cons, List.length_cons, e4], fun t' nm p m ht' => ?_⟩
    · rcases List.mem_cons.mp m with m | m
      · cases m
        exact ⟨r, hr, hw, rfl, rfl⟩
      · exact e3 k v m
    · rcases List.mem_cons.mp m with m | m
      · cases m
        rw [ht] at ht'
        cases ht'
        exact List.mem_cons_self
      · exact List.mem_cons_of_mem _ (e5 t' nm p m ht')
theorem valV_some {l : List (Key × V)} {k : Key} {v : V} (h : (k, v) ∈ l) : (valV l k).isSome = true := by
  rw [← valV_any, List.any_eq_true]
  exact ⟨_, h, decide_eq_true rfl⟩
theorem merge_keep {k : Key} : ∀ {more acc : List (Key × V)}, (valV acc k).isSome = true → (valV (mergeK acc more) k).isSome = true
  | [], _, h => h
  | p :: r, acc, h => by
    show (valV (mergeK (putK acc p.1 p.2) r) k).isSome = true
    refine merge_keep ?_
    rw [valV_put]
    split
    · rfl
    · exact h
theorem merge_some {k : Key} {v : V} : ∀ {more acc : List (Key × V)}, (k, v) ∈ more → (valV (mergeK acc more) k).isSome = true
  | [], _, h => by cases h
  | p :: r, acc, h => by
    show (valV (mergeK (putK acc p.1 p.2) r) k).isSome = true
    rcases List.mem_cons.mp h with h | h
    · subst h
      refine merge_keep ?_
      rw [valV_put, if_pos rfl]
      rfl
    · exact merge_some h
/-- an entry per spring's name -/
def SpD (rows : List Row) (kk : List (Key × V)) : Prop := (∀ k v, (k, v) ∈ kk → SpK rows k v) ∧ (∀ r ∈ rows, r.w = .spring → valV kk (.inr r.nm) = some (.int (r.per : Int))) ∧ kk.length ≤ 9
section
variable {P : Program} {w : World} {K : PySem.W.Frag} {mg : Str → Option Value} {base : Heap}
def sp_law_springs_of (K : PySem.W.Frag) : Sp := fun vs H Q _ => ∃ (wd : Addr) (rows : List Row) (outs : List (Str × Nat)) (turned : List Nat), vs = [.ref wd] ∧ WV K H wd rows outs turned ∧ WOk rows outs turned ∧ ∀ d H' kk, Same H H' → H d = none → H' d = some (.dK kk) → SpD rows kk → Q (.ref d) H'
/-! ### _law_springs_of -/
abbrev n_law_springs_of : List Str := ["_law_w", "_law_row"]
theorem sc_law_springs_of : FnScope n_law_springs_of ["_law_w"] (defScope s_law_springs_of) := ⟨rfl, rfl, rfl, by decide +kernel, rfl, by decide +kernel, by decide +kernel⟩
theorem c_law_springs_of (T : TX K mg) : Cal P w K mg base "_law_springs_of" ["_law_w"] [] 1 (sp_law_springs_of K) := by
  refine cal_of T.g_law_springs_of T.f_law_springs_of (fun _ _ _ _ _ _ us hl => match us, hl with | [_], _ => rfl) fun fd F => okN F sc_law_springs_of (fun vs H Q E h => ?_) (fun cdv A outer s H vs Q E hr h => ?_)
  · obtain ⟨wd, rows, outs, turned, rfl, hW, W, q⟩ := h
    rfl
  · obtain ⟨wd, rows, outs, turned, rfl, hW, W, q⟩ := h
    have hu := hu_of hr
    refine ⟨_, 
      (pss_one
        (ps_ret (pe_callTy (call_dictP rfl) (by rfl) T.z_dict (by decide +kernel) (pa_cons (pe_lc (own := [("_law_row", 1)]) rfl sc_law_springs_of.nd (pi_list (pe_dget hu (pv 0) pe_str (fun _ _ => rfl))) (blkOk_by (N := n_law_springs_of) (sc := defScope s_law_springs_of) (by decide +kernel)) (fun _ _ _ _ _ => pg_name (i := 1) sc_law_springs_of.nd rfl (by first | exact Or.inl rfl | exact Or.inr rfl)) (fun _ _ _ _ _ => pts_one (pt_cmpR op_eq (pe_ix (ixT (K := K)) (pv 1) pe_int (fun _ _ => rfl)) pe_str (nomark _))) (fun _ _ _ _ _ => (pe_tup (pa_cons (pe_ix (ixT (K := K)) (pv 1) pe_int (fun _ _ => rfl)) (pa_cons (pe_ix (ixT (K := K)) (pv 1) pe_int (fun _ _ => rfl)) pa_nil))))) pa_nil)))), ?_⟩
    obtain ⟨nl, tl, ot, rvs, h1, h2, h3, h4, h5⟩ := id hW
    have hlen := h3.len
    have l9 := W.l9
    refine ⟨_, rfl, wd, _, rfl, wget1 h1, nl, rfl, ⟨_, SqL.of h2⟩, fun D hD => ?_⟩
    refine lc_list (K := K) (a := nl) (xs := rvs) (fun i H' => Same H H' ∧ ∃ ws, H' D = some (.lst ws) ∧ ws.length ≤ i ∧ (∀ y ∈ ws, ∃ t r, y = .ref t ∧ H' t = some (.tup [.str r.nm, .int (r.per : Int)]) ∧ r ∈ rows ∧ r.w = .spring) ∧ ∀ j r, j < i → rows[j]? = some r → r.w = .spring → ∃ t, V.ref t ∈ ws ∧ H' t = some (.tup [.str r.nm, .int (r.per : Int)]))
      ⟨same_upd hD, [], upd_same, Nat.le_refl _, (fun _ h => nomatch h), fun j r h => absurd h (Nat.not_lt_zero _)⟩ (fun i H' _ z => z.1.seq (SqL.of h2)) ?_ ?_
    · rintro i x H' hx ⟨z1, ws, z2, z3, z4, z5⟩
      obtain ⟨r, r1, r2⟩ := h3.at' hx
      obtain ⟨a, ta, u, rfl, k1, k2, k3⟩ := id r2
      have h1' := SqT.same k1 z1
      refine ⟨rfl, _, rfl, a, _, 0, _, rfl, rfl, h1', at0, rfl, _, rfl, wif r.w .spring (fun e => ?_) (fun e => ?_)⟩
      · have hu1 : u = .str r.nm := by
          unfold WhatV at k2
          rw [e] at k2
          exact k2
        subst hu1
        refine ⟨_, rfl, a, _, 1, _, rfl, rfl, h1', at1, _, rfl, a, _, 3, _, rfl, rfl, h1', at3, by show 2 ≤ sizeLine; decide, fun t ht => ?_⟩
        have s1 := same_upd (o := .tup [.str r.nm, .int (r.per : Int)]) ht
        have hi := (List.getElem?_eq_some_iff.mp r1).1
        have hD1 := s1 _ _ z2
        have nt : ∀ t' o, H' t' = some (.tup o) → t' ≠ D := fun t' o e2 => by
          rintro rfl
          rw [z2] at e2
          cases e2
        have ntD : t ≠ D := by
          rintro rfl
          rw [z2] at ht
          cases ht
        refine ⟨ws, hD1, small1000 (by omega), same_upd_new (z1.trans s1) hD, _, upd_same, by rw [List.length_append]; exact Nat.succ_le_succ z3, fun y hy => ?_, fun j r' hj hr' hw' => ?_⟩
        · rcases List.mem_append.mp hy with hy | hy
          · obtain ⟨t', r', e1, e2, e3⟩ := z4 y hy
            exact ⟨t', r', e1, by rw [upd_ne (nt _ _ e2)]; exact s1 _ _ e2, e3⟩
          · rw [List.mem_singleton] at hy
            subst hy
            exact ⟨t, r, rfl, by rw [upd_ne ntD]; exact upd_same, List.mem_of_getElem? r1, e⟩
        · by_cases hji : j = i
          · subst hji
            rw [r1] at hr'
            cases hr'
            exact ⟨t, List.mem_append_right _ List.mem_cons_self, by rw [upd_ne ntD]; exact upd_same⟩
          · obtain ⟨t', e1, e2⟩ := z5 j r' (by omega) hr' hw'
            exact ⟨t', List.mem_append_left _ e1, by rw [upd_ne (nt _ _ e2)]; exact s1 _ _ e2⟩
      · refine ⟨z1, ws, z2, Nat.le_succ_of_le z3, z4, fun j r' hj hr' hw' => ?_⟩
        by_cases hji : j = i
        · subst hji
          rw [r1] at hr'
          cases hr'
          exact absurd hw' e
        · exact z5 j r' (by omega) hr' hw'
    · rintro H' ⟨z1, ws, z2, z3, z4, z5⟩
      obtain ⟨ps, kvs, e1, e2, e3, e4, e5⟩ := pairs_of2 (K := K) (H := H') (rows := rows) ws z4
      refine ⟨D, ps, kvs, rfl, SqL.of (by rw [← e1]; exact z2), e2, fun d hd => ?_⟩
      have s2 := same_upd (o := .dK (mergeK [] kvs)) hd
      have ent : ∀ k v, (k, v) ∈ mergeK [] kvs → SpK rows k v := fun k v m => (mergeK_mem m).elim (fun h => nomatch h) (e3 k v)
      refine q d _ _ (z1.trans s2) (z1.free hd) upd_same ⟨ent, fun r hr hw => ?_, ?_⟩
      · obtain ⟨j, hj⟩ := List.mem_iff_getElem?.mp hr
        obtain ⟨t, f1, f2⟩ := z5 j r (by have := (List.getElem?_eq_some_iff.mp hj).1; omega) hj hw
        have m := e5 t _ _ f1 f2
        have hs := merge_some (acc := []) m
        obtain ⟨v, hv⟩ := Option.isSome_iff_exists.mp hs
        obtain ⟨r', g1, g2, g3, g4⟩ := ent _ _ (valV_mem hv)
        have hn : r.nm = r'.nm := Sum.inr.inj g3
        rw [hv, g4, W.d.spr r hr r' g1 hw g2 hn]
      · have z := length_mergeK kvs []
        rw [List.length_nil] at z
        omega
/-- what the springs tell, and how -/
structure Told (K : PySem.W.Frag) (H : Hp) (g : Addr) (rows : List Row) (beats : Nat) (gv : Str → Nat → Rat) : Prop where
  g : GivenD K H g rows beats gv
  s : ∀ r ∈ rows, r.w = .spring → ∀ c, c < manyN r.per beats → Sz 20 20 (gv r.nm c) ∧ (gv r.nm c).den ∣ 2 ^ 6
def sp_law_told_by (K : PySem.W.Frag) : Sp := fun vs H Q _ => ∃ (b wd : Addr) (rows : List Row) (outs : List (Str × Nat)) (turned : List Nat) (beats n : Nat), vs = [.ref b, .ref wd, .int beats, .int 6] ∧ WV K H wd rows outs turned ∧ WOk rows outs turned ∧ beats ≤ 8 ∧ wd ≠ b ∧ BoxV H b n ∧ n ≤ 2 ^ 36 ∧
  ∀ g H' gv, SameB b H H' → H g = none → g ≠ b → Told K H' g rows beats gv → BoxV H' b (n + 1000) → Q (.ref g) H'
end
end K70
/-! K70, part LL: told_by. -/
namespace K70
open PySem PySem.Spec PyProof.Rows L2
def strOf : Key → Str
  | .inl _ => ""
  | .inr s => s
def partsV : List V := [.int 1, .int 1, .int 2, .int 4, .int 8, .int 16, .int 32, .int 64]
theorem parts_at : ∀ r, r < 8 → ∃ k : Nat, k ≤ 6 ∧ partsV[r]? = some (.int (2 ^ k)) := by
  intro r hr
  match r, hr with
  | 0, _ => exact ⟨0, by decide, rfl⟩
  | 1, _ => exact ⟨0, by decide, rfl⟩
  | 2, _ => exact ⟨1, by decide, rfl⟩
  | 3, _ => exact ⟨2, by decide, rfl⟩
  | 4, _ => exact ⟨3, by decide, rfl⟩
  | 5, _ => exact ⟨4, by decide, rfl⟩
  | 6, _ => exact ⟨5, by decide, rfl⟩
  | 7, _ => exact ⟨6, by decide, rfl⟩
theorem parts_cut : cutV [V.int 1, .int 1, .int 2, .int 4, .int 8, .int 16, .int 32, .int 64] none (some 8) = partsV := by rfl
theorem top_sz {z : Int} {k : Nat} (h1 : -1000 ≤ z) (h2 : z ≤ 1000) (hk : k ≤ 6) : Sz 20 20 (mkRat z (2 ^ k)) ∧ (mkRat z (2 ^ k)).den ∣ 2 ^ 6 := by
  have c1 := (Rat.intCast_le_intCast).mpr (show (-1024 : Int) ≤ z by omega)
  have c2 := (Rat.intCast_le_intCast).mpr (show z ≤ (1024 : Int) by omega)
  have e : (2 : Rat) ^ 10 = ((1024 : Int) : Rat) := rfl
  refine ⟨(mk_sz (k := k) (j := 10) (by rw [e]; exact c1) (by rw [e]; exact c2)).mono (by omega) (by omega), Nat.dvd_trans (mkRat_den_dvd z k) (Nat.pow_dvd_pow 2 hk)⟩
section
variable {P : Program} {w : World} {K : PySem.W.Frag} {mg : Str → Option Value} {base : Heap}
/-! ### _law_told_by -/
abbrev n_law_told_by : List Str := ["_law_box", "_law_w", "_law_beats_many", "_law_figures_many", "_law_found", "_law_springs", "_law_parts", "_law_called", "_law_rows", "_law_turn", "_law_top"]
theorem sc_law_told_by : FnScope n_law_told_by ["_law_box", "_law_w", "_law_beats_many", "_law_figures_many"] (defScope s_law_told_by) := ⟨rfl, rfl, rfl, by decide +kernel, rfl, by decide +kernel, by decide +kernel⟩
theorem c_law_told_by (T : TX K mg) : Cal P w K mg base "_law_told_by" ["_law_box", "_law_w", "_law_beats_many", "_law_figures_many"] [] 3 (sp_law_told_by K) := by
  refine cal_of T.g_law_told_by T.f_law_told_by (fun _ _ _ _ _ _ us hl => match us, hl with | [_, _, _, _], _ => rfl) fun fd F => okN F sc_law_told_by (fun vs H Q E h => ?_) (fun cdv A outer s H vs Q E hr h => ?_)
  · obtain ⟨b, wd, rows, outs, turned, beats, n, rfl, hW, W, hb8, hwb, hB, hn, q⟩ := h
    rfl
  · obtain ⟨b, wd, rows, outs, turned, beats, n, rfl, hW, W, hb8, hwb, hB, hn, q⟩ := h
    have hu := hu_of hr
    refine ⟨_, 
      (pss_cons
        (ps_par3 (i := 4) (j := 5) (l := 6) (by rfl) sc_law_told_by.nd rfl rfl rfl (by decide) (by decide) (by decide) rfl rfl rfl (pa_cons pe_dnewK (pa_cons (pe_cal (c_law_springs_of T) (hr.mono (by decide)) (pa_cons (pv 1) pa_nil)) (pa_cons (pe_slice sl_list (pe_lst (pa_cons pe_int (pa_cons pe_int (pa_cons pe_int (pa_cons pe_int (pa_cons pe_int (pa_cons pe_int (pa_cons pe_int (pa_cons pe_int pa_nil))))))))) po_none (po_some (pe_op op_add (pv 3) pe_int))) pa_nil))) (by rfl))
      (pss_cons
        (ps_for PassesOwn.never rfl (pi_list (pe_callB (call_sortedD rfl) (by rfl) T.z_sorted (by decide +kernel) (pa_cons (pv 5) pa_nil))) (pg_name (i := 7) sc_law_told_by.nd rfl (by first | exact Or.inl rfl | exact Or.inr rfl))
          (pss_cons
            (ps_set (i := 8) sc_law_told_by.nd rfl (by first | exact Or.inl rfl | exact Or.inr rfl) (pe_lst pa_nil))
          (pss_cons
            (ps_for PassesOwn.never rfl (pi_range1 (by rfl) T.z_range (pa_cons (pe_op op_fdiv (pe_op op_sub (pe_op op_add (pv 2) (pe_dget hu (pv 5) (pv 7) (fun _ _ => rfl))) pe_int) (pe_dget hu (pv 5) (pv 7) (fun _ _ => rfl))) pa_nil)) (pg_name (i := 9) sc_law_told_by.nd rfl (by first | exact Or.inl rfl | exact Or.inr rfl))
              (pss_cons
                (ps_set (i := 10) sc_law_told_by.nd rfl (by first | exact Or.inl rfl | exact Or.inr rfl) (pe_ix (ixL (K := K)) (pe_lst (pa_cons (pe_op op_sub (pe_cal (c_law_take T) (hr.mono (by decide)) (pa_cons (pv 0) (pa_cons pe_int pa_nil))) pe_int) (pa_cons (pe_op op_sub (pe_cal (c_law_take T) (hr.mono (by decide)) (pa_cons (pv 0) (pa_cons pe_int pa_nil))) pe_int) pa_nil))) (pe_cal (c_law_take T) (hr.mono (by decide)) (pa_cons (pv 0) (pa_cons pe_int pa_nil))) (fun _ _ => rfl)))
              (pss_one
                (ps_expr (pe_bm PySem.F.plainAttrs_list PySem.F.slot_list_append PySem.F.type_list_append mt_append (pv 8) (pa_cons (pe_cal (c_law_num T) (hr.mono (by decide)) (pa_cons (pv 10) (pa_cons (pe_cal (c_law_one_of T) (hr.mono (by decide)) (pa_cons (pv 0) (pa_cons (pv 6) pa_nil))) pa_nil))) pa_nil))))))
          (pss_one
            (ps_dput hu (pv 4) (pv 7) (pv 8) rfl)))))
      (pss_one
        (ps_ret (pv 4))))), ?_⟩
    have e36 : (2 : Nat) ^ 36 = 68719476736 := by decide
    have e38 : (2 : Nat) ^ 38 = 274877906944 := by decide
    have e39 : (2 : Nat) ^ 39 = 549755813888 := by decide
    intro fd hfd
    have s1 := same_upd (o := .dK []) hfd
    have hfdb := box_ne hB hfd
    refine ⟨_, rfl, wd, rows, outs, turned, rfl, hW.same s1, W, fun d H2 kk s2 hd hd2 SD => ?_⟩
    refine ⟨by show 8 ≤ sizeLine; decide, fun pl hpl => ⟨_, rfl, _, _, rfl, rfl, 8, rfl, pl, _, rfl, SqL.of upd_same, fun pp hpp => ?_⟩⟩
    rw [parts_cut] at *
    have s3 := same_upd (o := .lst [.int 1, .int 1, .int 2, .int 4, .int 8, .int 16, .int 32, .int 64]) hpl
    have s4 := same_upd (o := .lst partsV) hpp
    have sA := s2.trans (s3.trans s4)
    have sAll := s1.trans sA
    have hfd4 : (upd (upd H2 pl (.lst [.int 1, .int 1, .int 2, .int 4, .int 8, .int 16, .int 32, .int 64])) pp (.lst partsV)) fd = some (.dK []) := sA _ _ upd_same
    have hd4 := s4 _ _ (s3 _ _ hd2)
    have hpp4 : (upd (upd H2 pl (.lst [.int 1, .int 1, .int 2, .int 4, .int 8, .int 16, .int 32, .int 64])) pp (.lst partsV)) pp = some (.lst partsV) := upd_same
    have hdb : d ≠ b := box_ne (hB.same s1) hd
    have hppb : pp ≠ b := box_ne ((hB.same s1).same (s2.trans s3)) hpp
    have hdf : d ≠ fd := Ne.symm (ne_of_none upd_same hd)
    have hpf : pp ≠ fd := Ne.symm (ne_of_none ((s2.trans s3) _ _ upd_same) hpp)
    refine ⟨_, _, _, rfl, ?_⟩
    generalize upd (upd H2 pl (.lst [.int 1, .int 1, .int 2, .int 4, .int 8, .int 16, .int 32, .int 64])) pp (.lst partsV) = H4 at sAll hfd4 hd4 hpp4
    have keys : kk.map (·.1) = (kk.map fun p => strOf p.1).map Sum.inr := by
      rw [List.map_map]
      refine List.map_congr_left fun p hp => ?_
      obtain ⟨r, _, _, e, _⟩ := SD.1 p.1 p.2 hp
      show p.1 = Sum.inr (strOf p.1)
      rw [e]
      rfl
    refine ⟨_, rfl, d, kk, kk.map fun p => strOf p.1, rfl, .inl hd4, keys, by rw [List.length_map]; have := SD.2.2; omega, fun ys p perm _ hp => ?_⟩
    have sp := same_upd (o := .lst (svs ys)) hp
    have hpb : p ≠ b := box_ne (hB.same sAll) hp
    have hpfd : p ≠ fd := Ne.symm (ne_of_none hfd4 hp)
    have ylen : ys.length ≤ 9 := by
      have := SD.2.2
      rw [perm.length_eq, List.length_map]
      exact this
    have ymem : ∀ x ∈ ys, ∃ r ∈ rows, r.w = .spring ∧ r.nm = x := fun x hx => by
      obtain ⟨e, he, rfl⟩ := List.mem_map.mp (perm.mem_iff.mp hx)
      obtain ⟨r, h1, h2, h3, _⟩ := SD.1 e.1 e.2 he
      exact ⟨r, h1, h2, by rw [h3]; rfl⟩
    have yall : ∀ r ∈ rows, r.w = .spring → r.nm ∈ ys := fun r hr hw => by
      refine perm.mem_iff.mpr (List.mem_map.mpr ⟨_, valV_mem (SD.2.1 r hr hw), rfl⟩)
    refine ⟨p, rfl, ⟨svs ys, SqL.of upd_same⟩, ?_⟩
    have sB := sAll.trans sp
    have B5 := hB.same sB
    have hfd5 := sp _ _ hfd4
    have hd5 := sp _ _ hd4
    have hpp5 := sp _ _ hpp4
    have hp5 : (upd H4 p (.lst (svs ys))) p = some (.lst (svs ys)) := upd_same
    show ∃ W' : Nat → Nat → L2.St → Hp → Prop, _
    generalize hH5 : upd H4 p (.lst (ys.map V.str)) = H5
    have hH5' : upd H4 p (.lst (svs ys)) = H5 := hH5
    rw [hH5'] at sB B5 hfd5 hd5 hpp5 hp5
    refine for_list (K := K) (a := p) (xs := svs ys) (fun i σ H' => (∀ a o, a ≠ b → a ≠ fd → H5 a = some o → H' a = some o) ∧ (∃ (Qs : Str → List Rat) (fk : List (Key × V)), H' fd = some (.dK fk) ∧ fk.length ≤ i ∧ ∀ nm ∈ ys.take i, ∃ l ws, valV fk (.inr nm) = some (.ref l) ∧ H' l = some (.lst ws) ∧ l ≠ b ∧ NumsV K H' ws (Qs nm) ∧
          (∀ r ∈ rows, r.w = .spring → r.nm = nm → (Qs nm).length = manyN r.per beats) ∧ ∀ x ∈ Qs nm, Sz 20 20 x ∧ x.den ∣ 2 ^ 6) ∧ BoxV H' b (n + 40 * i) ∧ ∃ x7 x8 x9 x10, σ = [some (.ref b), some (.ref wd), some (.int (beats : Int)), some (.int 6), some (.ref fd), some (.ref d), some (.ref pp), x7, x8, x9, x10])
      ⟨fun _ _ _ _ e => e, ⟨fun _ => [], [], hfd5, Nat.le_refl _, fun nm h => by rw [List.take_zero] at h; cases h⟩, B5, none, none, none, none, rfl⟩ (fun i σ H' _ z => SqL.of (z.1 _ _ hpb hpfd hp5)) ?_ ?_
    · rintro i x σ H6 hx ⟨z1, ⟨Qs, fk, z2, z3, z4⟩, z5, x7, x8, x9, x10, rfl⟩
      have hil : i < ys.length := by
        have := (List.getElem?_eq_some_iff.mp hx).1
        rwa [svs_len] at this
      have ecl : ys[i]? = some ys[i] := List.getElem?_eq_getElem hil
      have ex : x = .str ys[i] := by
        rw [svs_get hil] at hx
        exact (Option.some.inj hx).symm
      subst ex
      generalize ys[i] = called at ecl
      obtain ⟨r0, hr0, hw0, hn0⟩ := ymem called (List.mem_of_getElem? ecl)
      have per0 := per_bd (W.d.per r0 hr0)
      refine ⟨by show 0 ≤ sizeLine; decide, fun rl hrl => ?_⟩
      have srl := same_upd (o := .lst []) hrl
      have hrlb := box_ne z5 hrl
      have hdF : ∀ H' : Hp, (∀ a o, a ≠ b → a ≠ rl → H6 a = some o → H' a = some o) → DGet H' d (.str called) (some (.int (r0.per : Int))) := fun H' k => by
        have e6 := z1 _ _ hdb hdf hd5
        refine .inl ⟨kk, .inr called, .inl (k _ _ hdb (ne_of_none e6 hrl) e6), rfl, ?_⟩
        rw [← hn0]
        exact (SD.2.1 r0 hr0 hw0).symm
      have k0 : ∀ a o, a ≠ b → a ≠ rl → H6 a = some o → (upd H6 rl (.lst [])) a = some o := fun a o _ _ e => srl _ _ e
      have many : ((beats : Int) + (r0.per : Int) - 1) / (r0.per : Int) = ((manyN r0.per beats : Nat) : Int) := by
        unfold manyN
        rw [Int.natCast_ediv]
        congr 1
        omega
      have ml : manyN r0.per beats ≤ 8 := by
        refine Nat.not_lt.mp fun z => ?_
        have z2 := (manyN_lt per0.1).mp z
        have z3 := Nat.le_mul_of_pos_right 8 (show 0 < r0.per by omega)
        omega
      refine ⟨_, rfl, _, rfl, _, rfl, d, _, rfl, hdF _ k0, _, _, rfl, rfl, _, _, rfl, rfl, _, rfl, _, rfl, d, _, rfl, hdF _ k0, _, _, rfl, rfl, ⟨by omega, by omega⟩, (manyN r0.per beats : Nat), congrArg (fun i : Int => [V.int i]) many, by omega, by omega, ?_⟩
      have hpp6 : ∀ H' : Hp, (∀ a o, a ≠ b → a ≠ rl → H6 a = some o → H' a = some o) → H' pp = some (.lst partsV) := fun H' k => by
        have e6 := z1 _ _ hppb hpf hpp5
        exact k _ _ hppb (ne_of_none e6 hrl) e6
      refine for_range (n := manyN r0.per beats) (fun t σ H' => (∀ a o, a ≠ b → a ≠ rl → H6 a = some o → H' a = some o) ∧ (∃ (ws : List V) (qs : List Rat), H' rl = some (.lst ws) ∧ NumsV K H' ws qs ∧ qs.length = t ∧ ∀ x ∈ qs, Sz 20 20 x ∧ x.den ∣ 2 ^ 6) ∧ BoxV H' b (n + 40 * i + 4 * t) ∧
          ∃ x9 x10, σ = [some (.ref b), some (.ref wd), some (.int (beats : Int)), some (.int 6), some (.ref fd), some (.ref d), some (.ref pp), some (.str called), some (.ref rl), x9, x10])
        ⟨k0, ⟨[], [], upd_same, .nil, rfl, fun _ h => nomatch h⟩, z5.same srl, _, _, rfl⟩ ?_ ?_
      · rintro t σ H7 ht ⟨y1, ⟨ws, qs, y2, y3, y4, y5⟩, y6, x9, x10, rfl⟩
        refine ⟨_, rfl, b, 9, _, rfl, by decide, by decide, y6, by omega, fun r1 H8 hr1 sb8 B8 => ⟨_, _, rfl, rfl, _, rfl, b, 1999, _, rfl, by decide, by decide, B8, by omega, fun r2 H9 hr2 sb9 B9 => ⟨_, _, rfl, rfl, ?_⟩⟩⟩
        refine ⟨by show 2 ≤ sizeLine; decide, fun tp htp => ?_⟩
        dsimp only
        have stp := same_upd (o := .lst [.int ((r1 : Int) - 4), .int ((r2 : Int) - 999)]) htp
        have htpb := box_ne B9 htp
        refine ⟨_, rfl, b, 2, _, rfl, by decide, by decide, B9.same stp, by omega, fun r3 H10 hr3 sb10 B10 => ?_⟩
        have hv : ∃ z : Int, -1000 ≤ z ∧ z ≤ 1000 ∧ ([.int ((r1 : Int) - 4), .int ((r2 : Int) - 999)] : List V)[r3]? = some (.int z) := by
          match r3, hr3 with
          | 0, _ => exact ⟨(r1 : Int) - 4, by omega, by omega, rfl⟩
          | 1, _ => exact ⟨(r2 : Int) - 999, by omega, by omega, rfl⟩
        obtain ⟨z, zl, zh, hv⟩ := hv
        refine ⟨tp, _, (r3 : Nat), _, rfl, rfl, SqL.of (sb10 _ _ htpb upd_same), atI_nat hv, ?_⟩
        have sbA : SameB b H7 H10 := (sb8.trans sb9).trans ((Same.b stp b).trans sb10)
        have y2' := sbA _ _ hrlb y2
        have dkA : DK K H7 H10 := y6.dk sbA
        have y1' : ∀ a o, a ≠ b → a ≠ rl → H6 a = some o → H10 a = some o := fun a o n1 n2 e => sbA _ _ n1 (y1 a o n1 n2 e)
        refine ⟨_, rfl, .inl ⟨rfl, _, SqL.of y2'⟩, _, rfl, _, rfl, _, rfl, b, pp, partsV, _, rfl, hppb, SqL.of (hpp6 _ y1'), by decide, by decide, B10, by omega, fun ri v11 H11 e11 sb11 B11 => ?_⟩
        have hri : ri < 8 := (List.getElem?_eq_some_iff.mp e11).1
        obtain ⟨k, hk6, hk⟩ := parts_at ri hri
        rw [hk] at e11
        have ev : v11 = .int (2 ^ k) := (Option.some.inj e11).symm
        subst ev
        refine ⟨z, 2 ^ k, k, rfl, rfl, by omega, fun v12 H12 s12 n12 => ?_⟩
        have sbB : SameB b H7 H12 := sbA.trans (sb11.trans (Same.b s12 b))
        have y2'' := sbB _ _ hrlb y2
        have dkB : DK K H7 H12 := y6.dk sbB
        have dkC : DK K H12 (upd H12 rl (.lst (ws ++ [v12]))) := dk_lst y2''
        refine ⟨rl, ws, v12, rfl, rfl, y2'', small1000 (by rw [y3.len]; omega), fun a o n1 n2 e => ?_, ⟨ws ++ [v12], qs ++ [mkRat z (2 ^ k)], upd_same, ((y3.dk dkB).dk dkC).snoc (n12.dk dkC), by rw [List.length_append, y4]; rfl, fun x hx => ?_⟩, ((B11.same s12).mono (by omega)).keep (by rw [upd_ne (Ne.symm hrlb)]), _, _, rfl⟩
        · rw [upd_ne n2]
          exact sbB _ _ n1 (y1 a o n1 n2 e)
        · rcases List.mem_append.mp hx with h | h
          · exact y5 x h
          · rw [List.mem_singleton] at h
            rw [h]
            exact top_sz zl zh hk6
      · rintro σ H7 ⟨y1, ⟨ws, qs, y2, y3, y4, y5⟩, y6, x9, x10, rfl⟩
        have hfr : fd ≠ rl := ne_of_none z2 hrl
        have z2' := y1 _ _ hfdb hfr z2
        refine ⟨_, rfl, _, rfl, _, rfl, fd, _, rfl, DPut.k (k := .inr called) z2' (small1000 (by omega)), ?_⟩
        have tkF : TK K H7 (upd H7 fd (.dK (putK fk (.inr called) (.ref rl)))) := dic_tk z2'
        have rlf : rl ≠ fd := Ne.symm hfr
        refine ⟨fun a o n1 n2 e => ?_, ⟨fun x => if x = called then qs else Qs x, putK fk (.inr called) (.ref rl), upd_same, Nat.le_trans (length_putK _ _ _) (Nat.succ_le_succ z3), fun nm hnm => ?_⟩, (y6.mono (by omega)).keep (by rw [upd_ne (Ne.symm hfdb)]), _, _, _, _, rfl⟩
        · have e6 := z1 a o n1 n2 e
          rw [upd_ne n2]
          exact y1 a o n1 (ne_of_none e6 hrl) e6
        · by_cases hc : nm = called
          · subst hc
            have eQ : (fun x => if x = nm then qs else Qs x) nm = qs := if_pos rfl
            rw [eQ]
            refine ⟨rl, ws, by rw [valV_put, if_pos rfl], by rw [upd_ne rlf]; exact y2, hrlb, ?_, fun r hr hw hrn => ?_, ?_⟩
            · exact y3.imp fun _ _ h => h.tk tkF
            · rw [y4, W.d.spr r hr r0 hr0 hw hw0 (by rw [hrn, hn0])]
            · exact y5
          · have hnm' : nm ∈ ys.take i := by
              rw [List.take_add_one, ecl, Option.toList_some] at hnm
              rcases List.mem_append.mp hnm with h | h
              · exact h
              · rw [List.mem_singleton] at h
                exact absurd h hc
            obtain ⟨l, lws, f1, f2, f3, f4, f5, f6⟩ := z4 nm hnm'
            have hlr : l ≠ rl := ne_of_none f2 hrl
            have hlf : l ≠ fd := by
              rintro rfl
              rw [z2] at f2
              cases f2
            have tkY : TK K H6 H7 := by
              intro c xs hcx
              rcases hcx with hcx | hcx
              · have nb : c ≠ b := by
                  rintro rfl
                  obtain ⟨_, _, _, e, _⟩ := z5
                  rcases hcx with hcx | ⟨o, hcx⟩ <;> (rw [e] at hcx; cases hcx)
                have nr : c ≠ rl := by
                  rintro rfl
                  rcases hcx with hcx | ⟨o, hcx⟩ <;> (rw [hrl] at hcx; cases hcx)
                rcases hcx with hcx | ⟨o, hcx⟩
                · exact .inl (.inl (y1 _ _ nb nr hcx))
                · exact .inl (.inr ⟨o, y1 _ _ nb nr hcx⟩)
              · exact .inr hcx
            have eQ : (fun x => if x = called then qs else Qs x) nm = Qs nm := if_neg hc
            rw [eQ]
            refine ⟨l, lws, ?_, by rw [upd_ne hlf]; exact y1 _ _ f3 hlr f2, f3, ?_, fun r hr hw hrn => ?_, ?_⟩
            · rw [valV_put, if_neg]
              · exact f1
              · intro z
                exact hc (Sum.inr.inj z)
            · exact f4.imp fun _ _ h => (h.tk tkY).tk tkF
            · exact f5 r hr hw hrn
            · exact f6
    · rintro σ H6 ⟨z1, ⟨Qs, fk, z2, z3, z4⟩, z5, x7, x8, x9, x10, rfl⟩
      rw [svs_len, List.take_length] at z4
      have hsb : SameB b H H6 := fun a o n1 e => z1 a o n1 (ne_of_none e hfd) (sB a o e)
      refine ⟨_, rfl, q fd H6 (fun nm c => (Qs nm).getD c 0) hsb hfd hfdb ⟨⟨fk, .inl z2, fun r hr hw => ?_⟩, fun r hr hw c hc => ?_⟩ (z5.mono (by rw [svs_len]; omega))⟩
      · obtain ⟨l, ws, f1, f2, f3, f4, f5, f6⟩ := z4 r.nm (yall r hr hw)
        have hl := f5 r hr hw rfl
        refine ⟨l, ws, Qs r.nm, f1, SqL.of f2, f4, by omega, fun c hc => ?_⟩
        show _ = some ((Qs r.nm).getD c 0)
        rw [List.getD_eq_getElem?_getD, List.getElem?_eq_getElem (by omega)]
        rfl
      · obtain ⟨l, ws, f1, f2, f3, f4, f5, f6⟩ := z4 r.nm (yall r hr hw)
        have hl := f5 r hr hw rfl
        refine f6 _ ?_
        show (Qs r.nm).getD c 0 ∈ Qs r.nm
        rw [List.getD_eq_getElem?_getD, List.getElem?_eq_getElem (by omega)]
        exact List.getElem_mem _
end
end K70
/-! K70, part LN: one_number. -/
namespace K70
open PySem PySem.Spec PyProof.Rows L2
def tCall2 (f1 f2 : Addr) (sp1 sp2 : Sp) (tf : TE) (t : TA) : TE := fun σ H Q => tf σ H fun x H1 => (x = .ref f1 ∧ t σ H1 fun vs H2 => sp1 vs H2 Q E0) ∨ (x = .ref f2 ∧ t σ H1 fun vs H2 => sp2 vs H2 Q E0)
section
variable {P : Program} {w : World} {K : PySem.W.Frag} {mg : Str → Option Value} {base : Heap}
/-- (one def or another)(e, ..) -/
theorem pe_call2 {X : Cx} {k : Nat} {x1 x2 : Str} {ps1 ps2 : List Str} {sp1 sp2 : Sp} {pos : Pos} {fe e : Expr} {es : List Expr} {tf : TE} {t : TA} (C1 : Cal X.prog X.w K X.mg X.base x1 ps1 [] k sp1) (C2 : Cal X.prog X.w K X.mg X.base x2 ps2 [] k sp2) (hr : Room k X.A) (hf : PE X fe tf) (ha : PA X (e :: es) t) (hK : X.K = K := by rfl)
    (ht : eval (.Call fe (e :: es) [] pos) X.env = (do callWith pos (← eval fe X.env) [] (backTo pos (starEach (e :: es) X.env)) (backToKw pos (keywordEach [] X.env))) := by rfl)
    (he : starEach (e :: es) X.env = (false, eval e X.env) :: starEach es X.env := by rfl) (hpl : (backTo pos (starEach es X.env)).any (·.1) = false := by rfl) : PE X (.Call fe (e :: es) [] pos) (tCall2 (He.ga K x1) (He.ga K x2) sp1 sp2 tf t) := by
  subst hK
  refine ⟨fun pins s σ H Q I h => ?_⟩
  refine Call_ (thn (hf.run pins s σ H _ I h) fun u s1 ⟨y, H1, I1, ry, hy⟩ => ?_) ht
  rcases hy with ⟨ey, q⟩ | ⟨ey, q⟩
  · subst ey
    obtain ⟨⟨fd, ds, F, b, v⟩, _, kp⟩ := C1
    obtain rfl : u = Value.ref (He.ga X.K x1) := ry
    refine PySem.W.callWith_K (h₀ := X.base) I1.ok.mod.kin kp (thn (ha.run pos pins s1 σ H1 _ I1 q) fun us s2 ⟨vs, H2, I2, r, q2⟩ => ⟨I2.kIn, ?_⟩) he hpl
    refine run_fn F hr b v pass0 I2 r ?_
    rw [List.append_nil]
    exact q2
  · subst ey
    obtain ⟨⟨fd, ds, F, b, v⟩, _, kp⟩ := C2
    obtain rfl : u = Value.ref (He.ga X.K x2) := ry
    refine PySem.W.callWith_K (h₀ := X.base) I1.ok.mod.kin kp (thn (ha.run pos pins s1 σ H1 _ I1 q) fun us s2 ⟨vs, H2, I2, r, q2⟩ => ⟨I2.kIn, ?_⟩) he hpl
    refine run_fn F hr b v pass0 I2 r ?_
    rw [List.append_nil]
    exact q2
def sp_law_one_number (K : PySem.W.Frag) : Sp := fun vs H Q _ => ∃ (vr : V) (r : Row) (t : Addr) (as : List Addr) (L : List (List Rat)) (d : Addr) (c : Nat) (gv : Str → Nat → Rat),
  vs = [vr, .ref t, .ref d, .int c] ∧ RowV K H vr r ∧ r.args.length = r.w.ar ∧ NLL K H t as L ∧ (r.w = .spring → GivenV K H d r.nm c (gv r.nm c)) ∧
  (r.w = .late → c = 0 ∨ ∃ l, L[r.args.getD 0 0]? = some l ∧ c - 1 < l.length) ∧
  (r.w ≠ .spring → r.w ≠ .fixed → r.w ≠ .late → ∀ a ∈ r.args, ∃ l, L[a]? = some l ∧ placeR r.w c < l.length) ∧
  (∀ (j : Nat) (l : List Rat), L[j]? = some l → ∀ x ∈ l, Bd x) ∧ Bd r.q ∧ ∀ v H', Same H H' → NumV K H' v (stepV gv (vof 0 L) r c) → Q v H'
/-! ### _law_one_number -/
abbrev n_law_one_number : List Str := ["_law_row", "_law_found", "_law_told", "_law_count", "_law_word", "_law_what", "_law_args", "_law_values", "_law_one"]
theorem sc_law_one_number : FnScope n_law_one_number ["_law_row", "_law_found", "_law_told", "_law_count"] (defScope s_law_one_number) := ⟨rfl, rfl, rfl, by decide +kernel, rfl, by decide +kernel, by decide +kernel⟩
theorem c_law_one_number (T : TX K mg) : Cal P w K mg base "_law_one_number" ["_law_row", "_law_found", "_law_told", "_law_count"] [] 5 (sp_law_one_number K) := by
  refine cal_of T.g_law_one_number T.f_law_one_number (fun _ _ _ _ _ _ us hl => match us, hl with | [_, _, _, _], _ => rfl) fun fd F => okN F sc_law_one_number (fun vs H Q E h => ?_) (fun cdv A outer s H vs Q E hr h => ?_)
  · obtain ⟨vr, r, t, as, L, d, c, gv, rfl, hR, har, hL, hG, hlate, hav, hB, hq, q⟩ := h
    rfl
  · obtain ⟨vr, r, t, as, L, d, c, gv, rfl, hR, har, hL, hG, hlate, hav, hB, hq, q⟩ := h
    have hu := hu_of hr
    refine ⟨_, 
      (pss_cons
        (ps_asg (pe_slice sl_tup (pv 0) po_none (po_some pe_int)) (pg_tup (by rfl) (pgs_cons (pg_name (i := 4) sc_law_one_number.nd rfl (by first | exact Or.inl rfl | exact Or.inr rfl)) (pgs_cons (pg_name (i := 5) sc_law_one_number.nd rfl (by first | exact Or.inl rfl | exact Or.inr rfl)) (pgs_cons (pg_name (i := 6) sc_law_one_number.nd rfl (by first | exact Or.inl rfl | exact Or.inr rfl)) pgs_nil)))))
      (pss_cons
        (ps_if (pt_cmpR (opIn (K := K)) (pv 4) (pe_tup (pa_cons pe_str (pa_cons pe_str pa_nil))) (by rfl))
          (pss_one
            (ps_ret (pe_ifExp (pt_cmpR op_eq (pv 4) pe_str (nomark _)) (pe_ix (ixL (K := K)) (pe_dget hu (pv 2) (pv 5) (fun _ _ => rfl)) (pv 3) (fun _ _ => rfl)) (pv 5))))
          pss_nil)
      (pss_cons
        (ps_if (pt_cmpR op_eq (pv 4) pe_str (nomark _))
          (pss_one
            (ps_ret (pe_ifExp (pt_cmpR op_eq (pv 3) pe_int (nomark _)) (pv 5) (pe_ix (ixL (K := K)) (pe_ix (ixL (K := K)) (pv 1) (pe_ix (ixT (K := K)) (pv 6) pe_int (fun _ _ => rfl)) (fun _ _ => rfl)) (pe_op op_sub (pv 3) pe_int) (fun _ _ => rfl)))))
          pss_nil)
      (pss_cons
        (ps_if (pt_cmpR (opIn (K := K)) (pv 4) (pe_tup (pa_cons pe_str (pa_cons pe_str pa_nil))) (by rfl))
          (pss_one
            (ps_ret (pe_ix (ixL (K := K)) (pe_ix (ixL (K := K)) (pv 1) (pe_ix (ixT (K := K)) (pv 6) pe_int (fun _ _ => rfl)) (fun _ _ => rfl)) (pe_ifExp (pt_cmpR op_eq (pv 4) pe_str (nomark _)) (pe_op op_mul pe_int (pv 3)) (pe_op op_fdiv (pv 3) pe_int)) (fun _ _ => rfl))))
          pss_nil)
      (pss_cons
        (ps_setLc (i := 7) (own := [("_law_one", 8)]) rfl sc_law_one_number.nd rfl rfl (sw_true rfl rfl rfl (by decide +kernel)) (pi_tup (pv 6)) (blkOk_by (N := n_law_one_number) (sc := defScope s_law_one_number) (by decide +kernel)) (fun _ _ _ _ _ => pg_name (i := 8) sc_law_one_number.nd rfl (by first | exact Or.inl rfl | exact Or.inr rfl)) (fun _ _ _ _ _ => pts_nil) (fun _ _ _ _ _ => (pe_ix (ixL (K := K)) (pe_ix (ixL (K := K)) (pv 1) (pv 8) (fun _ _ => rfl)) (pv 3) (fun _ _ => rfl))))
      (pss_cons
        (ps_if (pt_cmpR (opIn (K := K)) (pv 4) (pe_tup (pa_cons pe_str (pa_cons pe_str pa_nil))) (by rfl))
          (pss_one
            (ps_ret (pe_call2 (k := 3) (K := K) ((c_law_add T).mono (by decide)) ((c_law_sub T).mono (by decide)) (hr.mono (by decide)) (pe_ifExp (pt_cmpR op_eq (pv 4) pe_str (nomark _)) (pe_glob rfl T.g_law_add (show L2.RelV (.ref (He.ga K "_law_add")) _ from rfl)) (pe_glob rfl T.g_law_sub (show L2.RelV (.ref (He.ga K "_law_sub")) _ from rfl))) (pa_cons (pe_ix (ixL (K := K)) (pv 7) pe_int (fun _ _ => rfl)) (pa_cons (pe_ix (ixL (K := K)) (pv 7) pe_int (fun _ _ => rfl)) pa_nil)))))
          pss_nil)
      (pss_cons
        (ps_if (pt_cmpR op_eq (pv 4) pe_str (nomark _))
          (pss_one
            (ps_ret (pe_cal (c_law_mul T) (hr.mono (by decide)) (pa_cons (pv 5) (pa_cons (pe_ix (ixL (K := K)) (pv 7) pe_int (fun _ _ => rfl)) pa_nil)))))
          pss_nil)
      (pss_cons
        (ps_if (pt_cmpR op_eq (pv 4) pe_str (nomark _))
          (pss_one
            (ps_ret (pe_ifExp (pt_cmpR op_gt (pe_ix (ixT (K := K)) (pe_ix (ixL (K := K)) (pv 7) pe_int (fun _ _ => rfl)) pe_int (fun _ _ => rfl)) pe_int (nomark _)) (pe_ix (ixL (K := K)) (pv 7) pe_int (fun _ _ => rfl)) (pe_ix (ixL (K := K)) (pv 7) pe_int (fun _ _ => rfl)))))
          pss_nil)
      (pss_one
        (ps_ret (pe_ix (ixL (K := K)) (pv 7) (pe_callTy call_int1 (by rfl) T.z_int (by decide +kernel) (pa_cons (pe_cmpR op_eq (pe_cal (c_law_below T) (hr.mono (by decide)) (pa_cons (pe_ix (ixL (K := K)) (pv 7) pe_int (fun _ _ => rfl)) (pa_cons (pe_ix (ixL (K := K)) (pv 7) pe_int (fun _ _ => rfl)) pa_nil))) (pe_cmpR op_eq (pv 4) pe_str (nomark _)) (nomark _)) pa_nil)) (fun _ _ => rfl)))))))))))), ?_⟩
    obtain ⟨a, ta, u, rfl, h1, h2, h3⟩ := id hR
    refine ⟨_, rfl, 3, rfl, a, _, rfl, h1, cut3_no, fun p hp => ?_⟩
    have s1 : Same H (upd H p (.tup (cutV [.str r.w.str, u, .ref ta, .int (r.per : Int)] none (some 3)))) := same_upd hp
    have ec : cutV [V.str r.w.str, u, .ref ta, .int (r.per : Int)] none (some 3) = [.str r.w.str, u, .ref ta] := by rfl
    rw [ec] at s1 ⊢
    refine ⟨p, _, rfl, SqT.of upd_same, rfl, _, _, rfl, _, _, rfl, _, _, rfl, rfl, ?_⟩
    generalize upd H p (.tup [.str r.w.str, u, .ref ta]) = H1 at s1
    refine ⟨_, rfl, by show 2 ≤ sizeLine; decide, fun t2 ht2 => ?_⟩
    have s2 := s1.trans (same_upd (o := .tup [.str "spring", .str "fixed"]) ht2)
    refine ⟨t2, _, rfl, .inr (SqT.of upd_same), rfl, rfl, _, rfl, wif2 r.w .spring .fixed (fun e => ?_) (fun e1 e2 => ?_)⟩
    · refine ⟨_, rfl, rfl, _, rfl, wif r.w .spring (fun e' => ?_) (fun e' => ?_)⟩
      · obtain ⟨b, ws, qs, g1, g2, g3, g4⟩ := hG e'
        obtain ⟨y, g5, g6⟩ := g3.at g4
        have hu1 : u = .str r.nm := by
          unfold WhatV at h2
          rw [e'] at h2
          exact h2
        subst hu1
        have es : stepV gv (vof 0 L) r c = gv r.nm c := by
          unfold stepV
          rw [e']
        refine ⟨_, rfl, _, rfl, d, .ref b, rfl, g1.same s2, _, rfl, b, _, c, y, rfl, rfl, s2.seq g2, atI_nat g5, ?_⟩
        exact q _ _ s2 (by rw [es]; exact g6.same s2)
      · have hf : r.w = .fixed := e.resolve_left e'
        have hn : NumV K H u r.q := by
          unfold WhatV at h2
          rw [hf] at h2
          exact h2
        have es : stepV gv (vof 0 L) r c = r.q := by
          unfold stepV
          rw [hf]
        exact ⟨_, rfl, q _ _ s2 (by rw [es]; exact hn.same s2)⟩
    · refine ⟨_, rfl, rfl, _, rfl, wif r.w .late (fun e => ?_) (fun e3 => ?_)⟩
      · have hn : NumV K H u r.q := by
          unfold WhatV at h2
          rw [e] at h2
          exact h2
        have es : stepV gv (vof 0 L) r c = if c = 0 then r.q else vof 0 L (r.args.getD 0 0) (c - 1) := by
          unfold stepV
          rw [e]
        refine ⟨_, rfl, rfl, _, rfl, ?_⟩
        by_cases h0 : c = 0
        · have ed : decide (V.int (c : Int) = V.int 0) = true := decide_eq_true (by rw [h0]; rfl)
          rw [ed]
          exact iteT ⟨_, rfl, q _ _ s2 (by rw [es, if_pos h0]; exact hn.same s2)⟩
        · have ed : decide (V.int (c : Int) = V.int 0) = false := dec_int (by omega)
          rw [ed]
          obtain ⟨l, g1, g2⟩ := (hlate e).resolve_left h0
          obtain ⟨b, ws, y, k1, k2, k3, k4⟩ := hL.at g1 g2
          obtain ⟨x0, hx0⟩ := len1 (l := r.args) (by rw [har, e]; rfl)
          have ea : r.args.getD 0 0 = x0 := by rw [hx0]; rfl
          have h3' : SqT K H ta [.int (x0 : Int)] := by
            rw [hx0] at h3
            exact h3
          rw [ea] at k1 k4 es
          refine iteF ⟨_, rfl, _, rfl, ta, _, 0, _, rfl, rfl, SqT.same h3' s2, at0, t, _, x0, _, rfl, rfl, s2.seq (SqL.of hL.top), atI_nat k1, _, rfl, _, _, rfl, rfl, b, _, ((c - 1 : Nat) : Int), y, rfl, congrArg V.int (by omega), s2.seq k2, atI_nat k3, ?_⟩
          exact q _ _ s2 (by rw [es, if_neg h0]; exact k4.same s2)
      · have av := hav e1 e2 e3
        have es : stepV gv (vof 0 L) r c = combR r.w r.q (r.args.map fun a => vof 0 L a (placeR r.w c)) := by
          unfold stepV
          split <;> first | contradiction | rfl
        refine ⟨_, rfl, by show 2 ≤ sizeLine; decide, fun t3 ht3 => ?_⟩
        have s3 := s2.trans (same_upd (o := .tup [.str "half", .str "twice"]) ht3)
        refine ⟨t3, _, rfl, .inr (SqT.of upd_same), rfl, rfl, _, rfl, wif2 r.w .half .twice (fun e => ?_) (fun e4 e5 => ?_)⟩
        · obtain ⟨x0, hx0⟩ := len1 (l := r.args) (by rw [har]; rcases e with e | e <;> rw [e] <;> rfl)
          obtain ⟨l, g1, g2⟩ := av x0 (by rw [hx0]; exact List.mem_cons_self)
          obtain ⟨b, ws, y, k1, k2, k3, k4⟩ := hL.at g1 g2
          have h3' : SqT K H ta [.int (x0 : Int)] := by
            rw [hx0] at h3
            exact h3
          have es' : stepV gv (vof 0 L) r c = vof 0 L x0 (placeR r.w c) := by
            rw [es, hx0]
            rcases e with e | e <;> rw [e] <;> rfl
          refine ⟨_, rfl, _, rfl, ta, _, 0, _, rfl, rfl, SqT.same h3' s3, at0, t, _, x0, _, rfl, rfl, s3.seq (SqL.of hL.top), atI_nat k1, _, rfl, rfl, _, rfl, wif r.w .half (fun e' => ?_) (fun e' => ?_)⟩
          · rw [e'] at k3 k4 es'
            exact ⟨_, rfl, _, _, rfl, rfl, .inl ⟨by decide, by decide⟩, b, _, ((2 * c : Nat) : Int), y, rfl, rfl, s3.seq k2, atI_nat k3, q _ _ s3 (by rw [es']; exact k4.same s3)⟩
          · have et := e.resolve_left e'
            rw [et] at k3 k4 es'
            exact ⟨_, rfl, _, _, rfl, rfl, ⟨by decide, by decide⟩, b, _, ((c / 2 : Nat) : Int), y, rfl, rfl, s3.seq k2, atI_nat k3, q _ _ s3 (by rw [es']; exact k4.same s3)⟩
        · have hpl : placeR r.w c = c := by
            unfold placeR
            split <;> first | contradiction | rfl
          rw [hpl] at av es
          refine ⟨_, rfl, ta, rfl, ⟨_, SqT.same h3 s3⟩, fun D hD => ?_⟩
          generalize upd (upd H1 t2 (.tup [.str "spring", .str "fixed"])) t3 (.tup [.str "half", .str "twice"]) = H3 at s3 hD ⊢
          refine lc_tup (K := K) (a := ta) (xs := r.args.map fun (n : Nat) => V.int (n : Int)) (fun i H' => Same H3 H' ∧ ∃ ws, H' D = some (.lst ws) ∧ NumsV K H' ws ((r.args.take i).map fun a => vof 0 L a c))
            ⟨same_upd hD, [], upd_same, by rw [List.take_zero]; exact .nil⟩ (fun i H' _ z => SqT.same h3 (s3.trans z.1)) ?_ ?_
          · rintro i x H' hx ⟨z1, ws, z2, z3⟩
            refine ⟨rfl, ?_⟩
            obtain ⟨ai, hai, rfl⟩ := ivs_get (l := r.args) hx
            have hi := (List.getElem?_eq_some_iff.mp hai).1
            obtain ⟨l, g1, g2⟩ := av ai (List.mem_of_getElem? hai)
            obtain ⟨b, bs, y, k1, k2, k3, k4⟩ := hL.at g1 g2
            have zz := s3.trans z1
            refine ⟨_, rfl, _, rfl, t, _, (ai : Nat), _, rfl, rfl, zz.seq (SqL.of hL.top), atI_nat k1, _, rfl, b, _, (c : Nat), y, rfl, rfl, zz.seq k2, atI_nat k3, ws, z2, ?_, same_upd_new z1 hD, ws ++ [y], upd_same, ?_⟩
            · rw [z3.len, List.length_map, List.length_take]
              have q1 : r.args.length ≤ 3 := by
                rw [har]
                cases r.w <;> decide
              exact small1000 (by omega)
            · have dk : DK K H' (upd H' D (.lst (ws ++ [y]))) := dk_lst z2
              rw [List.take_add_one, hai, Option.toList_some, List.map_append]
              exact (z3.dk dk).snoc ((k4.same zz).dk dk)
          · rintro H4 ⟨z1, ws, z2, z3⟩
            rw [List.length_map, List.take_length] at z3
            have s4 := s3.trans z1
            have hm : ∀ x ∈ r.args.map (fun a => vof 0 L a c), Bd x := by
              intro x hx
              obtain ⟨a', ha', rfl⟩ := List.mem_map.mp hx
              obtain ⟨l, g1, g2⟩ := av a' ha'
              exact hB a' l g1 _ (List.mem_of_getElem? (vof_get (dflt := 0) g1 g2))
            refine ⟨_, rfl, by show 2 ≤ sizeLine; decide, fun t4 ht4 => ?_⟩
            have s5 := same_upd (o := .tup [.str "sum", .str "less"]) ht4
            have s6 := s4.trans s5
            have hD5 := s5 _ _ z2
            refine ⟨t4, _, rfl, .inr (SqT.of upd_same), rfl, rfl, _, rfl, wif2 r.w .sum .less (fun e => ?_) (fun e6 e7 => ?_)⟩
            · obtain ⟨x0, x1, hx0⟩ := len2 (l := r.args) (by rw [har]; rcases e with e | e <;> rw [e] <;> rfl)
              rw [hx0] at z3 hm es
              obtain ⟨w0, w1, rfl, n0, n1⟩ := z3.inv2
              have b0 := hm _ List.mem_cons_self
              have b1 := hm _ (List.mem_cons_of_mem _ List.mem_cons_self)
              refine ⟨_, rfl, rfl, _, rfl, wif r.w .sum (fun e' => .inl ⟨rfl, ?_⟩) (fun e' => .inr ⟨rfl, ?_⟩)⟩
              · refine ⟨_, rfl, D, _, 0, _, rfl, rfl, SqL.of hD5, at0, _, rfl, D, _, 1, _, rfl, rfl, SqL.of hD5, at1, w0, w1, _, _, rfl, n0.same s5, n1.same s5, b0, b1, fun v H' s' n' => q v H' (s6.trans s') ?_⟩
                rw [es, e']
                exact n'
              · have el := e.resolve_left e'
                refine ⟨_, rfl, D, _, 0, _, rfl, rfl, SqL.of hD5, at0, _, rfl, D, _, 1, _, rfl, rfl, SqL.of hD5, at1, w0, w1, _, _, rfl, n0.same s5, n1.same s5, b0, b1, fun v H' s' n' => q v H' (s6.trans s') ?_⟩
                rw [es, el]
                exact n'
            · refine ⟨_, rfl, rfl, _, rfl, wif r.w .by (fun e => ?_) (fun e8 => ?_)⟩
              · obtain ⟨x0, hx0⟩ := len1 (l := r.args) (by rw [har, e]; rfl)
                rw [hx0] at z3 hm es
                obtain ⟨w0, rfl, n0⟩ := z3.inv1
                have hn : NumV K H u r.q := by
                  unfold WhatV at h2
                  rw [e] at h2
                  exact h2
                refine ⟨_, rfl, _, rfl, D, _, 0, _, rfl, rfl, SqL.of hD5, at0, u, w0, r.q, _, rfl, hn.same s6, n0.same s5, hq, hm _ List.mem_cons_self, fun v H' s' n' => q v H' (s6.trans s') ?_⟩
                rw [es, e]
                exact n'
              · refine ⟨_, rfl, rfl, _, rfl, wif r.w .pick (fun e => ?_) (fun e9 => ?_)⟩
                · obtain ⟨x0, x1, x2, hx0⟩ := len3 (l := r.args) (by rw [har, e]; rfl)
                  rw [hx0] at z3 es
                  obtain ⟨w0, w1, w2, rfl, n0, n1, n2⟩ := z3.inv3
                  obtain ⟨pa, rfl, hpa⟩ := id n0
                  have es' : stepV gv (vof 0 L) r c = if 0 < vof 0 L x0 c then vof 0 L x1 c else vof 0 L x2 c := by
                    rw [es, e]
                    rfl
                  refine ⟨_, rfl, D, _, 0, _, rfl, rfl, SqL.of hD5, at0, pa, _, 0, _, rfl, rfl, SqT.same hpa s5, at0, _, _, rfl, rfl, _, rfl, ?_⟩
                  have eg := gt0_num (vof 0 L x0 c)
                  show if decide ((vof 0 L x0 c).num > 0) = true then _ else _
                  rw [show decide ((vof 0 L x0 c).num > 0) = decide (0 < vof 0 L x0 c) from eg]
                  by_cases hp : 0 < vof 0 L x0 c
                  · rw [decide_eq_true hp]
                    exact iteT ⟨_, rfl, D, _, 1, _, rfl, rfl, SqL.of hD5, at1, q _ _ s6 (by rw [es', if_pos hp]; exact n1.same s5)⟩
                  · rw [decide_eq_false hp]
                    exact iteF ⟨_, rfl, D, _, 2, _, rfl, rfl, SqL.of hD5, at2, q _ _ s6 (by rw [es', if_neg hp]; exact n2.same s5)⟩
                · have hml : r.w = .most ∨ r.w = .least := by
                    revert e1 e2 e3 e4 e5 e6 e7 e8 e9
                    cases r.w <;> intro e1 e2 e3 e4 e5 e6 e7 e8 e9 <;> first | contradiction | exact .inl rfl | exact .inr rfl
                  obtain ⟨x0, x1, hx0⟩ := len2 (l := r.args) (by rw [har]; rcases hml with e | e <;> rw [e] <;> rfl)
                  rw [hx0] at z3 hm es
                  obtain ⟨w0, w1, rfl, n0, n1⟩ := z3.inv2
                  have b0 := hm _ List.mem_cons_self
                  have b1 := hm _ (List.mem_cons_of_mem _ List.mem_cons_self)
                  refine ⟨_, rfl, _, rfl, D, _, 0, _, rfl, rfl, SqL.of hD5, at0, _, rfl, D, _, 1, _, rfl, rfl, SqL.of hD5, at1, w0, w1, vof 0 L x0 c, vof 0 L x1 c, rfl, n0.same s5, n1.same s5, b0, b1, ?_⟩
                  refine ⟨_, rfl, rfl, rfl, .inr ⟨_, rfl, ?_⟩⟩
                  have s45 := s6
                  have hN0 : NumV K _ w0 (vof 0 L x0 c) := n0.same s5
                  have hN1 : NumV K _ w1 (vof 0 L x1 c) := n1.same s5
                  have es0 : stepV gv (vof 0 L) r c = combR r.w r.q [vof 0 L x0 c, vof 0 L x1 c] := es
                  generalize vof 0 L x0 c = y0 at es0 hN0 ⊢
                  generalize vof 0 L x1 c = y1 at es0 hN1 ⊢
                  have em : decide (V.str r.w.str = V.str ("most" : Str)) = decide (r.w = .most) := wd_str r.w .most
                  have eb : decide (V.bl (decide (y0 < y1)) = V.bl (decide (V.str r.w.str = V.str ("most" : Str)))) = decide (decide (y0 < y1) = decide (r.w = .most)) := by
                    rw [em]
                    exact decide_eq_decide.mpr ⟨V.bl.inj, congrArg V.bl⟩
                  rw [eb]
                  rcases hml with e | e
                  · have ec : stepV gv (vof 0 L) r c = if y0 < y1 then y1 else y0 := by rw [es0, e]; rfl
                    by_cases hp : y0 < y1
                    · rw [if_pos hp] at ec
                      refine ⟨D, _, 1, _, rfl, ?_, SqL.of hD5, at1, q _ _ s6 (by rw [ec]; exact hN1)⟩
                      rw [e, decide_eq_true hp]
                      rfl
                    · rw [if_neg hp] at ec
                      refine ⟨D, _, 0, _, rfl, ?_, SqL.of hD5, at0, q _ _ s6 (by rw [ec]; exact hN0)⟩
                      rw [e, decide_eq_false hp]
                      rfl
                  · have ec : stepV gv (vof 0 L) r c = if y0 < y1 then y0 else y1 := by rw [es0, e]; rfl
                    by_cases hp : y0 < y1
                    · rw [if_pos hp] at ec
                      refine ⟨D, _, 0, _, rfl, ?_, SqL.of hD5, at0, q _ _ s6 (by rw [ec]; exact hN0)⟩
                      rw [e, decide_eq_true hp]
                      rfl
                    · rw [if_neg hp] at ec
                      refine ⟨D, _, 1, _, rfl, ?_, SqL.of hD5, at1, q _ _ s6 (by rw [ec]; exact hN1)⟩
                      rw [e, decide_eq_false hp]
                      rfl
end
end K70
/-! K70, part LO: the law's own lists. -/
namespace K70
open PySem PySem.Spec PyProof.Rows L2
theorem mod_dec2 (b p : Nat) : decide (V.int (((0 : Int) + (b : Int)) % (p : Int)) = V.int 0) = decide (b % p = 0) := by
  have e : ((0 : Int) + (b : Int)) % (p : Int) = ((b % p : Nat) : Int) := by
    rw [Int.zero_add]
    exact (Int.natCast_emod b p).symm
  rw [e]
  refine decide_eq_decide.mpr ⟨fun h => ?_, fun h => by rw [h]; rfl⟩
  have q := V.int.inj h
  omega
section
variable {P : Program} {w : World} {K : PySem.W.Frag} {mg : Str → Option Value} {base : Heap}
def sp_law_lists (K : PySem.W.Frag) : Sp := fun vs H Q _ => ∃ (wd g : Addr) (rows : List Row) (outs : List (Str × Nat)) (turned : List Nat) (beats : Nat) (cut : Option Nat) (gv : Str → Nat → Rat) (v : Nat → Nat → Rat), vs = [.ref wd, .ref g, .int beats, figV cut] ∧ WV K H wd rows outs turned ∧ WOk rows outs turned ∧ beats ≤ 8 ∧
  Told K H g rows beats gv ∧ Sol rows gv cut beats v ∧ (∀ f, cut = some f → f ≤ 14) ∧
  ∀ t as H', Same H H' → H t = none → NLL K H' t as (tabC rows.length v fun j => manyN (perAt rows j) beats) → Q (.ref t) H'
/-! ### _law_lists -/
abbrev n_law_lists : List Str := ["_law_w", "_law_told", "_law_beats_many", "_law_cut", "_law_found", "_law_row", "_law_tick", "_law_k", "_law_value_here"]
theorem sc_law_lists : FnScope n_law_lists ["_law_w", "_law_told", "_law_beats_many", "_law_cut"] (defScope s_law_lists) := ⟨rfl, rfl, rfl, by decide +kernel, rfl, by decide +kernel, by decide +kernel⟩
theorem c_law_lists (T : TX K mg) : Cal P w K mg base "_law_lists" ["_law_w", "_law_told", "_law_beats_many", "_law_cut"] [] 6 (sp_law_lists K) := by
  refine cal_of T.g_law_lists T.f_law_lists (fun _ _ _ _ _ _ us hl => match us, hl with | [_, _, _, _], _ => rfl) fun fd F => okN F sc_law_lists (fun vs H Q E h => ?_) (fun cdv A outer s H vs Q E hr h => ?_)
  · obtain ⟨wd, g, rows, outs, turned, beats, cut, gv, v, rfl, hW, W, hb, hT, S, hcut, q⟩ := h
    rfl
  · obtain ⟨wd, g, rows, outs, turned, beats, cut, gv, v, rfl, hW, W, hb, hT, S, hcut, q⟩ := h
    have hu := hu_of hr
    refine ⟨_, 
      (pss_cons
        (ps_setLc (i := 4) (own := [("_law_row", 5)]) rfl sc_law_lists.nd rfl rfl (sw_true rfl rfl rfl (by decide +kernel)) (pi_list (pe_dget hu (pv 0) pe_str (fun _ _ => rfl))) (blkOk_by (N := n_law_lists) (sc := defScope s_law_lists) (by decide +kernel)) (fun _ _ _ _ _ => pg_name (i := 5) sc_law_lists.nd rfl (by first | exact Or.inl rfl | exact Or.inr rfl)) (fun _ _ _ _ _ => pts_nil) (fun _ _ _ _ _ => (pe_lst pa_nil)))
      (pss_cons
        (ps_for PassesOwn.never rfl (pi_range1 (by rfl) T.z_range (pa_cons (pv 2) pa_nil)) (pg_name (i := 6) sc_law_lists.nd rfl (by first | exact Or.inl rfl | exact Or.inr rfl))
          (pss_one
            (ps_for PassesOwn.never rfl (pi_enum (by rfl) T.z_enumerate (pa_cons (pe_dget hu (pv 0) pe_str (fun _ _ => rfl)) pa_nil)) (pg_tup (by rfl) (pgs_cons (pg_name (i := 7) sc_law_lists.nd rfl (by first | exact Or.inl rfl | exact Or.inr rfl)) (pgs_cons (pg_name (i := 5) sc_law_lists.nd rfl (by first | exact Or.inl rfl | exact Or.inr rfl)) pgs_nil)))
              (pss_one
                (ps_if (pt_cmpR op_eq (pe_op op_mod (pv 6) (pe_ix (ixT (K := K)) (pv 5) pe_int (fun _ _ => rfl))) pe_int (nomark _))
                  (pss_cons
                    (ps_set (i := 8) sc_law_lists.nd rfl (by first | exact Or.inl rfl | exact Or.inr rfl) (pe_cal (c_law_one_number T) (hr.mono (by decide)) (pa_cons (pv 5) (pa_cons (pv 4) (pa_cons (pv 1) (pa_cons (pe_op op_fdiv (pv 6) (pe_ix (ixT (K := K)) (pv 5) pe_int (fun _ _ => rfl))) pa_nil))))))
                  (pss_one
                    (ps_expr (pe_bm PySem.F.plainAttrs_list PySem.F.slot_list_append PySem.F.type_list_append mt_append (pe_ix (ixL (K := K)) (pv 4) (pv 7) (fun _ _ => rfl)) (pa_cons (pe_ifExp (pt_cmpR op_isN (pv 3) pe_non (nomark _)) (pv 8) (pe_cal (c_law_floor T) (hr.mono (by decide)) (pa_cons (pv 8) (pa_cons (pv 3) pa_nil)))) pa_nil)))))
                  pss_nil)))))
      (pss_one
        (ps_ret (pv 4))))), ?_⟩
    obtain ⟨nl, tl, ot, rvs, h1, h2, h3, h4, h5⟩ := id hW
    have hlen := h3.len
    have h9 := W.l9
    have G := W.d.gok W.l9
    have hsz : ∀ r ∈ rows, r.w = .spring → ∀ c, c < manyN r.per beats → Sz 20 20 (gv r.nm c) := fun r hr hw c hc => (hT.s r hr hw c hc).1
    refine ⟨_, rfl, wd, _, rfl, wget1 h1, nl, rfl, ⟨_, SqL.of h2⟩, fun D hD => ?_⟩
    refine lc_list (K := K) (a := nl) (xs := rvs) (fun i H' => ∃ as, as.length = i ∧ Fresh H H' D as) ⟨[], rfl, Fresh.start hD⟩ (fun i H' _ z => by obtain ⟨as, _, z⟩ := z; exact z.s.seq (SqL.of h2)) ?_ ?_
    · rintro i x H' hx ⟨as, z1, z2⟩
      have hi : i < rvs.length := (List.getElem?_eq_some_iff.mp hx).1
      refine ⟨rfl, by show 0 ≤ sizeLine; decide, fun l hl => ⟨_, same_upd hl _ _ z2.top, small1000 (by rw [List.length_map]; omega), as ++ [l], by rw [List.length_append, z1]; rfl, z2.step hl⟩⟩
    · rintro H3 ⟨as, z1, z3⟩
      have s4 := z3.s
      have hll : NLL K H3 D as (tabC rows.length v (cntAt rows 0 [])) := by
        rw [tabC_zero fun j hj => ?_]
        · have e := z3.ll (P := NumV K)
          rw [z1, hlen] at e
          exact e
        · unfold cntAt
          rw [if_neg List.not_mem_nil]
          refine manyN_zero ?_
          rw [perAt_eq (List.getElem?_eq_getElem hj)]
          exact (G.per _ (List.getElem_mem hj)).1
      have haH : ∀ a ∈ as, H a = none := fun a ha => (z3.new a ha).1
      refine ⟨_, rfl, beats, rfl, by omega, by omega, ?_⟩
      refine for_range (n := beats) (fun b σ H' => Same H H' ∧ NLL K H' D as (tabC rows.length v (cntAt rows b [])) ∧ ∃ x5 x6 x7 x8, σ = [some (.ref wd), some (.ref g), some (.int (beats : Int)), some (figV cut), some (.ref D), x5, x6, x7, x8])
        ⟨s4, hll, none, none, none, none, rfl⟩ ?_ ?_
      · rintro b σ H' hb' ⟨y1, y3, x5, x6, x7, x8, rfl⟩
        refine ⟨_, rfl, wd, _, rfl, wget1 (y1 _ _ h1), nl, rvs, rfl, SqL.of (y1 _ _ h2), ?_⟩
        refine for_it walk_enum (fun i σ H' => Same H H' ∧ NLL K H' D as (tabC rows.length v (cntAt rows b (List.range i))) ∧ ∃ x5 x7 x8, σ = [some (.ref wd), some (.ref g), some (.int (beats : Int)), some (figV cut), some (.ref D), x5, some (.int (0 + (b : Int))), x7, x8])
          ⟨y1, y3, x5, x7, x8, rfl⟩ (fun i σ H' _ z => z.1.seq (SqL.of h2)) ?_ ?_
        · rintro j y σ H5 H5' hj0 ⟨w1, w3, w5, w7, w8, rfl⟩ ⟨T1, u1, u2, rfl, hT1, rfl, e1', e2'⟩
          cases e1'
          obtain ⟨r, hr', hR⟩ := h3.at' e2'
          have hjn : j < rows.length := (List.getElem?_eq_some_iff.mp hr').1
          have hm := List.mem_of_getElem? hr'
          have hp := G.per r hm
          obtain ⟨ra, ta, u, rfl, k1, k2, k3⟩ := id hR
          have sT := same_upd (o := .tup [.int (j : Int), .ref ra]) hT1
          have w1' := w1.trans sT
          have w3' := w3.same sT
          have k1' := SqT.same k1 w1'
          have jn : j ∉ List.range j := fun m => Nat.lt_irrefl _ (List.mem_range.mp m)
          have tk_mem : ∀ x, x ∈ j :: List.range j ↔ x ∈ List.range (j + 1) := by
            intro x
            rw [List.mem_cons, List.mem_range, List.mem_range]
            omega
          refine ⟨T1, _, rfl, SqT.of upd_same, rfl, _, _, rfl, _, _, rfl, rfl, ?_⟩
          generalize upd H5 T1 (.tup [.int (j : Int), .ref ra]) = H6 at w1' w3' k1' ⊢
          refine ⟨_, rfl, _, rfl, ra, _, 3, _, rfl, rfl, k1', at3, _, _, rfl, rfl, (show (0 : Int) < (r.per : Int) by omega), rfl, _, rfl, ?_⟩
          rw [mod_dec2]
          by_cases hmod : b % r.per = 0
          · rw [decide_eq_true hmod]
            obtain ⟨c1, c2, c3, c4⟩ := G.ready hr' jn hmod fun hl a ha => List.mem_range.mpr ((G.rk j r hr').2 hl a ha)
            have hcl : b / r.per < manyN r.per beats := (manyN_lt hp.1).mpr (by have := Nat.div_mul_le_self b r.per; omega)
            have hvof : ∀ a c, a < rows.length → c < cntAt rows b (List.range j) a → vof 0 (tabC rows.length v (cntAt rows b (List.range j))) a c = v a c := fun a c h1 h2 => tabC_vof h1 h2
            have hst : stepV gv (vof 0 (tabC rows.length v (cntAt rows b (List.range j)))) r (b / r.per) = stepV gv v r (b / r.per) := by
              refine stepV_congr (fun hl h0 => ?_) (fun _ _ hl a ha => ?_)
              · obtain ⟨d1, d2⟩ := (c3 hl).resolve_left h0
                exact hvof _ _ d1 d2
              · obtain ⟨d1, d2⟩ := c4 hl a ha
                exact hvof _ _ d1 d2
            have bd := sol_bd G S hcut hb hsz hr' hcl
            obtain ⟨aj, vsj, e1, e2, e3, e4⟩ := w3'.get (tabC_get (v := v) (cnt := cntAt rows b (List.range j)) hjn)
            have hres := S j r (b / r.per) hr' hcl
            refine iteT ⟨_, rfl, _, rfl, _, rfl, _, rfl, _, rfl, ra, _, 3, _, rfl, rfl, k1', at3, _, _, rfl, rfl, ⟨by omega, by omega⟩, ?_⟩
            dsimp only
            rw [div_int]
            refine ⟨_, r, D, as, _, g, b / r.per, gv, rfl, hR.tk (tk_same w1'), G.ar r hm, w3', fun hs => (hT.g.same w1').at hm hs hcl, fun hl => ?_, fun _ _ hl a ha => ?_, fun j' l hl x hx => ?_, (G.q r hm).bd (by decide) (by decide), fun v2 H7 s7 n7 => ?_⟩
            · refine (c3 hl).imp id fun d => ⟨_, tabC_get d.1, ?_⟩
              rw [List.length_map, List.length_range]
              exact d.2
            · obtain ⟨d1, d2⟩ := c4 hl a ha
              refine ⟨_, tabC_get d1, ?_⟩
              rw [List.length_map, List.length_range]
              exact d2
            · obtain ⟨d1, c', d2, rfl⟩ := tabC_mem hl hx
              have hr2 : rows[j']? = some rows[j'] := List.getElem?_eq_getElem d1
              refine (sol_bd G S hcut hb hsz hr2 ?_).1
              have p2 := G.per _ (List.getElem_mem d1)
              unfold cntAt at d2
              rw [perAt_eq hr2] at d2
              have d3 := (manyN_lt p2.1).mp d2
              refine (manyN_lt p2.1).mpr ?_
              split at d3 <;> omega
            · rw [hst] at n7
              have fin : ∀ (v3 : V) (H8 : Hp), Same H7 H8 → NumV K H8 v3 (v j (b / r.per)) → ∃ l xs y, V.ref aj = .ref l ∧ [v3] = [y] ∧ H8 l = some (.lst xs) ∧ xs.length < sizeLine ∧ (Same H (upd H8 l (.lst (xs ++ [y]))) ∧ NLL K (upd H8 l (.lst (xs ++ [y]))) D as (tabC rows.length v (cntAt rows b (List.range (j + 1)))) ∧
                  ∃ x5 x7 x8, ([some (.ref wd), some (.ref g), some (.int (beats : Int)), some (figV cut), some (.ref D), some (.ref ra), some (.int (0 + (b : Int))), some (.int (j : Int)), some v2] : L2.St) = [some (.ref wd), some (.ref g), some (.int (beats : Int)), some (figV cut), some (.ref D), x5, some (.int (0 + (b : Int))), x7, x8]) := by
                intro v3 H8 s8 n8
                have s78 := s7.trans s8
                have w38 : NLL K H8 D as (tabC rows.length v (cntAt rows b (List.range j))) := w3'.same s78
                have e3' := s78 _ _ e3
                have hvl : vsj.length < sizeLine := by
                  rw [e4.len, List.length_map, List.length_range, c1]
                  have := Nat.div_le_self b r.per
                  exact small1000 (by omega)
                have hpush := w38.push (fun _ _ _ _ d h => h.dk d) e1 (tabC_get (v := v) (cnt := cntAt rows b (List.range j)) hjn) e3' n8
                have ecj : v j (b / r.per) = v j (cntAt rows b (List.range j) j) := by rw [c1]
                rw [ecj, tabC_push (cnt' := cntAt rows b (j :: List.range j)) hjn (by rw [c2, c1]) (fun i' _ hne => cntAt_other hne), tabC_congr fun j' _ => cntAt_mem tk_mem j'] at hpush
                exact ⟨aj, _, _, rfl, rfl, e3', hvl, same_upd_new (w1'.trans s78) (haH _ (List.mem_of_getElem? e1)), hpush, _, _, _, rfl⟩
              have w37 : NLL K H7 D as (tabC rows.length v (cntAt rows b (List.range j))) := w3'.same s7
              refine ⟨_, rfl, _, rfl, D, _, (j : Nat), _, rfl, rfl, SqL.of w37.top, atI_nat e2, .inl ⟨rfl, _, SqL.of (s7 _ _ e3)⟩, ?_⟩
              refine ⟨_, rfl, rfl, _, rfl, ?_⟩
              cases cut with
              | none => exact iteT ⟨_, rfl, fin v2 H7 (Same.refl _) (by rw [hres]; exact n7)⟩
              | some f =>
                refine iteF ⟨_, rfl, _, rfl, v2, _, f, rfl, n7, bd.2, by have := hcut f rfl; omega, fun v3 H8 s8 n8 => fin v3 H8 s8 (by rw [hres]; exact n8)⟩
          · rw [decide_eq_false hmod]
            refine iteF ⟨w1', ?_, _, _, _, rfl⟩
            rw [tabC_congr (cnt' := cntAt rows b (List.range j)) fun j' _ => ?_]
            · exact w3'
            · rw [← cntAt_mem tk_mem j']
              exact cntAt_skip G hr' hmod j'
        · rintro σ H5 ⟨w1, w3, w5, w7, w8, rfl⟩
          rw [hlen] at w3
          refine ⟨w1, ?_, _, _, _, _, rfl⟩
          rw [tabC_congr (cnt' := cntAt rows b (List.range rows.length)) fun j' hj' => ?_]
          · exact w3
          · unfold cntAt
            rw [if_pos (List.mem_range.mpr hj'), if_neg List.not_mem_nil]
      · rintro σ H5 ⟨y1, y3, x5, x6, x7, x8, rfl⟩
        refine ⟨_, rfl, q D as H5 y1 z3.D0 ?_⟩
        rw [tabC_congr (cnt' := cntAt rows beats []) fun j' hj' => ?_]
        · exact y3
        · unfold cntAt
          rw [if_neg List.not_mem_nil]
end
end K70
/-! K70, part LP: bounds. -/
namespace K70
open PySem PySem.Spec PyProof.Rows L2
def tCallSN (n m : Nat) (sp : Sp) (gV : List V → List V → List V) (E : L2.St → XK) (t tk : TA) : TE := fun σ H Q => t σ H fun vs H1 => tk σ H1 fun zs H2 => vs.length = n ∧ zs.length = m ∧ sp (gV vs zs) H2 Q (E σ)
section
variable {X : Cx} {CX : CXT} {k n : Nat} {f : Addr} {fd : FuncData} {ps ks : List Str} {sp : Sp} {E : L2.St → XK} {x : Str} {p pos : Pos} {e : Expr} {es : List Expr} {kws : List Keyword} {t tk : TA} {g : List Value → List Value → List Value} {gV : List V → List V → List V}
/-- f(e, .., k = v, ..) that may raise, what is wished of that told by the slots -/
theorem pe_callSN (F : FnOk X.prog X.w X.K X.mg X.base CX k f fd ps sp) (hr : Room k X.A) (hg : Gl X x) (hm : X.mg x = some (.ref f)) (hk : PySem.W.keepIn X.K (.ref f) = true) (hb : KBn X.K fd ps n ks g gV) (hx : ∀ σ, PassesAt CX X σ (E σ))
    (ha : PA X (e :: es) t) (hkw : PK X kws tk) (hall : (backToKw pos (keywordEach kws X.env)).all (·.1.isSome) = true := by rfl) (hks : (backToKw pos (keywordEach kws X.env)).filterMap (·.1) = ks := by rfl)
    (hdb : (x == ("__debug__" : Str)) = false := by decide) (he : starEach (e :: es) X.env = (false, eval e X.env) :: starEach es X.env := by rfl)
    (hpl : ((backTo pos (starEach (e :: es) X.env)).any (·.1) || (backToKw pos (keywordEach kws X.env)).any (·.1.isNone)) = false := by rfl) :
    PE X (.Call (.Name x p) (e :: es) kws pos) (tCallSN n ks.length sp gV E t tk) := by
  constructor
  intro pins s σ H Q I h
  refine wpAny_Call_Name_kw (ld_glob I hg hm ?_ hdb)
  refine PySem.W.callWith_KW (h₀ := X.base) I.ok.mod.kin hk hall (thn (ha.run pos pins s σ H _ I h) fun us s1 ⟨vs, H1, I1, r, q⟩ => ?_) hpl he
  refine thn (hkw.run pos pins s1 σ H1 _ I1 q) fun ws s2 ⟨zs, H2, I2, rz, l1, l2, q2⟩ => ⟨I2.kIn, ?_⟩
  rw [hks]
  have r2 := hb.rel r rz
  refine wpAny_call (codeAny_mono (F.run X.A X.stack s2 H2 ⟨us, ks.zip ws⟩ (g us ws) (gV vs zs) Q (E σ) hr I2.env0 (hb.to s2 us ws I2.kIn (r.length.symm.trans l1) (rz.length.symm.trans l2)) r2 q2) fun r s' hq => ?_)
  cases r with
  | error e => exact hx σ pins H2 s2 e s' I2 hq
  | ok fl =>
    cases fl with
    | ret u => exact I2.after hq
    | next => exact False.elim hq
    | brk => exact False.elim hq
    | cont => exact False.elim hq
end
/-- a suite for errors of one class, their dict there -/
theorem pss_ex {X : Cx} {b : List Stmt} {cls : Value} {D : Addr} {d : Option Addr} {ts : Addr → TS} (h : ∀ d0, cls = .ref D → d = some d0 → PSs X b (ts d0)) : PSs X b (fun Dn σ H => ∃ d0, cls = .ref D ∧ d = some d0 ∧ ts d0 Dn σ H) :=
  ⟨fun pins s σ H Dn I ⟨d0, e1, e2, q⟩ => (h d0 e1 e2).run pins s σ H Dn I q⟩
/-- the suite: e's found is None, a RuntimeError -/
theorem suite_is {X : Cx} {D a : Addr} {cls : Value} {d : Option Addr} {oe : Obj} {pn : List (Addr × Obj)} {p1 p2 p3 p4 p5 p6 p7 p8 p9 : Pos} {j1 j2 : Nat} {z : Str} (C : ExcC X.K D) (hz : Zc cls d oe) (hf : ∃ vs, oe.data = .fields vs) (m1 : X.mg "isinstance" = none) (m2 : X.mg "RuntimeError" = none)
    (g1 : Gl X "isinstance") (g2 : Gl X "RuntimeError") (hN : X.N.Nodup) (h3 : X.N[3]? = some ("_law_found" : Str)) (l3 : X.env.scope.names.lookup ("_law_found" : Str) = some NameKind.local) (h4 : X.N[4]? = some ("error" : Str)) (l4 : X.env.scope.names.lookup ("error" : Str) = some NameKind.local) :
    PSs (X.suite a ((a, oe) :: pn)) [.Assign [.Name "_law_found" p1] (.IfExp (.Call (.Name "isinstance" p2) [.Name "error" p3, .Name "RuntimeError" p4] [] p5) (.Constant .none j1 p6) (.Constant (.str z) j2 p7) p8) p9]
      (fun Dn σ H => ∃ d0, cls = .ref D ∧ d = some d0 ∧ tAsg (tIf (tB (tCB (rIsD X.K D a d0) (tCons (tVar 4) (tCons (tC (.ty "RuntimeError")) tNil)))) (tC .non) (tC (.str z))) (gName 3) Dn σ H) := by
  refine pss_ex fun d0 e1 e2 => ?_
  subst e1 e2
  refine pss_one (ps_set (X := X.suite a ((a, oe) :: pn)) (i := 3) hN h3 (.inl l3) ?_ (by rfl) (.inr l3))
  exact pe_ifExp (pt_val (pe_callB (X := X.suite a ((a, oe) :: pn)) (call_isD C hz hf) g1 m1 (by decide +kernel) (pa_cons (pe_var h4 (.inl l4)) (pa_cons (pe_bltn (v := .ty "RuntimeError") g2 m2 Boot.«RuntimeError» rfl) pa_nil)))) pe_non pe_str
section
variable {P : Program} {w : World} {K : PySem.W.Frag} {mg : Str → Option Value} {base : Heap}
def sp_law_bounds (K : PySem.W.Frag) : Sp := fun vs H Q _ => ∃ (gr : Addr) (rows : List Row) (rk : Nat → Nat) (ot : V) (outs : List (Str × Nat)) (beats fig : Nat), vs = [.ref gr, .int beats, .int fig] ∧ GraphV K H gr rows ot ∧ OutsV K H ot outs ∧ GOk rows rk ∧ beats ≤ 8 ∧ fig ≤ 14 ∧
  (∀ o ∈ outs, o.2 < rows.length) ∧ (outs.map (·.1)).Nodup ∧ outs.length ≤ 100 ∧ (∀ H', Same H H' → Q .non H') ∧
  ∀ d H' kk lh, Same H H' → H d = none → H' d = some (.dK kk) → DOut (SpanV K) (fun j => (List.range (manyN (perAt rows j) beats)).map (lh j)) H' kk outs → NoiseOk rows fig 6 beats lh → Q (.ref d) H'
abbrev n_law_bounds : List Str := ["_law_net", "_law_beats_many", "_law_places_here", "_law_found", "error"]
theorem sc_law_bounds : FnScope n_law_bounds ["_law_net", "_law_beats_many", "_law_places_here"] (defScope s_law_bounds) := ⟨rfl, rfl, rfl, by decide +kernel, rfl, by decide +kernel, by decide +kernel⟩
theorem c_law_bounds (T : TX K mg) : Cal P w K mg base "_law_bounds" ["_law_net", "_law_beats_many", "_law_places_here"] [] 8 (sp_law_bounds K) := by
  obtain ⟨fn, Fn⟩ := T.f_noise_of
  obtain ⟨mv, hbn⟩ := kb_noise_of Fn
  have okn := ok_noise_of (P := P) (w := w) (base := base) T Fn
  have U := exB_unsure T.ex
  refine cal_of T.g_law_bounds T.f_law_bounds (fun _ _ _ _ _ _ us hl => match us, hl with | [_, _, _], _ => rfl) fun fd F => okN F sc_law_bounds (fun vs H Q E h => ?_) (fun cdv A outer s H vs Q E hr h => ?_)
  · obtain ⟨gr, rows, rk, ot, outs, beats, fig, rfl, _⟩ := h
    rfl
  · obtain ⟨gr, rows, rk, ot, outs, beats, fig, rfl, hgr, hot, G, hb, hfig, hon, hond, hol, q1, q2⟩ := h
    refine ⟨_,
      (pss_cons (ps_set (i := 3) sc_law_bounds.nd rfl (by first | exact Or.inl rfl | exact Or.inr rfl) pe_non)
      (pss_cons
        (ps_try_as (i := 4) (by rfl) (by rfl) sc_law_bounds.nd (by rfl) (by rfl) ⟨by rfl, by decide, .inl T.g_Unsure⟩ takes0
          (fun W pn xe tk _ => pss_one (ps_set (i := 3) sc_law_bounds.nd rfl (by first | exact Or.inl rfl | exact Or.inr rfl) (pe_callSN okn (hr.mono (by decide)) (by rfl) T.g_noise_of Fn.kp hbn (fun σ => passAt tk σ) (pa_cons (pv 0) (pa_cons (pv 1) pa_nil)) (pk_cons (pv 2) (pk_cons pe_int pk_nil)))))
          (fun a oe cls d pn hz hf => suite_is U.ec hz hf T.z_isinstance T.z_RuntimeError (by rfl) (by rfl) sc_law_bounds.nd (by rfl) (by rfl) (by rfl) (by rfl)))
      (pss_one (ps_ret (pv 3))))), ?_⟩
    refine ⟨_, rfl, _, rfl, _, rfl, rfl, rfl, gr, rows, rk, ot, outs, beats, fig, 6, rfl, hgr, hot, G, hb, hfig, by decide, hon, hond, hol, fun d fs H' hs hd => ?_, fun d H' kk lh hs hn hk hd hN => ?_⟩
    · refine ⟨true, U.me, fun _ a ha => ?_, fun z => nomatch z⟩
      refine ⟨d, rfl, rfl, _, rfl, .ty "RuntimeError", .type "RuntimeError", true, fs, rfl, ?_, U.isR, hd, ?_⟩
      · intro u hu
        exact hu
      refine ⟨_, rfl, ?_⟩
      refine ⟨_, rfl, ?_⟩
      exact q1 H' hs
    · refine ⟨_, rfl, ?_⟩
      exact q2 d H' kk lh hs hn hk hd hN
end
end K70
/-! K70, part LQ: same. -/
namespace K70
open PySem PySem.Spec PyProof.Rows L2
/-- answers that _law_same takes for one, by depth: ints, tuples, lists -/
def SamV (K : PySem.W.Frag) : Nat → Hp → V → V → Prop
  | 0, _, _, _ => False
  | d + 1, H, x, y => (∃ i : Int, x = .int i ∧ y = .int i) ∨ (∃ a b xs ys, x = .ref a ∧ y = .ref b ∧ SqT K H a xs ∧ SqT K H b ys ∧ ys.length ≤ 1000 ∧ All2 (SamV K d H) xs ys) ∨
      (∃ a b xs ys, x = .ref a ∧ y = .ref b ∧ H a = some (.lst xs) ∧ H b = some (.lst ys) ∧ ys.length ≤ 1000 ∧ All2 (SamV K d H) xs ys)
/-- two dicts of one key -/
def TopV (K : PySem.W.Frag) (d : Nat) (H : Hp) (x y : V) : Prop := ∃ (a b : Addr) (nm : Str) (x' y' : V), x = .ref a ∧ y = .ref b ∧ a ≠ b ∧ H a = some (.dK [(.inr nm, x')]) ∧ H b = some (.dK [(.inr nm, y')]) ∧ SamV K d H x' y'
theorem SamV.keep {K : PySem.W.Frag} {H H' : Hp} (tk : TK K H H') (lk : ∀ a xs, H a = some (.lst xs) → H' a = some (.lst xs)) : ∀ {d : Nat} {x y : V}, SamV K d H x y → SamV K d H' x y
  | 0, _, _, h => h.elim
  | d + 1, x, y, h => by
    rcases h with h | ⟨a, b, xs, ys, e1, e2, h1, h2, hl, h3⟩ | ⟨a, b, xs, ys, e1, e2, h1, h2, hl, h3⟩
    · exact .inl h
    · exact .inr (.inl ⟨a, b, xs, ys, e1, e2, tk _ _ h1, tk _ _ h2, hl, h3.imp fun _ _ q => SamV.keep tk lk q⟩)
    · exact .inr (.inr ⟨a, b, xs, ys, e1, e2, lk _ _ h1, lk _ _ h2, hl, h3.imp fun _ _ q => SamV.keep tk lk q⟩)
theorem SamV.same {K : PySem.W.Frag} {H H' : Hp} {d : Nat} {x y : V} (h : SamV K d H x y) (e : Same H H') : SamV K d H' x y := h.keep (tk_same e) fun a xs q => e _ _ q
def sp_same (K : PySem.W.Frag) : Nat → Sp
  | 0 => fun _ _ _ _ => False
  | d + 1 => fun vs H Q _ => ∃ x y, vs = [x, y] ∧ (SamV K (d + 1) H x y ∨ TopV K d H x y) ∧ ∀ H', Same H H' → Q (.bl true) H'
theorem tyT {K : PySem.W.Frag} {H : Hp} {a : Addr} {xs : List V} (h : SqT K H a xs) : TyX K H (.ref a) (.type "tuple") := by
  rcases h with (h | ⟨o, h⟩) | ⟨o, its, n, e, c, _⟩
  · exact .base (.tup h)
  · exact .fTuple h
  · exact .kTuple e c
theorem walk_zipT {K : PySem.W.Frag} {a b : Addr} {xs ys : List V} {n : Nat} (hn : n = min xs.length ys.length) : Walk (RZ.ItzT K a b) n (fun H => SqT K H a xs ∧ SqT K H b ys) (YPair (fun i => xs[i]?) (fun i => ys[i]?)) := by
  subst hn
  refine ⟨fun i _ hi q => ?_, fun _ q => ⟨xs, ys, q.1, q.2, by omega⟩, fun i H v H' _ q y => ?_⟩
  · have h1 : i < xs.length := by omega
    have h2 : i < ys.length := by omega
    exact ⟨xs, ys, xs[i], ys[i], q.1, q.2, by simp [h1], by simp [h2]⟩
  · obtain ⟨T, x, z, h1, h2, h3, h4, h5⟩ := y
    exact ⟨T, x, z, h1, h2, h3, h4 xs q.1, h5 ys q.2⟩
theorem All2.at2 {α β : Type} {R : α → β → Prop} : ∀ {xs : List α} {ys : List β}, All2 R xs ys → ∀ {i : Nat} {x : α} {y : β}, xs[i]? = some x → ys[i]? = some y → R x y
  | _, _, .nil, _, _, _, h, _ => by simp at h
  | _, _, .cons h t, 0, _, _, e1, e2 => by
    simp at e1 e2
    subst e1 e2
    exact h
  | _, _, .cons h t, i + 1, _, _, e1, e2 => t.at2 (by simpa using e1) (by simpa using e2)
theorem all_true (n : Nat) : (List.replicate n true).all id = true := by simp
theorem trues (n : Nat) : (List.replicate n true).map V.bl = List.replicate n (V.bl true) := List.map_replicate ..
theorem trues_snoc (n : Nat) : List.replicate n (V.bl true) ++ [V.bl true] = List.replicate (n + 1) (V.bl true) := by
  rw [List.replicate_succ']
theorem merge_true : decide ((V.bl true) = (V.bl true)) = true := by decide
theorem kitLT {K : PySem.W.Frag} (t : String) (r1 r2 : Bool) (h1 : kitB t "list" = some r1) (h2 : kitB t "tuple" = some r2) : PySem.W.kitAny K (.type t) [.type "list", .type "tuple"] = some (r1 || r2) := by
  refine kitAny_cons (kit_ty h1) (fun e => kitAny_cons (kit_ty h2) (fun e2 => ?_) fun e2 => ?_) fun e => ?_
  · rw [e, e2]
    exact kitAny_nil
  · rw [e2, Bool.or_true]
  · rw [e, Bool.true_or]
theorem ifTT {c : Bool} {A B : Prop} (h : c = true) (a : A) : if c = true then A else B := by
  rw [if_pos h]
  exact a
theorem vals_at : ∀ {xs : List V} {us : List Value}, Vals xs us → ∀ (j : Nat) (h : j < us.length), ∃ x, xs[j]? = some x ∧ RelV x us[j]
  | _, _, .nil, j, h => absurd h (Nat.not_lt_zero j)
  | _, _, .cons r t, 0, _ => ⟨_, rfl, r⟩
  | _, _, .cons r t, j + 1, h => by
    obtain ⟨x, e, r'⟩ := vals_at t j (Nat.lt_of_succ_lt_succ h)
    exact ⟨x, by simpa using e, by simpa using r'⟩
/-- a != b, two lists of the same plain items -/
def rNeF (K : PySem.W.Frag) : R2 := fun x y H Q => ∃ a b xs, x = .ref a ∧ y = .ref b ∧ SqL K H a xs ∧ SqL K H b xs ∧ (∀ v ∈ xs, flatB v = true) ∧ Q (.bl false) H
theorem op_neF {X : Cx} (hu : X.A.units + 64 < cLine) : OpR X (compareOp .NotEq) (rNeF X.K) := by
  intro pins s σ H x y v u Q I rx ry h
  obtain ⟨a, b, xs, rfl, rfl, ha, hb, hf, q⟩ := h
  cases (show v = Value.ref a from rx)
  cases (show u = Value.ref b from ry)
  obtain ⟨us, r1, p1, _⟩ := I.list ha
  obtain ⟨ws, r2, p2, _⟩ := I.list hb
  have hsz : us.toArray.size = ws.toArray.size := by rw [List.size_toArray, List.size_toArray, ← r1.length, ← r2.length]
  refine SeqAt.RcNeAt.lists (e := fun _ => true) p1.isList p2.isList hsz (by omega) (fun j h1 h2 => ?_) X.prog X.w _ _ ?_
  · obtain ⟨x1, e1, k1⟩ := vals_at r1 j (by simpa using h1)
    obtain ⟨x2, e2, k2⟩ := vals_at r2 j (by simpa using h2)
    rw [e1] at e2
    cases e2
    have k := eqAt_same (A := X.A.in1) (s := s) k1 k2 (hf x1 (List.mem_of_getElem? e1))
    simpa using k
  · rw [show ((List.range us.toArray.size).all fun _ => true) = true from List.all_eq_true.mpr fun _ _ => rfl]
    exact ⟨.bl false, H, I, rfl, q⟩
theorem one_key {nm : Str} {v : V} : valV [((.inr nm : Key), v)] (.inr nm) = some v := by
  simp [valV]
theorem rec_sp {K : PySem.W.Frag} {d : Nat} {H : Hp} {x y : V} {Q : VK} {E : XK} (h : SamV K d H x y) (q : ∀ H', Same H H' → Q (.bl true) H') : sp_same K d [x, y] H Q E := by
  cases d with
  | zero => exact False.elim h
  | succ d => exact ⟨x, y, rfl, .inl h, q⟩
abbrev n_law_same : List Str := ["_law_found", "_law_due", "_law_key", "_law_one", "_law_two"]
theorem sc_law_same : FnScope n_law_same ["_law_found", "_law_due"] (defScope s_law_same) := ⟨rfl, rfl, rfl, by decide +kernel, rfl, by decide +kernel, by decide +kernel⟩
section
variable {P : Program} {w : World} {K : PySem.W.Frag} {mg : Str → Option Value} {base : Heap}
theorem c_same0 (T : TX K mg) : Cal P w K mg base "_law_same" ["_law_found", "_law_due"] [] 0 (sp_same K 0) := by
  refine cal_of T.g_law_same T.f_law_same (fun _ _ _ _ _ _ us hl => match us, hl with | [_, _], _ => rfl) fun fd F => ⟨fun _ _ _ _ h => False.elim h, fun _ _ _ _ _ _ _ _ _ _ _ _ _ h => False.elim h⟩
theorem c_sameS (T : TX K mg) {d : Nat} (C : Cal P w K mg base "_law_same" ["_law_found", "_law_due"] [] d (sp_same K d)) : Cal P w K mg base "_law_same" ["_law_found", "_law_due"] [] (d + 1) (sp_same K (d + 1)) := by
  refine cal_of T.g_law_same T.f_law_same (fun _ _ _ _ _ _ us hl => match us, hl with | [_, _], _ => rfl) fun fd F => okN F sc_law_same (fun vs H Q E h => ?_) (fun cdv A outer s H vs Q E hr h => ?_)
  · obtain ⟨x, y, rfl, h⟩ := h
    rfl
  · obtain ⟨x, y, rfl, h, q⟩ := h
    have hu := hu_of hr
    refine ⟨_, 
      (pss_cons
        (ps_if (pt_val (pe_callB call_isi (by rfl) T.z_isinstance (by decide +kernel) (pa_cons (pv 1) (pa_cons (pe_bltn (v := .ty "dict") (by rfl) T.z_dict Boot.«dict» rfl) pa_nil))))
          (pss_cons
            (ps_if (PW.pt (pw_or (pt_not (pt_val (pe_callB call_isi (by rfl) T.z_isinstance (by decide +kernel) (pa_cons (pv 0) (pa_cons (pe_bltn (v := .ty "dict") (by rfl) T.z_dict Boot.«dict» rfl) pa_nil))))) (pw_or1 (pt_cmpR (op_neF hr.units) (pe_callB (call_sortedD rfl) (by rfl) T.z_sorted (by decide +kernel) (pa_cons (pv 0) pa_nil)) (pe_callB (call_sortedD rfl) (by rfl) T.z_sorted (by decide +kernel) (pa_cons (pv 1) pa_nil)) (nomark _)))))
              (pss_one
                (ps_ret pe_bl))
              pss_nil)
          (pss_one
            (ps_ret (pe_callB (cr_all rfl) (by rfl) T.z_all (by decide +kernel) (pa_cons (pe_lock (pe_lc (own := [("_law_key", 2)]) rfl sc_law_same.nd (pi_keys (pv 1)) (blkOk_by (N := n_law_same) (sc := defScope s_law_same) (by decide +kernel)) (fun _ _ _ _ _ => pg_name (i := 2) sc_law_same.nd rfl (by first | exact Or.inl rfl | exact Or.inr rfl)) (fun _ _ _ _ _ => pts_nil) (fun _ _ _ _ _ => (pe_cal C hr (pa_cons (pe_dget hu (pv 0) (pv 2) (fun _ _ => rfl)) (pa_cons (pe_dget hu (pv 1) (pv 2) (fun _ _ => rfl)) pa_nil)))))) pa_nil)))))
          pss_nil)
      (pss_cons
        (ps_if (pt_val (pe_callB call_isiT (by rfl) T.z_isinstance (by decide +kernel) (pa_cons (pv 1) (pa_cons (pe_tup (pa_cons (pe_bltn (v := .ty "list") (by rfl) T.z_list Boot.«list» rfl) (pa_cons (pe_bltn (v := .ty "tuple") (by rfl) T.z_tuple Boot.«tuple» rfl) pa_nil))) pa_nil))))
          (pss_cons
            (ps_if (PW.pt (pw_or (pt_cmpR op_ne (pe_callB call_isi (by rfl) T.z_isinstance (by decide +kernel) (pa_cons (pv 0) (pa_cons (pe_bltn (v := .ty "list") (by rfl) T.z_list Boot.«list» rfl) pa_nil))) (pe_callB call_isi (by rfl) T.z_isinstance (by decide +kernel) (pa_cons (pv 1) (pa_cons (pe_bltn (v := .ty "list") (by rfl) T.z_list Boot.«list» rfl) pa_nil))) (nomark _)) (pw_or1 (pt_cmpR op_ne (pe_callB call_isi (by rfl) T.z_isinstance (by decide +kernel) (pa_cons (pv 0) (pa_cons (pe_bltn (v := .ty "tuple") (by rfl) T.z_tuple Boot.«tuple» rfl) pa_nil))) (pe_callB call_isi (by rfl) T.z_isinstance (by decide +kernel) (pa_cons (pv 1) (pa_cons (pe_bltn (v := .ty "tuple") (by rfl) T.z_tuple Boot.«tuple» rfl) pa_nil))) (nomark _)))))
              (pss_one
                (ps_ret pe_bl))
              pss_nil)
          (pss_one
            (ps_ret (pe_and (pe_cmpR op_eq (pe_callB (lenSeqK (K := K)) (by rfl) T.z_len (by decide +kernel) (pa_cons (pv 0) pa_nil)) (pe_callB (lenSeqK (K := K)) (by rfl) T.z_len (by decide +kernel) (pa_cons (pv 1) pa_nil)) (nomark _)) (pe_one (pe_callB (cr_all rfl) (by rfl) T.z_all (by decide +kernel) (pa_cons (pe_lc (own := [("_law_one", 3), ("_law_two", 4)]) (g := gTup K 2 (gCons (gName 3) (gCons (gName 4) (gNil)))) rfl sc_law_same.nd (RZ.pi_zipA (by rfl) T.z_zip (pa_cons (pv 0) (pa_cons (pv 1) pa_nil))) (blkOk_by (N := n_law_same) (sc := defScope s_law_same) (by decide +kernel)) (fun _ _ _ _ _ => pg_tup (by rfl) (pgs_cons (pg_name (i := 3) sc_law_same.nd rfl (by first | exact Or.inl rfl | exact Or.inr rfl)) (pgs_cons (pg_name (i := 4) sc_law_same.nd rfl (by first | exact Or.inl rfl | exact Or.inr rfl)) pgs_nil))) (fun _ _ _ _ _ => pts_nil) (fun _ _ _ _ _ => (pe_cal C hr (pa_cons (pv 3) (pa_cons (pv 4) pa_nil))))) pa_nil)))))))
          pss_nil)
      (pss_cons
        (ps_if (PW.pt (pw_or (pt_cmpR op_isN (pv 1) pe_non (nomark _)) (pw_or1 (pt_cmpR op_isN (pv 0) pe_non (nomark _)))))
          (pss_one
            (ps_ret (pe_and (pe_cmpR op_isN (pv 1) pe_non (nomark _)) (pe_one (pe_cmpR op_isN (pv 0) pe_non (nomark _))))))
          pss_nil)
      (pss_cons
        (ps_if (PW.pt (pw_or (pt_val (pe_callB call_isi (by rfl) T.z_isinstance (by decide +kernel) (pa_cons (pv 1) (pa_cons (pe_bltn (v := .ty "bool") (by rfl) T.z_bool Boot.«bool» rfl) pa_nil)))) (pw_or1 (pt_val (pe_callB call_isi (by rfl) T.z_isinstance (by decide +kernel) (pa_cons (pv 1) (pa_cons (pe_bltn (v := .ty "str") (by rfl) T.z_str Boot.«str» rfl) pa_nil)))))))
          (pss_one
            (ps_ret (pe_and (pe_cmpR op_eq (pe_callB call_isi (by rfl) T.z_isinstance (by decide +kernel) (pa_cons (pv 0) (pa_cons (pe_bltn (v := .ty "bool") (by rfl) T.z_bool Boot.«bool» rfl) pa_nil))) (pe_callB call_isi (by rfl) T.z_isinstance (by decide +kernel) (pa_cons (pv 1) (pa_cons (pe_bltn (v := .ty "bool") (by rfl) T.z_bool Boot.«bool» rfl) pa_nil))) (nomark _)) (pe_one (pe_cmpR op_eq (pv 0) (pv 1) (nomark _))))))
          pss_nil)
      (pss_one
        (ps_ret (pe_and (pe_callB call_isi (by rfl) T.z_isinstance (by decide +kernel) (pa_cons (pv 0) (pa_cons (pe_bltn (v := .ty "int") (by rfl) T.z_int Boot.«int» rfl) pa_nil))) (pe_and (pe_not (pe_callB call_isi (by rfl) T.z_isinstance (by decide +kernel) (pa_cons (pv 0) (pa_cons (pe_bltn (v := .ty "bool") (by rfl) T.z_bool Boot.«bool» rfl) pa_nil)))) (pe_one (pe_cmpR op_eq (pv 0) (pv 1) (nomark _))))))))))), ?_⟩
    rcases h with (⟨i, rfl, rfl⟩ | ⟨a, b, xs, ys, rfl, rfl, h1, h2, hl, h3⟩ | ⟨a, b, xs, ys, rfl, rfl, h1, h2, hl, h3⟩) | ⟨a, b, nm, x', y', rfl, rfl, hab, h1, h2, h3⟩
    · refine ⟨_, rfl, .int i, _, _, _, false, rfl, .ty _, .base (.int i), kit_ty (by decide +kernel), _, rfl, iteF ?_⟩
      refine ⟨_, rfl, by show 2 ≤ sizeLine; decide, fun t ht => ⟨.int i, t, [.ty "list", .ty "tuple"], .type "int", [.type "list", .type "tuple"], false, rfl, upd_same, .cons (.ty _) (.cons (.ty _) .nil), .base (.int i), kitLT "int" false false (by decide +kernel) (by decide +kernel), _, rfl, iteF ?_⟩⟩
      have st := same_upd (o := .tup [.ty "list", .ty "tuple"]) ht
      refine ⟨_, rfl, rfl, false, by rfl, iteF ⟨_, rfl, rfl, false, by rfl, iteF ?_⟩⟩
      refine ⟨_, rfl, .int i, _, _, _, false, rfl, .ty _, .base (.int i), kit_ty (by decide +kernel), _, rfl, iteF ⟨_, rfl, .int i, _, _, _, false, rfl, .ty _, .base (.int i), kit_ty (by decide +kernel), _, rfl, iteF ?_⟩⟩
      refine ⟨_, rfl, .int i, _, _, _, true, rfl, .ty _, .base (.int i), kit_ty (by decide +kernel), _, rfl, iteT ⟨_, rfl, .int i, _, _, _, false, rfl, .ty _, .base (.int i), kit_ty (by decide +kernel), _, rfl, _, rfl, iteT ⟨_, rfl, _, rfl, rfl, ?_⟩⟩⟩
      have e : decide (V.int i = V.int i) = true := decide_eq_true rfl
      rw [e]
      exact q _ st
    · refine ⟨_, rfl, .ref b, _, _, _, false, rfl, .ty _, tyT h2, kit_ty (by decide +kernel), _, rfl, iteF ?_⟩
      refine ⟨_, rfl, by show 2 ≤ sizeLine; decide, fun t ht => ⟨.ref b, t, [.ty "list", .ty "tuple"], .type "tuple", [.type "list", .type "tuple"], true, rfl, upd_same, .cons (.ty _) (.cons (.ty _) .nil), tyT (SqT.same h2 (same_upd ht)), kitLT "tuple" false true (by decide +kernel) (by decide +kernel), _, rfl, iteT ?_⟩⟩
      have st := same_upd (o := .tup [.ty "list", .ty "tuple"]) ht
      have h1' := SqT.same h1 st
      have h2' := SqT.same h2 st
      have h3' := h3.imp fun _ _ r => r.same st
      generalize upd H t (.tup [.ty "list", .ty "tuple"]) = H1 at st h1' h2' h3'
      have len := h3.len
      refine ⟨_, rfl, .ref a, _, _, _, false, rfl, .ty _, tyT h1', kit_ty (by decide +kernel), _, rfl, .ref b, _, _, _, false, rfl, .ty _, tyT h2', kit_ty (by decide +kernel), rfl, _, rfl, iteF ?_⟩
      refine ⟨_, rfl, .ref a, _, _, _, true, rfl, .ty _, tyT h1', kit_ty (by decide +kernel), _, rfl, .ref b, _, _, _, true, rfl, .ty _, tyT h2', kit_ty (by decide +kernel), rfl, _, rfl, iteF ?_⟩
      refine ⟨_, rfl, a, xs, rfl, .inr h1', _, rfl, b, ys, rfl, .inr h2', rfl, _, rfl, ifTT (by rw [len]; exact decide_eq_true rfl) ?_⟩
      refine ⟨_, rfl, _, rfl, a, b, xs, ys, rfl, .inr ⟨h1', h2', fun D hD => ?_⟩⟩
      refine lc_it (walk_zipT (n := ys.length) (by omega)) (fun k H' => Same H1 H' ∧ H' D = some (.lst (List.replicate k (.bl true)))) ⟨same_upd hD, upd_same⟩ (fun k H' _ z => ⟨SqT.same h1' z.1, SqT.same h2' z.1⟩) ?_ ?_
      · rintro k x H8 H8' hk ⟨m1, m2⟩ ⟨T1, x1, x2, rfl, hT1, rfl, g1, g2⟩
        have sT := same_upd (o := .tup [x1, x2]) hT1
        have s8 := h3'.at2 g1 g2
        refine ⟨T1, _, rfl, SqT.of upd_same, rfl, _, _, rfl, _, _, rfl, rfl, rfl, ?_⟩
        refine ⟨_, rfl, _, rfl, ?_⟩
        exact rec_sp (s8.same (m1.trans sT)) fun H9 s9 => ⟨_, s9 _ _ (sT _ _ m2), small1000 (by rw [List.length_replicate]; omega), same_upd_new ((m1.trans sT).trans s9) hD, by rw [upd_same, trues_snoc]⟩
      · rintro H8 ⟨m1, m2⟩
        refine ⟨D, List.replicate ys.length true, rfl, SqL.of (by rw [trues]; exact m2), ?_⟩
        rw [all_true]
        exact q _ (st.trans (m1))
    · refine ⟨_, rfl, .ref b, _, _, _, false, rfl, .ty _, .base (.lst h2), kit_ty (by decide +kernel), _, rfl, iteF ?_⟩
      refine ⟨_, rfl, by show 2 ≤ sizeLine; decide, fun t ht => ⟨.ref b, t, [.ty "list", .ty "tuple"], .type "list", [.type "list", .type "tuple"], true, rfl, upd_same, .cons (.ty _) (.cons (.ty _) .nil), .base (.lst (same_upd ht _ _ h2)), kitLT "list" true false (by decide +kernel) (by decide +kernel), _, rfl, iteT ?_⟩⟩
      have st := same_upd (o := .tup [.ty "list", .ty "tuple"]) ht
      have h1' := st _ _ h1
      have h2' := st _ _ h2
      have h3' := h3.imp fun _ _ r => r.same st
      generalize upd H t (.tup [.ty "list", .ty "tuple"]) = H1 at st h1' h2' h3'
      have len := h3.len
      refine ⟨_, rfl, .ref a, _, _, _, true, rfl, .ty _, .base (.lst h1'), kit_ty (by decide +kernel), _, rfl, .ref b, _, _, _, true, rfl, .ty _, .base (.lst h2'), kit_ty (by decide +kernel), rfl, _, rfl, iteF ?_⟩
      refine ⟨_, rfl, .ref a, _, _, _, false, rfl, .ty _, .base (.lst h1'), kit_ty (by decide +kernel), _, rfl, .ref b, _, _, _, false, rfl, .ty _, .base (.lst h2'), kit_ty (by decide +kernel), rfl, _, rfl, iteF ?_⟩
      refine ⟨_, rfl, a, xs, rfl, .inl (SqL.of h1'), _, rfl, b, ys, rfl, .inl (SqL.of h2'), rfl, _, rfl, ifTT (by rw [len]; exact decide_eq_true rfl) ?_⟩
      refine ⟨_, rfl, _, rfl, a, b, xs, ys, rfl, .inl ⟨SqL.of h1', SqL.of h2', fun D hD => ?_⟩⟩
      refine lc_it (walk_zip (n := ys.length) (by omega)) (fun k H' => Same H1 H' ∧ H' D = some (.lst (List.replicate k (.bl true)))) ⟨same_upd hD, upd_same⟩ (fun k H' _ z => ⟨SqL.of (z.1 _ _ h1'), SqL.of (z.1 _ _ h2')⟩) ?_ ?_
      · rintro k x H8 H8' hk ⟨m1, m2⟩ ⟨T1, x1, x2, rfl, hT1, rfl, g1, g2⟩
        have sT := same_upd (o := .tup [x1, x2]) hT1
        have s8 := h3'.at2 g1 g2
        refine ⟨T1, _, rfl, SqT.of upd_same, rfl, _, _, rfl, _, _, rfl, rfl, rfl, ?_⟩
        refine ⟨_, rfl, _, rfl, ?_⟩
        exact rec_sp (s8.same (m1.trans sT)) fun H9 s9 => ⟨_, s9 _ _ (sT _ _ m2), small1000 (by rw [List.length_replicate]; omega), same_upd_new ((m1.trans sT).trans s9) hD, by rw [upd_same, trues_snoc]⟩
      · rintro H8 ⟨m1, m2⟩
        refine ⟨D, List.replicate ys.length true, rfl, SqL.of (by rw [trues]; exact m2), ?_⟩
        rw [all_true]
        exact q _ (st.trans (m1))
    · refine ⟨_, rfl, .ref b, _, _, _, true, rfl, .ty _, .base (.dK h2), kit_ty (by decide +kernel), _, rfl, iteT ?_⟩
      refine ⟨_, rfl, .ref a, _, _, _, true, rfl, .ty _, .base (.dK h1), kit_ty (by decide +kernel), _, rfl, iteF ?_⟩
      refine ⟨_, rfl, a, _, [nm], rfl, .inl h1, rfl, by show 1 < 64; decide, fun y1 p1 per1 _ hp1 => ?_⟩
      have ey1 := List.perm_singleton.mp per1
      subst ey1
      have s1 := same_upd (o := .lst ([nm].map V.str)) hp1
      refine ⟨_, rfl, b, _, [nm], rfl, .inl (s1 _ _ h2), rfl, by show 1 < 64; decide, fun y2 p2 per2 _ hp2 => ?_⟩
      have ey2 := List.perm_singleton.mp per2
      subst ey2
      have s2 := same_upd (o := .lst ([nm].map V.str)) hp2
      have st := s1.trans s2
      refine ⟨p1, p2, [.str nm], rfl, rfl, SqL.of (s2 _ _ upd_same), SqL.of upd_same, (fun v hv => by rw [List.mem_singleton.mp hv]; rfl), _, rfl, iteF ?_⟩
      have h1' := st _ _ h1
      have h2' := st _ _ h2
      have h3' := h3.same st
      generalize upd (upd H p1 (.lst ([nm].map V.str))) p2 (.lst ([nm].map V.str)) = H1 at st h1' h2' h3'
      refine ⟨b, _, h2', trivial, fun od => ?_⟩
      have tkb : TK K H1 (upd H1 b (.frz od (.dK [(.inr nm, y')]))) := dic_tk h2'
      have h4 : SamV K d (upd H1 b (.frz od (.dK [(.inr nm, y')]))) x' y' := h3'.keep tkb fun c zs e => by
        have nc : c ≠ b := by
          rintro rfl
          rw [h2'] at e
          cases e
        rw [upd_ne nc]
        exact e
      have h1b : (upd H1 b (.frz od (.dK [(.inr nm, y')]))) a = some (.dK [(.inr nm, x')]) := by
        rw [upd_ne hab]
        exact h1'
      refine ⟨_, rfl, b, od, rfl, .inl ⟨_, upd_same, fun D hD => ?_⟩⟩
      have nDb : D ≠ b := by
        rintro rfl
        rw [upd_same] at hD
        cases hD
      refine lc_it walk_keys (fun i H' => Same (upd H1 b (.frz od (.dK [(.inr nm, y')]))) H' ∧ H' D = some (.lst (List.replicate i (.bl true)))) ⟨same_upd hD, upd_same⟩ (fun i H' _ z => z.1 _ _ upd_same) ?_ ?_
      · rintro i x H8 H8' hi ⟨m1, m2⟩ ⟨rfl, k, v, e1, rfl⟩
        have hi0 : i = 0 := by
          have : i < 1 := hi
          omega
        subst hi0
        cases e1
        refine ⟨rfl, _, rfl, _, rfl, a, _, rfl, .inl ⟨_, .inr nm, .inl (m1 _ _ h1b), rfl, one_key.symm⟩, _, rfl, _, rfl, b, _, rfl, .inl ⟨_, .inr nm, .inr ⟨od, m1 _ _ upd_same⟩, rfl, one_key.symm⟩, ?_⟩
        exact rec_sp (h4.same m1) fun H9 s9 => ⟨_, s9 _ _ m2, by show 0 < sizeLine; decide, same_upd_new (m1.trans s9) hD, by rw [upd_same, trues_snoc]⟩
      · rintro H8 ⟨m1, m2⟩
        refine ⟨m1 _ _ upd_same, D, [true], rfl, SqL.of (by rw [upd_ne nDb]; exact m2), ?_⟩
        refine q _ fun c o e => ?_
        by_cases hc : c = b
        · subst hc
          have e2 := st _ _ e
          rw [h2'] at e2
          rw [upd_same]
          exact e2
        · rw [upd_ne hc]
          exact m1 _ _ (by rw [upd_ne hc]; exact st _ _ e)
end
end K70
/-! K70, part LR0: what _law_graph_right wants, plain. -/
namespace K70
open PySem PySem.Spec PyProof.Rows L2
/-! ### with figures enough nothing is cut -/
theorem no_cut {rows : List Row} {rk : Nat → Nat} {gv : Str → Nat → Rat} {ve vf : Nat → Nat → Rat} {beats fig : Nat} (G : GOk rows rk) (Se : Sol rows gv none beats ve) (Sf : Sol rows gv (some fig) beats vf)
    (hd : ∀ (j : Nat) (r : Row) (c : Nat), rows[j]? = some r → c < manyN r.per beats → (ve j c).den ∣ 2 ^ fig) : ∀ (m j : Nat) (r : Row) (c : Nat), rows[j]? = some r → c < manyN r.per beats → mu rk j r c < m → vf j c = ve j c := by
  intro m
  induction m with
  | zero =>
    intro j r c _ _ h
    omega
  | succ m ih =>
    intro j r c hr hc h
    have hm := List.mem_of_getElem? hr
    have p := G.per r hm
    have hc' := (manyN_lt p.1).mp hc
    have e : stepV gv vf r c = stepV gv ve r c := by
      refine stepV_congr (fun hl h0 => ?_) (fun _ _ hl a ha => ?_)
      · obtain ⟨ra, e, _, ep, k⟩ := G.mu_late hr hl h0
        refine ih _ ra _ e ?_ (by omega)
        rw [ep]
        refine (manyN_lt p.1).mpr ?_
        have q := Nat.mul_le_mul_right r.per (show c - 1 ≤ c by omega)
        omega
      · obtain ⟨ra, e, k⟩ := G.mu_arg hr ha hl c
        refine ih _ ra _ e ?_ (by omega)
        have p2 := G.per ra (List.mem_of_getElem? e)
        refine (manyN_lt p2.1).mpr ?_
        obtain ⟨ra', e', h1, _⟩ := G.place hr ha
        rw [e] at e'
        cases e'
        have q := h1 hl c
        omega
    have e2 : ve j c = stepV gv ve r c := Se j r c hr hc
    rw [Sf j r c hr hc, e, ← e2]
    exact cutR_id (hd j r c hr hc)
theorem figsN_den {q : Rat} (h : Bd q) : q.den = 2 ^ figsN q := by
  obtain ⟨k, _, e⟩ := h.exp
  rw [figsN_eq e]
  exact e
/-! ### the places turned -/
section
variable {rows : List Row} {outs : List (Str × Nat)} {turned : List Nat}
theorem WOk.back (W : WOk rows outs turned) {r' : Row} (h : r' ∈ turnR rows turned) : ∃ r ∈ rows, r' = turnRow turned r := by
  obtain ⟨i, hi⟩ := List.mem_iff_getElem?.mp h
  obtain ⟨j, r, e1, _, e2⟩ := W.ti hi
  exact ⟨r, List.mem_of_getElem? e1, e2⟩
theorem WOk.perT (W : WOk rows outs turned) {j : Nat} (h : j < rows.length) : perAt (turnR rows turned) (sig turned j) = perAt rows j := by
  have e := List.getElem?_eq_getElem h
  rw [perAt_eq (W.tr e), perAt_eq e]
  rfl
theorem WOk.valT (W : WOk rows outs turned) (gv : Str → Nat → Rat) (cut : Option Nat) {j : Nat} (h : j < rows.length) (c : Nat) : valS (turnR rows turned) gv cut (sig turned j) c = valS rows gv cut j c :=
  val_turned gv cut (fun r hr a ha => by
    obtain ⟨k, hk⟩ := List.mem_iff_getElem?.mp hr
    exact (W.d.lt k r hk a ha).1) W.d.ar (fun j r h => W.tr h) 100 j c h
theorem WOk.givenT (W : WOk rows outs turned) {K : PySem.W.Frag} {H : Hp} {g : Addr} {beats : Nat} {gv : Str → Nat → Rat} (h : GivenD K H g rows beats gv) : GivenD K H g (turnR rows turned) beats gv := by
  obtain ⟨gk, h1, h2⟩ := h
  refine ⟨gk, h1, fun r' hr' hw => ?_⟩
  obtain ⟨r, hr, rfl⟩ := W.back hr'
  exact h2 r hr hw
theorem WOk.szT (W : WOk rows outs turned) {beats : Nat} {gv : Str → Nat → Rat} (h : ∀ r ∈ rows, r.w = .spring → ∀ c, c < manyN r.per beats → Sz 20 20 (gv r.nm c) ∧ (gv r.nm c).den ∣ 2 ^ 6) :
    ∀ r ∈ turnR rows turned, r.w = .spring → ∀ c, c < manyN r.per beats → Sz 20 20 (gv r.nm c) ∧ (gv r.nm c).den ∣ 2 ^ 6 := fun r' hr' hw c hc => by
  obtain ⟨r, hr, rfl⟩ := W.back hr'
  exact h r hr hw c hc
theorem WOk.onT (W : WOk rows outs turned) : ∀ o ∈ outs.map fun o => (o.1, sig turned o.2), o.2 < (turnR rows turned).length := fun o ho => by
  obtain ⟨o', ho', rfl⟩ := List.mem_map.mp ho
  rw [turnR_len]
  exact W.sl (W.on o' ho')
theorem WOk.ndT (W : WOk rows outs turned) : ((outs.map fun o => (o.1, sig turned o.2)).map (·.1)).Nodup := by
  rw [List.map_map]
  exact W.nd
theorem WOk.olT (W : WOk rows outs turned) : (outs.map fun o => (o.1, sig turned o.2)).length ≤ 100 := by
  rw [List.length_map]
  have := W.ol
  omega
/-- what noise_of tells holds what the numbers differ by -/
theorem noise_in (W : WOk rows outs turned) {beats fig : Nat} {gv : Str → Nat → Rat} {lh : Nat → Nat → Span} (hb : beats ≤ 8) (hs : ∀ r ∈ rows, r.w = .spring → ∀ c, c < manyN r.per beats → Sz 20 20 (gv r.nm c) ∧ (gv r.nm c).den ∣ 2 ^ 6)
    (hN : NoiseOk (turnR rows turned) fig 6 beats lh) {j c : Nat} (hj : j < rows.length) (hc : c < manyN (perAt rows j) beats) :
    ((lh (sig turned j) c).1 ≤ valS rows gv (some fig) j c - valS rows gv none j c ∧ valS rows gv (some fig) j c - valS rows gv none j c ≤ (lh (sig turned j) c).2) ∧ Bd (lh (sig turned j) c).1 ∧ Bd (lh (sig turned j) c).2 := by
  have e := List.getElem?_eq_getElem hj
  rw [perAt_eq e] at hc
  have hc' : c < manyN (turnRow turned rows[j]).per beats := hc
  have z := hN.1 gv (valS (turnR rows turned) gv none) (valS (turnR rows turned) gv (some fig)) ⟨val_sol W.gok gv none hb, val_sol W.gok gv (some fig) hb, fun r hr hw c hc => (W.szT hs r hr hw c hc).2⟩ (sig turned j) (turnRow turned rows[j]) c (W.tr e) hc'
  rw [W.valT gv none hj c, W.valT gv (some fig) hj c] at z
  exact ⟨z, hN.2.2 (sig turned j) (turnRow turned rows[j]) c (W.tr e) hc'⟩
end
/-! ### lists of NUMBERs as data -/
def numsD (l : List Rat) : PyData := .list (l.map numD)
theorem nums_dpAll {K : PySem.W.Frag} {H : Hp} : ∀ {vs : List V} {qs : List Rat}, NumsV K H vs qs → DpAll K H vs (qs.map numD)
  | _, _, .nil => .nil
  | _, _, .cons h t => .cons h.dp (nums_dpAll t)
theorem nums_dp {K : PySem.W.Frag} {H : Hp} {l : Addr} {vs : List V} {qs : List Rat} (h : SqL K H l vs) (n : NumsV K H vs qs) : Dp K H (.ref l) (numsD qs) := .lst h (nums_dpAll n)
theorem numsD_lay : ∀ l : List Rat, PyData.canLayAll0 (l.map numD) = true
  | [] => by simp [PyData.canLayAll0]
  | q :: l => by
    have z := numsD_lay l
    simp [numD, PyData.canLayAll0, PyData.canLay0, z]
theorem numsD_depth : ∀ l : List Rat, PyData.depthAll (l.map numD) ≤ 2
  | [] => by simp [PyData.depthAll]
  | q :: l => by
    have z := numsD_depth l
    simp [numD, PyData.depthAll, PyData.depth]
    omega
theorem numsD_shaped (l : List Rat) : SeqAt.shaped (numsD l) = true := by
  have z1 := numsD_lay l
  have z2 := numsD_depth l
  unfold SeqAt.shaped numsD
  simp [PyData.canLay0, PyData.depth, z1]
  omega
theorem numsD_all : ∀ l : List Rat, PyData.eqvAll (l.map numD) (l.map numD) = true
  | [] => by simp [PyData.eqvAll]
  | q :: l => by
    have z := numsD_all l
    rw [List.map_cons, PyData.eqvAll, z, numD_eqv, decide_eq_true rfl]
    rfl
theorem numsD_self (l : List Rat) : (!PyData.eqv (numsD l) (numsD l)) = false := by
  unfold numsD
  rw [PyData.eqv, numsD_all l]
  rfl
theorem SpanV.same {K : PySem.W.Frag} {H H' : Hp} {v : V} {s : Span} (h : SpanV K H v s) (e : Same H H') : SpanV K H' v s := h.tk (tk_same e)
/-! ### _law_bounds with one way out -/
/-- what _law_bounds tells: None, or the dict -/
def BdV (K : PySem.W.Frag) (H : Hp) (v : V) (rows : List Row) (outs : List (Str × Nat)) (beats fig : Nat) : Prop := v = .non ∨ ∃ d kk lh, v = .ref d ∧ H d = some (.dK kk) ∧ DOut (SpanV K) (fun j => (List.range (manyN (perAt rows j) beats)).map (lh j)) H kk outs ∧ NoiseOk rows fig 6 beats lh
theorem BdV.same {K : PySem.W.Frag} {H H' : Hp} {v : V} {rows : List Row} {outs : List (Str × Nat)} {beats fig : Nat} (h : BdV K H v rows outs beats fig) (e : Same H H') : BdV K H' v rows outs beats fig := by
  rcases h with h | ⟨d, kk, lh, h1, h2, h3, h4⟩
  · exact .inl h
  · exact .inr ⟨d, kk, lh, h1, e _ _ h2, h3.keep (fun v x r => SpanV.same r e) fun a xs q => e _ _ q, h4⟩
def sp_bounds1 (K : PySem.W.Frag) : Sp := fun vs H Q _ => ∃ (gr : Addr) (rows : List Row) (rk : Nat → Nat) (ot : V) (outs : List (Str × Nat)) (beats fig : Nat), vs = [.ref gr, .int beats, .int fig] ∧ GraphV K H gr rows ot ∧ OutsV K H ot outs ∧ GOk rows rk ∧ beats ≤ 8 ∧ fig ≤ 14 ∧
  (∀ o ∈ outs, o.2 < rows.length) ∧ (outs.map (·.1)).Nodup ∧ outs.length ≤ 100 ∧ ∀ v H', Same H H' → BdV K H' v rows outs beats fig → Q v H'
theorem c_bounds1 {P : Program} {w : World} {K : PySem.W.Frag} {mg : Str → Option Value} {base : Heap} (T : TX K mg) : Cal P w K mg base "_law_bounds" ["_law_net", "_law_beats_many", "_law_places_here"] [] 8 (sp_bounds1 K) := by
  refine (c_law_bounds T).imp fun vs H Q E h => ?_
  obtain ⟨gr, rows, rk, ot, outs, beats, fig, rfl, hgr, hot, G, hb, hf, hon, hnd, hol, q⟩ := h
  exact ⟨gr, rows, rk, ot, outs, beats, fig, rfl, hgr, hot, G, hb, hf, hon, hnd, hol, fun H' s => q .non H' s (.inl rfl), fun d H' kk lh s _ hk hd hN => q (.ref d) H' s (.inr ⟨d, kk, lh, rfl, hk, hd, hN⟩)⟩
section
variable {X : Cx} {K : PySem.W.Frag}
theorem crMaxK (hc : X.calm = true) (hK : X.K = K := by rfl) : CallR X (.builtin "max") (rMax K) := hK ▸ cr_max hc
end
end K70
/-! K70, part LR: graph_right. -/
namespace K70
open PySem PySem.Spec PyProof.Rows L2
theorem range_map_get {α : Type} {n k : Nat} {f : Nat → α} {x : α} (h : ((List.range n).map f)[k]? = some x) : ∃ c, c < n ∧ x = f c := by
  rw [List.getElem?_map] at h
  cases hk : (List.range n)[k]? with
  | none => rw [hk] at h; cases h
  | some c =>
    rw [hk] at h
    exact ⟨c, List.mem_range.mp (List.mem_of_getElem? hk), (Option.some.inj h).symm⟩
theorem range_map_at {α : Type} {n k : Nat} {f : Nat → α} {x : α} (h : ((List.range n).map f)[k]? = some x) : k < n ∧ x = f k := by
  have hl := (List.getElem?_eq_some_iff.mp h).1
  rw [List.length_map, List.length_range] at hl
  rw [List.getElem?_map, List.getElem?_range hl] at h
  exact ⟨hl, (Option.some.inj h).symm⟩
theorem dec_if {p : Prop} [Decidable p] {A B : Prop} (h1 : p → A) (h2 : ¬ p → B) : if decide p = true then A else B := by
  by_cases h : p
  · rw [if_pos (decide_eq_true h)]
    exact h1 h
  · rw [if_neg (by rw [decide_eq_false h]; decide)]
    exact h2 h
theorem dif_bd0 {rows : List Row} {rk : Nat → Nat} {gv : Str → Nat → Rat} {ve vf : Nat → Nat → Rat} {beats fig : Nat} (G : GOk rows rk) (Se : Sol rows gv none beats ve) (Sf : Sol rows gv (some fig) beats vf) (hf : fig ≤ 14) (hb : beats ≤ 8)
    (hs : ∀ r ∈ rows, r.w = .spring → ∀ c, c < manyN r.per beats → Sz 20 20 (gv r.nm c)) {j : Nat} {r : Row} {c : Nat} (hr : rows[j]? = some r) (hc : c < manyN r.per beats) : Bd (vf j c - ve j c) := by
  have z1 := (sol_sz G Se (fun f e => nomatch e) hs 72 j r c hr hc (G.mu_lt hr hb hc)).1
  have z2 := (sol_sz G Sf (fun f e => by cases e; exact hf) hs 72 j r c hr hc (G.mu_lt hr hb hc)).1
  exact (z2.sub z1).bd (by decide) (by decide)
theorem rep_nums {K : PySem.W.Frag} {H : Hp} {v : V} (h : NumV K H v 0) : ∀ n : Nat, NumsV K H (List.replicate ((n : Nat) : Int).toNat [v]).flatten (List.replicate n 0) := by
  intro n
  rw [Int.toNat_natCast]
  induction n with
  | zero => exact .nil
  | succ n ih =>
    rw [List.replicate_succ, List.replicate_succ, List.flatten_cons]
    exact .cons h ih
section
variable {P : Program} {w : World} {K : PySem.W.Frag} {mg : Str → Option Value} {base : Heap}
def sp_law_graph_right (K : PySem.W.Frag) : Sp := fun vs H Q _ => ∃ (b wd : Addr) (rows : List Row) (outs : List (Str × Nat)) (turned : List Nat) (n : Nat), vs = [.ref b, .ref wd] ∧ (∀ H', SameB b H H' → WV K H' wd rows outs turned) ∧ WOk rows outs turned ∧ wd ≠ b ∧ BoxV H b n ∧ n ≤ 2 ^ 35 ∧
  ∀ H', SameB b H H' → BoxV H' b (n + 1001) → Q (.bl true) H'
/-! ### _law_graph_right -/
abbrev n_law_graph_right : List Str := ["_law_box", "_law_w", "_law_net", "_law_beats_many", "_law_told", "_law_exact", "_law_most", "_law_rows", "_law_value_here", "_law_places_here", "_law_few", "_law_bounds_here", "_law_shown", "_law_called", "_law_node", "_law_one", "_law_two", "_law_pairs", "_law_pair"]
theorem sc_law_graph_right : FnScope n_law_graph_right ["_law_box", "_law_w"] (defScope s_law_graph_right) := ⟨rfl, rfl, rfl, by decide +kernel, rfl, by decide +kernel, by decide +kernel⟩
theorem c_law_graph_right (T : TX K mg) : Cal P w K mg base "_law_graph_right" ["_law_box", "_law_w"] [] 9 (sp_law_graph_right K) := by
  refine cal_of T.g_law_graph_right T.f_law_graph_right (fun _ _ _ _ _ _ us hl => match us, hl with | [_, _], _ => rfl) fun fd F => okN F sc_law_graph_right (fun vs H Q E h => ?_) (fun cdv A outer s H vs Q E hr h => ?_)
  · obtain ⟨b, wd, rows, outs, turned, n, rfl, hWb, W, hwb, hB, hn, q⟩ := h
    rfl
  · obtain ⟨b, wd, rows, outs, turned, n, rfl, hWb, W, hwb, hB, hn, q⟩ := h
    have hu := hu_of hr
    refine ⟨_, 
      (pss_cons
        (ps_par (i := 2) (j := 3) (by rfl) sc_law_graph_right.nd rfl rfl (by decide) rfl rfl (pa_cons (pe_cal (c_law_graph_of T) (hr.mono (by decide)) (pa_cons (pv 1) pa_nil)) (pa_cons (pe_cal (c_law_take T) (hr.mono (by decide)) (pa_cons (pv 0) (pa_cons pe_int pa_nil))) pa_nil)) (by rfl))
      (pss_cons
        (ps_set (i := 4) sc_law_graph_right.nd rfl (by first | exact Or.inl rfl | exact Or.inr rfl) (pe_cal (c_law_told_by T) (hr.mono (by decide)) (pa_cons (pv 0) (pa_cons (pv 1) (pa_cons (pv 3) (pa_cons pe_int pa_nil))))))
      (pss_cons
        (ps_set (i := 5) sc_law_graph_right.nd rfl (by first | exact Or.inl rfl | exact Or.inr rfl) (pe_cal (c_law_lists T) (hr.mono (by decide)) (pa_cons (pv 1) (pa_cons (pv 4) (pa_cons (pv 3) (pa_cons pe_non pa_nil))))))
      (pss_cons
        (ps_set (i := 6) sc_law_graph_right.nd rfl (by first | exact Or.inl rfl | exact Or.inr rfl) (pe_callB (crMaxK (K := K) rfl) (by rfl) T.z_max (by decide +kernel) (pa_cons (pe_lc (own := [("_law_rows", 7)]) rfl sc_law_graph_right.nd (pi_list (pv 5)) (blkOk_by (N := n_law_graph_right) (sc := defScope s_law_graph_right) (by decide +kernel)) (fun _ _ _ _ _ => pg_name (i := 7) sc_law_graph_right.nd rfl (by first | exact Or.inl rfl | exact Or.inr rfl)) (fun _ _ _ _ _ => pts_nil) (fun _ _ _ _ _ => (pe_callB (crMaxK (K := K) rfl) (by rfl) T.z_max (by decide +kernel) (pa_cons (pe_op op_cat (pe_lc (own := [("_law_value_here", 8)]) rfl sc_law_graph_right.nd (pi_listK (K := K) (pv 7)) (blkOk_by (N := n_law_graph_right) (sc := _) (by kernel_rfl)) (fun _ _ _ _ _ => pg_name (i := 8) sc_law_graph_right.nd rfl (by first | exact Or.inl rfl | exact Or.inr rfl)) (fun _ _ _ _ _ => pts_nil) (fun _ _ _ _ _ => (pe_cal (c_law_places T) (hr.mono (by decide)) (pa_cons (pv 8) pa_nil)))) (pe_lst (pa_cons pe_int pa_nil))) pa_nil)))) pa_nil)))
      (pss_cons
        (ps_for PassesOwn.never rfl (pi_range1 (by rfl) T.z_range (pa_cons pe_int pa_nil)) (pg_name (i := 9) sc_law_graph_right.nd rfl (by first | exact Or.inl rfl | exact Or.inr rfl))
          (pss_cons
            (ps_par (i := 10) (j := 11) (by rfl) sc_law_graph_right.nd rfl rfl (by decide) rfl rfl (pa_cons (pe_cal (c_law_lists T) (hr.mono (by decide)) (pa_cons (pv 1) (pa_cons (pv 4) (pa_cons (pv 3) (pa_cons (pv 9) pa_nil))))) (pa_cons (pe_cal (c_bounds1 T) (hr.mono (by decide)) (pa_cons (pv 2) (pa_cons (pv 3) (pa_cons (pv 9) pa_nil)))) pa_nil)) (by rfl))
          (pss_cons
            (ps_set (i := 12) sc_law_graph_right.nd rfl (by first | exact Or.inl rfl | exact Or.inr rfl) (pe_calK (kc_off_by T) (hr.mono (by decide)) (pa_cons (pv 2) (pa_cons (pv 4) (pa_cons (pv 3) pa_nil))) (pk_cons (pv 9) pk_nil)))
          (pss_one
            (ps_for PassesOwn.never rfl (pi_tup (pe_dget hu (pv 1) pe_str (fun _ _ => rfl))) (pg_tup (by rfl) (pgs_cons (pg_name (i := 13) sc_law_graph_right.nd rfl (by first | exact Or.inl rfl | exact Or.inr rfl)) (pgs_cons (pg_name (i := 14) sc_law_graph_right.nd rfl (by first | exact Or.inl rfl | exact Or.inr rfl)) pgs_nil)))
              (pss_cons
                (ps_setLc (i := 7) (own := [("_law_one", 15), ("_law_two", 16)]) (g := gTup K 2 (gCons (gName 15) (gCons (gName 16) (gNil)))) rfl sc_law_graph_right.nd rfl rfl (sw_true rfl rfl rfl (by decide +kernel)) (pi_zip (by rfl) T.z_zip (pa_cons (pe_ix (ixL (K := K)) (pv 5) (pv 14) (fun _ _ => rfl)) (pa_cons (pe_ix (ixL (K := K)) (pv 10) (pv 14) (fun _ _ => rfl)) pa_nil))) (blkOk_by (N := n_law_graph_right) (sc := defScope s_law_graph_right) (by decide +kernel)) (fun _ _ _ _ _ => pg_tup (by rfl) (pgs_cons (pg_name (i := 15) sc_law_graph_right.nd rfl (by first | exact Or.inl rfl | exact Or.inr rfl)) (pgs_cons (pg_name (i := 16) sc_law_graph_right.nd rfl (by first | exact Or.inl rfl | exact Or.inr rfl)) pgs_nil))) (fun _ _ _ _ _ => pts_nil) (fun _ _ _ _ _ => (pe_cal (c_law_sub T) (hr.mono (by decide)) (pa_cons (pv 16) (pa_cons (pv 15) pa_nil)))))
              (pss_cons
                (ps_if (PW.pt (pw_or (pt_cmpR (op_neD hr.units) (pe_dget hu (pv 12) (pv 13) (fun _ _ => rfl)) (pv 7) (nomark _)) (pw_or1 (PW.pt (pw_and (pt_cmpR op_ge (pv 9) (pv 6) (nomark _)) (pw_and1 (pt_cmpR (op_neD hr.units) (pv 7) (pe_op op_rep (pe_lst (pa_cons (pe_tup (pa_cons pe_int (pa_cons pe_int pa_nil))) pa_nil)) (pe_callB (lenSeqK (K := K)) (by rfl) T.z_len (by decide +kernel) (pa_cons (pv 7) pa_nil))) (nomark _))))))))
                  (pss_one
                    (ps_ret pe_bl))
                  pss_nil)
              (pss_cons
                (ps_set (i := 17) sc_law_graph_right.nd rfl (by first | exact Or.inl rfl | exact Or.inr rfl) (pe_ifExp (pt_cmpR op_notN (pv 11) pe_non (nomark _)) (pe_dget hu (pv 11) (pv 13) (fun _ _ => rfl)) (pe_lst pa_nil)))
              (pss_one
                (ps_for PassesOwn.never rfl (pi_zip (by rfl) T.z_zip (pa_cons (pv 7) (pa_cons (pv 17) pa_nil))) (pg_tup (by rfl) (pgs_cons (pg_name (i := 8) sc_law_graph_right.nd rfl (by first | exact Or.inl rfl | exact Or.inr rfl)) (pgs_cons (pg_name (i := 18) sc_law_graph_right.nd rfl (by first | exact Or.inl rfl | exact Or.inr rfl)) pgs_nil)))
                  (pss_one
                    (ps_if (PW.pt (pw_or (pt_val (pe_cal (c_law_below T) (hr.mono (by decide)) (pa_cons (pv 8) (pa_cons (pe_ix (ixT (K := K)) (pv 18) pe_int (fun _ _ => rfl)) pa_nil)))) (pw_or1 (pt_val (pe_cal (c_law_below T) (hr.mono (by decide)) (pa_cons (pe_ix (ixT (K := K)) (pv 18) pe_int (fun _ _ => rfl)) (pa_cons (pv 8) pa_nil)))))))
                      (pss_one
                        (ps_ret pe_bl))
                      pss_nil))))))))))))
      (pss_one
        (ps_ret pe_bl))))))), ?_⟩
    have e35 : (2 : Nat) ^ 35 = 34359738368 := by decide
    have e36 : (2 : Nat) ^ 36 = 68719476736 := by decide
    have e39 : (2 : Nat) ^ 39 = 549755813888 := by decide
    have G := W.d.gok W.l9
    have l9 := W.l9
    -- the graph, beats
    refine ⟨_, rfl, wd, rows, outs, turned, rfl, hWb H (SameB.refl b H), W, fun gr H1 ot s1 hgr1 hot1 => ?_⟩
    have B1 := hB.same s1
    refine ⟨_, rfl, b, 9, n, rfl, by decide, by decide, B1, by omega, fun bt H2 hbt sb2 B2 => ⟨_, _, rfl, ?_⟩⟩
    have hb : bt ≤ 8 := by omega
    have sbH2 := (Same.b s1 b).trans sb2
    -- what springs tell
    refine ⟨_, rfl, _, rfl, _, rfl, b, wd, rows, outs, turned, bt, n + 1, rfl, hWb H2 sbH2, W, hb, hwb, B2, by omega, fun g H3 gv sb3 hg hgb hT B3 => ?_⟩
    have sbH3 := sbH2.trans sb3
    have hW3 := hWb H3 sbH3
    have tk13 : TK K H1 H3 := (B1.dk sb2).t.trans (B2.dk sb3).t
    obtain ⟨nd, rvsN, hg1, hg2, hg3⟩ := hgr1
    have hgr3 : GraphV K H3 gr (turnR rows turned) ot := ⟨nd, rvsN, tk13 _ _ hg1, tk13 _ _ hg2, hg3.imp fun _ _ r => r.tk tk13⟩
    have hot3 := hot1.tk tk13
    have hsz : ∀ r ∈ rows, r.w = .spring → ∀ c, c < manyN r.per bt → Sz 20 20 (gv r.nm c) := fun r hr hw c hc => (hT.s r hr hw c hc).1
    -- exact numbers
    have Se := val_sol G gv none hb
    refine ⟨_, rfl, _, rfl, _, rfl, wd, g, rows, outs, turned, bt, none, gv, valS rows gv none, rfl, hW3, W, hb, hT, Se, (fun f e => nomatch e), fun te ase H4 s4 hte0 hte => ?_⟩
    have many8 : ∀ j, j < rows.length → manyN (perAt rows j) bt ≤ bt := fun j hj => by
      have hr := List.getElem?_eq_getElem hj
      have hpp := G.per _ (List.getElem_mem hj)
      rw [perAt_eq hr]
      refine Nat.not_lt.mp fun z => ?_
      have z2 := (manyN_lt hpp.1).mp z
      have z3 := Nat.le_mul_of_pos_right bt (show 0 < rows[j].per by omega)
      omega
    have bdE : ∀ j c, j < rows.length → c < manyN (perAt rows j) bt → Bd (valS rows gv none j c) := fun j c hj hc => by
      have hr := List.getElem?_eq_getElem hj
      rw [perAt_eq hr] at hc
      exact (sol_bd G Se (fun f e => nomatch e) hb hsz hr hc).1
    have telen : ase.length = rows.length := by rw [hte.ln, tabC_len]
    -- the greatest number of figures
    refine ⟨_, rfl, te, rfl, ⟨_, SqL.of hte.top⟩, fun DM hDM => ?_⟩
    refine lc_list (K := K) (a := te) (xs := ase.map V.ref) (fun i H' => Same H4 H' ∧ ∃ ns : List Int, H' DM = some (.lst (ns.map V.int)) ∧ ns.length = i ∧ ∀ (j c : Nat) (m : Int), j < i → c < manyN (perAt rows j) bt → ns[j]? = some m → (figsN (valS rows gv none j c) : Int) ≤ m)
      ⟨same_upd hDM, [], upd_same, rfl, fun j c m h => absurd h (Nat.not_lt_zero _)⟩ (fun i H' _ z => z.1.seq (SqL.of hte.top)) ?_ ?_
    · rintro i x Hi hx ⟨z1, ns, z2, z3, z4⟩
      have hi : i < rows.length := by
        have := (List.getElem?_eq_some_iff.mp hx).1
        rw [List.length_map] at this
        omega
      obtain ⟨ai, vsi, e1, e2, e3, e4⟩ := hte.get (tabC_get (v := valS rows gv none) (cnt := fun j => manyN (perAt rows j) bt) hi)
      have ex : x = .ref ai := Option.some.inj (hx.symm.trans e2)
      subst ex
      have cn8 := many8 i hi
      have hvl : vsi.length = manyN (perAt rows i) bt := by rw [e4.len, List.length_map, List.length_range]
      refine ⟨rfl, _, rfl, ai, rfl, ⟨_, SqL.of (z1 _ _ e3)⟩, fun D2 hD2 => ?_⟩
      refine lc_list (K := K) (a := ai) (xs := vsi) (fun k H' => Same Hi H' ∧ H' D2 = some (.lst (((List.range k).map fun c => (figsN (valS rows gv none i c) : Int)).map V.int))) ⟨same_upd hD2, upd_same⟩ (fun k H' _ z => (z1.trans z.1).seq (SqL.of e3)) ?_ ?_
      · rintro k y Hk hy ⟨w1, w2⟩
        obtain ⟨qv, hq1, hq2⟩ := e4.at' hy
        obtain ⟨hk, rfl⟩ := range_map_at hq1
        refine ⟨rfl, _, rfl, y, _, figsN (valS rows gv none i k), rfl, hq2.same (z1.trans w1), figsN_den (bdE i k hi hk), _, w2, small1000 (by rw [List.length_map, List.length_map, List.length_range]; omega), same_upd_new w1 hD2, ?_⟩
        rw [upd_same, List.range_succ, List.map_append, List.map_append]
        rfl
      · rintro Hk ⟨w1, w2⟩
        rw [hvl] at w2
        refine ⟨by show 1 ≤ sizeLine; decide, fun l0 hl0 => ?_⟩
        have s0 := same_upd (o := .lst [.int 0]) hl0
        refine ⟨D2, l0, _, _, rfl, rfl, s0 _ _ w2, upd_same, small2 (by rw [List.length_map, List.length_map, List.length_range]; show _ + 1 ≤ 10000; omega), fun p hp => ?_⟩
        have sp := same_upd (o := .lst ((((List.range (manyN (perAt rows i) bt)).map fun c => (figsN (valS rows gv none i c) : Int)).map V.int) ++ [.int 0])) hp
        have sA := w1.trans (s0.trans sp)
        refine ⟨p, ((List.range (manyN (perAt rows i) bt)).map fun c => (figsN (valS rows gv none i c) : Int)) ++ [0], rfl, SqL.of ?_, by rw [List.length_append]; exact Nat.succ_pos _, fun m hm hall => ?_⟩
        · rw [upd_same, List.map_append]
          rfl
        · refine ⟨_, sA _ _ z2, small1000 (by rw [List.length_map]; omega), same_upd_new (z1.trans sA) hDM, ns ++ [m], ?_, by rw [List.length_append, z3]; rfl, fun j c m' hj hc hm' => ?_⟩
          · rw [upd_same, List.map_append]
            rfl
          · by_cases hji : j = i
            · subst hji
              rw [List.getElem?_append_right (by omega), z3, Nat.sub_self, List.getElem?_cons_zero] at hm'
              cases hm'
              exact hall _ (List.mem_append_left _ (List.mem_map.mpr ⟨c, List.mem_range.mpr hc, rfl⟩))
            · rw [List.getElem?_append_left (by omega)] at hm'
              exact z4 j c m' (by omega) hc hm'
    · rintro H5 ⟨z1, ns, z2, z3, z4⟩
      rw [List.length_map, telen] at z3
      rw [List.length_map, telen] at z4
      refine ⟨DM, ns, rfl, SqL.of z2, by have := W.l1; omega, fun M hM hall => ?_⟩
      have figM : ∀ j c, j < rows.length → c < manyN (perAt rows j) bt → (figsN (valS rows gv none j c) : Int) ≤ M := fun j c hj hc => by
        have e : ns[j]? = some ns[j] := List.getElem?_eq_getElem (by omega)
        have h1 := z4 j c _ hj hc e
        have h2 := hall _ (List.getElem_mem (by omega : j < ns.length))
        omega
      have s45 := s4.trans z1
      have hW5 := hW3.same s45
      have hgr5 : GraphV K H5 gr (turnR rows turned) ot := hgr3.tk (tk_same s45)
      have hot5 := hot3.tk (tk_same s45)
      have hT5 := hT.g.same s45
      have hte5 : NLL K H5 te ase (tabC rows.length (valS rows gv none) fun j => manyN (perAt rows j) bt) := hte.same z1
      have B5 := B3.same s45
      have sbH5 : SameB b H H5 := sbH3.trans (Same.b s45 b)
      clear z1 z2 z3 z4 hM hall
      obtain ⟨nl, tl, otw, rvs, h1, h2, h3, h4, h5⟩ := id hW5
      obtain ⟨oa, ovs, rfl, o1, o2⟩ := h4
      refine ⟨15, rfl, by decide, by decide, ?_⟩
      refine for_range (n := 15) (fun i σ H' => Same H5 H' ∧ ∃ x7 x8 x9 x10 x11 x12 x13 x14 x17 x18, σ = [some (.ref b), some (.ref wd), some (.ref gr), some (.int (bt : Int)), some (.ref g), some (.ref te), some (.int M), x7, x8, x9, x10, x11, x12, x13, x14, none, none, x17, x18])
        ⟨Same.refl _, none, none, none, none, none, none, none, none, none, none, rfl⟩ ?_ ?_
      · rintro fig σ H6 hfig ⟨y1, x7, x8, x9, x10, x11, x12, x13, x14, x17, x18, rfl⟩
        rw [Int.zero_add]
        have Sf := val_sol G gv (some fig) hb
        have bdF : ∀ j c, j < rows.length → c < manyN (perAt rows j) bt → Bd (valS rows gv (some fig) j c) := fun j c hj hc => by
          have hr := List.getElem?_eq_getElem hj
          rw [perAt_eq hr] at hc
          exact (sol_bd G Sf (fun f e => by cases e; omega) hb hsz hr hc).1
        have dif_bd : ∀ j c, j < rows.length → c < manyN (perAt rows j) bt → Bd (valS rows gv (some fig) j c - valS rows gv none j c) := fun j c hj hc => by
          have hr := List.getElem?_eq_getElem hj
          rw [perAt_eq hr] at hc
          exact dif_bd0 G Se Sf (by omega) hb hsz hr hc
        refine ⟨_, rfl, _, rfl, _, rfl, _, rfl, wd, g, rows, outs, turned, bt, some fig, gv, valS rows gv (some fig), rfl, hW5.same y1, W, hb, ⟨hT5.same y1, hT.s⟩, Sf, (fun f e => by cases e; omega), fun tf asf H7 s7 htf0 htf => ?_⟩
        have v7 := y1.trans s7
        refine ⟨_, rfl, _, rfl, _, rfl, gr, turnR rows turned, rkT turned, ot, outs.map fun o => (o.1, sig turned o.2), bt, fig, rfl, hgr5.tk (tk_same v7), hot5.tk (tk_same v7), W.gok, hb, by omega, W.onT, W.ndT, W.olT, fun bv H8 s8 hbv => ⟨_, _, rfl, ?_⟩⟩
        have v8 := v7.trans s8
        refine ⟨_, rfl, _, rfl, _, rfl, _, rfl, rfl, rfl, gr, g, turnR rows turned, rkT turned, ot, outs.map fun o => (o.1, sig turned o.2), bt, fig, gv, valS (turnR rows turned) gv none, valS (turnR rows turned) gv (some fig), rfl, hgr5.tk (tk_same v8), hot5.tk (tk_same v8), W.gok, hb, by omega, W.onT, W.ndT, W.olT, W.givenT (hT5.same v8), val_sol W.gok gv none hb, val_sol W.gok gv (some fig) hb, (fun r hr hw c hc => (W.szT hT.s r hr hw c hc).1), fun ds H9 ks s9 hds0 hds hDs => ?_⟩
        have v9 := v8.trans s9
        have hbv9 := hbv.same s9
        have htf9 : NLL K H9 tf asf (tabC rows.length (valS rows gv (some fig)) fun j => manyN (perAt rows j) bt) := htf.same (s8.trans s9)
        refine ⟨_, rfl, wd, _, rfl, wget2 (v9 _ _ h1), oa, rfl, ⟨_, SqT.same o1 v9⟩, ?_⟩
        refine for_tup (K := K) (a := oa) (xs := ovs) (fun k σ H' => Same H9 H' ∧ ∃ x7 x8 x13 x14 x17 x18, σ = [some (.ref b), some (.ref wd), some (.ref gr), some (.int (bt : Int)), some (.ref g), some (.ref te), some (.int M), x7, x8, some (.int (fig : Int)), some (.ref tf), some bv, some (.ref ds), x13, x14, none, none, x17, x18])
          ⟨Same.refl _, x7, x8, x13, x14, x17, x18, rfl⟩ (fun k σ H' _ z => SqT.same o1 (v9.trans z.1)) ?_ ?_
        · rintro k x σ H10 hx ⟨u1, x7, x8, x13, x14, x17, x18, rfl⟩
          obtain ⟨oo, ho1, po, rfl, ho2⟩ := o2.at' hx
          have v10 := v9.trans u1
          have hom := List.mem_of_getElem? ho1
          have hjn := W.on oo hom
          have cn8 := many8 oo.2 hjn
          obtain ⟨ae, vse, e1, e2, e3, e4⟩ := hte5.get (tabC_get (v := valS rows gv none) (cnt := fun j => manyN (perAt rows j) bt) hjn)
          obtain ⟨af, vsf, f1, f2, f3, f4⟩ := htf9.get (tabC_get (v := valS rows gv (some fig)) (cnt := fun j => manyN (perAt rows j) bt) hjn)
          have ll1 := e4.len
          have ll2 := f4.len
          rw [List.length_map, List.length_range] at ll1 ll2
          have e3' := v10 _ _ e3
          have f3' := u1 _ _ f3
          refine ⟨po, _, rfl, SqT.same ho2 v10, rfl, _, _, rfl, _, _, rfl, rfl, ?_⟩
          refine ⟨_, rfl, _, rfl, te, _, (oo.2 : Nat), _, rfl, rfl, SqL.of (v10 _ _ hte5.top), atI_nat e2, _, rfl, _, rfl, tf, _, (oo.2 : Nat), _, rfl, rfl, SqL.of (u1 _ _ htf9.top), atI_nat f2, ae, af, vse, vsf, rfl, SqL.of e3', SqL.of f3', fun D hD => ?_⟩
          refine lc_it (walk_zip (n := manyN (perAt rows oo.2) bt) (by omega)) (fun c H' => Same H10 H' ∧ ∃ ws, H' D = some (.lst ws) ∧ NumsV K H' ws ((List.range c).map fun c => valS rows gv (some fig) oo.2 c - valS rows gv none oo.2 c))
            ⟨same_upd hD, [], upd_same, .nil⟩ (fun c H' _ z => ⟨z.1.seq (SqL.of e3'), z.1.seq (SqL.of f3')⟩) ?_ ?_
          · rintro c y Hc Hc' hc ⟨m1, ws, m2, m3⟩ ⟨T1, y1, y2, rfl, hT1, rfl, g1, g2⟩
            obtain ⟨qe, hq1, hq2⟩ := e4.at' g1
            obtain ⟨qf, hr1, hr2⟩ := f4.at' g2
            obtain ⟨_, rfl⟩ := range_map_at hq1
            obtain ⟨_, rfl⟩ := range_map_at hr1
            have sT := same_upd (o := .tup [y1, y2]) hT1
            have n8 := m1.trans sT
            refine ⟨T1, _, rfl, SqT.of upd_same, rfl, _, _, rfl, _, _, rfl, rfl, rfl, ?_⟩
            refine ⟨_, rfl, _, rfl, y2, y1, _, _, rfl, hr2.same (u1.trans n8), hq2.same (v10.trans n8), bdF oo.2 c hjn hc, bdE oo.2 c hjn hc, fun vr Hr sr nr => ?_⟩
            have hDr := sr _ _ (sT _ _ m2)
            refine ⟨ws, hDr, small1000 ?_, same_upd_new (n8.trans sr) hD, _, upd_same, ?_⟩
            · rw [m3.len, List.length_map, List.length_range]
              omega
            · have dk : DK K Hr (upd Hr D (.lst (ws ++ [vr]))) := dk_lst hDr
              rw [List.range_succ, List.map_append]
              exact (m3.imp fun _ _ r => ((r.same sT).same sr).dk dk).snoc (nr.dk dk)
          · rintro H11 ⟨w1, wsD, w2, w3⟩
            have v11 := u1.trans w1
            have u11 := v9.trans v11
            have wlen : wsD.length = manyN (perAt rows oo.2) bt := by rw [w3.len, List.length_map, List.length_range]
            -- shown
            obtain ⟨ls, lws, hl1, hl2, hl3⟩ := hDs.val W.ndT (List.mem_map.mpr ⟨oo, hom, rfl⟩)
            have hl3' : NumsV K H11 lws ((List.range (manyN (perAt rows oo.2) bt)).map fun c => valS rows gv (some fig) oo.2 c - valS rows gv none oo.2 c) := by
              have z := hl3.imp fun _ _ r => r.same v11
              have ep : perAt (turnR rows turned) (sig turned oo.2) = perAt rows oo.2 := W.perT hjn
              have ef : (fun c => valS (turnR rows turned) gv (some fig) (sig turned oo.2) c - valS (turnR rows turned) gv none (sig turned oo.2) c) = fun c => valS rows gv (some fig) oo.2 c - valS rows gv none oo.2 c := funext fun c => by
                rw [W.valT gv (some fig) hjn c, W.valT gv none hjn c]
              have z' : All2 (NumV K H11) lws ((List.range (manyN (perAt (turnR rows turned) (sig turned oo.2)) bt)).map fun c => valS (turnR rows turned) gv (some fig) (sig turned oo.2) c - valS (turnR rows turned) gv none (sig turned oo.2) c) := z
              rw [ep, ef] at z'
              exact z'
            refine ⟨_, rfl, _, rfl, ds, _, rfl, .inl ⟨ks, .inr oo.1, .inl (v11 _ _ hds), rfl, hl1.symm⟩, _, rfl, numsD _, numsD _, nums_dp (SqL.of (v11 _ _ hl2)) hl3', nums_dp (SqL.of w2) w3, numsD_shaped _, numsD_shaped _, _, rfl, ?_⟩
            rw [numsD_self]
            refine iteF ?_
            -- figures enough
            refine ⟨_, rfl, _, rfl, _, _, rfl, rfl, _, rfl, ?_⟩
            refine dec_if (fun hge => ?_) (fun _ => ?_)
            · have hz : ∀ c, c < manyN (perAt rows oo.2) bt → valS rows gv (some fig) oo.2 c - valS rows gv none oo.2 c = 0 := fun c hc => by
                have hr := List.getElem?_eq_getElem hjn
                have hc' := hc
                rw [perAt_eq hr] at hc'
                rw [no_cut G Se Sf (fun j r c hj hc => ?_) 72 oo.2 _ c hr hc' (G.mu_lt hr hb hc')]
                · exact Rat.sub_self
                · have hjl := (List.getElem?_eq_some_iff.mp hj).1
                  rw [← perAt_eq hj] at hc
                  rw [figsN_den (bdE j c hjl hc)]
                  have := figM j c hjl hc
                  exact Nat.pow_dvd_pow 2 (by omega)
              refine ⟨_, rfl, by show 2 ≤ sizeLine; decide, fun t1 ht1 => ⟨by show 1 ≤ sizeLine; decide, fun l1 hl1 => ?_⟩⟩
              have st := same_upd (o := .tup [.int 0, .int 1]) ht1
              have sl := same_upd (o := .lst [.ref t1]) hl1
              have stl := st.trans sl
              refine ⟨_, rfl, D, _, rfl, .inl (SqL.of (stl _ _ w2)), l1, wsD.length, [.ref t1], rfl, rfl, upd_same, by omega, by omega, small2 (by show 1 * _ ≤ 10000; omega), fun R hR => ?_⟩
              have sR := same_upd (o := .lst (List.replicate ((wsD.length : Nat) : Int).toNat [V.ref t1]).flatten) hR
              have sA := stl.trans sR
              have n0 : NumV K (upd (upd (upd H11 t1 (.tup [.int 0, .int 1])) l1 (.lst [.ref t1])) R (.lst (List.replicate ((wsD.length : Nat) : Int).toNat [V.ref t1]).flatten)) (.ref t1) 0 := ⟨t1, rfl, SqT.of (sR _ _ (sl _ _ upd_same))⟩
              have nR : NumsV K (upd (upd (upd H11 t1 (.tup [.int 0, .int 1])) l1 (.lst [.ref t1])) R (.lst (List.replicate ((wsD.length : Nat) : Int).toNat [V.ref t1]).flatten)) (List.replicate ((wsD.length : Nat) : Int).toNat [V.ref t1]).flatten ((List.range (manyN (perAt rows oo.2) bt)).map fun c => valS rows gv (some fig) oo.2 c - valS rows gv none oo.2 c) := by
                have ez : ((List.range (manyN (perAt rows oo.2) bt)).map fun c => valS rows gv (some fig) oo.2 c - valS rows gv none oo.2 c) = List.replicate wsD.length 0 := by
                  rw [wlen]
                  refine List.ext_getElem (by rw [List.length_map, List.length_range, List.length_replicate]) fun i h1 h2 => ?_
                  rw [List.getElem_map, List.getElem_range, List.getElem_replicate]
                  refine hz i ?_
                  rwa [List.length_map, List.length_range] at h1
                rw [ez]
                exact rep_nums n0 wsD.length
              refine ⟨numsD _, numsD _, nums_dp (SqL.of (sA _ _ w2)) (w3.imp fun _ _ r => r.same sA), nums_dp (SqL.of upd_same) nR, numsD_shaped _, numsD_shaped _, _, rfl, ?_⟩
              rw [numsD_self]
              refine iteF ?_
              generalize upd (upd (upd H11 t1 (.tup [.int 0, .int 1])) l1 (.lst [.ref t1])) R (.lst (List.replicate ((wsD.length : Nat) : Int).toNat [V.ref t1]).flatten) = H11' at sA
              refine ⟨_, rfl, rfl, _, rfl, ?_⟩
              rcases id hbv9 with rfl | ⟨dB, kkB, lhB, rfl, hB1, hB2, hB3⟩
              · refine iteF ⟨by show 0 ≤ sizeLine; decide, fun pl hpl0 => ?_⟩
                have sP0 := same_upd (o := .lst []) hpl0
                have hpl : (upd H11' pl (.lst [])) pl = some (.lst []) := upd_same
                generalize hHP : upd H11' pl (.lst []) = HP at sP0 hpl
                have sP := sA.trans sP0
                obtain ⟨pws, hpws⟩ : ∃ pws : List V, pws = [] := ⟨_, rfl⟩
                rw [← hpws] at hpl
                have hpw : ∀ (m c : Nat) (v : V), pws[m]? = some v → ((List.range (manyN (perAt rows oo.2) bt)).map fun c => valS rows gv (some fig) oo.2 c - valS rows gv none oo.2 c)[m]? = some (valS rows gv (some fig) oo.2 c - valS rows gv none oo.2 c) →
                    ∃ s : Span, SpanV K HP v s ∧ Bd s.1 ∧ Bd s.2 ∧ s.1 ≤ valS rows gv (some fig) oo.2 c - valS rows gv none oo.2 c ∧ valS rows gv (some fig) oo.2 c - valS rows gv none oo.2 c ≤ s.2 := fun m c v h => by
                  rw [hpws] at h
                  cases h
                have hRD12 := sP _ _ w2
                have hw12 : NumsV K HP wsD ((List.range (manyN (perAt rows oo.2) bt)).map fun c => valS rows gv (some fig) oo.2 c - valS rows gv none oo.2 c) := w3.imp fun _ _ r => r.same sP
                have v12 := v11.trans sP
                refine ⟨_, rfl, _, rfl, D, pl, wsD, pws, rfl, SqL.of hRD12, SqL.of hpl, ?_⟩
                refine for_it (walk_zip (n := min wsD.length pws.length) rfl) (fun m σ H' => Same HP H' ∧ ∃ x8 x18, σ = [some (.ref b), some (.ref wd), some (.ref gr), some (.int (bt : Int)), some (.ref g), some (.ref te), some (.int M), some (.ref D), x8, some (.int (fig : Int)), some (.ref tf), some .non, some (.ref ds), some (.str oo.1), some (.int (oo.2 : Int)), none, none, some (.ref pl), x18])
                  ⟨Same.refl _, x8, x18, rfl⟩ (fun m σ H' _ z => ⟨z.1.seq (SqL.of hRD12), z.1.seq (SqL.of hpl)⟩) ?_ ?_
                · rintro m y σ H12 H12' hm ⟨w4, x8, x18, rfl⟩ ⟨T1, a1, a2, rfl, hT1, rfl, g1, g2⟩
                  have sT := same_upd (o := .tup [a1, a2]) hT1
                  have w5 := w4.trans sT
                  obtain ⟨qv, hq1, hq2⟩ := hw12.at' g1
                  obtain ⟨c, hcn, rfl⟩ := range_map_get hq1
                  obtain ⟨sv, hs1, hs2, hs3, hs4, hs5⟩ := hpw m c a2 g2 hq1
                  obtain ⟨pa, u1, u2, rfl, k1, k2, k3⟩ := SpanV.same hs1 w5
                  have hbd : Bd (valS rows gv (some fig) oo.2 c - valS rows gv none oo.2 c) := dif_bd oo.2 c hjn hcn
                  refine ⟨T1, _, rfl, SqT.of upd_same, rfl, _, _, rfl, _, _, rfl, rfl, ?_⟩
                  refine ⟨_, rfl, _, rfl, pa, _, 0, _, rfl, rfl, k1, at0, a1, u1, valS rows gv (some fig) oo.2 c - valS rows gv none oo.2 c, sv.1, rfl, hq2.same w5, k2, hbd, hs2, _, rfl, ?_⟩
                  rw [decide_eq_false (Rat.not_lt.mpr hs4)]
                  refine iteF ⟨_, rfl, pa, _, 1, _, rfl, rfl, k1, at1, _, rfl, u2, a1, sv.2, valS rows gv (some fig) oo.2 c - valS rows gv none oo.2 c, rfl, k3, hq2.same w5, hs3, hbd, _, rfl, ?_⟩
                  rw [decide_eq_false (Rat.not_lt.mpr hs5)]
                  exact iteF ⟨w5, _, _, rfl⟩
                · rintro σ H12 ⟨w4, x8, x18, rfl⟩
                  exact ⟨v12.trans w4, _, _, _, _, _, _, rfl⟩
              · obtain ⟨pl, pws, hp1, hp2, hp3⟩ := hB2.val W.ndT (List.mem_map.mpr ⟨oo, hom, rfl⟩)
                have vB := v11.trans sA
                refine iteT ⟨_, rfl, _, rfl, dB, _, rfl, .inl ⟨kkB, .inr oo.1, .inl (vB _ _ hB1), rfl, hp1.symm⟩, ?_⟩
                have hpl := vB _ _ hp2
                have hp3' : All2 (SpanV K H11') pws ((List.range (manyN (perAt rows oo.2) bt)).map (lhB (sig turned oo.2))) := by
                  have z : All2 (SpanV K H11') pws ((List.range (manyN (perAt (turnR rows turned) (sig turned oo.2)) bt)).map (lhB (sig turned oo.2))) := hp3.imp fun _ _ r => SpanV.same r vB
                  have ep : perAt (turnR rows turned) (sig turned oo.2) = perAt rows oo.2 := W.perT hjn
                  rw [ep] at z
                  exact z
                have sP := sA
                have hpw : ∀ (m c : Nat) (v : V), pws[m]? = some v → ((List.range (manyN (perAt rows oo.2) bt)).map fun c => valS rows gv (some fig) oo.2 c - valS rows gv none oo.2 c)[m]? = some (valS rows gv (some fig) oo.2 c - valS rows gv none oo.2 c) →
                    ∃ s : Span, SpanV K H11' v s ∧ Bd s.1 ∧ Bd s.2 ∧ s.1 ≤ valS rows gv (some fig) oo.2 c - valS rows gv none oo.2 c ∧ valS rows gv (some fig) oo.2 c - valS rows gv none oo.2 c ≤ s.2 := fun m c v h hm => by
                  obtain ⟨s, hs1, hs2⟩ := hp3'.at' h
                  obtain ⟨hmn, rfl⟩ := range_map_at hs1
                  have e := (range_map_at hm).2
                  obtain ⟨⟨q1, q2⟩, q3, q4⟩ := noise_in W hb hT.s hB3 hjn hmn
                  rw [e]
                  exact ⟨_, hs2, q3, q4, q1, q2⟩
                have hRD12 := sP _ _ w2
                have hw12 : NumsV K H11' wsD ((List.range (manyN (perAt rows oo.2) bt)).map fun c => valS rows gv (some fig) oo.2 c - valS rows gv none oo.2 c) := w3.imp fun _ _ r => r.same sP
                have v12 := v11.trans sP
                refine ⟨_, rfl, _, rfl, D, pl, wsD, pws, rfl, SqL.of hRD12, SqL.of hpl, ?_⟩
                refine for_it (walk_zip (n := min wsD.length pws.length) rfl) (fun m σ H' => Same H11' H' ∧ ∃ x8 x18, σ = [some (.ref b), some (.ref wd), some (.ref gr), some (.int (bt : Int)), some (.ref g), some (.ref te), some (.int M), some (.ref D), x8, some (.int (fig : Int)), some (.ref tf), some (.ref dB), some (.ref ds), some (.str oo.1), some (.int (oo.2 : Int)), none, none, some (.ref pl), x18])
                  ⟨Same.refl _, x8, x18, rfl⟩ (fun m σ H' _ z => ⟨z.1.seq (SqL.of hRD12), z.1.seq (SqL.of hpl)⟩) ?_ ?_
                · rintro m y σ H12 H12' hm ⟨w4, x8, x18, rfl⟩ ⟨T1, a1, a2, rfl, hT1, rfl, g1, g2⟩
                  have sT := same_upd (o := .tup [a1, a2]) hT1
                  have w5 := w4.trans sT
                  obtain ⟨qv, hq1, hq2⟩ := hw12.at' g1
                  obtain ⟨c, hcn, rfl⟩ := range_map_get hq1
                  obtain ⟨sv, hs1, hs2, hs3, hs4, hs5⟩ := hpw m c a2 g2 hq1
                  obtain ⟨pa, u1, u2, rfl, k1, k2, k3⟩ := SpanV.same hs1 w5
                  have hbd : Bd (valS rows gv (some fig) oo.2 c - valS rows gv none oo.2 c) := dif_bd oo.2 c hjn hcn
                  refine ⟨T1, _, rfl, SqT.of upd_same, rfl, _, _, rfl, _, _, rfl, rfl, ?_⟩
                  refine ⟨_, rfl, _, rfl, pa, _, 0, _, rfl, rfl, k1, at0, a1, u1, valS rows gv (some fig) oo.2 c - valS rows gv none oo.2 c, sv.1, rfl, hq2.same w5, k2, hbd, hs2, _, rfl, ?_⟩
                  rw [decide_eq_false (Rat.not_lt.mpr hs4)]
                  refine iteF ⟨_, rfl, pa, _, 1, _, rfl, rfl, k1, at1, _, rfl, u2, a1, sv.2, valS rows gv (some fig) oo.2 c - valS rows gv none oo.2 c, rfl, k3, hq2.same w5, hs3, hbd, _, rfl, ?_⟩
                  rw [decide_eq_false (Rat.not_lt.mpr hs5)]
                  exact iteF ⟨w5, _, _, rfl⟩
                · rintro σ H12 ⟨w4, x8, x18, rfl⟩
                  exact ⟨v12.trans w4, _, _, _, _, _, _, rfl⟩
            · refine iteF ?_
              refine ⟨_, rfl, rfl, _, rfl, ?_⟩
              rcases id hbv9 with rfl | ⟨dB, kkB, lhB, rfl, hB1, hB2, hB3⟩
              · refine iteF ⟨by show 0 ≤ sizeLine; decide, fun pl hpl0 => ?_⟩
                have sP0 := same_upd (o := .lst []) hpl0
                have hpl : (upd H11 pl (.lst [])) pl = some (.lst []) := upd_same
                generalize hHP : upd H11 pl (.lst []) = HP at sP0 hpl
                have sP := (Same.refl H11).trans sP0
                obtain ⟨pws, hpws⟩ : ∃ pws : List V, pws = [] := ⟨_, rfl⟩
                rw [← hpws] at hpl
                have hpw : ∀ (m c : Nat) (v : V), pws[m]? = some v → ((List.range (manyN (perAt rows oo.2) bt)).map fun c => valS rows gv (some fig) oo.2 c - valS rows gv none oo.2 c)[m]? = some (valS rows gv (some fig) oo.2 c - valS rows gv none oo.2 c) →
                    ∃ s : Span, SpanV K HP v s ∧ Bd s.1 ∧ Bd s.2 ∧ s.1 ≤ valS rows gv (some fig) oo.2 c - valS rows gv none oo.2 c ∧ valS rows gv (some fig) oo.2 c - valS rows gv none oo.2 c ≤ s.2 := fun m c v h => by
                  rw [hpws] at h
                  cases h
                have hRD12 := sP _ _ w2
                have hw12 : NumsV K HP wsD ((List.range (manyN (perAt rows oo.2) bt)).map fun c => valS rows gv (some fig) oo.2 c - valS rows gv none oo.2 c) := w3.imp fun _ _ r => r.same sP
                have v12 := v11.trans sP
                refine ⟨_, rfl, _, rfl, D, pl, wsD, pws, rfl, SqL.of hRD12, SqL.of hpl, ?_⟩
                refine for_it (walk_zip (n := min wsD.length pws.length) rfl) (fun m σ H' => Same HP H' ∧ ∃ x8 x18, σ = [some (.ref b), some (.ref wd), some (.ref gr), some (.int (bt : Int)), some (.ref g), some (.ref te), some (.int M), some (.ref D), x8, some (.int (fig : Int)), some (.ref tf), some .non, some (.ref ds), some (.str oo.1), some (.int (oo.2 : Int)), none, none, some (.ref pl), x18])
                  ⟨Same.refl _, x8, x18, rfl⟩ (fun m σ H' _ z => ⟨z.1.seq (SqL.of hRD12), z.1.seq (SqL.of hpl)⟩) ?_ ?_
                · rintro m y σ H12 H12' hm ⟨w4, x8, x18, rfl⟩ ⟨T1, a1, a2, rfl, hT1, rfl, g1, g2⟩
                  have sT := same_upd (o := .tup [a1, a2]) hT1
                  have w5 := w4.trans sT
                  obtain ⟨qv, hq1, hq2⟩ := hw12.at' g1
                  obtain ⟨c, hcn, rfl⟩ := range_map_get hq1
                  obtain ⟨sv, hs1, hs2, hs3, hs4, hs5⟩ := hpw m c a2 g2 hq1
                  obtain ⟨pa, u1, u2, rfl, k1, k2, k3⟩ := SpanV.same hs1 w5
                  have hbd : Bd (valS rows gv (some fig) oo.2 c - valS rows gv none oo.2 c) := dif_bd oo.2 c hjn hcn
                  refine ⟨T1, _, rfl, SqT.of upd_same, rfl, _, _, rfl, _, _, rfl, rfl, ?_⟩
                  refine ⟨_, rfl, _, rfl, pa, _, 0, _, rfl, rfl, k1, at0, a1, u1, valS rows gv (some fig) oo.2 c - valS rows gv none oo.2 c, sv.1, rfl, hq2.same w5, k2, hbd, hs2, _, rfl, ?_⟩
                  rw [decide_eq_false (Rat.not_lt.mpr hs4)]
                  refine iteF ⟨_, rfl, pa, _, 1, _, rfl, rfl, k1, at1, _, rfl, u2, a1, sv.2, valS rows gv (some fig) oo.2 c - valS rows gv none oo.2 c, rfl, k3, hq2.same w5, hs3, hbd, _, rfl, ?_⟩
                  rw [decide_eq_false (Rat.not_lt.mpr hs5)]
                  exact iteF ⟨w5, _, _, rfl⟩
                · rintro σ H12 ⟨w4, x8, x18, rfl⟩
                  exact ⟨v12.trans w4, _, _, _, _, _, _, rfl⟩
              · obtain ⟨pl, pws, hp1, hp2, hp3⟩ := hB2.val W.ndT (List.mem_map.mpr ⟨oo, hom, rfl⟩)
                have vB := v11.trans (Same.refl H11)
                refine iteT ⟨_, rfl, _, rfl, dB, _, rfl, .inl ⟨kkB, .inr oo.1, .inl (vB _ _ hB1), rfl, hp1.symm⟩, ?_⟩
                have hpl := vB _ _ hp2
                have hp3' : All2 (SpanV K H11) pws ((List.range (manyN (perAt rows oo.2) bt)).map (lhB (sig turned oo.2))) := by
                  have z : All2 (SpanV K H11) pws ((List.range (manyN (perAt (turnR rows turned) (sig turned oo.2)) bt)).map (lhB (sig turned oo.2))) := hp3.imp fun _ _ r => SpanV.same r vB
                  have ep : perAt (turnR rows turned) (sig turned oo.2) = perAt rows oo.2 := W.perT hjn
                  rw [ep] at z
                  exact z
                have sP := (Same.refl H11)
                have hpw : ∀ (m c : Nat) (v : V), pws[m]? = some v → ((List.range (manyN (perAt rows oo.2) bt)).map fun c => valS rows gv (some fig) oo.2 c - valS rows gv none oo.2 c)[m]? = some (valS rows gv (some fig) oo.2 c - valS rows gv none oo.2 c) →
                    ∃ s : Span, SpanV K H11 v s ∧ Bd s.1 ∧ Bd s.2 ∧ s.1 ≤ valS rows gv (some fig) oo.2 c - valS rows gv none oo.2 c ∧ valS rows gv (some fig) oo.2 c - valS rows gv none oo.2 c ≤ s.2 := fun m c v h hm => by
                  obtain ⟨s, hs1, hs2⟩ := hp3'.at' h
                  obtain ⟨hmn, rfl⟩ := range_map_at hs1
                  have e := (range_map_at hm).2
                  obtain ⟨⟨q1, q2⟩, q3, q4⟩ := noise_in W hb hT.s hB3 hjn hmn
                  rw [e]
                  exact ⟨_, hs2, q3, q4, q1, q2⟩
                have hRD12 := sP _ _ w2
                have hw12 : NumsV K H11 wsD ((List.range (manyN (perAt rows oo.2) bt)).map fun c => valS rows gv (some fig) oo.2 c - valS rows gv none oo.2 c) := w3.imp fun _ _ r => r.same sP
                have v12 := v11.trans sP
                refine ⟨_, rfl, _, rfl, D, pl, wsD, pws, rfl, SqL.of hRD12, SqL.of hpl, ?_⟩
                refine for_it (walk_zip (n := min wsD.length pws.length) rfl) (fun m σ H' => Same H11 H' ∧ ∃ x8 x18, σ = [some (.ref b), some (.ref wd), some (.ref gr), some (.int (bt : Int)), some (.ref g), some (.ref te), some (.int M), some (.ref D), x8, some (.int (fig : Int)), some (.ref tf), some (.ref dB), some (.ref ds), some (.str oo.1), some (.int (oo.2 : Int)), none, none, some (.ref pl), x18])
                  ⟨Same.refl _, x8, x18, rfl⟩ (fun m σ H' _ z => ⟨z.1.seq (SqL.of hRD12), z.1.seq (SqL.of hpl)⟩) ?_ ?_
                · rintro m y σ H12 H12' hm ⟨w4, x8, x18, rfl⟩ ⟨T1, a1, a2, rfl, hT1, rfl, g1, g2⟩
                  have sT := same_upd (o := .tup [a1, a2]) hT1
                  have w5 := w4.trans sT
                  obtain ⟨qv, hq1, hq2⟩ := hw12.at' g1
                  obtain ⟨c, hcn, rfl⟩ := range_map_get hq1
                  obtain ⟨sv, hs1, hs2, hs3, hs4, hs5⟩ := hpw m c a2 g2 hq1
                  obtain ⟨pa, u1, u2, rfl, k1, k2, k3⟩ := SpanV.same hs1 w5
                  have hbd : Bd (valS rows gv (some fig) oo.2 c - valS rows gv none oo.2 c) := dif_bd oo.2 c hjn hcn
                  refine ⟨T1, _, rfl, SqT.of upd_same, rfl, _, _, rfl, _, _, rfl, rfl, ?_⟩
                  refine ⟨_, rfl, _, rfl, pa, _, 0, _, rfl, rfl, k1, at0, a1, u1, valS rows gv (some fig) oo.2 c - valS rows gv none oo.2 c, sv.1, rfl, hq2.same w5, k2, hbd, hs2, _, rfl, ?_⟩
                  rw [decide_eq_false (Rat.not_lt.mpr hs4)]
                  refine iteF ⟨_, rfl, pa, _, 1, _, rfl, rfl, k1, at1, _, rfl, u2, a1, sv.2, valS rows gv (some fig) oo.2 c - valS rows gv none oo.2 c, rfl, k3, hq2.same w5, hs3, hbd, _, rfl, ?_⟩
                  rw [decide_eq_false (Rat.not_lt.mpr hs5)]
                  exact iteF ⟨w5, _, _, rfl⟩
                · rintro σ H12 ⟨w4, x8, x18, rfl⟩
                  exact ⟨v12.trans w4, _, _, _, _, _, _, rfl⟩
        · rintro σ H10 ⟨u1, x7, x8, x13, x14, x17, x18, rfl⟩
          exact ⟨v9.trans u1, _, _, _, _, _, _, _, _, _, _, rfl⟩
      · rintro σ H6 ⟨y1, x7, x8, x9, x10, x11, x12, x13, x14, x17, x18, rfl⟩
        exact q H6 (sbH5.trans (Same.b y1 b)) (B5.same y1)
end
end K70
/-! K70, part LS: spring_right. -/
namespace K70
open PySem PySem.Spec PyProof.Rows L2
theorem un_succ (k : Nat) : un k * un 1 = un (k + 1) := by
  unfold un
  rw [Rat.mkRat_mul_mkRat, Nat.pow_succ]
  rfl
def sprS (i : Nat) : Span := (cutSpan i 6).getD (0, 0)
theorem sprS_lt {i : Nat} (h : i < 6) : sprS i = (un 6 - un i, 0) := by
  unfold sprS cutSpan
  rw [if_neg (by omega)]
  rfl
theorem sprS_ge {i : Nat} (h : ¬ i < 6) : sprS i = (0, 0) := by
  unfold sprS cutSpan
  rw [if_pos (by omega)]
  rfl
section
variable {K : PySem.W.Frag} {H : Hp}
theorem num_int {a : Addr} {q : Rat} {n d : Int} (h : SqT K H a [.int n, .int d]) (e1 : q.num = n) (e2 : (q.den : Int) = d) : NumV K H (.ref a) q := ⟨a, rfl, by rw [e1, e2]; exact h⟩
theorem numSam {u v : V} {q : Rat} (h1 : NumV K H u q) (h2 : NumV K H v q) (d : Nat) : SamV K (d + 2) H u v := by
  obtain ⟨a, rfl, h1⟩ := h1
  obtain ⟨b, rfl, h2⟩ := h2
  exact .inr (.inl ⟨a, b, _, _, rfl, rfl, h1, h2, by show 2 ≤ 1000; decide, .cons (.inl ⟨_, rfl, rfl⟩) (.cons (.inl ⟨_, rfl, rfl⟩) .nil)⟩)
theorem spanSam {u v : V} {s : Span} (h1 : SpanV K H u s) (h2 : SpanV K H v s) (d : Nat) : SamV K (d + 3) H u v := by
  obtain ⟨a, u1, u2, rfl, h1, k1, k2⟩ := h1
  obtain ⟨b, v1, v2, rfl, h2, m1, m2⟩ := h2
  exact .inr (.inl ⟨a, b, _, _, rfl, rfl, h1, h2, by show 2 ≤ 1000; decide, .cons (numSam k1 m1 d) (.cons (numSam k2 m2 d) .nil)⟩)
end
/-- the graph of one spring -/
def sprR (x : Str) : List Row := [⟨.spring, x, 0, [], 1⟩]
theorem sprR_ok (x : Str) : GOk (sprR x) (fun _ => 0) := by
  have one : ∀ r ∈ sprR x, r = ⟨.spring, x, 0, [], 1⟩ := fun r hr => List.mem_singleton.mp hr
  refine ⟨by show 1 ≤ 9; decide, fun r hr => ?_, fun r hr a ha => ?_, fun r hr => ?_, fun r hr => ?_, fun r hr a ha => ?_, fun j r hr => ⟨by show 0 < 9; decide, fun _ a ha => ?_⟩⟩
  · rw [one r hr]
    rfl
  · rw [one r hr] at ha
    cases ha
  · rw [one r hr]
    exact ⟨by show 1 ≤ 1; decide, by show 1 ≤ 16; decide⟩
  · rw [one r hr]
    exact Sz.zero _ _
  · rw [one r hr] at ha
    cases ha
  · rw [one r (List.mem_of_getElem? hr)] at ha
    cases ha
section
variable {P : Program} {w : World} {K : PySem.W.Frag} {mg : Str → Option Value} {base : Heap}
theorem c_same : ∀ (T : TX K mg) (d : Nat), Cal P w K mg base "_law_same" ["_law_found", "_law_due"] [] d (sp_same K d)
  | T, 0 => c_same0 T
  | T, d + 1 => c_sameS T (c_same T d)
def sp_same5 (K : PySem.W.Frag) : Sp := fun vs H Q _ => ∃ x y, vs = [x, y] ∧ (SamV K 5 H x y ∨ TopV K 4 H x y) ∧ ∀ H', Same H H' → Q (.bl true) H'
theorem c_same5 (T : TX K mg) : Cal P w K mg base "_law_same" ["_law_found", "_law_due"] [] 5 (sp_same5 K) := (c_same T 5).imp fun _ _ _ _ h => h
def sp_law_spring_right (K : PySem.W.Frag) : Sp := fun vs H Q _ => ∃ (x called : Str), vs = [.str x, .str called] ∧ ∀ H', Same H H' → Q (.bl true) H'
/-! ### _law_spring_right -/
abbrev n_law_spring_right : List Str := ["_law_x", "_law_called", "_law_net", "_law_unit", "_law_places_here", "_law_low"]
theorem sc_law_spring_right : FnScope n_law_spring_right ["_law_x", "_law_called"] (defScope s_law_spring_right) := ⟨rfl, rfl, rfl, by decide +kernel, rfl, by decide +kernel, by decide +kernel⟩
theorem c_law_spring_right (T : TX K mg) : Cal P w K mg base "_law_spring_right" ["_law_x", "_law_called"] [] 8 (sp_law_spring_right K) := by
  refine cal_of T.g_law_spring_right T.f_law_spring_right (fun _ _ _ _ _ _ us hl => match us, hl with | [_, _], _ => rfl) fun fd F => okN F sc_law_spring_right (fun vs H Q E h => ?_) (fun cdv A outer s H vs Q E hr h => ?_)
  · obtain ⟨x, called, rfl, q⟩ := h
    rfl
  · obtain ⟨x, called, rfl, q⟩ := h
    refine ⟨_, 
      (pss_cons
        (ps_par (i := 2) (j := 3) (by rfl) sc_law_spring_right.nd rfl rfl (by decide) rfl rfl (pa_cons (pe_tup (pa_cons (pe_tup (pa_cons (pe_tup (pa_cons pe_str (pa_cons (pv 0) (pa_cons (pe_tup pa_nil) (pa_cons pe_int pa_nil))))) pa_nil)) (pa_cons (pe_tup (pa_cons (pe_tup (pa_cons (pv 1) (pa_cons pe_int pa_nil))) pa_nil)) pa_nil))) (pa_cons (pe_tup (pa_cons pe_int (pa_cons pe_int pa_nil))) pa_nil)) (by rfl))
      (pss_cons
        (ps_for PassesOwn.never rfl (pi_range1 (by rfl) T.z_range (pa_cons pe_int pa_nil)) (pg_name (i := 4) sc_law_spring_right.nd rfl (by first | exact Or.inl rfl | exact Or.inr rfl))
          (pss_cons
            (ps_set (i := 5) sc_law_spring_right.nd rfl (by first | exact Or.inl rfl | exact Or.inr rfl) (pe_ifExp (pt_cmpR op_lt (pv 4) pe_int (nomark _)) (pe_cal (c_law_sub T) (hr.mono (by decide)) (pa_cons (pe_tup (pa_cons pe_int (pa_cons pe_int pa_nil))) (pa_cons (pv 3) pa_nil))) (pe_tup (pa_cons pe_int (pa_cons pe_int pa_nil)))))
          (pss_cons
            (ps_if (pt_not (pt_val (pe_cal (c_same5 T) (hr.mono (by decide)) (pa_cons (pe_calK (kc_noise_of0 T) (hr.mono (by decide)) (pa_cons (pv 2) (pa_cons pe_int pa_nil)) (pk_cons (pv 4) pk_nil)) (pa_cons (pe_disp (pps_cons (pv 1) (pe_op op_rep (pe_lst (pa_cons (pe_tup (pa_cons (pv 5) (pa_cons (pe_tup (pa_cons pe_int (pa_cons pe_int pa_nil))) pa_nil))) pa_nil)) pe_int) pps_nil) (by rfl) (by rfl) (fun z => by cases z) (by decide)) pa_nil)))))
              (pss_one
                (ps_ret pe_bl))
              pss_nil)
          (pss_one
            (ps_set (i := 3) sc_law_spring_right.nd rfl (by first | exact Or.inl rfl | exact Or.inr rfl) (pe_cal (c_law_mul T) (hr.mono (by decide)) (pa_cons (pv 3) (pa_cons (pe_tup (pa_cons pe_int (pa_cons pe_int pa_nil))) pa_nil))))))))
      (pss_one
        (ps_ret pe_bl)))), ?_⟩
    refine ⟨_, rfl, by show 0 ≤ sizeLine; decide, fun t0 ht0 => ⟨by show 4 ≤ sizeLine; decide, fun t1 ht1 => ⟨by show 1 ≤ sizeLine; decide, fun t2 ht2 => ⟨_, rfl, by show 2 ≤ sizeLine; decide, fun t3 ht3 => ⟨by show 1 ≤ sizeLine; decide, fun t4 ht4 => ⟨by show 2 ≤ sizeLine; decide, fun t5 ht5 => ⟨by show 2 ≤ sizeLine; decide, fun t6 ht6 => ⟨_, _, rfl, ?_⟩⟩⟩⟩⟩⟩⟩⟩
    have s0 := same_upd (o := .tup []) ht0
    have s1 := same_upd (o := .tup [.str "spring", .str x, .ref t0, .int 1]) ht1
    have s2 := same_upd (o := .tup [.ref t1]) ht2
    have s3 := same_upd (o := .tup [.str called, .int 0]) ht3
    have s4 := same_upd (o := .tup [.ref t3]) ht4
    have s5 := same_upd (o := .tup [.ref t2, .ref t4]) ht5
    have s6 := same_upd (o := .tup [.int 1, .int 1]) ht6
    have k6 := s6
    have k5 := s5.trans k6
    have k4 := s4.trans k5
    have k3 := s3.trans k4
    have k2 := s2.trans k3
    have k1 := s1.trans k2
    have k0 := s0.trans k1
    have g0 := k1 t0 (.tup []) upd_same
    have g1 := k2 t1 (.tup [.str "spring", .str x, .ref t0, .int 1]) upd_same
    have g2 := k3 t2 (.tup [.ref t1]) upd_same
    have g3 := k4 t3 (.tup [.str called, .int 0]) upd_same
    have g4 := k5 t4 (.tup [.ref t3]) upd_same
    have g5 := k6 t5 (.tup [.ref t2, .ref t4]) upd_same
    have g6 : (upd (upd (upd (upd (upd (upd (upd H t0 (.tup [])) t1 (.tup [.str "spring", .str x, .ref t0, .int 1])) t2 (.tup [.ref t1])) t3 (.tup [.str called, .int 0])) t4 (.tup [.ref t3])) t5 (.tup [.ref t2, .ref t4])) t6 (.tup [.int 1, .int 1])) t6 = some (.tup [.int 1, .int 1]) := upd_same
    clear s0 s1 s2 s3 s4 s5 s6 k1 k2 k3 k4 k5 k6
    show tSeq _ _ _ _ _
    generalize upd (upd (upd (upd (upd (upd (upd H t0 (.tup [])) t1 (.tup [.str "spring", .str x, .ref t0, .int 1])) t2 (.tup [.ref t1])) t3 (.tup [.str called, .int 0])) t4 (.tup [.ref t3])) t5 (.tup [.ref t2, .ref t4])) t6 (.tup [.int 1, .int 1]) = H7 at k0 g0 g1 g2 g3 g4 g5 g6
    have hgr7 : GraphV K H7 t5 (sprR x) (.ref t4) := ⟨t2, [.ref t1], SqT.of g5, SqT.of g2, .cons ⟨t1, t0, .str x, rfl, SqT.of g1, rfl, SqT.of g0⟩ .nil⟩
    have hot7 : OutsV K H7 (.ref t4) [(called, 0)] := ⟨t4, [.ref t3], rfl, SqT.of g4, .cons ⟨t3, rfl, SqT.of g3⟩ .nil⟩
    have hu0 : NumV K H7 (.ref t6) (un 0) := num_int (SqT.of g6) (by decide +kernel) (by decide +kernel)
    refine ⟨8, rfl, by decide, by decide, ?_⟩
    refine for_range (n := 8) (fun i σ H' => Same H7 H' ∧ ∃ u x4 x5, σ = [some (.str x), some (.str called), some (.ref t5), some u, x4, x5] ∧ NumV K H' u (un i))
      ⟨Same.refl _, _, none, none, rfl, hu0⟩ ?_ ?_
    · rintro i σ H8 hi ⟨y1, u, x4, x5, rfl, hu⟩
      rw [Int.zero_add]
      -- behind: low stands there
      have bun : ∀ k, k ≤ 8 → Bd (un k) := fun k hk => (un_sz (d := 8) hk).bd (by decide) (by decide)
      refine ⟨_, rfl, _, _, rfl, rfl, _, rfl, ?_⟩
      refine dec_if (fun hlt => ?_) (fun hge => ?_)
      · refine ⟨by show 2 ≤ sizeLine; decide, fun c1 hc1 => ⟨_, rfl, ?_⟩⟩
        have sc1 := same_upd (o := .tup [.int 1, .int 64]) hc1
        have n64 : NumV K (upd H8 c1 (.tup [.int 1, .int 64])) (.ref c1) (un 6) := num_int (SqT.of upd_same) (by decide +kernel) (by decide +kernel)
        refine ⟨_, _, un 6, un i, rfl, n64, hu.same sc1, bun 6 (by decide), bun i (by omega), fun lo H9 s9 hlo => ?_⟩
        have y9 : Same H8 H9 := sc1.trans s9
        have hs : sprS i = (un 6 - un i, 0) := sprS_lt (by omega)
        have hlo' : NumV K H9 lo (sprS i).1 := by
          rw [hs]
          exact hlo
        have hs2 : (sprS i).2 = 0 := by rw [hs]
        clear hlo hs n64
        have v9 := y1.trans y9
        refine ⟨_, rfl, _, rfl, rfl, rfl, t5, sprR x, fun _ => 0, .ref t4, [(called, 0)], 2, i, 6, rfl, hgr7.tk (tk_same v9), hot7.tk (tk_same v9), sprR_ok x, by decide, by omega, by decide, fun o ho => ?_, List.nodup_cons.mpr ⟨List.not_mem_nil, List.nodup_nil⟩, by show 1 ≤ 100; decide, fun r hr => ?_, fun d H10 kk lh s10 hd0 hd hDo hNo => ?_⟩
        · rw [List.mem_singleton.mp ho]
          show 0 < 1
          decide
        · rw [List.mem_singleton.mp hr]
          show Wd.spring ≠ Wd.pick
          decide
        · have hl0 : lh 0 0 = sprS i := hNo.2.1 0 _ rfl rfl 0 (by show 0 < manyN 1 2; decide)
          have hl1 : lh 0 1 = sprS i := hNo.2.1 0 _ rfl rfl 1 (by show 1 < manyN 1 2; decide)
          obtain ⟨l, wl, hv, hl, hw⟩ := hDo.val (List.nodup_cons.mpr ⟨List.not_mem_nil, List.nodup_nil⟩) List.mem_cons_self
          have hwr : All2 (SpanV K H10) wl [sprS i, sprS i] := by
            have z : All2 (SpanV K H10) wl ((List.range (manyN (perAt (sprR x) 0) 2)).map (lh 0)) := hw
            have e : (List.range (manyN (perAt (sprR x) 0) 2)).map (lh 0) = [lh 0 0, lh 0 1] := by
              have e1 : perAt (sprR x) 0 = 1 := rfl
              rw [e1]
              rfl
            rw [e, hl0, hl1] at z
            exact z
          have hkk : kk = [((.inr called : Key), .ref l)] := by
            cases hDo with
            | cons h1 h2 =>
              cases h2
              rename_i p
              obtain ⟨pk, pv⟩ := p
              obtain ⟨e, _⟩ := h1
              have e' : pk = .inr called := e
              subst e'
              have z := hv
              unfold valV at z
              simp at z
              rw [z]
          have v10 := v9.trans s10
          refine fun p hp => ⟨_, rfl, _, rfl, by show 2 ≤ sizeLine; decide, fun z1 hz1 => ⟨by show 2 ≤ sizeLine; decide, fun z2 hz2 => ⟨by show 1 ≤ sizeLine; decide, fun z3 hz3 => ⟨z3, 2, [.ref z2], rfl, rfl, upd_same, by decide, by decide, by show 1 * 2 ≤ sizeLine; decide, fun R hR => ?_⟩⟩⟩⟩
          have a0 := same_upd (o := .dK []) hp
          have a1 := same_upd (o := .tup [.int 0, .int 1]) hz1
          have a2 := same_upd (o := .tup [lo, .ref z1]) hz2
          have a3 := same_upd (o := .lst [.ref z2]) hz3
          have a4 := same_upd (o := .lst (List.replicate ((2 : Nat) : Int).toNat [V.ref z2]).flatten) hR
          have b3 := a3.trans a4
          have b2 := a2.trans b3
          have b1 := a1.trans b2
          have b0 := a0.trans b1
          have f0 := b1 p (.dK []) upd_same
          have f1 := b2 z1 (.tup [.int 0, .int 1]) upd_same
          have f2 := b3 z2 (.tup [lo, .ref z1]) upd_same
          have f4 : (upd (upd (upd (upd (upd H10 p (.dK [])) z1 (.tup [.int 0, .int 1])) z2 (.tup [lo, .ref z1])) z3 (.lst [.ref z2])) R (.lst (List.replicate ((2 : Nat) : Int).toNat [V.ref z2]).flatten)) R = some (.lst [.ref z2, .ref z2]) := upd_same
          clear a0 a1 a2 a3 a4 b1 b2 b3
          refine ⟨f0, [(.inr called, .ref R)], rfl, by show 1 ≤ 15; decide, ?_⟩
          have mk1 : mergeK [] [((.inr called : Key), V.ref R)] = [(.inr called, .ref R)] := by rfl
          rw [mk1]
          generalize upd (upd (upd (upd (upd H10 p (.dK [])) z1 (.tup [.int 0, .int 1])) z2 (.tup [lo, .ref z1])) z3 (.lst [.ref z2])) R (.lst (List.replicate ((2 : Nat) : Int).toNat [V.ref z2]).flatten) = H11 at b0 f0 f1 f2 f4
          have pd : p ≠ d := Ne.symm (ne_of_none hd hp)
          have pl : l ≠ p := ne_of_none hl hp
          have pR : R ≠ p := by
            rintro rfl
            rw [f4] at f0
            cases f0
          have tkp : TK K H11 (upd H11 p (.dK [((.inr called : Key), V.ref R)])) := dic_tk f0
          have sam : SamV K 4 (upd H11 p (.dK [((.inr called : Key), V.ref R)])) (.ref l) (.ref R) := by
            refine .inr (.inr ⟨l, R, wl, [.ref z2, .ref z2], rfl, rfl, by rw [upd_ne pl]; exact b0 _ _ hl, by rw [upd_ne pR]; exact f4, by show 2 ≤ 1000; decide, ?_⟩)
            have hz : SpanV K (upd H11 p (.dK [((.inr called : Key), V.ref R)])) (.ref z2) (sprS i) := by
              refine ⟨z2, lo, .ref z1, rfl, tkp _ _ (SqT.of f2), ((hlo'.same s10).same b0).tk tkp, ?_⟩
              rw [hs2]
              exact (num_int (SqT.of f1) (by decide +kernel) (by decide +kernel)).tk tkp
            cases hwr with
            | cons h1 h2 =>
              cases h2 with
              | cons h2 h3 =>
                cases h3
                exact .cons (spanSam ((h1.same b0).tk tkp) hz 0) (.cons (spanSam ((h2.same b0).tk tkp) hz 0) .nil)
          refine ⟨.ref d, .ref p, rfl, .inr ⟨d, p, called, .ref l, .ref R, rfl, rfl, Ne.symm pd, ?_, upd_same, sam⟩, fun H13 s13 => ⟨_, rfl, iteF ?_⟩⟩
          · rw [upd_ne (Ne.symm pd), ← hkk]
            exact b0 _ _ hd
          · have sp13 : Same H8 H13 := fun c o e => s13 c o (by
              have e2 := b0 _ _ (s10 _ _ (y9 _ _ e))
              have nc : c ≠ p := ne_of_none (s10 _ _ (y9 _ _ e)) hp
              rw [upd_ne nc]
              exact e2)
            refine ⟨_, rfl, by show 2 ≤ sizeLine; decide, fun c2 hc2 => ?_⟩
            have sc2 := same_upd (o := .tup [.int 1, .int 2]) hc2
            have n12 : NumV K (upd H13 c2 (.tup [.int 1, .int 2])) (.ref c2) (un 1) := num_int (SqT.of upd_same) (by decide +kernel) (by decide +kernel)
            refine ⟨u, .ref c2, un i, un 1, rfl, (hu.same sp13).same sc2, n12, bun i (by omega), bun 1 (by decide), fun v14 H14 s14 n14 => ⟨y1.trans (sp13.trans (sc2.trans s14)), _, _, _, rfl, ?_⟩⟩
            have n14' : NumV K H14 v14 (un i * un 1) := n14
            rw [un_succ] at n14'
            exact n14'
      · refine ⟨by show 2 ≤ sizeLine; decide, fun c1 hc1 => ?_⟩
        have sc1 := same_upd (o := .tup [.int 0, .int 1]) hc1
        have hs : sprS i = (0, 0) := sprS_ge (by omega)
        have hlo' : NumV K (upd H8 c1 (.tup [.int 0, .int 1])) (.ref c1) (sprS i).1 := by
          rw [hs]
          exact num_int (SqT.of upd_same) (by decide +kernel) (by decide +kernel)
        have hs2 : (sprS i).2 = 0 := by rw [hs]
        generalize upd H8 c1 (.tup [.int 0, .int 1]) = H9 at sc1 hlo'
        have y9 := sc1
        have v9 := y1.trans y9
        refine ⟨_, rfl, _, rfl, rfl, rfl, t5, sprR x, fun _ => 0, .ref t4, [(called, 0)], 2, i, 6, rfl, hgr7.tk (tk_same v9), hot7.tk (tk_same v9), sprR_ok x, by decide, by omega, by decide, fun o ho => ?_, List.nodup_cons.mpr ⟨List.not_mem_nil, List.nodup_nil⟩, by show 1 ≤ 100; decide, fun r hr => ?_, fun d H10 kk lh s10 hd0 hd hDo hNo => ?_⟩
        · rw [List.mem_singleton.mp ho]
          show 0 < 1
          decide
        · rw [List.mem_singleton.mp hr]
          show Wd.spring ≠ Wd.pick
          decide
        · have hl0 : lh 0 0 = sprS i := hNo.2.1 0 _ rfl rfl 0 (by show 0 < manyN 1 2; decide)
          have hl1 : lh 0 1 = sprS i := hNo.2.1 0 _ rfl rfl 1 (by show 1 < manyN 1 2; decide)
          obtain ⟨l, wl, hv, hl, hw⟩ := hDo.val (List.nodup_cons.mpr ⟨List.not_mem_nil, List.nodup_nil⟩) List.mem_cons_self
          have hwr : All2 (SpanV K H10) wl [sprS i, sprS i] := by
            have z : All2 (SpanV K H10) wl ((List.range (manyN (perAt (sprR x) 0) 2)).map (lh 0)) := hw
            have e : (List.range (manyN (perAt (sprR x) 0) 2)).map (lh 0) = [lh 0 0, lh 0 1] := by
              have e1 : perAt (sprR x) 0 = 1 := rfl
              rw [e1]
              rfl
            rw [e, hl0, hl1] at z
            exact z
          have hkk : kk = [((.inr called : Key), .ref l)] := by
            cases hDo with
            | cons h1 h2 =>
              cases h2
              rename_i p
              obtain ⟨pk, pv⟩ := p
              obtain ⟨e, _⟩ := h1
              have e' : pk = .inr called := e
              subst e'
              have z := hv
              unfold valV at z
              simp at z
              rw [z]
          have v10 := v9.trans s10
          refine fun p hp => ⟨_, rfl, _, rfl, by show 2 ≤ sizeLine; decide, fun z1 hz1 => ⟨by show 2 ≤ sizeLine; decide, fun z2 hz2 => ⟨by show 1 ≤ sizeLine; decide, fun z3 hz3 => ⟨z3, 2, [.ref z2], rfl, rfl, upd_same, by decide, by decide, by show 1 * 2 ≤ sizeLine; decide, fun R hR => ?_⟩⟩⟩⟩
          have a0 := same_upd (o := .dK []) hp
          have a1 := same_upd (o := .tup [.int 0, .int 1]) hz1
          have a2 := same_upd (o := .tup [.ref c1, .ref z1]) hz2
          have a3 := same_upd (o := .lst [.ref z2]) hz3
          have a4 := same_upd (o := .lst (List.replicate ((2 : Nat) : Int).toNat [V.ref z2]).flatten) hR
          have b3 := a3.trans a4
          have b2 := a2.trans b3
          have b1 := a1.trans b2
          have b0 := a0.trans b1
          have f0 := b1 p (.dK []) upd_same
          have f1 := b2 z1 (.tup [.int 0, .int 1]) upd_same
          have f2 := b3 z2 (.tup [.ref c1, .ref z1]) upd_same
          have f4 : (upd (upd (upd (upd (upd H10 p (.dK [])) z1 (.tup [.int 0, .int 1])) z2 (.tup [.ref c1, .ref z1])) z3 (.lst [.ref z2])) R (.lst (List.replicate ((2 : Nat) : Int).toNat [V.ref z2]).flatten)) R = some (.lst [.ref z2, .ref z2]) := upd_same
          clear a0 a1 a2 a3 a4 b1 b2 b3
          refine ⟨f0, [(.inr called, .ref R)], rfl, by show 1 ≤ 15; decide, ?_⟩
          have mk1 : mergeK [] [((.inr called : Key), V.ref R)] = [(.inr called, .ref R)] := by rfl
          rw [mk1]
          generalize upd (upd (upd (upd (upd H10 p (.dK [])) z1 (.tup [.int 0, .int 1])) z2 (.tup [.ref c1, .ref z1])) z3 (.lst [.ref z2])) R (.lst (List.replicate ((2 : Nat) : Int).toNat [V.ref z2]).flatten) = H11 at b0 f0 f1 f2 f4
          have pd : p ≠ d := Ne.symm (ne_of_none hd hp)
          have pl : l ≠ p := ne_of_none hl hp
          have pR : R ≠ p := by
            rintro rfl
            rw [f4] at f0
            cases f0
          have tkp : TK K H11 (upd H11 p (.dK [((.inr called : Key), V.ref R)])) := dic_tk f0
          have sam : SamV K 4 (upd H11 p (.dK [((.inr called : Key), V.ref R)])) (.ref l) (.ref R) := by
            refine .inr (.inr ⟨l, R, wl, [.ref z2, .ref z2], rfl, rfl, by rw [upd_ne pl]; exact b0 _ _ hl, by rw [upd_ne pR]; exact f4, by show 2 ≤ 1000; decide, ?_⟩)
            have hz : SpanV K (upd H11 p (.dK [((.inr called : Key), V.ref R)])) (.ref z2) (sprS i) := by
              refine ⟨z2, .ref c1, .ref z1, rfl, tkp _ _ (SqT.of f2), ((hlo'.same s10).same b0).tk tkp, ?_⟩
              rw [hs2]
              exact (num_int (SqT.of f1) (by decide +kernel) (by decide +kernel)).tk tkp
            cases hwr with
            | cons h1 h2 =>
              cases h2 with
              | cons h2 h3 =>
                cases h3
                exact .cons (spanSam ((h1.same b0).tk tkp) hz 0) (.cons (spanSam ((h2.same b0).tk tkp) hz 0) .nil)
          refine ⟨.ref d, .ref p, rfl, .inr ⟨d, p, called, .ref l, .ref R, rfl, rfl, Ne.symm pd, ?_, upd_same, sam⟩, fun H13 s13 => ⟨_, rfl, iteF ?_⟩⟩
          · rw [upd_ne (Ne.symm pd), ← hkk]
            exact b0 _ _ hd
          · have sp13 : Same H8 H13 := fun c o e => s13 c o (by
              have e2 := b0 _ _ (s10 _ _ (y9 _ _ e))
              have nc : c ≠ p := ne_of_none (s10 _ _ (y9 _ _ e)) hp
              rw [upd_ne nc]
              exact e2)
            refine ⟨_, rfl, by show 2 ≤ sizeLine; decide, fun c2 hc2 => ?_⟩
            have sc2 := same_upd (o := .tup [.int 1, .int 2]) hc2
            have n12 : NumV K (upd H13 c2 (.tup [.int 1, .int 2])) (.ref c2) (un 1) := num_int (SqT.of upd_same) (by decide +kernel) (by decide +kernel)
            refine ⟨u, .ref c2, un i, un 1, rfl, (hu.same sp13).same sc2, n12, bun i (by omega), bun 1 (by decide), fun v14 H14 s14 n14 => ⟨y1.trans (sp13.trans (sc2.trans s14)), _, _, _, rfl, ?_⟩⟩
            have n14' : NumV K H14 v14 (un i * un 1) := n14
            rw [un_succ] at n14'
            exact n14'
    · rintro σ H8 ⟨y1, u, x4, x5, rfl, hu⟩
      exact q H8 (k0.trans y1)
end
end K70
/-! K70, part LT: right; law. -/
namespace K70
open PySem PySem.Spec PyProof.Rows L2
def wds : List Wd := [.sum, .less, .most, .least, .by, .by, .late, .late, .half, .twice, .fixed, .pick]

section
variable {P : Program} {w : World} {K : PySem.W.Frag} {mg : Str → Option Value} {base : Heap}
def sp_law_right (K : PySem.W.Frag) : Sp := fun vs H Q _ => ∃ (b : Addr) (n : Nat), vs = [.ref b] ∧ BoxV H b n ∧ n ≤ 1000 ∧ ∀ H', SameB b H H' → Q (.bl true) H'
/-! ### _law_right -/
abbrev n_law_right : List Str := ["_law_box", "_law_words", "_law_names", "_law_turn"]
theorem sc_law_right : FnScope n_law_right ["_law_box"] (defScope s_law_right) := ⟨rfl, rfl, rfl, by decide +kernel, rfl, by decide +kernel, by decide +kernel⟩
theorem c_law_right (T : TX K mg) : Cal P w K mg base "_law_right" ["_law_box"] [] 10 (sp_law_right K) := by
  refine cal_of T.g_law_right T.f_law_right (fun _ _ _ _ _ _ us hl => match us, hl with | [_], _ => rfl) fun fd F => okN F sc_law_right (fun vs H Q E h => ?_) (fun cdv A outer s H vs Q E hr h => ?_)
  · obtain ⟨b, n, rfl, hB, hn, q⟩ := h
    rfl
  · obtain ⟨b, n, rfl, hB, hn, q⟩ := h
    refine ⟨_, 
      (pss_cons
        (ps_set (i := 1) sc_law_right.nd rfl (by first | exact Or.inl rfl | exact Or.inr rfl) (pe_lst (pa_cons pe_str (pa_cons pe_str (pa_cons pe_str (pa_cons pe_str (pa_cons pe_str (pa_cons pe_str (pa_cons pe_str (pa_cons pe_str (pa_cons pe_str (pa_cons pe_str (pa_cons pe_str (pa_cons pe_str pa_nil))))))))))))))
      (pss_cons
        (ps_set (i := 2) sc_law_right.nd rfl (by first | exact Or.inl rfl | exact Or.inr rfl) (pe_cal (c_law_named T) (hr.mono (by decide)) (pa_cons (pv 0) (pa_cons pe_int pa_nil))))
      (pss_cons
        (ps_if (pt_not (pt_val (pe_cal (c_law_spring_right T) (hr.mono (by decide)) (pa_cons (pe_ix (ixL (K := K)) (pv 2) pe_int (fun _ _ => rfl)) (pa_cons (pe_ix (ixL (K := K)) (pv 2) pe_int (fun _ _ => rfl)) pa_nil)))))
          (pss_one
            (ps_ret pe_bl))
          pss_nil)
      (pss_one
        (ps_ret (pe_callB (cr_all rfl) (by rfl) T.z_all (by decide +kernel) (pa_cons (pe_lc (own := [("_law_turn", 3)]) rfl sc_law_right.nd (pi_range1 (by rfl) T.z_range (pa_cons pe_int pa_nil)) (blkOk_by (N := n_law_right) (sc := defScope s_law_right) (by decide +kernel)) (fun _ _ _ _ _ => pg_name (i := 3) sc_law_right.nd rfl (by first | exact Or.inl rfl | exact Or.inr rfl)) (fun _ _ _ _ _ => pts_nil) (fun _ _ _ _ _ => (pe_cal (c_law_graph_right T) (hr.mono (by decide)) (pa_cons (pv 0) (pa_cons (pe_cal (c_law_graph_drawn T) (hr.mono (by decide)) (pa_cons (pv 0) (pa_cons pe_int (pa_cons (pv 1) pa_nil)))) pa_nil))))) pa_nil))))))), ?_⟩
    have e35 : (2 : Nat) ^ 35 = 34359738368 := by decide
    have e36 : (2 : Nat) ^ 36 = 68719476736 := by decide
    have e37 : (2 : Nat) ^ 37 = 137438953472 := by decide
    refine ⟨by show 12 ≤ sizeLine; decide, fun wl hwl => ?_⟩
    have s1 := same_upd (o := .lst (wvs wds)) hwl
    have hwb := box_ne hB hwl
    have B1 : BoxV (upd H wl (.lst (wvs wds))) b n := hB.same s1
    have hw1 : (upd H wl (.lst (wvs wds))) wl = some (.lst (wvs wds)) := upd_same
    refine ⟨_, rfl, b, 2, n, rfl, by decide, B1, by omega, fun f H2 names sb2 hf hfb hf2 nd ln lns B2 => ?_⟩
    have sbH2 := (Same.b s1 b).trans sb2
    have hw2 := sb2 _ _ hwb hw1
    obtain ⟨x0, x1, rfl⟩ : ∃ x0 x1, names = [x0, x1] := by
      match names, ln with
      | [x0, x1], _ => exact ⟨x0, x1, rfl⟩
    refine ⟨_, rfl, f, [.str x0, .str x1], 0, _, rfl, rfl, SqL.of hf2, at0, _, rfl, f, [.str x0, .str x1], 1, _, rfl, rfl, SqL.of hf2, at1, x0, x1, rfl, fun H3 s3 => ⟨_, rfl, iteF ?_⟩⟩
    have sbH3 := sbH2.trans (Same.b s3 b)
    have B3 := B2.same s3
    have hw3 := s3 _ _ hw2
    refine ⟨2, rfl, by decide, by decide, fun D hD => ?_⟩
    have hDb := box_ne B3 hD
    refine lc_range (lo := 0) (n := 2) (fun i H' => SameB b H3 H' ∧ H' D = some (.lst (List.replicate i (.bl true))) ∧ BoxV H' b (n + 14 + 1401 * i))
      ⟨Same.b (same_upd hD) b, upd_same, B3.same (same_upd hD)⟩ ?_ ?_
    · rintro i H4 hi ⟨z1, z2, z3⟩
      refine ⟨rfl, _, rfl, _, rfl, _, rfl, b, wl, wds, _, rfl, z1 _ _ hwb hw3, by decide, by decide, by decide, hwb, z3, by omega, fun wd H5 rows outs turned sb5 hwd hW hWb W B5 hwdb => ?_⟩
      refine ⟨b, wd, rows, outs, turned, _, rfl, hWb, W, hwdb, B5, by omega, fun H6 sb6 B6 => ?_⟩
      have z5 := sb6 _ _ hDb (sb5 _ _ hDb z2)
      have h3D : ∀ a o, a ≠ b → H3 a = some o → a ≠ D := fun a o _ e => ne_of_none e hD
      refine ⟨_, z5, small1000 (by rw [List.length_replicate]; omega), fun a o n1 e => ?_, by rw [upd_same, trues_snoc], (B6.mono (by omega)).keep (by rw [upd_ne (Ne.symm hDb)])⟩
      rw [upd_ne (h3D a o n1 e)]
      exact sb6 _ _ n1 (sb5 _ _ n1 (z1 a o n1 e))
    · rintro H4 ⟨z1, z2, z3⟩
      refine ⟨D, List.replicate 2 true, rfl, SqL.of (by rw [trues]; exact z2), ?_⟩
      rw [all_true]
      exact q H4 (sbH3.trans z1)
def sp_law (K : PySem.W.Frag) : Sp := fun vs H Q _ => ∃ (a : Addr) (zs : List Int), vs = [.ref a] ∧ SqL K H a (zs.map V.int) ∧ ∀ H', Q (.bl true) H'
/-! ### law -/
abbrev n_law : List Str := ["_law_script", "_law_cells", "_law_k"]
theorem sc_law : FnScope n_law ["_law_script"] (defScope s_law) := ⟨rfl, rfl, rfl, by decide +kernel, rfl, by decide +kernel, by decide +kernel⟩
theorem ok_law (T : TX K mg) {fd : FuncData} (F : FnP K "law" "law" s_law [] [] (He.ga K "law") fd) : FnOk P w K mg base CX0 11 (He.ga K "law") fd ["_law_script"] (sp_law K) := by
  refine okN F sc_law (fun vs H Q E h => ?_) (fun cdv A outer s H vs Q E hr h => ?_)
  · obtain ⟨a, zs, rfl, hA, q⟩ := h
    rfl
  · obtain ⟨a, zs, rfl, hA, q⟩ := h
    refine ⟨_, 
      (pss_cons
        (ps_set (i := 1) sc_law.nd rfl (by first | exact Or.inl rfl | exact Or.inr rfl) (pe_cal (c_law_folded T) (hr.mono (by decide)) (pa_cons (pv 0) (pa_cons pe_int pa_nil))))
      (pss_one
        (ps_ret (pe_callB (cr_all rfl) (by rfl) T.z_all (by decide +kernel) (pa_cons (pe_lc (own := [("_law_k", 2)]) rfl sc_law.nd (pi_range1 (by rfl) T.z_range (pa_cons (pe_callB (call_max2 rfl) (by rfl) T.z_max (by decide +kernel) (pa_cons pe_int (pa_cons (pe_callB (lenSeqK (K := K)) (by rfl) T.z_len (by decide +kernel) (pa_cons (pv 1) pa_nil)) pa_nil))) pa_nil)) (blkOk_by (N := n_law) (sc := defScope s_law) (by decide +kernel)) (fun _ _ _ _ _ => pg_name (i := 2) sc_law.nd rfl (by first | exact Or.inl rfl | exact Or.inr rfl)) (fun _ _ _ _ _ => pts_nil) (fun _ _ _ _ _ => (pe_cal (c_law_right T) (hr.mono (by decide)) (pa_cons (pe_cal (c_law_dip T) (hr.mono (by decide)) (pa_cons (pv 1) (pa_cons (pv 2) pa_nil))) pa_nil)))) pa_nil))))), ?_⟩
    refine ⟨_, rfl, a, zs, rfl, hA, fun c H1 ys s1 hc0 hc hl => ?_⟩
    refine ⟨_, rfl, c, _, rfl, .inl (SqL.of hc), _, _, rfl, ?_⟩
    have ly : (zvs ys).length = ys.length := List.length_map _
    obtain ⟨m, hm, hm2⟩ : ∃ m : Nat, (if (((zvs ys).length : Nat) : Int) > 1 then (((zvs ys).length : Nat) : Int) else 1) = (m : Int) ∧ m ≤ 2 := by
      rw [ly]
      split
      · exact ⟨ys.length, rfl, hl⟩
      · exact ⟨1, rfl, by decide⟩
    refine ⟨_, rfl, ?_⟩
    rw [hm]
    refine ⟨by omega, by omega, fun D hD => ?_⟩
    rw [Int.toNat_natCast]
    refine lc_range (lo := 0) (n := m) (fun i H' => Same H1 H' ∧ H' D = some (.lst (List.replicate i (.bl true)))) ⟨same_upd hD, upd_same⟩ ?_ ?_
    · rintro i H2 hi ⟨z1, z2⟩
      rw [Int.zero_add]
      refine ⟨rfl, _, rfl, _, rfl, c, ys, i, rfl, by omega, SqL.of (z1 _ _ hc), fun b H3 s3 hb0 B => ?_⟩
      refine ⟨b, 0, rfl, B, by decide, fun H4 sb4 => ?_⟩
      have hDb : D ≠ b := ne_of_none z2 hb0
      have z3 := sb4 _ _ hDb (s3 _ _ z2)
      refine ⟨_, z3, small1000 (by rw [List.length_replicate]; omega), fun x o e => ?_, by rw [upd_same, trues_snoc]⟩
      have nD : x ≠ D := ne_of_none e hD
      have e2 := z1 _ _ e
      rw [upd_ne nD]
      exact sb4 _ _ (ne_of_none e2 hb0) (s3 _ _ e2)
    · rintro H2 ⟨z1, z2⟩
      refine ⟨D, List.replicate m true, rfl, SqL.of (by rw [trues]; exact z2), ?_⟩
      rw [all_true]
      exact q H2
theorem facts {P : Program} {w : World} {K : PySem.W.Frag} {h : Heap} {mg : Str → Option Value} {f : Addr} (X : K.In h) (T : TX K mg) (hfa : mg ("law" : Str) = some (.ref f)) :
    ∃ fd : FuncData, (∀ (s : Shared) (v : Value), BindsTo s fd ⟨[v], []⟩ [("_law_script", v)]) ∧ ∀ base : Heap, K.In base → base.Ns mainGlobals mg → FnOk P w K mg base CX0 11 f fd ["_law_script"] (sp_law K) := by
  obtain ⟨fd, F⟩ := T.f_law
  have e := hfa.symm.trans T.g_law
  cases e
  have b := FunD.bindsA (ps := ["_law_script"]) F fun _ _ _ _ _ _ us hl => match us, hl with | [_], _ => rfl
  exact ⟨fd, fun s v => b s [v] rfl, fun base _ _ => ok_law T F⟩
end
end K70
/-! K70, part Z: the head. -/
namespace K70
open PySem PySem.Spec PyProof.Rows L2
def fnL : List He.DefD := [d_NotGiven_init, d_Unsure_init, d_halvings_of, d_power_of, d_num_of, d_sum_of, d_less_of, d_times_of, d_is_below, d_least_num, d_most_num, d_figures_of, d_cut_of, d_now_order, d_many_told, d_springs_of, d_look_given, d_place_told, d_combined, d_number_of, d_numbers_of, d_cut_span, d_Forms_init, d_Forms_cut, d_Forms_ends, d_Forms_between, d_fixed_form, d_times_form, d_sum_form, d_form_of, d_noise_of, d_off_by, d_law_dip, d_law_take, d_law_folded, d_law_one_of, d_law_strewn, d_law_keywords, d_law_named, d_law_same, d_law_num, d_law_add, d_law_sub, d_law_mul, d_law_below, d_law_floor, d_law_value, d_law_spring_rows, d_law_more_row, d_law_joined, d_law_come_to, d_law_graph_drawn, d_law_graph_of, d_law_springs_of, d_law_told_by, d_law_lists, d_law_one_number, d_law_places, d_law_bounds, d_law_graph_right, d_law_spring_right, d_law_right, d_law]
def faG : List He.Fa := [.glo "NotGiven", .glo "Unsure", .glo "halvings_of", .glo "power_of", .glo "num_of", .glo "sum_of", .glo "less_of", .glo "times_of", .glo "is_below", .glo "least_num", .glo "most_num", .glo "figures_of", .glo "cut_of", .glo "now_order", .glo "many_told", .glo "springs_of", .glo "look_given", .glo "place_told", .glo "combined", .glo "number_of", .glo "numbers_of", .glo "cut_span", .glo "Forms", .glo "fixed_form", .glo "times_form", .glo "sum_form", .glo "form_of", .glo "noise_of", .glo "off_by", .glo "_law_dip", .glo "_law_take", .glo "_law_folded", .glo "_law_one_of", .glo "_law_strewn", .glo "_law_keywords"]
def faG2 : List He.Fa := [.glo "_law_named", .glo "_law_same", .glo "_law_num", .glo "_law_add", .glo "_law_sub", .glo "_law_mul", .glo "_law_below", .glo "_law_floor", .glo "_law_value", .glo "_law_spring_rows", .glo "_law_more_row", .glo "_law_joined", .glo "_law_come_to", .glo "_law_graph_drawn", .glo "_law_graph_of", .glo "_law_springs_of", .glo "_law_told_by", .glo "_law_lists", .glo "_law_one_number", .glo "_law_places", .glo "_law_bounds", .glo "_law_graph_right", .glo "_law_spring_right", .glo "_law_right", .glo "law"]
def faF : List He.Fa := [.free "KeyError", .free "RuntimeError", .free "abs", .free "all", .free "any", .free "bool", .free "dict", .free "enumerate", .free "int", .free "isinstance", .free "len", .free "list", .free "max", .free "min", .free "range", .free "sorted", .free "str", .free "tuple", .free "zip"]
def faC : List He.Fa := [.cls "Forms", .noat "Forms" "spans", .meth "Forms" "cut", .meth "Forms" "ends", .meth "Forms" "between", .mkr "Forms", .keep "Unsure", .int "FIGURES" 8, .int "FINE" 6, .glo "NOUGHT"]
def faL : List He.Fa := faG ++ faG2 ++ faF ++ faC
def lo1 : List Str := ["NotGiven", "Unsure", "FIGURES", "FINE", "halvings_of", "power_of", "num_of", "sum_of", "less_of", "times_of", "is_below", "least_num", "most_num", "figures_of", "cut_of", "now_order", "many_told", "springs_of", "look_given", "place_told", "combined", "number_of", "numbers_of", "NOUGHT", "cut_span", "Forms", "fixed_form", "times_form", "sum_form", "form_of", "noise_of", "off_by"]
def lo2 : List Str := ["_law_dip", "_law_take", "_law_folded", "_law_one_of", "_law_strewn", "_law_keywords", "_law_named", "_law_same", "_law_num", "_law_add", "_law_sub", "_law_mul", "_law_below", "_law_floor", "_law_value", "_law_spring_rows", "_law_more_row", "_law_joined", "_law_come_to", "_law_graph_drawn", "_law_graph_of", "_law_springs_of", "_law_told_by", "_law_lists", "_law_one_number", "_law_places", "_law_bounds", "_law_graph_right", "_law_spring_right", "_law_right"]
theorem tx_of {K : PySem.W.Frag} {h : Heap} {mg : Str → Option Value} (X : K.In h) (G : h.Ns mainGlobals mg) (ex : exB K = true) (c : He.SaysD faL fnL K) : TX K mg where
  g_NotGiven := He.glo_ok X G (c.fact 0 (f := .glo "NotGiven") rfl)
  g_Unsure := He.glo_ok X G (c.fact 1 (f := .glo "Unsure") rfl)
  g_halvings_of := He.glo_ok X G (c.fact 2 (f := .glo "halvings_of") rfl)
  g_power_of := He.glo_ok X G (c.fact 3 (f := .glo "power_of") rfl)
  g_num_of := He.glo_ok X G (c.fact 4 (f := .glo "num_of") rfl)
  g_sum_of := He.glo_ok X G (c.fact 5 (f := .glo "sum_of") rfl)
  g_less_of := He.glo_ok X G (c.fact 6 (f := .glo "less_of") rfl)
  g_times_of := He.glo_ok X G (c.fact 7 (f := .glo "times_of") rfl)
  g_is_below := He.glo_ok X G (c.fact 8 (f := .glo "is_below") rfl)
  g_least_num := He.glo_ok X G (c.fact 9 (f := .glo "least_num") rfl)
  g_most_num := He.glo_ok X G (c.fact 10 (f := .glo "most_num") rfl)
  g_figures_of := He.glo_ok X G (c.fact 11 (f := .glo "figures_of") rfl)
  g_cut_of := He.glo_ok X G (c.fact 12 (f := .glo "cut_of") rfl)
  g_now_order := He.glo_ok X G (c.fact 13 (f := .glo "now_order") rfl)
  g_many_told := He.glo_ok X G (c.fact 14 (f := .glo "many_told") rfl)
  g_springs_of := He.glo_ok X G (c.fact 15 (f := .glo "springs_of") rfl)
  g_look_given := He.glo_ok X G (c.fact 16 (f := .glo "look_given") rfl)
  g_place_told := He.glo_ok X G (c.fact 17 (f := .glo "place_told") rfl)
  g_combined := He.glo_ok X G (c.fact 18 (f := .glo "combined") rfl)
  g_number_of := He.glo_ok X G (c.fact 19 (f := .glo "number_of") rfl)
  g_numbers_of := He.glo_ok X G (c.fact 20 (f := .glo "numbers_of") rfl)
  g_cut_span := He.glo_ok X G (c.fact 21 (f := .glo "cut_span") rfl)
  g_Forms := He.glo_ok X G (c.fact 22 (f := .glo "Forms") rfl)
  g_fixed_form := He.glo_ok X G (c.fact 23 (f := .glo "fixed_form") rfl)
  g_times_form := He.glo_ok X G (c.fact 24 (f := .glo "times_form") rfl)
  g_sum_form := He.glo_ok X G (c.fact 25 (f := .glo "sum_form") rfl)
  g_form_of := He.glo_ok X G (c.fact 26 (f := .glo "form_of") rfl)
  g_noise_of := He.glo_ok X G (c.fact 27 (f := .glo "noise_of") rfl)
  g_off_by := He.glo_ok X G (c.fact 28 (f := .glo "off_by") rfl)
  g_law_dip := He.glo_ok X G (c.fact 29 (f := .glo "_law_dip") rfl)
  g_law_take := He.glo_ok X G (c.fact 30 (f := .glo "_law_take") rfl)
  g_law_folded := He.glo_ok X G (c.fact 31 (f := .glo "_law_folded") rfl)
  g_law_one_of := He.glo_ok X G (c.fact 32 (f := .glo "_law_one_of") rfl)
  g_law_strewn := He.glo_ok X G (c.fact 33 (f := .glo "_law_strewn") rfl)
  g_law_keywords := He.glo_ok X G (c.fact 34 (f := .glo "_law_keywords") rfl)
  g_law_named := He.glo_ok X G (c.fact 35 (f := .glo "_law_named") rfl)
  g_law_same := He.glo_ok X G (c.fact 36 (f := .glo "_law_same") rfl)
  g_law_num := He.glo_ok X G (c.fact 37 (f := .glo "_law_num") rfl)
  g_law_add := He.glo_ok X G (c.fact 38 (f := .glo "_law_add") rfl)
  g_law_sub := He.glo_ok X G (c.fact 39 (f := .glo "_law_sub") rfl)
  g_law_mul := He.glo_ok X G (c.fact 40 (f := .glo "_law_mul") rfl)
  g_law_below := He.glo_ok X G (c.fact 41 (f := .glo "_law_below") rfl)
  g_law_floor := He.glo_ok X G (c.fact 42 (f := .glo "_law_floor") rfl)
  g_law_value := He.glo_ok X G (c.fact 43 (f := .glo "_law_value") rfl)
  g_law_spring_rows := He.glo_ok X G (c.fact 44 (f := .glo "_law_spring_rows") rfl)
  g_law_more_row := He.glo_ok X G (c.fact 45 (f := .glo "_law_more_row") rfl)
  g_law_joined := He.glo_ok X G (c.fact 46 (f := .glo "_law_joined") rfl)
  g_law_come_to := He.glo_ok X G (c.fact 47 (f := .glo "_law_come_to") rfl)
  g_law_graph_drawn := He.glo_ok X G (c.fact 48 (f := .glo "_law_graph_drawn") rfl)
  g_law_graph_of := He.glo_ok X G (c.fact 49 (f := .glo "_law_graph_of") rfl)
  g_law_springs_of := He.glo_ok X G (c.fact 50 (f := .glo "_law_springs_of") rfl)
  g_law_told_by := He.glo_ok X G (c.fact 51 (f := .glo "_law_told_by") rfl)
  g_law_lists := He.glo_ok X G (c.fact 52 (f := .glo "_law_lists") rfl)
  g_law_one_number := He.glo_ok X G (c.fact 53 (f := .glo "_law_one_number") rfl)
  g_law_places := He.glo_ok X G (c.fact 54 (f := .glo "_law_places") rfl)
  g_law_bounds := He.glo_ok X G (c.fact 55 (f := .glo "_law_bounds") rfl)
  g_law_graph_right := He.glo_ok X G (c.fact 56 (f := .glo "_law_graph_right") rfl)
  g_law_spring_right := He.glo_ok X G (c.fact 57 (f := .glo "_law_spring_right") rfl)
  g_law_right := He.glo_ok X G (c.fact 58 (f := .glo "_law_right") rfl)
  g_law := He.glo_ok X G (c.fact 59 (f := .glo "law") rfl)
  z_KeyError := He.free_ok X G (c.fact 60 (f := .free "KeyError") rfl)
  z_RuntimeError := He.free_ok X G (c.fact 61 (f := .free "RuntimeError") rfl)
  z_abs := He.free_ok X G (c.fact 62 (f := .free "abs") rfl)
  z_all := He.free_ok X G (c.fact 63 (f := .free "all") rfl)
  z_any := He.free_ok X G (c.fact 64 (f := .free "any") rfl)
  z_bool := He.free_ok X G (c.fact 65 (f := .free "bool") rfl)
  z_dict := He.free_ok X G (c.fact 66 (f := .free "dict") rfl)
  z_enumerate := He.free_ok X G (c.fact 67 (f := .free "enumerate") rfl)
  z_int := He.free_ok X G (c.fact 68 (f := .free "int") rfl)
  z_isinstance := He.free_ok X G (c.fact 69 (f := .free "isinstance") rfl)
  z_len := He.free_ok X G (c.fact 70 (f := .free "len") rfl)
  z_list := He.free_ok X G (c.fact 71 (f := .free "list") rfl)
  z_max := He.free_ok X G (c.fact 72 (f := .free "max") rfl)
  z_min := He.free_ok X G (c.fact 73 (f := .free "min") rfl)
  z_range := He.free_ok X G (c.fact 74 (f := .free "range") rfl)
  z_sorted := He.free_ok X G (c.fact 75 (f := .free "sorted") rfl)
  z_str := He.free_ok X G (c.fact 76 (f := .free "str") rfl)
  z_tuple := He.free_ok X G (c.fact 77 (f := .free "tuple") rfl)
  z_zip := He.free_ok X G (c.fact 78 (f := .free "zip") rfl)
  g_NOUGHT := He.glo_ok X G (c.fact 88 (f := .glo "NOUGHT") rfl)
  f_NotGiven_init := c.def_ 0 (d := d_NotGiven_init) rfl
  f_Unsure_init := c.def_ 1 (d := d_Unsure_init) rfl
  f_halvings_of := c.def_ 2 (d := d_halvings_of) rfl
  f_power_of := c.def_ 3 (d := d_power_of) rfl
  f_num_of := c.def_ 4 (d := d_num_of) rfl
  f_sum_of := c.def_ 5 (d := d_sum_of) rfl
  f_less_of := c.def_ 6 (d := d_less_of) rfl
  f_times_of := c.def_ 7 (d := d_times_of) rfl
  f_is_below := c.def_ 8 (d := d_is_below) rfl
  f_least_num := c.def_ 9 (d := d_least_num) rfl
  f_most_num := c.def_ 10 (d := d_most_num) rfl
  f_figures_of := c.def_ 11 (d := d_figures_of) rfl
  f_cut_of := c.def_ 12 (d := d_cut_of) rfl
  f_now_order := c.def_ 13 (d := d_now_order) rfl
  f_many_told := c.def_ 14 (d := d_many_told) rfl
  f_springs_of := c.def_ 15 (d := d_springs_of) rfl
  f_look_given := c.def_ 16 (d := d_look_given) rfl
  f_place_told := c.def_ 17 (d := d_place_told) rfl
  f_combined := c.def_ 18 (d := d_combined) rfl
  f_number_of := c.def_ 19 (d := d_number_of) rfl
  f_numbers_of := c.def_ 20 (d := d_numbers_of) rfl
  f_cut_span := c.def_ 21 (d := d_cut_span) rfl
  f_Forms_init := c.def_ 22 (d := d_Forms_init) rfl
  f_Forms_cut := c.def_ 23 (d := d_Forms_cut) rfl
  f_Forms_ends := c.def_ 24 (d := d_Forms_ends) rfl
  f_Forms_between := c.def_ 25 (d := d_Forms_between) rfl
  f_fixed_form := c.def_ 26 (d := d_fixed_form) rfl
  f_times_form := c.def_ 27 (d := d_times_form) rfl
  f_sum_form := c.def_ 28 (d := d_sum_form) rfl
  f_form_of := c.def_ 29 (d := d_form_of) rfl
  f_noise_of := c.def_ 30 (d := d_noise_of) rfl
  f_off_by := c.def_ 31 (d := d_off_by) rfl
  f_law_dip := c.def_ 32 (d := d_law_dip) rfl
  f_law_take := c.def_ 33 (d := d_law_take) rfl
  f_law_folded := c.def_ 34 (d := d_law_folded) rfl
  f_law_one_of := c.def_ 35 (d := d_law_one_of) rfl
  f_law_strewn := c.def_ 36 (d := d_law_strewn) rfl
  f_law_keywords := c.def_ 37 (d := d_law_keywords) rfl
  f_law_named := c.def_ 38 (d := d_law_named) rfl
  f_law_same := c.def_ 39 (d := d_law_same) rfl
  f_law_num := c.def_ 40 (d := d_law_num) rfl
  f_law_add := c.def_ 41 (d := d_law_add) rfl
  f_law_sub := c.def_ 42 (d := d_law_sub) rfl
  f_law_mul := c.def_ 43 (d := d_law_mul) rfl
  f_law_below := c.def_ 44 (d := d_law_below) rfl
  f_law_floor := c.def_ 45 (d := d_law_floor) rfl
  f_law_value := c.def_ 46 (d := d_law_value) rfl
  f_law_spring_rows := c.def_ 47 (d := d_law_spring_rows) rfl
  f_law_more_row := c.def_ 48 (d := d_law_more_row) rfl
  f_law_joined := c.def_ 49 (d := d_law_joined) rfl
  f_law_come_to := c.def_ 50 (d := d_law_come_to) rfl
  f_law_graph_drawn := c.def_ 51 (d := d_law_graph_drawn) rfl
  f_law_graph_of := c.def_ 52 (d := d_law_graph_of) rfl
  f_law_springs_of := c.def_ 53 (d := d_law_springs_of) rfl
  f_law_told_by := c.def_ 54 (d := d_law_told_by) rfl
  f_law_lists := c.def_ 55 (d := d_law_lists) rfl
  f_law_one_number := c.def_ 56 (d := d_law_one_number) rfl
  f_law_places := c.def_ 57 (d := d_law_places) rfl
  f_law_bounds := c.def_ 58 (d := d_law_bounds) rfl
  f_law_graph_right := c.def_ 59 (d := d_law_graph_right) rfl
  f_law_spring_right := c.def_ 60 (d := d_law_spring_right) rfl
  f_law_right := c.def_ 61 (d := d_law_right) rfl
  f_law := c.def_ 62 (d := d_law) rfl
  cl := He.cls_ok (c.fact 79 (f := .cls "Forms") rfl)
  nS := He.noat_ok (c.fact 80 (f := .noat "Forms" "spans") rfl)
  m_cut := He.meth_ok (c.fact 81 (f := .meth "Forms" "cut") rfl)
  m_ends := He.meth_ok (c.fact 82 (f := .meth "Forms" "ends") rfl)
  m_between := He.meth_ok (c.fact 83 (f := .meth "Forms" "between") rfl)
  mkF := He.mkr_ok (c.fact 84 (f := .mkr "Forms") rfl)
  kU := He.keep_ok (c.fact 85 (f := .keep "Unsure") rfl)
  iFig := He.int_ok X G (c.fact 86 (f := .int "FIGURES" 8) rfl)
  iFine := He.int_ok X G (c.fact 87 (f := .int "FINE" 6) rfl)
  nought := fun H => He.tupB_ok (exB_nought ex) H
  ex := ex
abbrev Rw : PySem.W.OpenRow := PySem.W.OpenLaw.row PySem.Challenge.rw_brookworks_k70_whole_each_number_of_figu
def hkX (n : Nat) (fa : List He.Fa) (fn : List He.DefD) (ex : PySem.W.Frag → Bool) : PySem.W.Hook where
  α := Bool × He.AlD
  obs := fun s => (ex (He.frG s.heap.get? (He.asD s.heap.get? n)), He.obsDG n fa fn s.heap.get?)
  val := fun _ => (true, He.valD fn)
  says := fun _ h => ∃ K : PySem.W.Frag, K.In h ∧ ex K = true ∧ He.SaysD fa fn K
  of := fun _ _ e => ⟨_, He.frG_in, (Prod.mk.inj e).1, (Prod.mk.inj e).2⟩
  keeps := fun _ _ _ ⟨K, hK, c⟩ k => ⟨K, PySem.W.Frag.In.keeps hK k, c⟩
abbrev hk : PySem.W.Hook := hkX 4 faL fnL exB
def ob (s : PySem.W.SharedT) : Bool × He.AlD := (exB (He.frG (HandSHeadRun.getT s) (He.asD (HandSHeadRun.getT s) 4)), He.obsDG 4 faL fnL (HandSHeadRun.getT s))
theorem ob_eq (s : PySem.W.SharedT) : ob s = hk.obs s.abs := by
  have e : HandSHeadRun.getT s = s.abs.heap.get? := funext (HandSHeadRun.getT_eq s)
  unfold ob
  rw [e]
  rfl
set_option maxHeartbeats 0 in
theorem run (w : World) : HandSHeadRun.RunEq Rw (PySem.W.view Rw.prog [67]) hk ob 3000 (lo1 ++ lo2) w := by
  intro os
  kernel_rfl
end K70
/-! K70: the end. -/
open PySem PySem.W PySem.Calls PyProof.Rows
theorem PySem.Challenge.cw_brookworks_k70_whole_each_number_of_figu_holds : PySem.Challenge.rw_brookworks_k70_whole_each_number_of_figu.Holds := by
  w_on; o_law
  refine HandSHeadRun.head_any (r := OpenLaw.row PySem.Challenge.rw_brookworks_k70_whole_each_number_of_figu) (q := view (OpenLaw.row PySem.Challenge.rw_brookworks_k70_whole_each_number_of_figu).prog [67]) (H := K70.hk) (ob := K70.ob) (M := 3000) (loose := K70.lo1 ++ K70.lo2) (d := HandSHeadRun.topDef (OpenLaw.row PySem.Challenge.rw_brookworks_k70_whole_each_number_of_figu).prog 67) (kwd := []) K70.ob_eq
    (by kernel_rfl) (fun s => by kernel_rfl) K70.run (by kernel_rfl) (by kernel_rfl) (by kernel_rfl) (by rfl) (by first | assumption | decide +kernel) (by decide +kernel) ⟨rfl, rfl, rfl, rfl, rfl, by decide +kernel⟩ ?hw ?hc
  case hw => w_witness2
  case hc =>
    refine L2.walk_ofE (l := PySem.Challenge.rw_brookworks_k70_whole_each_number_of_figu) (n := 63) (k := 11) (x := "_law_script") (CX := L2.CX0) rfl (by decide) (by kernel_rfl) ⟨rfl, by decide, by decide⟩ ?F (fun _ _ _ _ z => z)
    intro w mg fa h Y G hmg0
    obtain ⟨K, KX, ex, c⟩ := Y
    have hmg : mg ("law" : PySem.Str) = some (.ref fa) := by
      have e : (HandSHeadRun.topDef (OpenLaw.row PySem.Challenge.rw_brookworks_k70_whole_each_number_of_figu).prog 67).name = ("law" : PySem.Str) := by kernel_rfl
      rw [← e]
      exact hmg0
    have T := K70.tx_of KX G ex c
    obtain ⟨fd, hb, hF⟩ := K70.facts (P := (PySem.Challenge.rw_brookworks_k70_whole_each_number_of_figu).prog) (w := w) KX T hmg
    exact ⟨K, fd, K70.sp_law K, KX, hb, fun H a ns hl _ hS => ⟨a, ns, rfl, hS, fun _ => rfl⟩, hF⟩
