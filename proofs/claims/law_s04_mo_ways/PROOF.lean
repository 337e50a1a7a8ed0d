import PyProof.Rows.All
import Wide.All
import OpenK.AllK
import Wide.FinOn
import PyProof.EqAt
import PyProof.EqKinds
import PyProof.TupleCall
import Open.SpecLaws
import KE.OsGo
import HandS.ForSpec
import HandS.Comp
import HandS.Iter
import HandS.Walk
import HandS.Wide
import HandS.ExcInit
import HandS.ExcField
import HandS.Evl
import PySem.Challenge.RW_newandmoving_s04_mo_ways
set_option Elab.async false
set_option linter.all false
set_option maxRecDepth 100000
set_option maxHeartbeats 4000000
namespace NM
open Sh72
/-! ### words, points -/
abbrev intsN (l : List Nat) : List Int := Sh72Neutral.ints l
theorem nats_ints (l : List Nat) : Sh72Neutral.nats (intsN l) = l := by
  unfold intsN Sh72Neutral.ints Sh72Neutral.nats
  rw [List.map_map]
  conv => rhs; rw [← List.map_id l]
  apply List.map_congr_left
  intro a _
  simp
theorem ints_nats {l : List Int} (h : ∀ x ∈ l, 0 ≤ x) : intsN (Sh72Neutral.nats l) = l := by
  unfold intsN Sh72Neutral.ints Sh72Neutral.nats
  rw [List.map_map]
  conv => rhs; rw [← List.map_id l]
  apply List.map_congr_left
  intro a ha
  have := h a ha
  simp only [Function.comp, id]
  omega
theorem sq_cast (z : Int) : ((square z : Nat) : Int) = z * z := by
  unfold square
  have : 0 ≤ z * z := by
    rcases Int.le_total 0 z with h | h
    · exact Int.mul_nonneg h h
    · exact Int.mul_nonneg_of_nonpos_of_nonpos h h
  omega
theorem dist2_cast (a b : Point) : ((dist2 a b : Nat) : Int) = (a.x - b.x) * (a.x - b.x) + (a.y - b.y) * (a.y - b.y) := by
  unfold dist2
  rw [Int.natCast_add, sq_cast, sq_cast]
theorem miss2_cast (p : Int × Int) (c : Point) : ((miss2 p c : Nat) : Int) = (p.1 - 256 * c.x) * (p.1 - 256 * c.x) + (p.2 - 256 * c.y) * (p.2 - 256 * c.y) := by
  unfold miss2
  rw [Int.natCast_add, sq_cast, sq_cast]
theorem square_neg (z : Int) : square (-z) = square z := by
  unfold square
  rw [Int.neg_mul_neg]
theorem dist2_comm (a b : Point) : dist2 a b = dist2 b a := by
  unfold dist2
  rw [show a.x - b.x = -(b.x - a.x) by omega, show a.y - b.y = -(b.y - a.y) by omega, square_neg, square_neg]
theorem points_length (l : List Nat) : (points l).length = l.length / 4 := by
  unfold points
  rw [List.length_map, List.length_range]
theorem at_points {l : List Nat} {i : Nat} (h : i < l.length / 4) : at_ (points l) i = ⟨signed32 (num l (4 * i)), signed32 (num l (4 * i + 1)), signed32 (num l (4 * i + 2)), signed32 (num l (4 * i + 3))⟩ := by
  unfold at_ points
  rw [List.getD_eq_getElem?_getD, List.getElem?_map, List.getElem?_range h]
  rfl
theorem num_at {l : List Nat} {i : Nat} (h : i < l.length) : l[i]? = some (num l i) := by
  unfold num
  rw [List.getD_eq_getElem?_getD, List.getElem?_eq_getElem h]
  rfl
theorem at_get {l : List Point} {i : Nat} (h : i < l.length) : l[i]? = some (at_ l i) := by
  unfold at_
  rw [List.getD_eq_getElem?_getD, List.getElem?_eq_getElem h]
  rfl
/-- as it's told that points are -/
structure Bd (p : Point) : Prop where
  t0 : 0 ≤ p.t
  t1 : p.t ≤ 65535
  x0 : -32768 ≤ p.x
  x1 : p.x ≤ 32768
  y0 : -32768 ≤ p.y
  y1 : p.y ≤ 32768
  m0 : -65536 ≤ p.mag
  m1 : p.mag ≤ 65536
theorem fine_iff (p : Point) : fine p = true ↔ Bd p := by
  unfold fine
  simp only [Bool.and_eq_true, decide_eq_true_eq]
  constructor
  · rintro ⟨h1, h2, h3, h4, h5⟩
    exact ⟨by omega, by omega, by omega, by omega, by omega, by omega, by omega, by omega⟩
  · rintro ⟨h1, h2, h3, h4, h5, h6, h7, h8⟩
    exact ⟨by omega, by omega, by omega, by omega, by omega⟩
def AllBd (l : List Point) : Prop := ∀ i, i < l.length → Bd (at_ l i)
theorem fines_bd {l : List Point} (h : fines l = true) : AllBd l := fun i hi => by
  have e := at_get hi
  exact (fine_iff _).mp (List.all_eq_true.mp h _ (List.mem_of_getElem? e))
theorem range_at (l : List Point) : (List.range l.length).map (fun j => at_ l j) = l := by
  apply List.ext_getElem?
  intro i
  rw [List.getElem?_map]
  by_cases h : i < l.length
  · rw [List.getElem?_range h, at_get h]
    rfl
  · rw [List.getElem?_eq_none (by rw [List.length_range]; omega), List.getElem?_eq_none (by omega)]
    rfl
theorem range_map_at {α : Type} (g : Point → α) (l : List Point) : (List.range l.length).map (fun j => g (at_ l j)) = l.map g := by
  conv => rhs; rw [← range_at l]
  rw [List.map_map]
  rfl
theorem all_range (g : Point → Bool) (l : List Point) : ((List.range l.length).map (fun j => g (at_ l j))).all id = l.all g := by
  rw [range_map_at, List.all_map]
  rfl
theorem at_append_left {a b : List Point} {i : Nat} (h : i < a.length) : at_ (a ++ b) i = at_ a i := by
  unfold at_
  rw [List.getD_eq_getElem?_getD, List.getD_eq_getElem?_getD, List.getElem?_append_left h]
theorem at_append_right {a b : List Point} {i : Nat} (h : a.length ≤ i) : at_ (a ++ b) i = at_ b (i - a.length) := by
  unfold at_
  rw [List.getD_eq_getElem?_getD, List.getD_eq_getElem?_getD, List.getElem?_append_right h]
/-! ### sizes -/
theorem bd_up {a : Int} {i j : Nat} (h : a.natAbs < 2 ^ i) (hij : i ≤ j) : a.natAbs < 2 ^ j := Nat.lt_of_lt_of_le h (Nat.pow_le_pow_right (by decide) hij)
theorem bd_add {a b : Int} {i : Nat} (ha : a.natAbs < 2 ^ i) (hb : b.natAbs < 2 ^ i) : (a + b).natAbs < 2 ^ (i + 1) := by
  rw [Nat.pow_succ]
  omega
theorem bd_sub {a b : Int} {i : Nat} (ha : a.natAbs < 2 ^ i) (hb : b.natAbs < 2 ^ i) : (a - b).natAbs < 2 ^ (i + 1) := by
  rw [Nat.pow_succ]
  omega
theorem bd_mul {a b : Int} {i j : Nat} (ha : a.natAbs < 2 ^ i) (hb : b.natAbs < 2 ^ j) : (a * b).natAbs < 2 ^ (i + j) := by
  rw [Int.natAbs_mul, Nat.pow_add]
  exact Nat.mul_lt_mul'' ha hb
theorem near_bd {a b : Int} {i : Nat} (hb : 0 < b) (ha : a.natAbs < 2 ^ i) : (near a b).natAbs < 2 ^ (i + 1) := by
  unfold near
  have p : 0 < 2 ^ i := Nat.two_pow_pos i
  have e : (2 : Nat) ^ (i + 1) = 2 * 2 ^ i := by rw [Nat.pow_succ]; omega
  rw [e]
  generalize (2 : Nat) ^ i = m at ha p
  have h2 : (0 : Int) < 2 * b := by omega
  have up : (2 * a + b) / (2 * b) < (m : Int) + 1 := by
    apply Int.ediv_lt_of_lt_mul h2
    have h3 : (m : Int) * b ≥ m := by
      have := Int.mul_le_mul_of_nonneg_left (show (1 : Int) ≤ b by omega) (show (0 : Int) ≤ m by omega)
      omega
    have e3 : ((m : Int) + 1) * (2 * b) = 2 * (m * b) + 2 * b := by grind
    rw [e3]
    omega
  have lo : -((m : Int)) ≤ (2 * a + b) / (2 * b) := by
    apply Int.le_ediv_of_mul_le h2
    have h3 : (m : Int) * b ≥ m := by
      have := Int.mul_le_mul_of_nonneg_left (show (1 : Int) ≤ b by omega) (show (0 : Int) ≤ m by omega)
      omega
    have e3 : -(m : Int) * (2 * b) = -(2 * (m * b)) := by grind
    rw [e3]
    omega
  omega
end NM

namespace NM
open Sh72
/-! ### what is answered, law by law -/
abbrev small (l : List Nat) (m : Nat) : Prop := l.length / 4 ≤ m
theorem new_bad {r : Nat} {kn ln : List Nat} (h : ¬ (r ≤ 65535 ∧ kn.length / 4 ≤ 256 ∧ ln.length / 4 ≤ 256)) : PySh72.mo_new r (intsN kn) (intsN ln) = [-2] := by
  unfold PySh72.mo_new Sh72Neutral.f
  simp only [Sh72Neutral.callOf, nats_ints, Int.toNat_natCast, few]
  rw [if_neg (by simp only [Bool.and_eq_true, decide_eq_true_eq]; omega)]
  rfl
theorem new_not {r : Nat} {kn ln : List Nat} (h : r ≤ 65535 ∧ kn.length / 4 ≤ 256 ∧ ln.length / 4 ≤ 256) (hf : fines (points kn) = false ∨ fines (points ln) = false) : PySh72.mo_new r (intsN kn) (intsN ln) = [-3] := by
  unfold PySh72.mo_new Sh72Neutral.f
  simp only [Sh72Neutral.callOf, nats_ints, Int.toNat_natCast, few]
  rw [if_pos (by simp only [Bool.and_eq_true, decide_eq_true_eq]; omega)]
  simp only [answer]
  rw [if_pos hf]
  rfl
theorem new_ok {r : Nat} {kn ln : List Nat} (h : r ≤ 65535 ∧ kn.length / 4 ≤ 256 ∧ ln.length / 4 ≤ 256) (h1 : fines (points kn) = true) (h2 : fines (points ln) = true) :
    PySh72.mo_new r (intsN kn) (intsN ln) = (((Sh72.new r (points kn) (points ln)).length : Nat) : Int) :: intsN (Sh72.new r (points kn) (points ln)) := by
  unfold PySh72.mo_new Sh72Neutral.f
  simp only [Sh72Neutral.callOf, nats_ints, Int.toNat_natCast, few]
  rw [if_pos (by simp only [Bool.and_eq_true, decide_eq_true_eq]; omega)]
  simp only [answer]
  rw [if_neg (by rw [h1, h2]; decide)]
  rfl
theorem states_bad {r d : Nat} {kn ln : List Nat} (h : ¬ ((r ≤ 65535 ∧ d ≤ 131072) ∧ kn.length / 4 ≤ 256 ∧ ln.length / 4 ≤ 256)) : PySh72.mo_states r d (intsN kn) (intsN ln) = [-2] := by
  unfold PySh72.mo_states Sh72Neutral.f
  simp only [Sh72Neutral.callOf, nats_ints, Int.toNat_natCast, few]
  rw [if_neg (by simp only [Bool.and_eq_true, decide_eq_true_eq]; omega)]
  rfl
theorem states_not {r d : Nat} {kn ln : List Nat} (h : (r ≤ 65535 ∧ d ≤ 131072) ∧ kn.length / 4 ≤ 256 ∧ ln.length / 4 ≤ 256) (hf : fines (points kn) = false ∨ fines (points ln) = false) : PySh72.mo_states r d (intsN kn) (intsN ln) = [-3] := by
  unfold PySh72.mo_states Sh72Neutral.f
  simp only [Sh72Neutral.callOf, nats_ints, Int.toNat_natCast, few]
  rw [if_pos (by simp only [Bool.and_eq_true, decide_eq_true_eq]; omega)]
  simp only [answer]
  rw [if_pos hf]
  rfl
theorem states_ok {r d : Nat} {kn ln : List Nat} (h : (r ≤ 65535 ∧ d ≤ 131072) ∧ kn.length / 4 ≤ 256 ∧ ln.length / 4 ≤ 256) (h1 : fines (points kn) = true) (h2 : fines (points ln) = true) :
    PySh72.mo_states r d (intsN kn) (intsN ln) = 0 :: intsN ((points kn).map fun k => state r d k (points ln)) := by
  unfold PySh72.mo_states Sh72Neutral.f
  simp only [Sh72Neutral.callOf, nats_ints, Int.toNat_natCast, few]
  rw [if_pos (by simp only [Bool.and_eq_true, decide_eq_true_eq]; omega)]
  simp only [answer]
  rw [if_neg (by rw [h1, h2]; decide)]
  rfl
theorem pairs_bad {q : Nat} {ln : List Nat} (h : ¬ (q ≤ 65535 ∧ ln.length / 4 ≤ 48)) : PySh72.mo_pairs q (intsN ln) = [-2] := by
  unfold PySh72.mo_pairs Sh72Neutral.f
  simp only [Sh72Neutral.callOf, nats_ints, Int.toNat_natCast, some_]
  rw [if_neg (by simp only [Bool.and_eq_true, decide_eq_true_eq]; omega)]
  rfl
theorem pairs_not {q : Nat} {ln : List Nat} (h : q ≤ 65535 ∧ ln.length / 4 ≤ 48) (hf : fines (points ln) = false) : PySh72.mo_pairs q (intsN ln) = [-3] := by
  unfold PySh72.mo_pairs Sh72Neutral.f
  simp only [Sh72Neutral.callOf, nats_ints, Int.toNat_natCast, some_]
  rw [if_pos (by simp only [Bool.and_eq_true, decide_eq_true_eq]; omega)]
  simp only [answer]
  rw [if_pos hf]
  rfl
theorem pairs_ok {q : Nat} {ln : List Nat} (h : q ≤ 65535 ∧ ln.length / 4 ≤ 48) (h1 : fines (points ln) = true) :
    PySh72.mo_pairs q (intsN ln) = (((pairs q (points ln)).length : Nat) : Int) :: intsN ((pairs q (points ln)).flatMap fun p => [p.1, p.2]) := by
  unfold PySh72.mo_pairs Sh72Neutral.f
  simp only [Sh72Neutral.callOf, nats_ints, Int.toNat_natCast, some_]
  rw [if_pos (by simp only [Bool.and_eq_true, decide_eq_true_eq]; omega)]
  simp only [answer]
  rw [if_neg (by rw [h1]; decide)]
  rfl
theorem ways_bad {q e m : Nat} {ln : List Nat} (h : ¬ ((q ≤ 65535 ∧ e ≤ 16777216 ∧ m ≤ 255) ∧ ln.length / 4 ≤ 48)) : PySh72.mo_ways q e m (intsN ln) = [-2] := by
  unfold PySh72.mo_ways Sh72Neutral.f
  simp only [Sh72Neutral.callOf, nats_ints, Int.toNat_natCast, some_]
  rw [if_neg (by simp only [Bool.and_eq_true, decide_eq_true_eq]; omega)]
  rfl
theorem ways_not {q e m : Nat} {ln : List Nat} (h : (q ≤ 65535 ∧ e ≤ 16777216 ∧ m ≤ 255) ∧ ln.length / 4 ≤ 48) (hf : fines (points ln) = false) : PySh72.mo_ways q e m (intsN ln) = [-3] := by
  unfold PySh72.mo_ways Sh72Neutral.f
  simp only [Sh72Neutral.callOf, nats_ints, Int.toNat_natCast, some_]
  rw [if_pos (by simp only [Bool.and_eq_true, decide_eq_true_eq]; omega)]
  simp only [answer]
  rw [if_pos hf]
  rfl
theorem ways_ok {q e m : Nat} {ln : List Nat} (h : (q ≤ 65535 ∧ e ≤ 16777216 ∧ m ≤ 255) ∧ ln.length / 4 ≤ 48) (h1 : fines (points ln) = true) :
    PySh72.mo_ways q e m (intsN ln) = (((Sh72.ways q e m (points ln)).length : Nat) : Int) :: intsN (Sh72.told (points ln).length (Sh72.ways q e m (points ln))) := by
  unfold PySh72.mo_ways Sh72Neutral.f
  simp only [Sh72Neutral.callOf, nats_ints, Int.toNat_natCast, some_]
  rw [if_pos (by simp only [Bool.and_eq_true, decide_eq_true_eq]; omega)]
  simp only [answer]
  rw [if_neg (by rw [h1]; decide)]
  rfl
theorem int32_is (x : Nat) : Sh72Neutral.int32 x = signed32 x := by
  unfold Sh72Neutral.int32 signed32
  rfl
theorem ahead_not {t : Nat} {ln : List Nat} (hf : fines (points ln) = false) : PySh72.mo_ahead t (intsN ln) = [-3] := by
  unfold PySh72.mo_ahead Sh72Neutral.f
  simp only [Sh72Neutral.callOf, nats_ints, Int.toNat_natCast, answer]
  rw [if_pos hf]
  rfl
theorem ahead_ok {t : Nat} {ln : List Nat} (h1 : fines (points ln) = true) :
    PySh72.mo_ahead t (intsN ln) = [0, ((longOf (ahead (at_ (points ln) 0) (at_ (points ln) 1) (signed32 t)).1 : Nat) : Int), ((longOf (ahead (at_ (points ln) 0) (at_ (points ln) 1) (signed32 t)).2 : Nat) : Int)] := by
  unfold PySh72.mo_ahead Sh72Neutral.f
  simp only [Sh72Neutral.callOf, nats_ints, Int.toNat_natCast, answer, int32_is]
  rw [if_neg (by rw [h1]; decide)]
  rfl
theorem fit_bad {ln : List Nat} (h : ¬ (ln.length / 4 ≤ 48)) : PySh72.mo_fit (intsN ln) = [-2] := by
  unfold PySh72.mo_fit Sh72Neutral.f
  simp only [Sh72Neutral.callOf, nats_ints, Int.toNat_natCast, some_]
  rw [if_neg (by simp only [decide_eq_true_eq]; omega)]
  rfl
theorem fit_not {ln : List Nat} (h : ln.length / 4 ≤ 48) (hf : fines (points ln) = false) : PySh72.mo_fit (intsN ln) = [-3] := by
  unfold PySh72.mo_fit Sh72Neutral.f
  simp only [Sh72Neutral.callOf, nats_ints, Int.toNat_natCast, some_]
  rw [if_pos (by simp only [decide_eq_true_eq]; omega)]
  simp only [answer]
  rw [if_pos hf]
  rfl
theorem fit_none {ln : List Nat} (h : ln.length / 4 ≤ 48) (h1 : fines (points ln) = true) (hn : Sh72.fit (points ln) = none) : PySh72.mo_fit (intsN ln) = [-4] := by
  unfold PySh72.mo_fit Sh72Neutral.f
  simp only [Sh72Neutral.callOf, nats_ints, Int.toNat_natCast, some_]
  rw [if_pos (by simp only [decide_eq_true_eq]; omega)]
  simp only [answer]
  rw [if_neg (by rw [h1]; decide), hn]
  rfl
theorem fit_ok {ln : List Nat} {f : Fit} (h : ln.length / 4 ≤ 48) (h1 : fines (points ln) = true) (hn : Sh72.fit (points ln) = some f) :
    PySh72.mo_fit (intsN ln) = [0, 5, ((longOf f.x0 : Nat) : Int), ((longOf f.vx : Nat) : Int), ((longOf f.y0 : Nat) : Int), ((longOf f.vy : Nat) : Int), ((longOf f.over : Nat) : Int), 1, ((f.worst (points ln) % 18446744073709551616 : Nat) : Int)] := by
  unfold PySh72.mo_fit Sh72Neutral.f
  simp only [Sh72Neutral.callOf, nats_ints, Int.toNat_natCast, some_]
  rw [if_pos (by simp only [decide_eq_true_eq]; omega)]
  simp only [answer]
  rw [if_neg (by rw [h1]; decide), hn]
  rfl
theorem place_bad {ln ts : List Nat} (h : ¬ (ln.length / 4 ≤ 48 ∧ ts.length ≤ 256)) : PySh72.mo_place (intsN ln) (intsN ts) = [-2] := by
  unfold PySh72.mo_place Sh72Neutral.f
  simp only [Sh72Neutral.callOf, nats_ints, Int.toNat_natCast, some_, few]
  rw [if_neg (by simp only [Bool.and_eq_true, decide_eq_true_eq]; omega)]
  rfl
theorem place_not {ln ts : List Nat} (h : ln.length / 4 ≤ 48 ∧ ts.length ≤ 256) (hf : fines (points ln) = false ∨ ((times ts).all fun t => decide (t.natAbs ≤ 65536)) = false) : PySh72.mo_place (intsN ln) (intsN ts) = [-3] := by
  unfold PySh72.mo_place Sh72Neutral.f
  simp only [Sh72Neutral.callOf, nats_ints, Int.toNat_natCast, some_, few]
  rw [if_pos (by simp only [Bool.and_eq_true, decide_eq_true_eq]; omega)]
  simp only [answer]
  rw [if_pos hf]
  rfl
theorem place_none {ln ts : List Nat} (h : ln.length / 4 ≤ 48 ∧ ts.length ≤ 256) (h1 : fines (points ln) = true) (h2 : ((times ts).all fun t => decide (t.natAbs ≤ 65536)) = true) (hn : Sh72.fit (points ln) = none) : PySh72.mo_place (intsN ln) (intsN ts) = [-4] := by
  unfold PySh72.mo_place Sh72Neutral.f
  simp only [Sh72Neutral.callOf, nats_ints, Int.toNat_natCast, some_, few]
  rw [if_pos (by simp only [Bool.and_eq_true, decide_eq_true_eq]; omega)]
  simp only [answer]
  rw [if_neg (by rw [h1, h2]; decide), hn]
  rfl
theorem place_ok {ln ts : List Nat} {f : Fit} (h : ln.length / 4 ≤ 48 ∧ ts.length ≤ 256) (h1 : fines (points ln) = true) (h2 : ((times ts).all fun t => decide (t.natAbs ≤ 65536)) = true) (hn : Sh72.fit (points ln) = some f) :
    PySh72.mo_place (intsN ln) (intsN ts) = 0 :: intsN ((times ts).flatMap fun t => [longOf (f.place t).1, longOf (f.place t).2]) := by
  unfold PySh72.mo_place Sh72Neutral.f
  simp only [Sh72Neutral.callOf, nats_ints, Int.toNat_natCast, some_, few]
  rw [if_pos (by simp only [Bool.and_eq_true, decide_eq_true_eq]; omega)]
  simp only [answer]
  rw [if_neg (by rw [h1, h2]; decide), hn]
  rfl
theorem one_bad {e : Nat} {kn ln : List Nat} (h : ¬ (e ≤ 16777216 ∧ kn.length / 4 ≤ 48 ∧ ln.length / 4 ≤ 48)) : PySh72.mo_one e (intsN kn) (intsN ln) = [-2] := by
  unfold PySh72.mo_one Sh72Neutral.f
  simp only [Sh72Neutral.callOf, nats_ints, Int.toNat_natCast, some_]
  rw [if_neg (by simp only [Bool.and_eq_true, decide_eq_true_eq]; omega)]
  rfl
theorem one_not {e : Nat} {kn ln : List Nat} (h : e ≤ 16777216 ∧ kn.length / 4 ≤ 48 ∧ ln.length / 4 ≤ 48) (hf : fines (points kn) = false ∨ fines (points ln) = false) : PySh72.mo_one e (intsN kn) (intsN ln) = [-3] := by
  unfold PySh72.mo_one Sh72Neutral.f
  simp only [Sh72Neutral.callOf, nats_ints, Int.toNat_natCast, some_]
  rw [if_pos (by simp only [Bool.and_eq_true, decide_eq_true_eq]; omega)]
  simp only [answer]
  rw [if_pos hf]
  rfl
theorem one_ok {e : Nat} {kn ln : List Nat} (h : e ≤ 16777216 ∧ kn.length / 4 ≤ 48 ∧ ln.length / 4 ≤ 48) (h1 : fines (points kn) = true) (h2 : fines (points ln) = true) :
    PySh72.mo_one e (intsN kn) (intsN ln) = [if Sh72.one e (points kn) (points ln) = true then 1 else 0] := by
  unfold PySh72.mo_one Sh72Neutral.f
  simp only [Sh72Neutral.callOf, nats_ints, Int.toNat_natCast, some_]
  rw [if_pos (by simp only [Bool.and_eq_true, decide_eq_true_eq]; omega)]
  simp only [answer]
  rw [if_neg (by rw [h1, h2]; decide)]
  by_cases c : Sh72.one e (points kn) (points ln) = true
  · simp only [if_pos c]
    rfl
  · simp only [if_neg c]
    rfl
theorem chance_ok {n r w h : Nat} (hw : w < 65536) (hh : h < 65536) : PySh72.mo_chance1 n r w h = [((min 65536 ((n % 4096) * ((2 * (r % 1024) + 1) * (2 * (r % 1024) + 1)) * 65536 / (max 1 w * max 1 h)) : Nat) : Int)] := by
  unfold PySh72.mo_chance1 Sh72Neutral.f
  simp only [Sh72Neutral.callOf, Int.toNat_natCast, answer]
  rw [Nat.mod_eq_of_lt hw, Nat.mod_eq_of_lt hh]
  unfold chance
  rw [← Nat.mul_assoc (n % 4096)]
  rfl
end NM

namespace NM
open Sh72
/-! ### nearest, state -/
def nst (p : Point) (l : List Point) (b i : Nat) : Nat := if dist2 p (at_ l i) < dist2 p (at_ l b) then i else b
def best (p : Point) (l : List Point) (m : Nat) : Nat := (List.range m).foldl (nst p l) 0
theorem best_succ (p : Point) (l : List Point) (m : Nat) : best p l (m + 1) = nst p l (best p l m) m := by
  unfold best
  rw [List.range_succ, List.foldl_append]
  rfl
theorem best_one (p : Point) (l : List Point) : best p l 1 = 0 := by
  rw [best_succ]
  show nst p l 0 0 = 0
  unfold nst
  rw [if_neg (Nat.lt_irrefl _)]
theorem best_lt (p : Point) (l : List Point) : ∀ m, best p l (m + 1) < m + 1
  | 0 => by rw [best_one]; omega
  | m + 1 => by
    have ih := best_lt p l m
    rw [best_succ]
    unfold nst
    split <;> omega
theorem nearest_is {p : Point} {l : List Point} (h : 0 < l.length) : nearest p l = some (best p l l.length) := by
  unfold nearest
  cases l with
  | nil => simp at h
  | cons a r => rfl
theorem nearest_nil (p : Point) : nearest p [] = none := rfl
theorem state_nil (r d : Nat) (k : Point) : state r d k [] = 3 := rfl
theorem state_is {r d : Nat} {k : Point} {l : List Point} (h : 0 < l.length) : state r d k l =
    if r * r < dist2 k (at_ l (best k l l.length)) then 3 else if (at_ l (best k l l.length)).mag < k.mag - d then 1 else if k.mag + d < (at_ l (best k l l.length)).mag then 2 else 0 := by
  unfold state
  rw [nearest_is h]
  simp only
  by_cases c : r * r < dist2 k (at_ l (best k l l.length))
  · rw [if_pos c, if_pos c]
  · rw [if_neg c, if_neg c]
    generalize (at_ l (best k l l.length)).mag = a
    generalize k.mag = b
    by_cases c1 : a < b - d
    · rw [if_pos c1, if_pos (show d < (a - b).natAbs by omega), if_pos (show a < b by omega)]
    · rw [if_neg c1]
      by_cases c2 : b + d < a
      · rw [if_pos c2, if_pos (show d < (a - b).natAbs by omega), if_neg (show ¬ a < b by omega)]
      · rw [if_neg c2, if_neg (show ¬ d < (a - b).natAbs by omega)]
/-! ### pairs -/
def pairsIn (v : Nat) (l : List Point) (i m : Nat) : List (Nat × Nat) := (List.range m).filterMap fun j => if may v (at_ l i) (at_ l j) = true then some (i, j) else none
def pairsTo (v : Nat) (l : List Point) (m : Nat) : List (Nat × Nat) := (List.range m).flatMap fun i => pairsIn v l i l.length
theorem pairsIn_yes {v : Nat} {l : List Point} {i m : Nat} (h : may v (at_ l i) (at_ l m) = true) : pairsIn v l i (m + 1) = pairsIn v l i m ++ [(i, m)] := by
  unfold pairsIn
  rw [List.range_succ, List.filterMap_append]
  simp [h]
theorem pairsIn_no {v : Nat} {l : List Point} {i m : Nat} (h : may v (at_ l i) (at_ l m) = false) : pairsIn v l i (m + 1) = pairsIn v l i m := by
  unfold pairsIn
  rw [List.range_succ, List.filterMap_append]
  simp [h]
theorem pairsIn_zero (v : Nat) (l : List Point) (i : Nat) : pairsIn v l i 0 = [] := rfl
theorem pairsTo_succ (v : Nat) (l : List Point) (m : Nat) : pairsTo v l (m + 1) = pairsTo v l m ++ pairsIn v l m l.length := by
  unfold pairsTo
  rw [List.range_succ, List.flatMap_append]
  simp
theorem pairs_is (v : Nat) (l : List Point) : pairs v l = pairsTo v l l.length := rfl
theorem pairsIn_len (v : Nat) (l : List Point) (i m : Nat) : (pairsIn v l i m).length ≤ m := by
  unfold pairsIn
  have h := List.length_filterMap_le (fun j => if may v (at_ l i) (at_ l j) = true then some (i, j) else none) (List.range m)
  rw [List.length_range] at h
  exact h
theorem pairsTo_len (v : Nat) (l : List Point) : ∀ m, (pairsTo v l m).length ≤ m * l.length
  | 0 => by simp [pairsTo]
  | m + 1 => by
    rw [pairsTo_succ, List.length_append, Nat.succ_mul]
    have h1 := pairsTo_len v l m
    have h2 := pairsIn_len v l m l.length
    omega
theorem pairsIn_mem {v : Nat} {l : List Point} {i m : Nat} {p : Nat × Nat} (h : p ∈ pairsIn v l i m) : p.1 = i ∧ p.2 < m ∧ may v (at_ l p.1) (at_ l p.2) = true := by
  unfold pairsIn at h
  obtain ⟨j, hj, e⟩ := List.mem_filterMap.mp h
  by_cases c : may v (at_ l i) (at_ l j) = true
  · rw [if_pos c] at e
    have e2 := Option.some.inj e
    subst e2
    exact ⟨rfl, List.mem_range.mp hj, c⟩
  · rw [if_neg c] at e
    cases e
theorem pairs_mem {v : Nat} {l : List Point} {p : Nat × Nat} (h : p ∈ pairs v l) : p.1 < l.length ∧ p.2 < l.length := by
  rw [pairs_is] at h
  unfold pairsTo at h
  obtain ⟨i, hi, e⟩ := List.mem_flatMap.mp h
  obtain ⟨e1, e2, _⟩ := pairsIn_mem e
  exact ⟨by rw [e1]; exact List.mem_range.mp hi, e2⟩
theorem may_iff (v : Nat) (a b : Point) : may v a b = (decide (a.t < b.t) && decide (((dist2 a b : Nat) : Int) ≤ (v * (b.t - a.t)) * (v * (b.t - a.t)))) := by
  unfold may
  congr 1
  apply decide_eq_decide.mpr
  rw [← sq_cast]
  omega
/-! ### ways -/
def missAt (l : List Point) (a b k : Nat) : Nat := miss2 (ahead (at_ l a) (at_ l b) (at_ l k).t) (at_ l k)
def onGo (e : Nat) (l : List Point) (a b k : Nat) : Bool := goesOn e (at_ l a) (at_ l b) (at_ l k)
def isAhead (l : List Point) (a b k m : Nat) : Bool := if (at_ l k).t = (at_ l m).t then decide (missAt l a b k < missAt l a b m) else decide ((at_ l k).t < (at_ l m).t)
def onStep (e : Nat) (l : List Point) (a b : Nat) (o : Option Nat) (k : Nat) : Option Nat := if onGo e l a b k = true then (match o with
  | none => some k
  | some m => if isAhead l a b k m = true then some k else o) else o
def onTo (e : Nat) (l : List Point) (a b m : Nat) : Option Nat := (List.range m).foldl (onStep e l a b) none
theorem next_is (e : Nat) (l : List Point) (a b : Nat) : next e l a b = onTo e l a b l.length := by
  unfold next onTo
  rw [List.foldl_filter]
  apply congrFun
  apply congrFun
  apply congrArg
  funext o k
  unfold onStep onGo
  by_cases c : goesOn e (at_ l a) (at_ l b) (at_ l k) = true
  · rw [if_pos c, if_pos c]
    cases o with
    | none => rfl
    | some m =>
      simp only
      unfold isAhead missAt
      by_cases d : (at_ l k).t = (at_ l m).t
      · simp [d]
      · simp [d]
  · rw [if_neg c, if_neg c]
theorem onTo_succ (e : Nat) (l : List Point) (a b m : Nat) : onTo e l a b (m + 1) = onStep e l a b (onTo e l a b m) m := by
  unfold onTo
  rw [List.range_succ, List.foldl_append]
  rfl
theorem onTo_lt (e : Nat) (l : List Point) (a b : Nat) : ∀ m k, onTo e l a b m = some k → k < m
  | 0, k, h => by cases h
  | m + 1, k, h => by
    rw [onTo_succ] at h
    unfold onStep at h
    have ih := onTo_lt e l a b m
    split at h
    · split at h
      · rename_i e0
        have := Option.some.inj h
        omega
      · rename_i q e0
        split at h
        · have := Option.some.inj h
          omega
        · have := ih k (by rw [← h, e0])
          omega
    · have := ih k h
      omega
theorem next_lt {e : Nat} {l : List Point} {a b k : Nat} (h : next e l a b = some k) : k < l.length := by
  rw [next_is] at h
  exact onTo_lt _ _ _ _ _ _ h
theorem longer_len (e : Nat) (l : List Point) : ∀ f a b, (longer e l f a b).length ≤ f
  | 0, _, _ => Nat.le_refl 0
  | f + 1, a, b => by
    unfold longer
    split
    · exact Nat.zero_le _
    · rename_i c _
      have := longer_len e l f b c
      simp only [List.length_cons]
      omega
theorem longer_lt (e : Nat) (l : List Point) : ∀ f a b k, k ∈ longer e l f a b → k < l.length
  | 0, _, _, _, h => by cases h
  | f + 1, a, b, k, h => by
    unfold longer at h
    split at h
    · cases h
    · rename_i c hc
      rcases List.mem_cons.mp h with q | q
      · rw [q]
        exact next_lt hc
      · exact longer_lt e l f b c k q
theorem way_lt {e : Nat} {l : List Point} {p : Nat × Nat} (h : p.1 < l.length ∧ p.2 < l.length) {k : Nat} (hk : k ∈ way e l p) : k < l.length := by
  unfold way at hk
  rcases List.mem_cons.mp hk with q | hk
  · rw [q]; exact h.1
  · rcases List.mem_cons.mp hk with q | hk
    · rw [q]; exact h.2
    · exact longer_lt e l _ _ _ k hk
theorem way_len (e : Nat) (l : List Point) (p : Nat × Nat) : 2 ≤ (way e l p).length ∧ (way e l p).length ≤ l.length + 2 := by
  unfold way
  have := longer_len e l l.length p.1 p.2
  simp only [List.length_cons]
  omega
/-- the numbers of the points, r the ways told -/
def numOf (r : List (List Nat)) (i : Nat) : Nat := match r.findIdx? fun w => w.contains i with
  | none => 0
  | some k => k + 1
theorem told_is (n : Nat) (r : List (List Nat)) : told n r = (List.range n).map (numOf r) := rfl
theorem told_len (n : Nat) (r : List (List Nat)) : (told n r).length = n := by
  rw [told_is, List.length_map, List.length_range]
theorem told_get {n : Nat} {r : List (List Nat)} {i : Nat} (h : i < n) : (told n r)[i]? = some (numOf r i) := by
  rw [told_is, List.getElem?_map, List.getElem?_range h]
  rfl
theorem numOf_zero {r : List (List Nat)} {i : Nat} : numOf r i = 0 ↔ (r.any fun x => x.contains i) = false := by
  unfold numOf
  cases h : r.findIdx? fun w => w.contains i with
  | none =>
    rw [List.findIdx?_eq_none_iff] at h
    simp only [true_iff]
    rw [List.any_eq_false]
    intro x hx
    rw [h x hx]
    decide
  | some k =>
    simp only
    constructor
    · intro q
      omega
    · intro q
      rw [List.any_eq_false] at q
      have z := List.findIdx?_eq_some_iff_getElem.mp h
      obtain ⟨h1, h2, _⟩ := z
      exact absurd h2 (q _ (List.getElem_mem h1))
theorem told_nil (n : Nat) : told n [] = List.replicate n 0 := by
  rw [told_is]
  apply List.ext_getElem?
  intro i
  rw [List.getElem?_map, List.getElem?_replicate]
  by_cases h : i < n
  · rw [List.getElem?_range h, if_pos h]
    rfl
  · rw [List.getElem?_eq_none (by rw [List.length_range]; omega), if_neg h]
    rfl
theorem numOf_append {r : List (List Nat)} {w : List Nat} {i : Nat} : numOf (r ++ [w]) i = if numOf r i = 0 then (if w.contains i = true then r.length + 1 else 0) else numOf r i := by
  unfold numOf
  rw [List.findIdx?_append]
  cases h : r.findIdx? fun w => w.contains i with
  | none =>
    simp only [Option.none_or, if_pos]
    by_cases c : i ∈ w
    · simp [List.findIdx?_cons, c]
    · simp [List.findIdx?_cons, c]
  | some k =>
    simp
/-- the way's points get the number many -/
def mark (m : Nat) (ns : List Nat) (w : List Nat) : List Nat := w.foldl (fun a k => a.set k m) ns
theorem mark_len (m : Nat) : ∀ (w ns : List Nat), (mark m ns w).length = ns.length
  | [], ns => rfl
  | k :: w, ns => by
    show (mark m (ns.set k m) w).length = _
    rw [mark_len m w, List.length_set]
theorem mark_get (m : Nat) : ∀ (w ns : List Nat) (i : Nat), (mark m ns w)[i]? = if w.contains i = true ∧ i < ns.length then some m else ns[i]?
  | [], ns, i => by simp [mark]
  | k :: w, ns, i => by
    show (mark m (ns.set k m) w)[i]? = _
    rw [mark_get m w, List.length_set]
    by_cases c : w.contains i = true ∧ i < ns.length
    · rw [if_pos c, if_pos ⟨by simp at c ⊢; exact .inr c.1, c.2⟩]
    · rw [if_neg c]
      by_cases d : k = i
      · subst d
        by_cases hk : k < ns.length
        · rw [List.getElem?_set_self hk, if_pos ⟨by simp, hk⟩]
        · rw [if_neg (fun z => hk z.2), List.getElem?_eq_none (by rw [List.length_set]; omega), List.getElem?_eq_none (by omega)]
      · rw [List.getElem?_set_ne d]
        rw [if_neg (fun z => c ⟨by
          have z1 := z.1
          simp at z1 ⊢
          rcases z1 with z1 | z1
          · exact absurd z1.symm d
          · exact z1, z.2⟩)]
theorem mark_take {m : Nat} {ns w : List Nat} {i k : Nat} (h : w[i]? = some k) : mark m ns (w.take (i + 1)) = (mark m ns (w.take i)).set k m := by
  have e : w.take (i + 1) = w.take i ++ [k] := by
    rw [List.take_add_one, h]
    rfl
  rw [e]
  unfold mark
  rw [List.foldl_append]
  rfl
theorem told_mark {n : Nat} {r : List (List Nat)} {w : List Nat} (hw : ∀ k ∈ w, k < n) (hd : ∀ k ∈ w, numOf r k = 0) : told n (r ++ [w]) = mark (r.length + 1) (told n r) w := by
  apply List.ext_getElem?
  intro i
  rw [mark_get, told_len]
  by_cases hi : i < n
  · rw [told_get hi, told_get hi, numOf_append]
    by_cases c : w.contains i = true
    · rw [if_pos (hd i (by simpa using c)), if_pos c, if_pos ⟨c, hi⟩]
    · rw [if_neg c, if_neg (fun (z : w.contains i = true ∧ i < n) => c z.1)]
      split
      · rename_i z
        rw [z]
      · rfl
  · rw [List.getElem?_eq_none (by rw [told_len]; omega), if_neg (fun z => hi z.2), List.getElem?_eq_none (by rw [told_len]; omega)]
def wayStep (e least : Nat) (l : List Point) (r : List (List Nat)) (p : Nat × Nat) : List (List Nat) := if (way e l p).length < max 2 least ∨ (way e l p).any (fun i => r.any fun x => x.contains i) = true then r else r ++ [way e l p]
def waysTo (v e least : Nat) (l : List Point) (m : Nat) : List (List Nat) := ((pairs v l).take m).foldl (wayStep e least l) []
theorem ways_is (v e least : Nat) (l : List Point) : ways v e least l = waysTo v e least l (pairs v l).length := by
  unfold waysTo
  rw [List.take_length]
  rfl
theorem waysTo_succ {v e least : Nat} {l : List Point} {m : Nat} {p : Nat × Nat} (h : (pairs v l)[m]? = some p) : waysTo v e least l (m + 1) = wayStep e least l (waysTo v e least l m) p := by
  have e2 : (pairs v l).take (m + 1) = (pairs v l).take m ++ [p] := by
    rw [List.take_add_one, h]
    rfl
  unfold waysTo
  rw [e2, List.foldl_append]
  rfl
theorem free_iff {r : List (List Nat)} {w : List Nat} : (w.any (fun i => r.any fun x => x.contains i)) = false ↔ ∀ k ∈ w, numOf r k = 0 := by
  rw [List.any_eq_false]
  constructor
  · intro h k hk
    have := h k hk
    exact numOf_zero.mpr (by simpa using this)
  · intro h k hk
    have := numOf_zero.mp (h k hk)
    rw [this]
    decide
theorem step_told {e least : Nat} {l : List Point} {r : List (List Nat)} {p : Nat × Nat} (h1 : least ≤ (way e l p).length) (h2 : ∀ k ∈ way e l p, numOf r k = 0) : wayStep e least l r p = r ++ [way e l p] := by
  unfold wayStep
  rw [if_neg]
  rintro (h | h)
  · have := (way_len e l p).1
    omega
  · rw [free_iff.mpr h2] at h
    cases h
theorem step_not {e least : Nat} {l : List Point} {r : List (List Nat)} {p : Nat × Nat} (h : ¬ (least ≤ (way e l p).length ∧ ∀ k ∈ way e l p, numOf r k = 0)) : wayStep e least l r p = r := by
  unfold wayStep
  rw [if_pos]
  by_cases c : least ≤ (way e l p).length
  · right
    cases q : (way e l p).any (fun i => r.any fun x => x.contains i) with
    | true => rfl
    | false => exact absurd ⟨c, free_iff.mp q⟩ h
  · left
    omega
theorem waysTo_len (v e least : Nat) (l : List Point) : ∀ m, m ≤ (pairs v l).length → (waysTo v e least l m).length ≤ m
  | 0, _ => by simp [waysTo]
  | m + 1, h => by
    have ih := waysTo_len v e least l m (by omega)
    rw [waysTo_succ (List.getElem?_eq_getElem (by omega))]
    unfold wayStep
    split
    · omega
    · rw [List.length_append]
      simp only [List.length_cons, List.length_nil]
      omega
end NM

namespace NM
open Sh72
/-! ### sums -/
theorem sum_is (l : List Int) : l.sum = Sh72.sum l := rfl
theorem sum_cons (a : Int) (l : List Int) : Sh72.sum (a :: l) = a + Sh72.sum l := rfl
theorem sum_bd {i j : Nat} : ∀ {l : List Int}, (∀ x ∈ l, x.natAbs < 2 ^ i) → l.length ≤ 2 ^ j → (Sh72.sum l).natAbs < 2 ^ (i + j) := fun {l} h hl => by
  have q : ∀ l : List Int, (∀ x ∈ l, x.natAbs < 2 ^ i) → (Sh72.sum l).natAbs ≤ l.length * (2 ^ i - 1) := by
    intro l
    induction l with
    | nil => intro _; simp [Sh72.sum]
    | cons a r ih =>
      intro h
      have h1 := h a List.mem_cons_self
      have h2 := ih fun x hx => h x (List.mem_cons_of_mem _ hx)
      rw [sum_cons, List.length_cons, Nat.succ_mul]
      omega
  have h3 := q l h
  have p : 0 < 2 ^ i := Nat.two_pow_pos i
  have h4 : l.length * (2 ^ i - 1) ≤ 2 ^ j * (2 ^ i - 1) := Nat.mul_le_mul_right _ hl
  have h5 : 2 ^ j * (2 ^ i - 1) < 2 ^ j * 2 ^ i := Nat.mul_lt_mul_of_pos_left (by omega) (Nat.two_pow_pos j)
  rw [Nat.pow_add, Nat.mul_comm (2 ^ i)]
  omega
/-! ### the fit -/
abbrev Sm (f : Point → Int) (l : List Point) : Int := Sh72.sum (l.map f)
theorem Sm_cons (f : Point → Int) (p : Point) (l : List Point) : Sm f (p :: l) = f p + Sm f l := rfl
abbrev St (l : List Point) : Int := Sm (fun p => p.t) l
abbrev Stt (l : List Point) : Int := Sm (fun p => p.t * p.t) l
abbrev Sx (l : List Point) : Int := Sm (fun p => p.x) l
abbrev Stx (l : List Point) : Int := Sm (fun p => p.t * p.x) l
abbrev Sy (l : List Point) : Int := Sm (fun p => p.y) l
abbrev Sty (l : List Point) : Int := Sm (fun p => p.t * p.y) l
abbrev gOf (l : List Point) : Int := ((l.length : Nat) : Int) * Stt l - St l * St l
abbrev fitOf (l : List Point) : Fit := ⟨Stt l * Sx l - St l * Stx l, ((l.length : Nat) : Int) * Stx l - St l * Sx l, Stt l * Sy l - St l * Sty l, ((l.length : Nat) : Int) * Sty l - St l * Sy l, gOf l⟩
theorem fit_is (l : List Point) : Sh72.fit l = if gOf l ≤ 0 then none else some (fitOf l) := rfl
theorem fit_nope {l : List Point} (h : gOf l ≤ 0) : Sh72.fit l = none := by rw [fit_is, if_pos h]
theorem fit_yes {l : List Point} (h : ¬ gOf l ≤ 0) : Sh72.fit l = some (fitOf l) := by rw [fit_is, if_neg h]
/-- of bounded numbers -/
structure FBd (f : Fit) : Prop where
  g0 : 0 < f.over
  g : f.over.natAbs < 2 ^ 47
  x0 : f.x0.natAbs < 2 ^ 63
  vx : f.vx.natAbs < 2 ^ 47
  y0 : f.y0.natAbs < 2 ^ 63
  vy : f.vy.natAbs < 2 ^ 47
theorem mem_bd {l : List Point} (h : AllBd l) {p : Point} (hp : p ∈ l) : Bd p := by
  obtain ⟨i, hi, e⟩ := List.getElem_of_mem hp
  have e2 := at_get hi
  rw [List.getElem?_eq_getElem hi, e] at e2
  have e3 := Option.some.inj e2
  rw [e3]
  exact h i hi
theorem Bd.t16 {p : Point} (h : Bd p) : p.t.natAbs < 2 ^ 16 := by have := h.t0; have := h.t1; omega
theorem Bd.x16 {p : Point} (h : Bd p) : p.x.natAbs < 2 ^ 16 := by have := h.x0; have := h.x1; omega
theorem Bd.y16 {p : Point} (h : Bd p) : p.y.natAbs < 2 ^ 16 := by have := h.y0; have := h.y1; omega
theorem Sm_bd {i : Nat} {f : Point → Int} {l : List Point} (hl : l.length ≤ 128) (h : ∀ p ∈ l, (f p).natAbs < 2 ^ i) : (Sm f l).natAbs < 2 ^ (i + 7) := by
  refine sum_bd (fun x hx => ?_) (by rw [List.length_map]; exact hl)
  obtain ⟨p, hp, e⟩ := List.mem_map.mp hx
  rw [← e]
  exact h p hp
section
variable {l : List Point}
theorem St_bd (hl : l.length ≤ 128) (h : AllBd l) : (St l).natAbs < 2 ^ 23 := Sm_bd hl fun _ hp => (mem_bd h hp).t16
theorem Stt_bd (hl : l.length ≤ 128) (h : AllBd l) : (Stt l).natAbs < 2 ^ 39 := Sm_bd hl fun _ hp => bd_mul (mem_bd h hp).t16 (mem_bd h hp).t16
theorem Sx_bd (hl : l.length ≤ 128) (h : AllBd l) : (Sx l).natAbs < 2 ^ 23 := Sm_bd hl fun _ hp => (mem_bd h hp).x16
theorem Stx_bd (hl : l.length ≤ 128) (h : AllBd l) : (Stx l).natAbs < 2 ^ 39 := Sm_bd hl fun _ hp => bd_mul (mem_bd h hp).t16 (mem_bd h hp).x16
theorem Sy_bd (hl : l.length ≤ 128) (h : AllBd l) : (Sy l).natAbs < 2 ^ 23 := Sm_bd hl fun _ hp => (mem_bd h hp).y16
theorem Sty_bd (hl : l.length ≤ 128) (h : AllBd l) : (Sty l).natAbs < 2 ^ 39 := Sm_bd hl fun _ hp => bd_mul (mem_bd h hp).t16 (mem_bd h hp).y16
theorem n_bd (hl : l.length ≤ 127) : (((l.length : Nat) : Int)).natAbs < 2 ^ 7 := by rw [Int.natAbs_natCast]; omega
theorem fitOf_bd (hl : l.length ≤ 127) (h : AllBd l) (hg : ¬ gOf l ≤ 0) : FBd (fitOf l) := by
  have hl' : l.length ≤ 128 := by omega
  refine ⟨by show 0 < gOf l; omega, ?_, ?_, ?_, ?_, ?_⟩
  · exact bd_sub (bd_mul (n_bd hl) (Stt_bd hl' h)) (bd_mul (St_bd hl' h) (St_bd hl' h))
  · exact bd_sub (bd_mul (Stt_bd hl' h) (Sx_bd hl' h)) (bd_mul (St_bd hl' h) (Stx_bd hl' h))
  · exact bd_sub (bd_mul (n_bd hl) (Stx_bd hl' h)) (bd_mul (St_bd hl' h) (Sx_bd hl' h))
  · exact bd_sub (bd_mul (Stt_bd hl' h) (Sy_bd hl' h)) (bd_mul (St_bd hl' h) (Sty_bd hl' h))
  · exact bd_sub (bd_mul (n_bd hl) (Sty_bd hl' h)) (bd_mul (St_bd hl' h) (Sy_bd hl' h))
end
theorem place1_bd {x0 v g t : Int} (hx : x0.natAbs < 2 ^ 63) (hv : v.natAbs < 2 ^ 47) (ht : t.natAbs < 2 ^ 17) : (256 * (x0 + v * t)).natAbs < 2 ^ 74 :=
  bd_mul (i := 9) (by decide) (bd_add (i := 64) (bd_up hx (by decide)) (bd_mul hv ht))
theorem place_bd' {f : Fit} {t : Int} (h : FBd f) (ht : t.natAbs < 2 ^ 17) : (f.place t).1.natAbs < 2 ^ 75 ∧ (f.place t).2.natAbs < 2 ^ 75 :=
  ⟨near_bd h.g0 (place1_bd (g := 0) h.x0 h.vx ht), near_bd h.g0 (place1_bd (g := 0) h.y0 h.vy ht)⟩
/-! ### the worst -/
theorem foldl_max_ge : ∀ (l : List Nat) (a : Nat), a ≤ l.foldl max a
  | [], a => Nat.le_refl a
  | x :: r, a => Nat.le_trans (Nat.le_max_left a x) (foldl_max_ge r (max a x))
theorem foldl_max_mem_le : ∀ (l : List Nat) (a x : Nat), x ∈ l → x ≤ l.foldl max a
  | y :: r, a, x, h => by
    rcases List.mem_cons.mp h with q | q
    · rw [q]
      exact Nat.le_trans (Nat.le_max_right a y) (foldl_max_ge r (max a y))
    · exact foldl_max_mem_le r (max a y) x q
theorem foldl_max_le : ∀ (l : List Nat) (a m : Nat), a ≤ m → (∀ x ∈ l, x ≤ m) → l.foldl max a ≤ m
  | [], a, m, h, _ => h
  | y :: r, a, m, h, hl => foldl_max_le r (max a y) m (Nat.max_le.mpr ⟨h, hl y List.mem_cons_self⟩) fun x hx => hl x (List.mem_cons_of_mem _ hx)
theorem worst_of {f : Fit} {l : List Point} {m : Int} (hm : m ∈ l.map fun p => ((miss2 (f.place p.t) p : Nat) : Int)) (hle : ∀ y, y ∈ (l.map fun p => ((miss2 (f.place p.t) p : Nat) : Int)) → y ≤ m) : m = ((f.worst l : Nat) : Int) := by
  obtain ⟨p, hp, e⟩ := List.mem_map.mp hm
  have e : ((miss2 (f.place p.t) p : Nat) : Int) = m := e
  have h1 : miss2 (f.place p.t) p ≤ f.worst l := foldl_max_mem_le _ 0 _ (List.mem_map.mpr ⟨p, hp, rfl⟩)
  have h2 : f.worst l ≤ m.toNat := foldl_max_le _ 0 _ (Nat.zero_le _) fun x hx => by
    obtain ⟨q, hq, e2⟩ := List.mem_map.mp hx
    have := hle _ (List.mem_map.mpr ⟨q, hq, rfl⟩)
    have e2 : miss2 (f.place q.t) q = x := e2
    omega
  omega
/-! ### least squares: no point is farther than 7 edges from the fit of 48 -/
theorem res_sum (a b c : Int) (f : Point → Int) : ∀ l : List Point, Sm (fun p => (a * f p - b - c * p.t) * (a * f p - b - c * p.t)) l =
    a * a * Sm (fun p => f p * f p) l + ((l.length : Nat) : Int) * (b * b) + c * c * Stt l - 2 * a * b * Sm f l - 2 * a * c * Sm (fun p => p.t * f p) l + 2 * b * c * St l
  | [] => by simp [Sm, Sh72.sum]
  | p :: l => by
    have ih := res_sum a b c f l
    have e : (((p :: l).length : Nat) : Int) = ((l.length : Nat) : Int) + 1 := by simp
    rw [Sm_cons, ih, e]
    simp only [Stt, St, Sm_cons]
    generalize Sm (fun p => f p * f p) l = A
    generalize Sm (fun p => p.t * p.t) l = B
    generalize Sm f l = C
    generalize Sm (fun p => p.t * f p) l = D
    generalize Sm (fun p => p.t) l = E
    generalize ((l.length : Nat) : Int) = n
    generalize f p = u
    generalize p.t = t
    grind
theorem sq_nn (z : Int) : 0 ≤ z * z := by
  have := sq_cast z
  omega
theorem Sm_nn {f : Point → Int} (h : ∀ p, 0 ≤ f p) : ∀ l, 0 ≤ Sm f l
  | [] => Int.le_refl 0
  | p :: l => by
    have := Sm_nn h l
    have := h p
    rw [Sm_cons]
    omega
theorem Sm_mem {f : Point → Int} (h : ∀ p, 0 ≤ f p) : ∀ {l : List Point} {p : Point}, p ∈ l → f p ≤ Sm f l
  | q :: l, p, hp => by
    rw [Sm_cons]
    rcases List.mem_cons.mp hp with e | e
    · have := Sm_nn h l
      rw [e]
      omega
    · have := Sm_mem h e
      have := h q
      omega
theorem Sm_le {f : Point → Int} {m : Int} : ∀ {l : List Point}, (∀ p ∈ l, f p ≤ m) → Sm f l ≤ ((l.length : Nat) : Int) * m
  | [], _ => by simp [Sm, Sh72.sum]
  | q :: l, h => by
    have ih := Sm_le fun p hp => h p (List.mem_cons_of_mem q hp)
    have h1 := h q List.mem_cons_self
    have e : (((q :: l).length : Nat) : Int) = ((l.length : Nat) : Int) + 1 := by simp
    rw [Sm_cons, e, Int.add_mul]
    omega
/-- |u| is no more than v -/
theorem abs_le_of_sq {u v : Int} (hv : 0 ≤ v) (h : u * u ≤ v * v) : -v ≤ u ∧ u ≤ v := by
  constructor
  · apply Int.not_lt.mp
    intro c
    have h1 : v + 1 ≤ -u := by omega
    have h2 : (v + 1) * (v + 1) ≤ (-u) * (-u) := Int.mul_le_mul h1 h1 (by omega) (by omega)
    rw [Int.neg_mul_neg] at h2
    have e : (v + 1) * (v + 1) = v * v + 2 * v + 1 := by grind
    omega
  · apply Int.not_lt.mp
    intro c
    have h1 : v + 1 ≤ u := by omega
    have h2 : (v + 1) * (v + 1) ≤ u * u := Int.mul_le_mul h1 h1 (by omega) (by omega)
    have e : (v + 1) * (v + 1) = v * v + 2 * v + 1 := by grind
    omega
theorem ls_res {l : List Point} {f : Point → Int} (hl : l.length ≤ 48) (hf : ∀ p ∈ l, -32768 ≤ f p ∧ f p ≤ 32768) (hg : 0 < gOf l) {p : Point} (hp : p ∈ l) :
    -(229376 * gOf l) ≤ gOf l * f p - (Stt l * Sm f l - St l * Sm (fun p => p.t * f p) l) - (((l.length : Nat) : Int) * Sm (fun p => p.t * f p) l - St l * Sm f l) * p.t ∧
      gOf l * f p - (Stt l * Sm f l - St l * Sm (fun p => p.t * f p) l) - (((l.length : Nat) : Int) * Sm (fun p => p.t * f p) l - St l * Sm f l) * p.t ≤ 229376 * gOf l := by
  have R := res_sum (gOf l) (Stt l * Sm f l - St l * Sm (fun p => p.t * f p) l) (((l.length : Nat) : Int) * Sm (fun p => p.t * f p) l - St l * Sm f l) f l
  have Z := res_sum 0 (Stt l * Sm f l - St l * Sm (fun p => p.t * f p) l) (((l.length : Nat) : Int) * Sm (fun p => p.t * f p) l - St l * Sm f l) f l
  have zn := Sm_nn (f := fun p => (0 * f p - (Stt l * Sm f l - St l * Sm (fun p => p.t * f p) l) - (((l.length : Nat) : Int) * Sm (fun p => p.t * f p) l - St l * Sm f l) * p.t) * (0 * f p - (Stt l * Sm f l - St l * Sm (fun p => p.t * f p) l) - (((l.length : Nat) : Int) * Sm (fun p => p.t * f p) l - St l * Sm f l) * p.t)) (fun p => sq_nn _) l
  have M := Sm_mem (f := fun p => (gOf l * f p - (Stt l * Sm f l - St l * Sm (fun p => p.t * f p) l) - (((l.length : Nat) : Int) * Sm (fun p => p.t * f p) l - St l * Sm f l) * p.t) * (gOf l * f p - (Stt l * Sm f l - St l * Sm (fun p => p.t * f p) l) - (((l.length : Nat) : Int) * Sm (fun p => p.t * f p) l - St l * Sm f l) * p.t)) (fun p => sq_nn _) hp
  have XX : Sm (fun p => f p * f p) l ≤ ((l.length : Nat) : Int) * 1073741824 := Sm_le fun p hp => by
    obtain ⟨h1, h2⟩ := hf p hp
    have e := sq_nn (f p)
    have : f p * f p ≤ 32768 * 32768 := by
      rcases Int.le_total 0 (f p) with c | c
      · exact Int.mul_le_mul h2 h2 c (by decide)
      · have q : (-(f p)) * (-(f p)) ≤ 32768 * 32768 := Int.mul_le_mul (by omega) (by omega) (by omega) (by decide)
        rw [Int.neg_mul_neg] at q
        exact q
    exact this
  have XX0 : 0 ≤ Sm (fun p => f p * f p) l := Sm_nn (fun p => sq_nn _) l
  rw [Z] at zn
  rw [R] at M
  apply abs_le_of_sq (by omega)
  refine Int.le_trans M ?_
  clear M R Z
  have XX2 : Sm (fun p => f p * f p) l ≤ 52613349376 := by
    have : ((l.length : Nat) : Int) * 1073741824 ≤ 48 * 1073741824 := Int.mul_le_mul_of_nonneg_right (by omega) (by decide)
    omega
  have hgg := sq_nn (gOf l)
  have key : gOf l * gOf l * Sm (fun p => f p * f p) l ≤ gOf l * gOf l * 52613349376 := Int.mul_le_mul_of_nonneg_left XX2 hgg
  have hG : gOf l = ((l.length : Nat) : Int) * Stt l - St l * St l := rfl
  generalize gOf l = g at *
  generalize Sm (fun p => f p * f p) l = xx at *
  generalize ((l.length : Nat) : Int) = n at *
  have hS : Stt l = Sm (fun p => p.t * p.t) l := rfl
  generalize Stt l = tt at *
  generalize St l = t at *
  generalize Sm f l = x at *
  generalize Sm (fun p => p.t * f p) l = tx at *
  have e1 : 229376 * g * (229376 * g) = g * g * 52613349376 := by grind
  rw [e1]
  refine Int.le_trans ?_ key
  have id1 : n * ((tt * x - t * tx) * (tt * x - t * tx)) + (n * tx - t * x) * (n * tx - t * x) * tt + 2 * (tt * x - t * tx) * (n * tx - t * x) * t = g * ((tt * x - t * tx) * x + (n * tx - t * x) * tx) := by
    rw [hG]
    grind
  have zn2 : 0 ≤ g * ((tt * x - t * tx) * x + (n * tx - t * x) * tx) := by
    rw [← id1]
    have : 0 * 0 * xx + n * ((tt * x - t * tx) * (tt * x - t * tx)) + (n * tx - t * x) * (n * tx - t * x) * tt - 2 * 0 * (tt * x - t * tx) * x - 2 * 0 * (n * tx - t * x) * tx + 2 * (tt * x - t * tx) * (n * tx - t * x) * t = n * ((tt * x - t * tx) * (tt * x - t * tx)) + (n * tx - t * x) * (n * tx - t * x) * tt + 2 * (tt * x - t * tx) * (n * tx - t * x) * t := by grind
    rw [this] at zn
    exact zn
  have : g * g * xx + n * ((tt * x - t * tx) * (tt * x - t * tx)) + (n * tx - t * x) * (n * tx - t * x) * tt - 2 * g * (tt * x - t * tx) * x - 2 * g * (n * tx - t * x) * tx + 2 * (tt * x - t * tx) * (n * tx - t * x) * t = g * g * xx - g * ((tt * x - t * tx) * x + (n * tx - t * x) * tx) := by
    have : g * g * xx + n * ((tt * x - t * tx) * (tt * x - t * tx)) + (n * tx - t * x) * (n * tx - t * x) * tt - 2 * g * (tt * x - t * tx) * x - 2 * g * (n * tx - t * x) * tx + 2 * (tt * x - t * tx) * (n * tx - t * x) * t = g * g * xx + (n * ((tt * x - t * tx) * (tt * x - t * tx)) + (n * tx - t * x) * (n * tx - t * x) * tt + 2 * (tt * x - t * tx) * (n * tx - t * x) * t) - 2 * (g * ((tt * x - t * tx) * x + (n * tx - t * x) * tx)) := by grind
    rw [this, id1]
    omega
  rw [this]
  omega
theorem near_off {g x d s : Int} (hg : 0 < g) (h1 : -(229376 * g) ≤ g * x - s) (h2 : g * x - s ≤ 229376 * g) : -58720257 ≤ near (256 * s) g - 256 * x ∧ near (256 * s) g - 256 * x ≤ 58720257 := by
  unfold near
  have h3 : (0 : Int) < 2 * g := by omega
  have up : (2 * (256 * s) + g) / (2 * g) < 256 * x + 58720258 := by
    apply Int.ediv_lt_of_lt_mul h3
    have e : (256 * x + 58720258) * (2 * g) = 512 * (g * x) + 117440516 * g := by grind
    rw [e]
    generalize g * x = q at *
    omega
  have lo : 256 * x - 58720257 ≤ (2 * (256 * s) + g) / (2 * g) := by
    apply Int.le_ediv_of_mul_le h3
    have e : (256 * x - 58720257) * (2 * g) = 512 * (g * x) - 117440514 * g := by grind
    rw [e]
    generalize g * x = q at *
    omega
  omega
theorem sq_small {z : Int} (h1 : -58720257 ≤ z) (h2 : z ≤ 58720257) : square z ≤ 3448068582162049 + 0 := by
  have e := sq_cast z
  have : z * z ≤ 58720257 * 58720257 := by
    rcases Int.le_total 0 z with c | c
    · exact Int.mul_le_mul h2 h2 c (by decide)
    · have q : (-z) * (-z) ≤ 58720257 * 58720257 := Int.mul_le_mul (by omega) (by omega) (by omega) (by decide)
      rw [Int.neg_mul_neg] at q
      exact q
  omega
theorem worst_small {l : List Point} (hl : l.length ≤ 48) (h : AllBd l) (hg : ¬ gOf l ≤ 0) : (fitOf l).worst l < 18446744073709551616 := by
  have hg' : 0 < gOf l := by omega
  refine Nat.lt_of_le_of_lt (foldl_max_le _ 0 6896137164324100 (Nat.zero_le _) fun x hx => ?_) (by decide)
  obtain ⟨p, hp, e⟩ := List.mem_map.mp hx
  rw [← e]
  have b := mem_bd h hp
  obtain ⟨a1, a2⟩ := ls_res (f := fun p => p.x) hl (fun p hp => ⟨(mem_bd h hp).x0, (mem_bd h hp).x1⟩) hg' hp
  obtain ⟨b1, b2⟩ := ls_res (f := fun p => p.y) hl (fun p hp => ⟨(mem_bd h hp).y0, (mem_bd h hp).y1⟩) hg' hp
  obtain ⟨c1, c2⟩ := near_off (x := p.x) (d := 0) (s := (fitOf l).x0 + (fitOf l).vx * p.t) hg' (by rw [Int.sub_sub] at a1; exact a1) (by rw [Int.sub_sub] at a2; exact a2)
  obtain ⟨d1, d2⟩ := near_off (x := p.y) (d := 0) (s := (fitOf l).y0 + (fitOf l).vy * p.t) hg' (by rw [Int.sub_sub] at b1; exact b1) (by rw [Int.sub_sub] at b2; exact b2)
  have s1 := sq_small c1 c2
  have s2 := sq_small d1 d2
  show square _ + square _ ≤ _
  exact Nat.le_trans (Nat.add_le_add s1 s2) (by decide)
end NM

namespace NM
open Sh72
/-! ### where it's said to be: sizes -/
theorem ahead_bd {p q : Point} {t : Int} (bp : Bd p) (bq : Bd q) (ht : t.natAbs < 2 ^ 33) : (ahead p q t).1.natAbs < 2 ^ 100 ∧ (ahead p q t).2.natAbs < 2 ^ 100 := by
  have hs : 0 < max 1 (q.t - p.t) := by omega
  have h1 : (t - p.t).natAbs < 2 ^ 40 := by have := bp.t0; have := bp.t1; omega
  have h2 : (q.x - p.x).natAbs < 2 ^ 40 := by have := bp.x0; have := bp.x1; have := bq.x0; have := bq.x1; omega
  have h3 : (q.y - p.y).natAbs < 2 ^ 40 := by have := bp.y0; have := bp.y1; have := bq.y0; have := bq.y1; omega
  have a1 : (256 * p.x).natAbs < 2 ^ 90 := bd_up (i := 30) (by have := bp.x0; have := bp.x1; omega) (by decide)
  have a2 : (256 * p.y).natAbs < 2 ^ 90 := bd_up (i := 30) (by have := bp.y0; have := bp.y1; omega) (by decide)
  have b1 : (near (256 * (q.x - p.x) * (t - p.t)) (max 1 (q.t - p.t))).natAbs < 2 ^ 90 := bd_up (near_bd hs (bd_mul (bd_mul (i := 9) (by decide) h2) h1)) (by decide)
  have b2 : (near (256 * (q.y - p.y) * (t - p.t)) (max 1 (q.t - p.t))).natAbs < 2 ^ 90 := bd_up (near_bd hs (bd_mul (bd_mul (i := 9) (by decide) h3) h1)) (by decide)
  exact ⟨bd_up (bd_add a1 b1) (by decide), bd_up (bd_add a2 b2) (by decide)⟩
theorem longer_succ (e : Nat) (l : List Point) (f a b : Nat) : longer e l (f + 1) a b = match next e l a b with
  | none => []
  | some c => c :: longer e l f b c := by
  rw [longer]
  cases next e l a b <;> rfl
end NM

/-! ## 3. Heap words: a point, points, what is raised; expressions that are known to give a value -/
namespace NH
open PySem PySem.Spec PyProof.Rows L2 Evl
/-! ### what a module's name holds -/
def GI (mg : Str → Option Value) (x : Str) (n : Int) : Prop := ∃ t, mg x = some (.int n t)
theorem pe_gi {X : Cx} {x : Str} {n : Int} {pos : Pos} (h : GI X.mg x n) (hg : Gl X x := by rfl) (hd : (x == ("__debug__" : Str)) = false := by decide) : PE X (.Name x pos) (tC (.int n)) := by
  obtain ⟨t, e⟩ := h
  exact pe_glob hg e ⟨t, rfl⟩ hd
/-- a def that keeps a promise -/
def Has (P : Program) (w : World) (K : PySem.W.Frag) (mg : Str → Option Value) (base : Heap) (CX : CXT) (k : Nat) (x : Str) (ps : List Str) (sp : Sp) : Prop :=
  ∃ f fd, FnOk P w K mg base CX k f fd ps sp ∧ mg x = some (.ref f) ∧ PySem.W.keepIn K (.ref f) = true ∧ Binds K fd ps []
/-- a def of the text as it stands behind the top -/
def Df (K : PySem.W.Frag) (mg : Str → Option Value) (x : Str) (st : Stmt) (ps : List Str) : Prop :=
  ∃ f fd, Fun K x x st f fd ∧ mg x = some (.ref f) ∧ ∀ us : List Value, us.length = ps.length → bindArgs fd ⟨us, []⟩ = pure (ps.zip us)
def Bn (x : Str) (st : Stmt) (ps : List Str) : Prop := ∀ (kV doc pm : Value) (an : Option Addr) (cdv ct : Value) (us : List Value), us.length = ps.length → bindArgs (PySem.W.fnOf x x (defArgs st) (defBody st) (defScope st) .none kV doc pm an cdv ct) ⟨us, []⟩ = pure (ps.zip us)
theorem df_mk {K : PySem.W.Frag} {mg : Str → Option Value} {h : Heap} {x : Str} {st : Stmt} {ps : List Str} {f : Addr} {oc : Value} {od an : Option Addr} {osl : Array (Option Value)} {kV doc pm cdv ct : Value} (X : K.In h) (G : h.Ns mainGlobals mg) (hb : Bn x st ps)
    (a : PySem.W.nsIn K mainGlobals x = some (some (.ref f))) (l : K.lookup f = some ⟨oc, od, .func (PySem.W.fnOf x x (defArgs st) (defBody st) (defScope st) .none kV doc pm an cdv ct), osl⟩) (c : PySem.W.codeIn K cdv x = true) (k : PySem.W.keepIn K (.ref f) = true) : Df K mg x st ps :=
  ⟨f, _, fun_mk l c k, PySem.W.mg_of X G a, hb kV doc pm an cdv ct⟩
theorem gi_mk {K : PySem.W.Frag} {mg : Str → Option Value} {h : Heap} {x : Str} {n : Int} {t : Tok} (X : K.In h) (G : h.Ns mainGlobals mg) (a : PySem.W.nsIn K mainGlobals x = some (some (.int n t))) : GI mg x n := ⟨t, PySem.W.mg_of X G a⟩
section
variable {P : Program} {w : World} {K : PySem.W.Frag} {mg : Str → Option Value} {base : Heap} {CX : CXT} {k : Nat} {x : Str} {ps : List Str} {sp : Sp} {st : Stmt}
theorem Has.of (D : Df K mg x st ps) (h : ∀ f fd, Fun K x x st f fd → FnOk P w K mg base CX k f fd ps sp) : Has P w K mg base CX k x ps sp := by
  obtain ⟨f, fd, F, m, b⟩ := D
  exact ⟨f, fd, h f fd F, m, F.kp, .all b⟩
theorem Has.mono {j : Nat} (h : Has P w K mg base CX j x ps sp) (hj : j ≤ k) : Has P w K mg base CX k x ps sp := by
  obtain ⟨f, fd, F, r⟩ := h
  exact ⟨f, fd, F.mono hj, r⟩
end
section
variable {X : Cx} {CX : CXT} {k : Nat} {x : Str} {ps : List Str} {sp : Sp} {p pos : Pos} {e : Expr} {es : List Expr} {t : TA} {E : XK}
theorem pe_has (h : Has X.prog X.w X.K X.mg X.base CX k x ps sp) (hr : Room k X.A) (hx : Passes CX X E) (ha : PA X (e :: es) t) (hg : Gl X x := by rfl) (hdb : (x == ("__debug__" : Str)) = false := by decide)
    (he : starEach (e :: es) X.env = (false, eval e X.env) :: starEach es X.env := by rfl) (hpl : (backTo pos (starEach es X.env)).any (·.1) = false := by rfl) : PE X (.Call (.Name x p) (e :: es) [] pos) (tCall sp [] E t) := by
  obtain ⟨f, fd, F, m, kp, b⟩ := h
  exact pe_call F hr hg m kp b .nil hx ha hdb he hpl
theorem pe_hasS {E : L2.St → XK} (h : Has X.prog X.w X.K X.mg X.base CX k x ps sp) (hr : Room k X.A) (hx : ∀ σ, PassesAt CX X σ (E σ)) (ha : PA X (e :: es) t) (hg : Gl X x := by rfl) (hdb : (x == ("__debug__" : Str)) = false := by decide)
    (he : starEach (e :: es) X.env = (false, eval e X.env) :: starEach es X.env := by rfl) (hpl : (backTo pos (starEach es X.env)).any (·.1) = false := by rfl) : PE X (.Call (.Name x p) (e :: es) [] pos) (tCallS sp E t) := by
  obtain ⟨f, fd, F, m, kp, b⟩ := h
  exact pe_callS F hr hg m kp b hx ha hdb he hpl
end
/-! ### lookups -/
theorem lk_here {k : Str} {v : V} {r : List (Str × V)} : List.lookup k ((k, v) :: r) = some v := by
  have e : (k == k) = true := beq_self_eq_true k
  simp only [List.lookup, e]
theorem lk_past {k g : Str} {v : V} {r : List (Str × V)} (h : (k == g) = false) : List.lookup k ((g, v) :: r) = List.lookup k r := by
  simp only [List.lookup, h]
theorem put_past {f g : Str} {v x : V} {r : List (Str × V)} (h : ¬ g = f) : putF f v ((g, x) :: r) = (g, x) :: putF f v r := if_neg h
/-! ### a point -/
def ptF (p : Sh72.Point) : List (Str × V) := [("t", .int p.t), ("x", .int p.x), ("y", .int p.y), ("light", .int p.mag)]
def PtAt (C : Addr) (H : Hp) (a : Addr) (p : Sh72.Point) : Prop := ∃ dx, H a = some (.ins C dx (ptF p))
theorem PtAt.mono {C : Addr} {H H' : Hp} {a : Addr} {p : Sh72.Point} (e : Ex H H') (h : PtAt C H a p) : PtAt C H' a p := by
  obtain ⟨dx, h⟩ := h
  exact ⟨dx, e _ _ h⟩
theorem ptF_t (p : Sh72.Point) : (ptF p).lookup ("t" : Str) = some (.int p.t) := lk_here
theorem ptF_x (p : Sh72.Point) : (ptF p).lookup ("x" : Str) = some (.int p.x) := (lk_past (by decide +kernel)).trans lk_here
theorem ptF_y (p : Sh72.Point) : (ptF p).lookup ("y" : Str) = some (.int p.y) := (lk_past (by decide +kernel)).trans ((lk_past (by decide +kernel)).trans lk_here)
theorem ptF_l (p : Sh72.Point) : (ptF p).lookup ("light" : Str) = some (.int p.mag) := (lk_past (by decide +kernel)).trans ((lk_past (by decide +kernel)).trans ((lk_past (by decide +kernel)).trans lk_here))
theorem ptF_new (p : Sh72.Point) : putF "light" (.int p.mag) (putF "y" (.int p.y) (putF "x" (.int p.x) (putF "t" (.int p.t) []))) = ptF p := by
  have e1 : putF "t" (V.int p.t) [] = ([("t", .int p.t)] : List (Str × V)) := rfl
  have e2 : putF "x" (V.int p.x) ([("t", .int p.t)] : List (Str × V)) = ([("t", .int p.t), ("x", .int p.x)] : List (Str × V)) := (put_past (by decide +kernel)).trans rfl
  have e3 : putF "y" (V.int p.y) ([("t", .int p.t), ("x", .int p.x)] : List (Str × V)) = ([("t", .int p.t), ("x", .int p.x), ("y", .int p.y)] : List (Str × V)) := (put_past (by decide +kernel)).trans (congrArg _ ((put_past (by decide +kernel)).trans rfl))
  rw [e1, e2, e3]
  exact (put_past (by decide +kernel)).trans (congrArg _ ((put_past (by decide +kernel)).trans (congrArg _ ((put_past (by decide +kernel)).trans rfl))))
/-- what the written part says of Point -/
structure CP (K : PySem.W.Frag) (C : Addr) : Prop where
  cl : Cls K C
  t : NoAttr K C "t"
  x : NoAttr K C "x"
  y : NoAttr K C "y"
  l : NoAttr K C "light"
/-! ### known values -/
section
variable {K : PySem.W.Frag} {σ : L2.St} {H H' : Hp} {ta tb te : TE} {x y z v : V} {r : R2} {C a dx : Addr} {fs : List (Str × V)} {f : Str} {p q : Sh72.Point}
theorem ev_fld (ha : Ev ta σ H (.ref a)) (ho : H a = some (.ins C dx fs)) (hc : Cls K C) (hn : NoAttr K C f) (hl : fs.lookup f = some v) : Ev (tFld K ta f) σ H v := fun H1 e _ q =>
  ha H1 e _ fun H2 e2 => ⟨a, C, dx, fs, v, rfl, (e.trans e2) a _ ho, hc, hn, hl, q H2 e2⟩
theorem ev_t (T : CP K C) (h : PtAt C H a p) (ha : Ev ta σ H (.ref a)) : Ev (tFld K ta "t") σ H (.int p.t) := by
  obtain ⟨dx, h⟩ := h
  exact ev_fld ha h T.cl T.t (ptF_t p)
theorem ev_x (T : CP K C) (h : PtAt C H a p) (ha : Ev ta σ H (.ref a)) : Ev (tFld K ta "x") σ H (.int p.x) := by
  obtain ⟨dx, h⟩ := h
  exact ev_fld ha h T.cl T.x (ptF_x p)
theorem ev_y (T : CP K C) (h : PtAt C H a p) (ha : Ev ta σ H (.ref a)) : Ev (tFld K ta "y") σ H (.int p.y) := by
  obtain ⟨dx, h⟩ := h
  exact ev_fld ha h T.cl T.y (ptF_y p)
theorem ev_l (T : CP K C) (h : PtAt C H a p) (ha : Ev ta σ H (.ref a)) : Ev (tFld K ta "light") σ H (.int p.mag) := by
  obtain ⟨dx, h⟩ := h
  exact ev_fld ha h T.cl T.l (ptF_l p)
/-- two ints in, a value out -/
theorem ev_I0 {g : Int → Int → V} {i j : Int} (ha : Ev ta σ H (.int i)) (hb : Ev tb σ H (.int j)) : Ev (tOp (rI0 g) ta tb) σ H (g i j) := ev_op ha hb rv_I0
theorem ev_I {c : Int → Int → Prop} {g : Int → Int → V} {i j : Int} (hc : c i j) (ha : Ev ta σ H (.int i)) (hb : Ev tb σ H (.int j)) : Ev (tOp (rI c g) ta tb) σ H (g i j) := ev_op ha hb (rv_I hc)
theorem ev_v {i : Nat} {n : Int} (h : σ[i]? = some (some (.int n))) : Ev (tVar i) σ H (.int n) := ev_var h
def rAbs : List V → Hp → VK → Prop := fun xs H Q => ∃ i, xs = [.int i] ∧ Q (.int (if i < 0 then -i else i)) H
theorem ev_abs {i : Int} (ha : Ev ta σ H (.int i)) : Ev (tCB rAbs (tCons ta tNil)) σ H (.int ((i.natAbs : Nat) : Int)) := by
  have e : (if i < 0 then -i else i) = ((i.natAbs : Nat) : Int) := by split <;> omega
  rw [← e]
  exact ev_cb (ea_cons ha ea_nil) fun H1 _ Q q => ⟨i, rfl, q H1 (Ex.refl H1)⟩
theorem ev_all {tl : TE} {bs : List Bool} (h : EvL tl σ H (bs.map V.bl)) : Ev (tCB (rAll K) (tCons tl tNil)) σ H (.bl (bs.all id)) := fun H1 e _ q =>
  h H1 e _ fun p H2 _ e2 hp => ⟨p, bs, rfl, sq_of hp, q H2 e2⟩
theorem ev_sum {tl : TE} {ns : List Int} (h : EvL tl σ H (ns.map V.int)) : Ev (tCB (rSum K) (tCons tl tNil)) σ H (.int ns.sum) := fun H1 e _ q =>
  h H1 e _ fun p H2 _ e2 hp => ⟨p, ns, rfl, sq_of hp, q H2 e2⟩
theorem ev_lst {i : Nat} {l : Addr} {xs : List V} (ha : Ev ta σ H (.ref l)) (hb : Ev tb σ H (.int (i : Int))) (h : SqL K H l xs) (hx : xs[i]? = some v) : Ev (tOp (rIxL K) ta tb) σ H v := ev_op ha hb (rv_ixL h (atI_nat hx))
theorem ev_tup {i : Nat} {l : Addr} {xs : List V} (ha : Ev ta σ H (.ref l)) (hb : Ev tb σ H (.int (i : Int))) (h : SqT K H l xs) (hx : xs[i]? = some v) : Ev (tOp (rIxT K) ta tb) σ H v := ev_op ha hb (rv_ixT h (atI_nat hx))
theorem EvU.mono {xs : List V} (e : Ex H H') (h : EvU te σ H xs) : EvU te σ H' xs := fun H1 a Q q => h H1 (e.trans a) Q q
/-- a call that makes a tuple -/
def SpU (sp : Sp) (vs : List V) (H : Hp) (xs : List V) : Prop := ∀ H1, Ex H H1 → ∀ Q : VK, (∀ p H2, H1 p = none → Ex H1 H2 → H2 p = some (.tup xs) → Q (.ref p) H2) → ∀ E : XK, sp vs H1 Q E
theorem eu_call {sp : Sp} {dvs vs xs : List V} {E : XK} {ta : TA} (h : EvA ta σ H vs) (hs : SpU sp (vs ++ dvs) H xs) : EvU (tCall sp dvs E ta) σ H xs := fun H1 e Q q =>
  h H1 e _ fun H2 e2 => hs H2 (e.trans e2) Q (fun p H3 hp e3 h3 => q p H3 (fresh_back e2 hp) (e2.trans e3) h3) E
/-- something that P tells of -/
def EvX (te : TE) (σ : L2.St) (H : Hp) (P : V → Hp → Prop) : Prop := ∀ H1, Ex H H1 → ∀ Q : VK, (∀ v H2, Ex H1 H2 → P v H2 → Q v H2) → te σ H1 Q
def SpX (sp : Sp) (vs : List V) (H : Hp) (P : V → Hp → Prop) : Prop := ∀ H1, Ex H H1 → ∀ Q : VK, (∀ v H2, Ex H1 H2 → P v H2 → Q v H2) → ∀ E : XK, sp vs H1 Q E
theorem ex_call {sp : Sp} {dvs vs : List V} {E : XK} {ta : TA} {P : V → Hp → Prop} (h : EvA ta σ H vs) (hs : SpX sp (vs ++ dvs) H P) : EvX (tCall sp dvs E ta) σ H P := fun H1 e Q q =>
  h H1 e _ fun H2 e2 => hs H2 (e.trans e2) Q (fun v H3 e3 h3 => q v H3 (e2.trans e3) h3) E
variable {D : Ends} {tz tu : TS}
theorem q_asgX {i : Nat} {P : V → Hp → Prop} (h : EvX te σ H P) (k : ∀ v H1, Ex H H1 → P v H1 → tz D (σ.set i (some v)) H1) : tSeq (tAsg te (gName i)) tz D σ H := h H (Ex.refl H) _ k
theorem s_asgX {i : Nat} {P : V → Hp → Prop} (h : EvX te σ H P) (k : ∀ v H1, Ex H H1 → P v H1 → D.nx (σ.set i (some v)) H1) : tAsg te (gName i) D σ H := h H (Ex.refl H) _ k
theorem s_retX {P : V → Hp → Prop} (h : EvX te σ H P) (k : ∀ v H1, Ex H H1 → P v H1 → D.rt v H1) : tRet te D σ H := h H (Ex.refl H) _ k
theorem q_asgT2 {i j : Nat} {v1 v2 : V} (h : EvU te σ H [v1, v2]) (k : ∀ H1, Ex H H1 → tz D ((σ.set i (some v1)).set j (some v2)) H1) : tSeq (tAsg te (gTup K 2 (gCons (gName i) (gCons (gName j) gNil)))) tz D σ H :=
  h H (Ex.refl H) _ fun p H1 _ e hp => ⟨p, [v1, v2], rfl, st_of hp, rfl, v1, [v2], rfl, v2, [], rfl, rfl, k H1 e⟩
/-- c is kept where the test says so -/
theorem q_yes {b : Bool} {t : TT} {tw : TS} (h : EvT t σ H b) (hb : b = true) (k : ∀ H1, Ex H H1 → tu { D with nx := tz D } σ H1) : tSeq (tIfS t tu tw) tz D σ H := q_if h (fun _ H1 e => k H1 e) (fun q => by rw [hb] at q; cases q)
end
/-! ### points -/
def PtsAt (C : Addr) (H : Hp) (l : Addr) (ps : List Sh72.Point) : Prop := ∃ as : List Addr, H l = some (.lst (as.map V.ref)) ∧ as.length = ps.length ∧ ∀ i, i < ps.length → ∃ a, as[i]? = some a ∧ PtAt C H a (Sh72.at_ ps i)
theorem PtsAt.mono {C : Addr} {H H' : Hp} {l : Addr} {ps : List Sh72.Point} (e : Ex H H') (h : PtsAt C H l ps) : PtsAt C H' l ps := by
  obtain ⟨as, h1, h2, h3⟩ := h
  refine ⟨as, e _ _ h1, h2, fun i hi => ?_⟩
  obtain ⟨a, q1, q2⟩ := h3 i hi
  exact ⟨a, q1, q2.mono e⟩
theorem PtsAt.list {C : Addr} {H : Hp} {l : Addr} {ps : List Sh72.Point} (h : PtsAt C H l ps) : ∃ xs : List V, H l = some (.lst xs) ∧ xs.length = ps.length ∧ ∀ i, i < ps.length → ∃ a, xs[i]? = some (.ref a) ∧ PtAt C H a (Sh72.at_ ps i) := by
  obtain ⟨as, h1, h2, h3⟩ := h
  refine ⟨_, h1, by rw [List.length_map]; exact h2, fun i hi => ?_⟩
  obtain ⟨a, q1, q2⟩ := h3 i hi
  exact ⟨a, by rw [List.getElem?_map, q1]; rfl, q2⟩
theorem ev_pts {K : PySem.W.Frag} {σ : L2.St} {H : Hp} {C l : Addr} {ps : List Sh72.Point} {ta tb : TE} {i : Nat} (h : PtsAt C H l ps) (ha : Ev ta σ H (.ref l)) (hb : Ev tb σ H (.int (i : Int))) (hi : i < ps.length) :
    ∃ a, Ev (tOp (rIxL K) ta tb) σ H (.ref a) ∧ PtAt C H a (Sh72.at_ ps i) := by
  obtain ⟨xs, h1, _, h3⟩ := h.list
  obtain ⟨a, q1, q2⟩ := h3 i hi
  exact ⟨a, ev_lst ha hb (SqL.of h1) q1, q2⟩
theorem ev_plen {K : PySem.W.Frag} {σ : L2.St} {H : Hp} {C l : Addr} {ps : List Sh72.Point} {ta : TE} (h : PtsAt C H l ps) (ha : Ev ta σ H (.ref l)) : Ev (tCB (rLenS K) (tCons ta tNil)) σ H (.int ((ps.length : Nat) : Int)) := by
  obtain ⟨xs, h1, h2, _⟩ := h.list
  rw [← h2]
  exact ev_len ha (SqL.of h1)
/-! ### words -/
abbrev vN (n : Nat) : V := .int ((n : Nat) : Int)
def WordsAt (K : PySem.W.Frag) (H : Hp) (a : Addr) (ns : List Nat) : Prop := SqL K H a (ns.map vN)
theorem WordsAt.mono {K : PySem.W.Frag} {H H' : Hp} {a : Addr} {ns : List Nat} (e : Ex H H') (h : WordsAt K H a ns) : WordsAt K H' a ns := ex_l e h
theorem ev_word {K : PySem.W.Frag} {σ : L2.St} {H : Hp} {a : Addr} {ns : List Nat} {ta tb : TE} {i : Nat} (h : WordsAt K H a ns) (ha : Ev ta σ H (.ref a)) (hb : Ev tb σ H (.int (i : Int))) (hi : i < ns.length) :
    Ev (tOp (rIxL K) ta tb) σ H (.int ((Sh72.num ns i : Nat) : Int)) := ev_lst ha hb h (by rw [List.getElem?_map, NM.num_at hi]; rfl)
theorem ev_wlen {K : PySem.W.Frag} {σ : L2.St} {H : Hp} {a : Addr} {ns : List Nat} {ta : TE} (h : WordsAt K H a ns) (ha : Ev ta σ H (.ref a)) : Ev (tCB (rLenS K) (tCons ta tNil)) σ H (.int ((ns.length : Nat) : Int)) := by
  have q := ev_len (K := K) ha h
  rw [List.length_map] at q
  exact q
/-! ### what is raised -/
def xF (n : Int) : List (Str × V) := [("number", .int n)]
def RaiseE (CR : Addr) (n : Int) (H : Hp) (E : XK) : Prop := ∀ (d : Addr) (H2 : Hp), Ex H H2 → H2 d = some (.xd (xF n)) → E (.ref CR) (some d) H2
theorem RaiseE.mono {CR : Addr} {n : Int} {H H' : Hp} {E : XK} (e : Ex H H') (h : RaiseE CR n H E) : RaiseE CR n H' E := fun d H2 e2 q => h d H2 (e.trans e2) q
/-- what the written part says of Refused -/
structure CR (K : PySem.W.Frag) (mg : Str → Option Value) (C : Addr) : Prop where
  gC : mg "Refused" = some (.ref C)
  ox : OexC K C
  xf : XfC K C
  no : PySem.W.findIn K (.ref C) "number" = some none
  te : PySem.W.exmOne K (.ref C) (.ref C) = some true
/-- told: the answer comes as a list, or its one number is raised -/
def Told (C : Addr) (ans : List Int) (H : Hp) (Q : VK) (E : XK) : Prop := (∀ p H2, Ex H H2 → H2 p = some (.lst (ans.map V.int)) → Q (.ref p) H2) ∧ ∀ n, ans = [n] → RaiseE C n H E
theorem exm_self {K : PySem.W.Frag} {S : Addr} (h1 : PySem.W.subIn K (.ref S) (.type "BaseException") = some true) (h2 : PySem.W.isClsIn K S = true) (h3 : PySem.W.typeIn K (.ref S) = some (.type "type")) (h4 : PySem.W.subIn K (.ref S) (.ref S) = some true) :
    PySem.W.exmOne K (.ref S) (.ref S) = some true := by
  have e1 : (PySem.W.subIn K (.ref S) (.type "BaseException") == some true) = true := by rw [h1] <;> rfl
  have e2 : ((PySem.W.clsIn K S).isSome && PySem.W.typeIn K (.ref S) == some (.type "type")) = true := by
    have h2' : (PySem.W.clsIn K S).isSome = true := h2
    rw [h2', h3] <;> rfl
  show (if (PySem.W.subIn K (.ref S) (.type "BaseException") == some true) = true then (if ((PySem.W.clsIn K S).isSome && PySem.W.typeIn K (.ref S) == some (.type "type")) = true then PySem.W.subIn K (.ref S) (.ref S) else none) else none) = some true
  rw [if_pos e1, if_pos e2]
  exact h4
end NH

namespace NH
open PySem PySem.Spec PyProof.Rows L2 Evl
/-! ### comprehensions over and into points -/
section
variable {K : PySem.W.Frag} {σ : L2.St} {H H' : Hp} {ta tb te tl : TE} {C a : Addr} {D : Ends} {tz : TS}
theorem et_yes : EvT tYes σ H true := fun H1 _ _ q => q H1 (Ex.refl H1)
theorem given_all (n : Nat) (v : Nat → V) : given n (fun _ => true) v = (List.range n).map v := by
  unfold given
  rw [List.filter_eq_self.mpr (fun _ _ => rfl)]
theorem PtAt.beside {H : Hp} {x D : Addr} {p : Sh72.Point} {xs : List V} {o : HO} (h : PtAt C H x p) (hD : H D = some (.lst xs)) : PtAt C (upd H D o) x p := by
  obtain ⟨dx, h⟩ := h
  exact ⟨dx, by rw [upd_ne (ne_of h hD (by intro q; cases q))]; exact h⟩
/-- [a new point for k in range(n)] -/
theorem ex_lcP {ta : TA} {j : Nat} {vs : List Nat} {ps : List Sh72.Point} (h : EvA ta σ H [.int ((ps.length : Nat) : Int)]) (hz : ps.length ≤ 40000) (hw : ∀ x, wipe ((wipe σ vs).set j (some x)) vs = wipe σ vs)
    (he : ∀ (i : Nat) H1, Ex H H1 → i < ps.length → EvX te ((wipe σ vs).set j (some (.int (i : Int)))) H1 (fun v H2 => ∃ x, v = .ref x ∧ PtAt C H2 x (Sh72.at_ ps i))) :
    EvX (tLc (iRng1 ta) (gName j) tYes te vs) σ H (fun v H2 => ∃ p, v = .ref p ∧ PtsAt C H2 p ps) := fun H0 e Q q => h H0 e _ fun H1 e1 => ⟨_, rfl, by omega, by omega, fun Dl hD =>
  lc_range (lo := 0) (n := ((ps.length : Nat) : Int).toNat) (fun i H' => Ex H1 H' ∧ ∃ as : List Addr, H' Dl = some (.lst (as.map V.ref)) ∧ as.length = i ∧ ∀ j, j < i → ∃ x, as[j]? = some x ∧ PtAt C H' x (Sh72.at_ ps j))
    ⟨Ex.new hD, [], upd_same, rfl, fun j hj => absurd hj (Nat.not_lt_zero j)⟩ (fun i H' hi p => by
      obtain ⟨e2, as, hl, hlen, hpt⟩ := p
      have e0 : (0 : Int) + (i : Int) = (i : Int) := Int.zero_add _
      rw [e0]
      refine ⟨hw _, ?_⟩
      show te ((wipe σ vs).set j (some (.int (i : Int)))) H' _
      refine he i H' ((e.trans e1).trans e2) (by omega) H' (Ex.refl H') _ fun v H4 e4 hv => ?_
      obtain ⟨x, rfl, hx⟩ := hv
      have hl4 := e4 _ _ hl
      refine ⟨as.map V.ref, hl4, by rw [List.length_map]; exact sz_lt (by omega), Ex.mut (e2.trans e4) hD, as ++ [x], by rw [upd_same, List.map_append]; rfl, by rw [List.length_append, hlen]; rfl, fun j hj => ?_⟩
      by_cases hji : j < i
      · obtain ⟨y, q1, q2⟩ := hpt j hji
        exact ⟨y, by rw [List.getElem?_append_left (by omega)]; exact q1, (q2.mono e4).beside hl4⟩
      · have hj' : j = as.length := by omega
        refine ⟨x, by rw [hj', List.getElem?_append_right (Nat.le_refl _), Nat.sub_self]; rfl, ?_⟩
        rw [hj', hlen]
        exact hx.beside hl4) (fun H' p => by
      obtain ⟨e2, as, hl, hlen, hpt⟩ := p
      have en : ((ps.length : Nat) : Int).toNat = ps.length := by omega
      rw [en] at hlen hpt
      exact q (.ref Dl) H' (e1.trans e2) ⟨Dl, rfl, as, hl, hlen, hpt⟩)⟩
/-- [v of a point for point in points] -/
theorem el_lcPts {j : Nat} {vs : List Nat} {l : Addr} {ps : List Sh72.Point} (v : Sh72.Point → V) (hp : PtsAt C H l ps) (h : Ev tl σ H (.ref l)) (hz : ps.length ≤ 40000) (hw : ∀ x, wipe ((wipe σ vs).set j (some x)) vs = wipe σ vs)
    (he : ∀ (i : Nat) (a : Addr) H1, Ex H H1 → i < ps.length → PtAt C H1 a (Sh72.at_ ps i) → Ev te ((wipe σ vs).set j (some (.ref a))) H1 (v (Sh72.at_ ps i))) :
    EvL (tLc (iList K tl) (gName j) tYes te vs) σ H (ps.map v) := by
  obtain ⟨xs, h1, h2, h3⟩ := hp.list
  have g : EvL (tLc (iList K tl) (gName j) tYes te vs) σ H (given xs.length (fun _ => true) (fun i => v (Sh72.at_ ps i))) :=
    el_lcL (fun _ => true) (fun i => v (Sh72.at_ ps i)) h (SqL.of h1) (by omega) hw (fun _ _ _ _ _ => et_yes) (fun i x H1 e hx _ => by
      have hi : i < ps.length := by
        have := (List.getElem?_eq_some_iff.mp hx).1
        omega
      obtain ⟨a, q1, q2⟩ := h3 i hi
      rw [q1] at hx
      have ex := Option.some.inj hx
      subst ex
      exact he i a H1 e hi (q2.mono e))
  rw [given_all, h2, NM.range_map_at] at g
  exact g
/-- ask(..) as a statement -/
theorem RaiseE.go {n : Int} {E : XK} (h : RaiseE C n H E) (e : Ex H H') : RaiseE C n H' E := h.mono e
end
end NH
namespace NH
open PySem PySem.Spec PyProof.Rows L2 Evl
section
variable {K : PySem.W.Frag} {σ : L2.St} {H H' : Hp} {ta tb te tl : TE} {C a : Addr} {D : Ends} {tz : TS} {t : TT}
theorem q_asgK {i : Nat} (Pv : V → Hp → Prop) (h : ∀ Q' : VK, (∀ v H1, Pv v H1 → Q' v H1) → te σ H Q') (k : ∀ v H1, Pv v H1 → tz D (σ.set i (some v)) H1) : tSeq (tAsg te (gName i)) tz D σ H := h _ k
theorem gt_cast (r d : Nat) : decide (((r : Nat) : Int) * ((r : Nat) : Int) < ((d : Nat) : Int)) = decide (r * r < d) := by
  apply decide_eq_decide.mpr
  rw [← Int.natCast_mul]
  omega
theorem le_cast (r d : Nat) : decide (((d : Nat) : Int) ≤ ((r : Nat) : Int) * ((r : Nat) : Int)) = decide (d ≤ r * r) := by
  apply decide_eq_decide.mpr
  rw [← Int.natCast_mul]
  omega
/-- [.. for k, point in enumerate(points) if ..] -/
theorem el_lcEnum {ta : TA} {l : Addr} {ps : List Sh72.Point} {i j : Nat} {vs : List Nat} (f : Nat → Bool) (v : Nat → V) (h : EvA ta σ H [.ref l]) (hp : PtsAt C H l ps) (hz : ps.length ≤ 40000) (hw : ∀ x y, wipe (((wipe σ vs).set i (some x)).set j (some y)) vs = wipe σ vs)
    (ht : ∀ (m : Nat) (a : Addr) H1, Ex H H1 → m < ps.length → PtAt C H1 a (Sh72.at_ ps m) → EvT t (((wipe σ vs).set i (some (vN m))).set j (some (.ref a))) H1 (f m))
    (he : ∀ (m : Nat) (a : Addr) H1, Ex H H1 → m < ps.length → PtAt C H1 a (Sh72.at_ ps m) → f m = true → Ev te (((wipe σ vs).set i (some (vN m))).set j (some (.ref a))) H1 (v m)) :
    EvL (tLc (iEnum K ta) (gTup K 2 (gCons (gName i) (gCons (gName j) gNil))) t te vs) σ H (given ps.length f v) := by
  obtain ⟨xs, h1, h2, h3⟩ := hp.list
  rw [← h2]
  exact fun H0 e Q q => h H0 e _ fun H1 e1 => ⟨l, xs, rfl, SqL.of ((e.trans e1) _ _ h1), fun Dl hD =>
    lc_it (walk_enum (K := K) (a := l) (xs := xs)) (Cw H1 f v Dl) ⟨hD, Ex.new hD, upd_same⟩ (fun m H' _ p => SqL.of (p.2.1 _ _ ((e.trans e1) _ _ h1))) (fun m x H' H'' hm p y => by
      obtain ⟨T, x1, x2, rfl, hT, rfl, ex1, ex2⟩ := y
      have ex1 := Option.some.inj ex1
      subst ex1
      obtain ⟨b, q1, q2⟩ := h3 m (by omega)
      have ex2 : xs[m]? = some x2 := ex2
      rw [q1] at ex2
      have ex2 := Option.some.inj ex2
      subst ex2
      have p' : Cw H1 f v Dl m (upd H' T (.tup [vN m, .ref b])) := ⟨p.1, p.2.1.trans (Ex.new hT), (Ex.new hT) _ _ p.2.2⟩
      exact ⟨T, [vN m, .ref b], rfl, st_of upd_same, rfl, _, [.ref b], rfl, _, [], rfl, rfl, hw _ _, cw_turn p' (by omega) (ht m b H1 (e.trans e1) (by omega) (q2.mono (e.trans e1))) (fun hf => he m b H1 (e.trans e1) (by omega) (q2.mono (e.trans e1)) hf)⟩)
      (fun H' p => q Dl H' (fresh_back e1 p.1) (e1.trans p.2.1) p.2.2)⟩
/-- a new list behind a new one, behind one that stands -/
theorem el_cat {xs ys : List V} (ha : EvL ta σ H xs) (hb : EvL tb σ H ys) (hz : xs.length + ys.length ≤ 100000) : EvL (tOp rCat ta tb) σ H (xs ++ ys) := fun H1 e Q q =>
  ha H1 e _ fun p H2 _ e2 h2 => hb H2 (e.trans e2) _ fun p2 H3 _ e3 h3 => ⟨p, p2, xs, ys, rfl, rfl, e3 _ _ h2, h3, sz_of hz, fun z hz => q z _ (fresh_back (e2.trans e3) hz) ((e2.trans e3).trans (Ex.new hz)) upd_same⟩
theorem el_catR {xs ys : List V} {l : Addr} (ha : EvL ta σ H xs) (hb : Ev tb σ H (.ref l)) (hl : H l = some (.lst ys)) (hz : xs.length + ys.length ≤ 100000) : EvL (tOp rCat ta tb) σ H (xs ++ ys) := fun H1 e Q q =>
  ha H1 e _ fun p H2 _ e2 h2 => hb H2 (e.trans e2) _ fun H3 e3 => ⟨p, l, xs, ys, rfl, rfl, e3 _ _ h2, ((e.trans e2).trans e3) _ _ hl, sz_of hz, fun z hz => q z _ (fresh_back (e2.trans e3) hz) ((e2.trans e3).trans (Ex.new hz)) upd_same⟩
/-- [v of an item for item in a list], its items told by g -/
theorem el_lcM {α : Type} {j : Nat} {vs : List Nat} (xs : List α) (g v : α → V) (h : Ev tl σ H (.ref a)) (hx : SqL K H a (xs.map g)) (hz : xs.length ≤ 40000) (hw : ∀ x, wipe ((wipe σ vs).set j (some x)) vs = wipe σ vs)
    (he : ∀ x, x ∈ xs → ∀ H1, Ex H H1 → Ev te ((wipe σ vs).set j (some (g x))) H1 (v x)) : EvL (tLc (iList K tl) (gName j) tYes te vs) σ H (xs.map v) := by
  have q : EvL (tLc (iList K tl) (gName j) tYes te vs) σ H (given (xs.map g).length (fun _ => true) (fun i => ((xs[i]?).map v).getD .non)) :=
    el_lcL (fun _ => true) (fun i => ((xs[i]?).map v).getD .non) h hx (by rw [List.length_map]; omega) hw (fun _ _ _ _ _ => et_yes) (fun i y H1 e hy _ => by
      rw [List.getElem?_map] at hy
      cases hi : xs[i]? with
      | none =>
        rw [hi] at hy
        cases hy
      | some x =>
        rw [hi] at hy
        have ey := Option.some.inj hy
        subst ey
        exact he x (List.mem_of_getElem? hi) H1 e)
  have e : given (xs.map g).length (fun _ => true) (fun i => ((xs[i]?).map v).getD .non) = xs.map v := by
    rw [given_all, List.length_map]
    apply List.ext_getElem?
    intro i
    rw [List.getElem?_map, List.getElem?_map]
    by_cases c : i < xs.length
    · rw [List.getElem?_range c, List.getElem?_eq_getElem c]
      show some (((xs[i]?).map v).getD .non) = _
      rw [List.getElem?_eq_getElem c]
      rfl
    · rw [List.getElem?_eq_none (by rw [List.length_range]; omega), List.getElem?_eq_none (by omega)]
      rfl
  rw [e] at q
  exact q
/-- the same over a new list -/
theorem el_lcNM {α : Type} {j : Nat} {vs : List Nat} (xs : List α) (g v : α → V) (h : EvL tl σ H (xs.map g)) (hz : xs.length ≤ 40000) (hw : ∀ x, wipe ((wipe σ vs).set j (some x)) vs = wipe σ vs)
    (he : ∀ x, x ∈ xs → ∀ H1, Ex H H1 → Ev te ((wipe σ vs).set j (some (g x))) H1 (v x)) : EvL (tLc (iList K tl) (gName j) tYes te vs) σ H (xs.map v) := by
  have q : EvL (tLc (iList K tl) (gName j) tYes te vs) σ H (given (xs.map g).length (fun _ => true) (fun i => ((xs[i]?).map v).getD .non)) :=
    el_lcNL (fun _ => true) (fun i => ((xs[i]?).map v).getD .non) h (by rw [List.length_map]; omega) hw (fun _ _ _ _ _ => et_yes) (fun i y H1 e hy _ => by
      rw [List.getElem?_map] at hy
      cases hi : xs[i]? with
      | none =>
        rw [hi] at hy
        cases hy
      | some x =>
        rw [hi] at hy
        have ey := Option.some.inj hy
        subst ey
        exact he x (List.mem_of_getElem? hi) H1 e)
  have e : given (xs.map g).length (fun _ => true) (fun i => ((xs[i]?).map v).getD .non) = xs.map v := by
    rw [given_all, List.length_map]
    apply List.ext_getElem?
    intro i
    rw [List.getElem?_map, List.getElem?_map]
    by_cases c : i < xs.length
    · rw [List.getElem?_range c, List.getElem?_eq_getElem c]
      show some (((xs[i]?).map v).getD .non) = _
      rw [List.getElem?_eq_getElem c]
      rfl
    · rw [List.getElem?_eq_none (by rw [List.length_range]; omega), List.getElem?_eq_none (by omega)]
      rfl
  rw [e] at q
  exact q
/-- max of a new list -/
theorem ev_maxL {ns : List Int} {z : Int} (h : EvL tl σ H (ns.map V.int)) (h0 : 0 < ns.length) (hm : ∀ m, m ∈ ns → (∀ y, y ∈ ns → y ≤ m) → m = z) : Ev (tCB (rMax K) (tCons tl tNil)) σ H (.int z) := fun H1 e _ q =>
  h H1 e _ fun p H2 _ e2 hp => ⟨p, ns, rfl, sq_of hp, h0, fun m m1 m2 => by
    rw [hm m m1 m2]
    exact q H2 e2⟩
/-- a call whose first argument is a new tuple -/
theorem ev_callU {sp : Sp} {E : XK} {xs : List V} {v z : V} (h1 : EvU ta σ H xs) (h2 : Ev tb σ H v) (hs : ∀ p H1, Ex H H1 → H1 p = some (.tup xs) → SpV sp [.ref p, v] H1 z) : Ev (tCall sp [] E (tCons ta (tCons tb tNil))) σ H z := fun H1 e Q q =>
  h1 H1 e _ fun p H2 _ e2 hp => h2 H2 (e.trans e2) _ fun H3 e3 => hs p H3 ((e.trans e2).trans e3) (e3 _ _ hp) H3 (Ex.refl H3) Q (fun H4 e4 => q H4 ((e2.trans e3).trans e4)) E
theorem rv_isN {x : V} : RV (fun x y H Q => y = .non ∧ Q (.bl (decide (x = .non))) H) x .non H (.bl (decide (x = .non))) := fun H1 _ _ q => ⟨rfl, q H1 (Ex.refl H1)⟩
end
end NH

/-! ## 4. The defs, one by one -/
namespace NH
open PySem PySem.Spec PyProof.Rows L2 Evl
def top (i : Nat) : Stmt := PySem.Challenge.pw_newandmoving_s04_mo_ways.main.body.getD i (.Pass ⟨0, 0, 0, 0⟩)
section
variable {X : Cx} {C : Addr} {k : Nat} {x : Str} {ps : List Str} {sp : Sp} {p pos pos2 : Pos} {e : Expr} {es : List Expr} {ta : TA}
/-- a class that is made -/
def HasMk (P : Program) (w : World) (K : PySem.W.Frag) (mg : Str → Option Value) (base : Heap) (k : Nat) (x : Str) (C : Addr) (ps : List Str) (sp : Sp) : Prop :=
  ∃ f fd, Mk K C f ∧ FnOk P w K mg base CX0 k f fd ps sp ∧ mg x = some (.ref C) ∧ Binds K fd ps []
theorem pe_mk (h : HasMk X.prog X.w X.K X.mg X.base k x C ps sp) (hr : Room (k + 1) X.A) (ha : PA X (e :: es) ta) (hg : Gl X x := by rfl) (hdb : (x == ("__debug__" : Str)) = false := by decide)
    (he : starEach (e :: es) X.env = (false, eval e X.env) :: starEach es X.env := by rfl) (hpl : (backTo pos (starEach es X.env)).any (·.1) = false := by rfl) : PE X (.Call (.Name x p) (e :: es) [] pos) (tMake C sp [] E0 ta) := by
  obtain ⟨f, fd, M, F, m, b⟩ := h
  exact pe_make M F hr hg m b .nil pass0 ha hdb he hpl
/-! ### Refused -/
def spRInit (C : Addr) : Sp := fun vs H Q _ => ∃ (a : Addr) (n : Int), vs = [.ref a, .int n] ∧ H a = some (exo a C none) ∧ ∀ dx, H dx = none → dx ≠ a → Q .non (upd (upd H dx (exd dx (xF n))) a (exo a C (some dx)))
def HasR (P : Program) (w : World) (K : PySem.W.Frag) (mg : Str → Option Value) (base : Heap) (C : Addr) : Prop :=
  ∃ fI fd, PySem.W.findIn K (.ref C) "__init__" = some (some (.ref fI)) ∧ PySem.W.typeIn K (.ref fI) = some (.type "function") ∧ FnOk P w K mg base CX0 1 fI fd ["self", "number"] (spRInit C) ∧ Binds K fd ["self", "number"] []
def tRefuse (C : Addr) (ta : TA) (E : XK) : TS := fun _ σ H => tMkO C (spRInit C) [] ta σ H fun cls d H' => E cls d H'
theorem ps_refuse {E : XK} (h : HasR X.prog X.w X.K X.mg X.base C) (T : CR X.K X.mg C) (hr : Room 2 X.A) (hc : X.calm = true) (tk : Takes X (fun cls d _ H => E cls d H)) (ha : PA X (e :: es) ta) (hg : Gl X "Refused" := by rfl)
    (he : starEach (e :: es) X.env = (false, eval e X.env) :: starEach es X.env := by rfl) (hpl : (backTo pos (starEach es X.env)).any (·.1) = false := by rfl) : PS X (.Raise (some (.Call (.Name "Refused" p) (e :: es) [] pos)) none pos2) (tRefuse C ta E) := by
  obtain ⟨fI, fd, iC, tI, F, b⟩ := h
  exact ps_raise hc tk (pmk_oex T.ox iC tI F hr b .nil pass0 hg T.gC ha (by decide) he hpl)
theorem s_refuse {E : XK} {D : Ends} {σ : L2.St} {H : Hp} {n : Int} (ha : EvA ta σ H [.int n]) (k : RaiseE C n H E) : tRefuse C ta E D σ H :=
  ha H (Ex.refl H) _ fun H1 e1 => ⟨by show 1 ≤ 1000; decide, fun a na => ⟨a, n, rfl, upd_same, fun dx hdx hne => ⟨rfl, dx, xF n, upd_same, by rw [upd_ne hne, upd_same], by rw [upd_ne hne] at hdx; exact hdx,
    k dx _ (fun b o hb => by
      have h1 := e1 b o hb
      rw [upd_ne hne] at hdx
      have nb : b ≠ dx := ne_of_none h1 hdx
      have na' : b ≠ a := ne_of_none h1 na
      rw [upd_ne nb, del_ne na', upd_ne na', upd_ne nb, upd_ne na']
      exact h1) upd_same⟩⟩⟩
end
section
variable {P : Program} {w : World} {K : PySem.W.Frag} {mg : Str → Option Value} {base : Heap} {CR' : Addr}
abbrev s_rinit : Stmt := inClass (top 5) 0
theorem sc_rinit : FnScope ["self", "number"] ["self", "number"] (defScope s_rinit) := ⟨rfl, rfl, rfl, by decide +kernel, rfl, by decide +kernel, by decide +kernel⟩
theorem ok_rinit {f : Addr} {fd : FuncData} (F : Fun K "__init__" "Refused.__init__" s_rinit f fd) (T : CR K mg CR') : FnOk P w K mg base CX0 1 f fd ["self", "number"] (spRInit CR') := by
  refine F.ok sc_rinit (fun vs H Q E h => ?_) (fun cdv A outer s H vs Q E hr h => ?_)
  · obtain ⟨a, n, rfl, _⟩ := h
    rfl
  · obtain ⟨a, n, rfl, ha, k⟩ := h
    refine ⟨_, pss_one (ps_ost (pv 0) (pv 1)), ?_⟩
    exact ⟨_, rfl, _, rfl, a, CR', rfl, T.ox, T.no, .inl ⟨ha, fun dx h1 h2 => k dx h1 h2⟩⟩
/-! ### ask -/
def spAsk (C : Addr) : Sp := fun vs H Q E => ∃ (b : Bool) (n : Int), vs = [.bl b, .int n] ∧ (b = true → RetV .non H Q) ∧ (b = false → RaiseE C n H E)
abbrev s_ask : Stmt := top 6
theorem b_ask : Bn "ask" s_ask ["holds", "number"] := fun _ _ _ _ _ _ us hl => match us, hl with | [_, _], _ => rfl
theorem sc_ask : FnScope ["holds", "number"] ["holds", "number"] (defScope s_ask) := ⟨rfl, rfl, rfl, by decide +kernel, rfl, by decide +kernel, by decide +kernel⟩
theorem ok_ask (D : Df K mg "ask" s_ask ["holds", "number"]) (T : CR K mg CR') (hR : HasR P w K mg base CR') : Has P w K mg base (L2.CX P w) 3 "ask" ["holds", "number"] (spAsk CR') := Has.of D fun f fd F => by
  refine F.okX sc_ask (fun vs H Q E h => ?_) (fun cdv A outer s H vs Q E hr h => ?_)
  · obtain ⟨b, n, rfl, _⟩ := h
    rfl
  · obtain ⟨b, n, rfl, k1, k2⟩ := h
    refine ⟨_, pss_one (ps_if (pt_not (pt_val (pv 0))) (pss_one (ps_refuse hR T hr rfl (takes_of rfl rfl rfl rfl) (by exact (pa_cons (pv 1) pa_nil)))) pss_nil), ?_⟩
    refine s_when (et_not (et_B (ev_var rfl))) (fun hb H1 e1 => ?_) (fun hb H1 e1 => ?_)
    · exact s_refuse (ea_cons (ev_var rfl) ea_nil) ((k2 (by simpa using hb)).mono e1)
    · exact (k1 (by simpa using hb)).go e1
end
end NH

namespace NH
open PySem PySem.Spec PyProof.Rows L2 Evl
section
variable {K : PySem.W.Frag} {σ : L2.St} {H H' : Hp} {ta tb te tl : TE} {C : Addr} {D : Ends} {tz : TS} {E : XK}
theorem q_askA {ta : TA} {b : Bool} {n : Int} (h : EvA ta σ H [.bl b, .int n]) (k1 : b = true → ∀ H1, Ex H H1 → tz D σ H1) (k2 : b = false → RaiseE C n H E) : tSeq (tDrop (tCall (spAsk C) [] E ta)) tz D σ H :=
  h H (Ex.refl H) _ fun H1 e1 => ⟨b, n, rfl, fun hb H2 e2 => k1 hb H2 (e1.trans e2), fun hb => (k2 hb).mono e1⟩
theorem s_askA {ta : TA} {b : Bool} {n : Int} (h : EvA ta σ H [.bl b, .int n]) (k1 : b = true → ∀ H1, Ex H H1 → D.nx σ H1) (k2 : b = false → RaiseE C n H E) : tDrop (tCall (spAsk C) [] E ta) D σ H :=
  h H (Ex.refl H) _ fun H1 e1 => ⟨b, n, rfl, fun hb H2 e2 => k1 hb H2 (e1.trans e2), fun hb => (k2 hb).mono e1⟩
theorem q_ask {b : Bool} {n : Int} (ha : Ev ta σ H (.bl b)) (hb : Ev tb σ H (.int n)) (k1 : b = true → ∀ H1, Ex H H1 → tz D σ H1) (k2 : b = false → RaiseE C n H E) : tSeq (tDrop (tCall (spAsk C) [] E (tCons ta (tCons tb tNil)))) tz D σ H := q_askA (ea_cons ha (ea_cons hb ea_nil)) k1 k2
theorem s_ask' {b : Bool} {n : Int} (ha : Ev ta σ H (.bl b)) (hb : Ev tb σ H (.int n)) (k1 : b = true → ∀ H1, Ex H H1 → D.nx σ H1) (k2 : b = false → RaiseE C n H E) : tDrop (tCall (spAsk C) [] E (tCons ta (tCons tb tNil))) D σ H := s_askA (ea_cons ha (ea_cons hb ea_nil)) k1 k2
end
end NH

namespace NH
open PySem PySem.Spec PyProof.Rows L2 Evl
section
variable {P : Program} {w : World} {K : PySem.W.Frag} {mg : Str → Option Value} {base : Heap}
/-! ### signed -/
def spSigned : Sp := fun vs H Q _ => ∃ (n : Nat), vs = [vN n] ∧ RetV (.int (Sh72.signed32 n)) H Q
theorem sv_signed {n : Nat} {H : Hp} : SpV spSigned [vN n] H (.int (Sh72.signed32 n)) := fun _ _ _ k _ => ⟨n, rfl, k⟩
abbrev s_signed : Stmt := top 7
theorem b_signed : Bn "signed" s_signed ["word"] := fun _ _ _ _ _ _ us hl => match us, hl with | [_], _ => rfl
theorem sc_signed : FnScope ["word"] ["word"] (defScope s_signed) := ⟨rfl, rfl, rfl, by decide +kernel, rfl, by decide +kernel, by decide +kernel⟩
theorem ok_signed (D : Df K mg "signed" s_signed ["word"]) (g1 : GI mg "HALF_WORD" 2147483648) (g2 : GI mg "WORD" 4294967296) : Has P w K mg base CX0 1 "signed" ["word"] spSigned := Has.of D fun f fd F => by
  refine F.ok sc_signed (fun vs H Q E h => ?_) (fun cdv A outer s H vs Q E hr h => ?_)
  · obtain ⟨n, rfl, _⟩ := h
    rfl
  · obtain ⟨n, rfl, k⟩ := h
    refine ⟨_, pss_cons (ps_if (pt_cmpR op_ge (pv 0) (pe_gi g1) (nomark _)) (pss_one (ps_ret (pe_op op_sub (pv 0) (pe_gi g2)))) pss_nil) (pss_one (ps_ret (pv 0))), ?_⟩
    refine q_when (et_test (ev_I0 (ev_v rfl) ev_c)) (fun hb H1 e1 => ?_) (fun hb H1 e1 => ?_)
    · have hn : ¬ n < 2147483648 := by
        have := of_decide_eq_true hb
        omega
      have e : Sh72.signed32 n = (n : Int) - 4294967296 := by
        unfold Sh72.signed32
        rw [if_neg hn]
      refine s_ret (ev_I0 (ev_v rfl) ev_c) fun H2 e2 => ?_
      have q := k.go (e1.trans e2)
      rw [e] at q
      exact q
    · have hn : n < 2147483648 := by
        have := of_decide_eq_false hb
        omega
      have e : Sh72.signed32 n = (n : Int) := by
        unfold Sh72.signed32
        rw [if_pos hn]
      refine s_ret (ev_var rfl) fun H2 e2 => ?_
      have q := k.go (e1.trans e2)
      rw [e] at q
      exact q
end
end NH

namespace NH
open PySem PySem.Spec PyProof.Rows L2 Evl
section
variable {P : Program} {w : World} {K : PySem.W.Frag} {mg : Str → Option Value} {base : Heap} {C : Addr}
/-! ### Point -/
def spPInit (C : Addr) : Sp := fun vs H Q _ => ∃ (x dx : Addr) (p : Sh72.Point), vs = [.ref x, .int p.t, .int p.x, .int p.y, .int p.mag] ∧ H x = some (.ins C dx []) ∧ ∀ H' : Hp, H' x = some (.ins C dx (ptF p)) → (∀ b o, H b = some o → b ≠ x → H' b = some o) → Q .non H'
abbrev s_pinit : Stmt := inClass (top 15) 0
theorem sc_pinit : FnScope ["self", "t", "x", "y", "light"] ["self", "t", "x", "y", "light"] (defScope s_pinit) := ⟨rfl, rfl, rfl, by decide +kernel, rfl, by decide +kernel, by decide +kernel⟩
theorem ok_pinit {f : Addr} {fd : FuncData} (F : Fun K "__init__" "Point.__init__" s_pinit f fd) (T : CP K C) : FnOk P w K mg base CX0 1 f fd ["self", "t", "x", "y", "light"] (spPInit C) := by
  refine F.ok sc_pinit (fun vs H Q E h => ?_) (fun cdv A outer s H vs Q E hr h => ?_)
  · obtain ⟨x, dx, p, rfl, _⟩ := h
    rfl
  · obtain ⟨x, dx, p, rfl, hx, k⟩ := h
    refine ⟨_, pss_cons (ps_fld (pv 0) (pv 1) rfl) (pss_cons (ps_fld (pv 0) (pv 2) rfl) (pss_cons (ps_fld (pv 0) (pv 3) rfl) (pss_one (ps_fld (pv 0) (pv 4) rfl)))), ?_⟩
    refine ⟨_, rfl, _, rfl, x, C, dx, [], rfl, hx, T.cl, T.t, (by show 0 < 1000; decide), ?_⟩
    refine ⟨_, rfl, _, rfl, x, C, dx, _, rfl, upd_same, T.cl, T.x, (by show 1 < 1000; decide), ?_⟩
    refine ⟨_, rfl, _, rfl, x, C, dx, _, rfl, upd_same, T.cl, T.y, (by have := length_putF "x" (V.int p.x) (putF "t" (V.int p.t) []); have := length_putF "t" (V.int p.t) []; have e0 : ([] : List (Str × V)).length = 0 := rfl; omega), ?_⟩
    refine ⟨_, rfl, _, rfl, x, C, dx, _, rfl, upd_same, T.cl, T.l, (by have := length_putF "y" (V.int p.y) (putF "x" (V.int p.x) (putF "t" (V.int p.t) [])); have := length_putF "x" (V.int p.x) (putF "t" (V.int p.t) []); have := length_putF "t" (V.int p.t) []; have e0 : ([] : List (Str × V)).length = 0 := rfl; omega), ?_⟩
    exact k _ (Eq.trans upd_same (congrArg (fun q => some (HO.ins C dx q)) (ptF_new p))) fun b o e hb => by
      rw [upd_ne hb, upd_ne hb, upd_ne hb, upd_ne hb]
      exact e
theorem ex_point {σ : L2.St} {H : Hp} {ta : TA} {p : Sh72.Point} (h : EvA ta σ H [.int p.t, .int p.x, .int p.y, .int p.mag]) : EvX (tMake C (spPInit C) [] E0 ta) σ H (fun v H2 => ∃ a, v = .ref a ∧ PtAt C H2 a p) := fun H1 e Q q =>
  h H1 e _ fun H2 e2 x dx nx nd ne => ⟨x, dx, p, rfl, upd_same, fun H3 h3 keep => ⟨rfl, q (.ref x) H3 (fun b o hb => by
    have h2 := e2 b o hb
    have nb : b ≠ x := ne_of_none h2 nx
    exact keep b o (by rw [upd_ne nb, upd_ne (ne_of_none h2 nd)]; exact h2) nb) ⟨x, rfl, dx, h3⟩⟩⟩
end
end NH

namespace NH
open PySem PySem.Spec PyProof.Rows L2 Evl
section
variable {P : Program} {w : World} {K : PySem.W.Frag} {mg : Str → Option Value} {base : Heap} {C CR' : Addr}
/-! ### point_at -/
def spPointAt (K : PySem.W.Frag) (C : Addr) : Sp := fun vs H Q _ => ∃ (a : Addr) (ns : List Nat) (i : Nat), vs = [.ref a, .int (4 * (i : Int))] ∧ WordsAt K H a ns ∧ i < ns.length / 4 ∧ ∀ v H2, Ex H H2 → (∃ x, v = .ref x ∧ PtAt C H2 x (Sh72.at_ (Sh72.points ns) i)) → Q v H2
theorem sx_pointAt {H : Hp} {a : Addr} {ns : List Nat} {i : Nat} (h : WordsAt K H a ns) (hi : i < ns.length / 4) : SpX (spPointAt K C) [.ref a, .int (4 * (i : Int))] H (fun v H2 => ∃ x, v = .ref x ∧ PtAt C H2 x (Sh72.at_ (Sh72.points ns) i)) :=
  fun _ e _ k _ => ⟨a, ns, i, rfl, h.mono e, hi, k⟩
abbrev s_point_at : Stmt := top 17
theorem b_point_at : Bn "point_at" s_point_at ["words", "at"] := fun _ _ _ _ _ _ us hl => match us, hl with | [_, _], _ => rfl
theorem sc_point_at : FnScope ["words", "at"] ["words", "at"] (defScope s_point_at) := ⟨rfl, rfl, rfl, by decide +kernel, rfl, by decide +kernel, by decide +kernel⟩
theorem ok_point_at (D : Df K mg "point_at" s_point_at ["words", "at"]) (hS : Has P w K mg base CX0 1 "signed" ["word"] spSigned) (hP : HasMk P w K mg base 1 "Point" C ["self", "t", "x", "y", "light"] (spPInit C)) :
    Has P w K mg base CX0 3 "point_at" ["words", "at"] (spPointAt K C) := Has.of D fun f fd F => by
  refine F.ok sc_point_at (fun vs H Q E h => ?_) (fun cdv A outer s H vs Q E hr h => ?_)
  · obtain ⟨a, ns, i, rfl, _⟩ := h
    rfl
  · obtain ⟨a, ns, i, rfl, hW, hi, k⟩ := h
    have hr1 : Room 1 _ := hr.mono (by decide)
    refine ⟨_, pss_one (ps_ret (pe_mk hP hr (pa_cons (pe_has hS hr1 pass0 (pa_cons (pe_ix ix_list (pv 0) (pv 1) (fun _ _ => rfl)) pa_nil))
      (pa_cons (pe_has hS hr1 pass0 (pa_cons (pe_ix ix_list (pv 0) (pe_op op_add (pv 1) pe_int) (fun _ _ => rfl)) pa_nil))
      (pa_cons (pe_has hS hr1 pass0 (pa_cons (pe_ix ix_list (pv 0) (pe_op op_add (pv 1) pe_int) (fun _ _ => rfl)) pa_nil))
      (pa_cons (pe_has hS hr1 pass0 (pa_cons (pe_ix ix_list (pv 0) (pe_op op_add (pv 1) pe_int) (fun _ _ => rfl)) pa_nil)) pa_nil)))))), ?_⟩
    have l0 : 4 * i < ns.length := by omega
    have l1 : 4 * i + 1 < ns.length := by omega
    have l2 : 4 * i + 2 < ns.length := by omega
    have l3 : 4 * i + 3 < ns.length := by omega
    have c0 : (4 * (i : Int)) = ((4 * i : Nat) : Int) := by omega
    have c1 : (4 * (i : Int)) + 1 = ((4 * i + 1 : Nat) : Int) := by omega
    have c2 : (4 * (i : Int)) + 2 = ((4 * i + 2 : Nat) : Int) := by omega
    have c3 : (4 * (i : Int)) + 3 = ((4 * i + 3 : Nat) : Int) := by omega
    have ep := NM.at_points hi
    refine s_retX (ex_point (p := Sh72.at_ (Sh72.points ns) i) ?_) k
    rw [ep]
    refine ea_cons (ev_call (ea_cons (ev_word hW (ev_var rfl) ?_ l0) ea_nil) sv_signed) (ea_cons (ev_call (ea_cons (ev_word hW (ev_var rfl) ?_ l1) ea_nil) sv_signed) (ea_cons (ev_call (ea_cons (ev_word hW (ev_var rfl) ?_ l2) ea_nil) sv_signed) (ea_cons (ev_call (ea_cons (ev_word hW (ev_var rfl) ?_ l3) ea_nil) sv_signed) ea_nil)))
    · rw [← c0]
      exact ev_v rfl
    · rw [← c1]
      exact ev_I0 (g := fun i j => .int (i + j)) (ev_v rfl) ev_c
    · rw [← c2]
      exact ev_I0 (g := fun i j => .int (i + j)) (ev_v rfl) ev_c
    · rw [← c3]
      exact ev_I0 (g := fun i j => .int (i + j)) (ev_v rfl) ev_c
/-! ### is_point -/
def spIsPoint (C : Addr) : Sp := fun vs H Q _ => ∃ (a : Addr) (p : Sh72.Point), vs = [.ref a] ∧ PtAt C H a p ∧ RetV (.bl (Sh72.fine p)) H Q
theorem sv_isPoint {H : Hp} {a : Addr} {p : Sh72.Point} (h : PtAt C H a p) : SpV (spIsPoint C) [.ref a] H (.bl (Sh72.fine p)) := fun _ e _ k _ => ⟨a, p, rfl, h.mono e, k⟩
abbrev s_is_point : Stmt := top 18
theorem b_is_point : Bn "is_point" s_is_point ["point"] := fun _ _ _ _ _ _ us hl => match us, hl with | [_], _ => rfl
theorem sc_is_point : FnScope ["point"] ["point"] (defScope s_is_point) := ⟨rfl, rfl, rfl, by decide +kernel, rfl, by decide +kernel, by decide +kernel⟩
theorem fine_no {p : Sh72.Point} (h : ¬ NM.Bd p) : Sh72.fine p = false := by
  cases q : Sh72.fine p with
  | false => rfl
  | true => exact absurd ((NM.fine_iff p).mp q) h
theorem ok_is_point (D : Df K mg "is_point" s_is_point ["point"]) (T : CP K C) (g1 : GI mg "LAST_TIME" 65535) (g2 : GI mg "EDGE" 32768) (g3 : GI mg "MOST_LIGHT" 65536) (za : mg "abs" = none) : Has P w K mg base CX0 1 "is_point" ["point"] (spIsPoint C) := Has.of D fun f fd F => by
  refine F.ok sc_is_point (fun vs H Q E h => ?_) (fun cdv A outer s H vs Q E hr h => ?_)
  · obtain ⟨a, p, rfl, _⟩ := h
    rfl
  · obtain ⟨a, p, rfl, hp, k⟩ := h
    refine ⟨_, pss_cons (ps_if (PW.pt (pw_or (pt_cmpR op_lt (pe_fld (pv 0) rfl) pe_int (nomark _)) (pw_or1 (pt_cmpR op_gt (pe_fld (pv 0) rfl) (pe_gi g1) (nomark _))))) (pss_one (ps_ret pe_bl)) pss_nil)
      (pss_cons (ps_if (PW.pt (pw_or (pt_cmpR op_gt (pe_callB call_abs (by rfl) za (by decide +kernel) (pa_cons (pe_fld (pv 0) rfl) pa_nil)) (pe_gi g2) (nomark _)) (pw_or1 (pt_cmpR op_gt (pe_callB call_abs (by rfl) za (by decide +kernel) (pa_cons (pe_fld (pv 0) rfl) pa_nil)) (pe_gi g2) (nomark _))))) (pss_one (ps_ret pe_bl)) pss_nil)
      (pss_one (ps_ret (pe_cmpR op_le (pe_callB call_abs (by rfl) za (by decide +kernel) (pa_cons (pe_fld (pv 0) rfl) pa_nil)) (pe_gi g3) (nomark _))))), ?_⟩
    refine q_when (et_or (et_test (ev_I0 (ev_t T hp (ev_var rfl)) ev_c)) fun _ => et_test (ev_I0 (ev_t T hp (ev_var rfl)) ev_c)) (fun hb H1 e1 => ?_) (fun hb H1 e1 => ?_)
    · simp only [Bool.or_eq_true, decide_eq_true_eq] at hb
      refine s_ret ev_c fun H2 e2 => ?_
      have q := k.go (e1.trans e2)
      rw [fine_no (fun b => by have := b.t0; have := b.t1; omega)] at q
      exact q
    · simp only [Bool.or_eq_false_iff, decide_eq_false_iff_not] at hb
      have hp1 := hp.mono e1
      refine q_when (et_or (et_test (ev_I0 (ev_abs (ev_x T hp1 (ev_var rfl))) ev_c)) fun _ => et_test (ev_I0 (ev_abs (ev_y T hp1 (ev_var rfl))) ev_c)) (fun hc H2 e2 => ?_) (fun hc H2 e2 => ?_)
      · simp only [Bool.or_eq_true, decide_eq_true_eq] at hc
        refine s_ret ev_c fun H3 e3 => ?_
        have q := k.go ((e1.trans e2).trans e3)
        rw [fine_no (fun b => by have := b.x0; have := b.x1; have := b.y0; have := b.y1; omega)] at q
        exact q
      · simp only [Bool.or_eq_false_iff, decide_eq_false_iff_not] at hc
        refine s_ret (ev_I0 (ev_abs (ev_l T (hp1.mono e2) (ev_var rfl))) ev_c) fun H3 e3 => ?_
        have q := k.go ((e1.trans e2).trans e3)
        have e : Sh72.fine p = decide (((p.mag.natAbs : Nat) : Int) ≤ 65536) := by
          by_cases c : ((p.mag.natAbs : Nat) : Int) ≤ 65536
          · rw [decide_eq_true c]
            exact (NM.fine_iff p).mpr ⟨by omega, by omega, by omega, by omega, by omega, by omega, by omega, by omega⟩
          · rw [decide_eq_false c]
            exact fine_no (fun b => by have := b.m0; have := b.m1; omega)
        rw [e] at q
        exact q
/-! ### read_points -/
def spRead (K : PySem.W.Frag) (C CR' : Addr) : Sp := fun vs H Q E => ∃ (a : Addr) (ns : List Nat), vs = [.ref a] ∧ WordsAt K H a ns ∧ ns.length ≤ 1100 ∧
  (Sh72.fines (Sh72.points ns) = true → ∀ v H2, Ex H H2 → (∃ p, v = .ref p ∧ PtsAt C H2 p (Sh72.points ns)) → Q v H2) ∧ (Sh72.fines (Sh72.points ns) = false → RaiseE CR' (-3) H E)
abbrev s_read : Stmt := top 19
abbrev n_read : List Str := ["words", "found", "k", "point"]
theorem b_read : Bn "read_points" s_read ["words"] := fun _ _ _ _ _ _ us hl => match us, hl with | [_], _ => rfl
theorem sc_read : FnScope n_read ["words"] (defScope s_read) := ⟨rfl, rfl, rfl, by decide +kernel, rfl, by decide +kernel, by decide +kernel⟩
theorem ok_read (D : Df K mg "read_points" s_read ["words"]) (hPA : Has P w K mg base CX0 3 "point_at" ["words", "at"] (spPointAt K C)) (hIP : Has P w K mg base CX0 1 "is_point" ["point"] (spIsPoint C)) (hA : Has P w K mg base (L2.CX P w) 3 "ask" ["holds", "number"] (spAsk CR'))
    (g1 : GI mg "POINT_WORDS" 4) (g2 : GI mg "NOT_AS_TOLD" (-3)) (zl : mg "len" = none) (zr : mg "range" = none) (za : mg "all" = none) : Has P w K mg base (L2.CX P w) 4 "read_points" ["words"] (spRead K C CR') := Has.of D fun f fd F => by
  refine F.okX sc_read (fun vs H Q E h => ?_) (fun cdv A outer s H vs Q E hr h => ?_)
  · obtain ⟨a, ns, rfl, _⟩ := h
    rfl
  · obtain ⟨a, ns, rfl, hW, hn, k1, k2⟩ := h
    have hr1 : Room 1 _ := hr.mono (by decide)
    refine ⟨_, pss_cons (ps_setLc (i := 1) (own := [("k", 2)]) (g := gName 2) (tt := tYes) rfl sc_read.nd rfl rfl (sw_true rfl rfl rfl (by decide +kernel))
        (pi_range1 rfl zr (pa_cons (pe_op op_fdiv (pe_callB call_len_seq (by rfl) zl PySem.boot_len (pa_cons (pv 0) pa_nil)) (pe_gi g1)) pa_nil))
        (blkOk_by (N := n_read) (sc := defScope s_read) (by decide +kernel)) (fun _ _ _ _ _ => pg_name (i := 2) sc_read.nd rfl (Or.inl rfl)) (fun _ _ _ _ _ => pts_nil)
        (fun _ _ _ _ _ => by exact (pe_has hPA hr pass0 (pa_cons (pv 0) (pa_cons (pe_op op_mul (pe_gi g1) (pv 2)) pa_nil)))))
      (pss_cons (ps_expr (pe_has hA hr (passes_call (takes_of rfl rfl rfl rfl) fun _ _ _ _ h => h)
        (pa_cons (pe_callB (cr_all rfl) (by rfl) za (by decide +kernel) (pa_cons
          (pe_lc (own := [("point", 3)]) (g := gName 3) (tt := tYes) rfl sc_read.nd (pi_list (pv 1)) (blkOk_by (N := n_read) (sc := defScope s_read) (by decide +kernel)) (fun _ _ _ _ _ => pg_name (i := 3) sc_read.nd rfl (Or.inl rfl)) (fun _ _ _ _ _ => pts_nil)
            (fun _ _ _ _ _ => by exact (pe_has hIP hr1 pass0 (pa_cons (pv 3) pa_nil)))) pa_nil)) (pa_cons (pe_gi g2) pa_nil))))
      (pss_one (ps_ret (pv 1)))), ?_⟩
    have epl : (Sh72.points ns).length = ns.length / 4 := NM.points_length ns
    have hlen : ((ns.length : Nat) : Int) / 4 = (((Sh72.points ns).length : Nat) : Int) := by omega
    refine q_asgX (ex_lcP (C := C) (ps := Sh72.points ns) (ea_cons ?_ ea_nil) (by omega) (fun x => rfl) (fun i H1 e1 hi => ?_)) (fun v H1 e1 hv => ?_)
    · rw [← hlen]
      exact ev_I (g := fun i j => .int (i / j)) ⟨by decide, by decide⟩ (ev_wlen hW (ev_var rfl)) ev_c
    · exact ex_call (ea_cons (ev_var rfl) (ea_cons (ev_I (g := fun i j => .int (i * j)) (.inl ⟨by decide, by decide⟩) ev_c (ev_v rfl)) ea_nil)) (sx_pointAt (hW.mono e1) (by omega))
    · obtain ⟨l, rfl, hl⟩ := hv
      refine q_ask (ev_all (bs := (Sh72.points ns).map Sh72.fine) ?_) ev_c (fun hb H2 e2 => ?_) (fun hb => ?_)
      · rw [List.map_map]
        exact el_lcPts (fun p => .bl (Sh72.fine p)) hl (ev_var rfl) (by omega) (fun x => rfl) (fun i a H2 e2 hi hp => ev_call (ea_cons (ev_var rfl) ea_nil) (sv_isPoint hp))
      · refine s_ret (ev_var rfl) fun H3 e3 => k1 ?_ _ H3 ((e1.trans e2).trans e3) ⟨l, rfl, (hl.mono e2).mono e3⟩
        rw [List.all_map] at hb
        exact hb
      · refine (k2 ?_).mono e1
        rw [List.all_map] at hb
        exact hb
end
end NH

namespace NH
open PySem PySem.Spec PyProof.Rows L2 Evl
section
variable {P : Program} {w : World} {K : PySem.W.Frag} {mg : Str → Option Value} {base : Heap} {C CR' : Addr}
/-! ### ask_many -/
def spAskMany (K : PySem.W.Frag) (CR' : Addr) : Sp := fun vs H Q E => ∃ (a : Addr) (ns : List Nat) (m : Nat), vs = [.ref a, vN m] ∧ WordsAt K H a ns ∧ (ns.length / 4 ≤ m → RetV .non H Q) ∧ (¬ ns.length / 4 ≤ m → RaiseE CR' (-2) H E)
abbrev s_ask_many : Stmt := top 16
theorem b_ask_many : Bn "ask_many" s_ask_many ["words", "most"] := fun _ _ _ _ _ _ us hl => match us, hl with | [_, _], _ => rfl
theorem sc_ask_many : FnScope ["words", "most"] ["words", "most"] (defScope s_ask_many) := ⟨rfl, rfl, rfl, by decide +kernel, rfl, by decide +kernel, by decide +kernel⟩
theorem ok_ask_many (D : Df K mg "ask_many" s_ask_many ["words", "most"]) (hA : Has P w K mg base (L2.CX P w) 3 "ask" ["holds", "number"] (spAsk CR')) (g1 : GI mg "POINT_WORDS" 4) (g2 : GI mg "OUT_OF_RANGE" (-2)) (zl : mg "len" = none) : Has P w K mg base (L2.CX P w) 4 "ask_many" ["words", "most"] (spAskMany K CR') := Has.of D fun f fd F => by
  refine F.okX sc_ask_many (fun vs H Q E h => ?_) (fun cdv A outer s H vs Q E hr h => ?_)
  · obtain ⟨a, ns, m, rfl, _⟩ := h
    rfl
  · obtain ⟨a, ns, m, rfl, hW, k1, k2⟩ := h
    refine ⟨_, pss_one (ps_expr (pe_has hA hr (passes_call (takes_of rfl rfl rfl rfl) fun _ _ _ _ h => h)
      (pa_cons (pe_cmpR op_le (pe_op op_fdiv (pe_callB call_len_seq (by rfl) zl PySem.boot_len (pa_cons (pv 0) pa_nil)) (pe_gi g1)) (pv 1) (nomark _)) (pa_cons (pe_gi g2) pa_nil)))), ?_⟩
    refine s_ask' (ev_I0 (g := fun i j => .bl (decide (i ≤ j))) (ev_I (g := fun i j => .int (i / j)) ⟨by decide, by decide⟩ (ev_wlen hW (ev_var rfl)) ev_c) (ev_v rfl)) ev_c (fun hb H1 e1 => ?_) (fun hb => ?_)
    · have := of_decide_eq_true hb
      exact (k1 (by omega)).go e1
    · have := of_decide_eq_false hb
      exact k2 (by omega)
section
variable {σ : L2.St} {H H' : Hp} {ta tb te tl : TE} {D : Ends} {tz : TS} {E : XK}
theorem q_askMany {ta : TA} {a : Addr} {ns : List Nat} {m : Nat} (h : EvA ta σ H [.ref a, vN m]) (hW : WordsAt K H a ns) (k1 : ns.length / 4 ≤ m → ∀ H1, Ex H H1 → tz D σ H1) (k2 : ¬ ns.length / 4 ≤ m → RaiseE CR' (-2) H E) : tSeq (tDrop (tCall (spAskMany K CR') [] E ta)) tz D σ H :=
  h H (Ex.refl H) _ fun H1 e1 => ⟨a, ns, m, rfl, hW.mono e1, fun hb H2 e2 => k1 hb H2 (e1.trans e2), fun hb => (k2 hb).mono e1⟩
end
end
end NH

namespace NH
open PySem PySem.Spec PyProof.Rows L2 Evl
section
variable {P : Program} {w : World} {K : PySem.W.Frag} {mg : Str → Option Value} {base : Heap}
/-! ### squared, mo_chance1 -/
def spSquared : Sp := fun vs H Q _ => ∃ (z : Int), vs = [.int z] ∧ z.natAbs < 2 ^ 200 ∧ RetV (.int (z * z)) H Q
theorem sv_squared {z : Int} {H : Hp} (h : z.natAbs < 2 ^ 200) : SpV spSquared [.int z] H (.int (z * z)) := fun _ _ _ k _ => ⟨z, rfl, h, k⟩
abbrev s_squared : Stmt := top 20
theorem b_squared : Bn "squared" s_squared ["number"] := fun _ _ _ _ _ _ us hl => match us, hl with | [_], _ => rfl
theorem sc_squared : FnScope ["number"] ["number"] (defScope s_squared) := ⟨rfl, rfl, rfl, by decide +kernel, rfl, by decide +kernel, by decide +kernel⟩
theorem ok_squared (D : Df K mg "squared" s_squared ["number"]) : Has P w K mg base CX0 1 "squared" ["number"] spSquared := Has.of D fun f fd F => by
  refine F.ok sc_squared (fun vs H Q E h => ?_) (fun cdv A outer s H vs Q E hr h => ?_)
  · obtain ⟨z, rfl, _⟩ := h
    rfl
  · obtain ⟨z, rfl, hz, k⟩ := h
    refine ⟨_, pss_one (ps_ret (pe_op op_mulW (pv 0) (pv 0))), ?_⟩
    exact s_ret (ev_I (g := fun i j => .int (i * j)) (wide_mul hz hz (by decide) (by decide) (by decide)) (ev_v rfl) (ev_v rfl)) fun H1 e1 => k.go e1
end
end NH

namespace NH
open PySem PySem.Spec PyProof.Rows L2 Evl
section
variable {P : Program} {w : World} {K : PySem.W.Frag} {mg : Str → Option Value} {base : Heap} {C CR' : Addr}
/-! ### far -/
def spFar (C : Addr) : Sp := fun vs H Q _ => ∃ (a b : Addr) (p q : Sh72.Point), vs = [.ref a, .ref b] ∧ PtAt C H a p ∧ PtAt C H b q ∧ NM.Bd p ∧ NM.Bd q ∧ RetV (vN (Sh72.dist2 p q)) H Q
theorem sv_far {H : Hp} {a b : Addr} {p q : Sh72.Point} (h1 : PtAt C H a p) (h2 : PtAt C H b q) (h3 : NM.Bd p) (h4 : NM.Bd q) : SpV (spFar C) [.ref a, .ref b] H (vN (Sh72.dist2 p q)) := fun _ e _ k _ => ⟨a, b, p, q, rfl, h1.mono e, h2.mono e, h3, h4, k⟩
abbrev s_far : Stmt := top 21
theorem b_far : Bn "far" s_far ["one", "other"] := fun _ _ _ _ _ _ us hl => match us, hl with | [_, _], _ => rfl
theorem sc_far : FnScope ["one", "other"] ["one", "other"] (defScope s_far) := ⟨rfl, rfl, rfl, by decide +kernel, rfl, by decide +kernel, by decide +kernel⟩
theorem ok_far (D : Df K mg "far" s_far ["one", "other"]) (T : CP K C) (hS : Has P w K mg base CX0 1 "squared" ["number"] spSquared) : Has P w K mg base CX0 2 "far" ["one", "other"] (spFar C) := Has.of D fun f fd F => by
  refine F.ok sc_far (fun vs H Q E h => ?_) (fun cdv A outer s H vs Q E hr h => ?_)
  · obtain ⟨a, b, p, q, rfl, _⟩ := h
    rfl
  · obtain ⟨a, b, p, q, rfl, hp, hq, bp, bq, k⟩ := h
    refine ⟨_, pss_one (ps_ret (pe_op op_add (pe_has hS hr pass0 (pa_cons (pe_op op_sub (pe_fld (pv 0) rfl) (pe_fld (pv 1) rfl)) pa_nil)) (pe_has hS hr pass0 (pa_cons (pe_op op_sub (pe_fld (pv 0) rfl) (pe_fld (pv 1) rfl)) pa_nil)))), ?_⟩
    have hx : (p.x - q.x).natAbs < 2 ^ 200 := NM.bd_up (i := 20) (by have := bp.x0; have := bp.x1; have := bq.x0; have := bq.x1; omega) (by decide)
    have hy : (p.y - q.y).natAbs < 2 ^ 200 := NM.bd_up (i := 20) (by have := bp.y0; have := bp.y1; have := bq.y0; have := bq.y1; omega) (by decide)
    refine s_ret (ev_I0 (g := fun i j => .int (i + j)) (ev_call (ea_cons (ev_I0 (g := fun i j => .int (i - j)) (ev_x T hp (ev_var rfl)) (ev_x T hq (ev_var rfl))) ea_nil) (sv_squared hx)) (ev_call (ea_cons (ev_I0 (g := fun i j => .int (i - j)) (ev_y T hp (ev_var rfl)) (ev_y T hq (ev_var rfl))) ea_nil) (sv_squared hy))) fun H1 e1 => ?_
    have z := k.go e1
    rw [show vN (Sh72.dist2 p q) = V.int _ from congrArg V.int (NM.dist2_cast p q)] at z
    exact z
end
end NH

namespace NH
open PySem PySem.Spec PyProof.Rows L2 Evl
section
variable {P : Program} {w : World} {K : PySem.W.Frag} {mg : Str → Option Value} {base : Heap}
/-! ### rounded -/
def spRounded : Sp := fun vs H Q _ => ∃ (a b : Int), vs = [.int a, .int b] ∧ 0 < b ∧ a.natAbs < 2 ^ 200 ∧ b.natAbs < 2 ^ 200 ∧ RetV (.int (Sh72.near a b)) H Q
theorem sv_rounded {a b : Int} {H : Hp} (hb : 0 < b) (h1 : a.natAbs < 2 ^ 200) (h2 : b.natAbs < 2 ^ 200) : SpV spRounded [.int a, .int b] H (.int (Sh72.near a b)) := fun _ _ _ k _ => ⟨a, b, rfl, hb, h1, h2, k⟩
abbrev s_rounded : Stmt := top 8
theorem b_rounded : Bn "rounded" s_rounded ["above", "below"] := fun _ _ _ _ _ _ us hl => match us, hl with | [_, _], _ => rfl
theorem sc_rounded : FnScope ["above", "below"] ["above", "below"] (defScope s_rounded) := ⟨rfl, rfl, rfl, by decide +kernel, rfl, by decide +kernel, by decide +kernel⟩
theorem ok_rounded (D : Df K mg "rounded" s_rounded ["above", "below"]) : Has P w K mg base CX0 1 "rounded" ["above", "below"] spRounded := Has.of D fun f fd F => by
  refine F.ok sc_rounded (fun vs H Q E h => ?_) (fun cdv A outer s H vs Q E hr h => ?_)
  · obtain ⟨a, b, rfl, _⟩ := h
    rfl
  · obtain ⟨a, b, rfl, hb, h1, h2, k⟩ := h
    refine ⟨_, pss_one (ps_ret (pe_op op_fdivW (pe_op op_add (pe_op op_mul pe_int (pv 0)) (pv 1)) (pe_op op_mul pe_int (pv 1)))), ?_⟩
    have two : CMul 2 a := .inl ⟨by decide, by decide⟩
    have two' : CMul 2 b := .inl ⟨by decide, by decide⟩
    refine s_ret (ev_I (g := fun i j => .int (i / j)) (wide_div (b := 202) (by omega) (NM.bd_mul (i := 2) (by decide) h2) (by decide) (by decide)) (ev_I0 (g := fun i j => .int (i + j)) (ev_I (g := fun i j => .int (i * j)) two ev_c (ev_v rfl)) (ev_v rfl)) (ev_I (g := fun i j => .int (i * j)) two' ev_c (ev_v rfl))) fun H1 e1 => k.go e1
end
end NH

namespace NH
open PySem PySem.Spec PyProof.Rows L2 Evl
section
variable {P : Program} {w : World} {K : PySem.W.Frag} {mg : Str → Option Value} {base : Heap} {C CR' : Addr}
/-! ### off -/
def spOff (K : PySem.W.Frag) (C : Addr) : Sp := fun vs H Q _ => ∃ (a b : Addr) (u v : Int) (p : Sh72.Point), vs = [.ref a, .ref b] ∧ SqT K H a [.int u, .int v] ∧ PtAt C H b p ∧ NM.Bd p ∧ u.natAbs < 2 ^ 100 ∧ v.natAbs < 2 ^ 100 ∧ RetV (vN (Sh72.miss2 (u, v) p)) H Q
theorem sv_off {H : Hp} {a b : Addr} {u v : Int} {p : Sh72.Point} (h1 : SqT K H a [.int u, .int v]) (h2 : PtAt C H b p) (h3 : NM.Bd p) (h4 : u.natAbs < 2 ^ 100) (h5 : v.natAbs < 2 ^ 100) : SpV (spOff K C) [.ref a, .ref b] H (vN (Sh72.miss2 (u, v) p)) := fun _ e _ k _ => ⟨a, b, u, v, p, rfl, ex_t e h1, h2.mono e, h3, h4, h5, k⟩
abbrev s_off : Stmt := top 22
theorem b_off : Bn "off" s_off ["place", "point"] := fun _ _ _ _ _ _ us hl => match us, hl with | [_, _], _ => rfl
theorem sc_off : FnScope ["place", "point"] ["place", "point"] (defScope s_off) := ⟨rfl, rfl, rfl, by decide +kernel, rfl, by decide +kernel, by decide +kernel⟩
theorem ok_off (D : Df K mg "off" s_off ["place", "point"]) (T : CP K C) (hS : Has P w K mg base CX0 1 "squared" ["number"] spSquared) (g : GI mg "PARTS" 256) : Has P w K mg base CX0 2 "off" ["place", "point"] (spOff K C) := Has.of D fun f fd F => by
  refine F.ok sc_off (fun vs H Q E h => ?_) (fun cdv A outer s H vs Q E hr h => ?_)
  · obtain ⟨a, b, u, v, p, rfl, _⟩ := h
    rfl
  · obtain ⟨a, b, u, v, p, rfl, ht, hp, bp, hu, hv, k⟩ := h
    refine ⟨_, pss_one (ps_ret (pe_op op_add (pe_has hS hr pass0 (pa_cons (pe_op op_sub (pe_ix ix_tup (pv 0) pe_int (fun _ _ => rfl)) (pe_op op_mul (pe_gi g) (pe_fld (pv 1) rfl))) pa_nil)) (pe_has hS hr pass0 (pa_cons (pe_op op_sub (pe_ix ix_tup (pv 0) pe_int (fun _ _ => rfl)) (pe_op op_mul (pe_gi g) (pe_fld (pv 1) rfl))) pa_nil)))), ?_⟩
    have cx : CMul 256 p.x := .inl ⟨by decide, by decide⟩
    have cy : CMul 256 p.y := .inl ⟨by decide, by decide⟩
    have bx : (u - 256 * p.x).natAbs < 2 ^ 200 := NM.bd_up (NM.bd_sub hu (NM.bd_up (i := 30) (by have := bp.x0; have := bp.x1; omega) (by decide))) (by decide)
    have by' : (v - 256 * p.y).natAbs < 2 ^ 200 := NM.bd_up (NM.bd_sub hv (NM.bd_up (i := 30) (by have := bp.y0; have := bp.y1; omega) (by decide))) (by decide)
    refine s_ret (ev_I0 (g := fun i j => .int (i + j)) (ev_call (ea_cons (ev_I0 (g := fun i j => .int (i - j)) (ev_tup (i := 0) (ev_var rfl) ev_c ht rfl) (ev_I (g := fun i j => .int (i * j)) cx ev_c (ev_x T hp (ev_var rfl)))) ea_nil) (sv_squared bx)) (ev_call (ea_cons (ev_I0 (g := fun i j => .int (i - j)) (ev_tup (i := 1) (ev_var rfl) ev_c ht rfl) (ev_I (g := fun i j => .int (i * j)) cy ev_c (ev_y T hp (ev_var rfl)))) ea_nil) (sv_squared by'))) fun H1 e1 => ?_
    have z := k.go e1
    rw [show vN (Sh72.miss2 (u, v) p) = V.int _ from congrArg V.int (NM.miss2_cast (u, v) p)] at z
    exact z
end
end NH

namespace NH
open PySem PySem.Spec PyProof.Rows L2 Evl
section
variable {P : Program} {w : World} {K : PySem.W.Frag} {mg : Str → Option Value} {base : Heap} {C : Addr}
/-! ### said_on_a_line, said_at -/
def spLine : Sp := fun vs H Q _ => ∃ (b s g sp : Int), vs = [.int b, .int s, .int g, .int sp] ∧ s.natAbs < 2 ^ 40 ∧ g.natAbs < 2 ^ 40 ∧ 0 < sp ∧ sp.natAbs < 2 ^ 40 ∧ RetV (.int (256 * b + Sh72.near (256 * s * g) sp)) H Q
theorem sv_line {b s g sp : Int} {H : Hp} (h1 : s.natAbs < 2 ^ 40) (h2 : g.natAbs < 2 ^ 40) (h3 : 0 < sp) (h4 : sp.natAbs < 2 ^ 40) : SpV spLine [.int b, .int s, .int g, .int sp] H (.int (256 * b + Sh72.near (256 * s * g) sp)) := fun _ _ _ k _ => ⟨b, s, g, sp, rfl, h1, h2, h3, h4, k⟩
abbrev s_line : Stmt := top 26
theorem b_line : Bn "said_on_a_line" s_line ["begin", "step", "gone", "span"] := fun _ _ _ _ _ _ us hl => match us, hl with | [_, _, _, _], _ => rfl
theorem sc_line : FnScope ["begin", "step", "gone", "span"] ["begin", "step", "gone", "span"] (defScope s_line) := ⟨rfl, rfl, rfl, by decide +kernel, rfl, by decide +kernel, by decide +kernel⟩
theorem ok_line (D : Df K mg "said_on_a_line" s_line ["begin", "step", "gone", "span"]) (hR : Has P w K mg base CX0 1 "rounded" ["above", "below"] spRounded) (g : GI mg "PARTS" 256) : Has P w K mg base CX0 2 "said_on_a_line" ["begin", "step", "gone", "span"] spLine := Has.of D fun f fd F => by
  refine F.ok sc_line (fun vs H Q E h => ?_) (fun cdv A outer s H vs Q E hr h => ?_)
  · obtain ⟨b, s, g, sp, rfl, _⟩ := h
    rfl
  · obtain ⟨b, s, go, sp, rfl, h1, h2, h3, h4, k⟩ := h
    refine ⟨_, pss_one (ps_ret (pe_op op_add (pe_op op_mul (pe_gi g) (pv 0)) (pe_has hR hr pass0 (pa_cons (pe_op op_mul (pe_op op_mul (pe_gi g) (pv 1)) (pv 2)) (pa_cons (pv 3) pa_nil))))), ?_⟩
    have c1 : CMul 256 b := .inl ⟨by decide, by decide⟩
    have c2 : CMul 256 s := .inl ⟨by decide, by decide⟩
    have c3 : CMul (256 * s) go := .inl ⟨by omega, by omega⟩
    have w1 : (256 * s * go).natAbs < 2 ^ 200 := NM.bd_up (NM.bd_mul (NM.bd_mul (i := 9) (by decide) h1) h2) (by decide)
    refine s_ret (ev_I0 (g := fun i j => .int (i + j)) (ev_I (g := fun i j => .int (i * j)) c1 ev_c (ev_v rfl)) (ev_call (ea_cons (ev_I (g := fun i j => .int (i * j)) c3 (ev_I (g := fun i j => .int (i * j)) c2 ev_c (ev_v rfl)) (ev_v rfl)) (ea_cons (ev_v rfl) ea_nil)) (sv_rounded h3 w1 (NM.bd_up h4 (by decide))))) fun H1 e1 => k.go e1
def RetU (xs : List V) (H : Hp) (Q : VK) : Prop := ∀ p H2, H p = none → Ex H H2 → H2 p = some (.tup xs) → Q (.ref p) H2
theorem RetU.go {xs : List V} {Q : VK} {H H' : Hp} (k : RetU xs H Q) (e : Ex H H') {p : Addr} {H2 : Hp} (hp : H' p = none) (e2 : Ex H' H2) (h : H2 p = some (.tup xs)) : Q (.ref p) H2 := k p H2 (fresh_back e hp) (e.trans e2) h
def spSaid (C : Addr) : Sp := fun vs H Q _ => ∃ (a b : Addr) (p q : Sh72.Point) (t : Int), vs = [.ref a, .ref b, .int t] ∧ PtAt C H a p ∧ PtAt C H b q ∧ NM.Bd p ∧ NM.Bd q ∧ t.natAbs < 2 ^ 33 ∧ RetU [.int (Sh72.ahead p q t).1, .int (Sh72.ahead p q t).2] H Q
theorem su_said {H : Hp} {a b : Addr} {p q : Sh72.Point} {t : Int} (h1 : PtAt C H a p) (h2 : PtAt C H b q) (h3 : NM.Bd p) (h4 : NM.Bd q) (h5 : t.natAbs < 2 ^ 33) : SpU (spSaid C) [.ref a, .ref b, .int t] H [.int (Sh72.ahead p q t).1, .int (Sh72.ahead p q t).2] :=
  fun _ e _ k _ => ⟨a, b, p, q, t, rfl, h1.mono e, h2.mono e, h3, h4, h5, k⟩
abbrev s_said : Stmt := top 27
abbrev n_said : List Str := ["a", "b", "t", "span", "across"]
theorem b_said : Bn "said_at" s_said ["a", "b", "t"] := fun _ _ _ _ _ _ us hl => match us, hl with | [_, _, _], _ => rfl
theorem sc_said : FnScope n_said ["a", "b", "t"] (defScope s_said) := ⟨rfl, rfl, rfl, by decide +kernel, rfl, by decide +kernel, by decide +kernel⟩
theorem ok_said (D : Df K mg "said_at" s_said ["a", "b", "t"]) (T : CP K C) (hL : Has P w K mg base CX0 2 "said_on_a_line" ["begin", "step", "gone", "span"] spLine) (zm : mg "max" = none) : Has P w K mg base CX0 3 "said_at" ["a", "b", "t"] (spSaid C) := Has.of D fun f fd F => by
  refine F.ok sc_said (fun vs H Q E h => ?_) (fun cdv A outer s H vs Q E hr h => ?_)
  · obtain ⟨a, b, p, q, t, rfl, _⟩ := h
    rfl
  · obtain ⟨a, b, p, q, t, rfl, hp, hq, bp, bq, ht, k⟩ := h
    refine ⟨_, pss_cons (ps_set (i := 3) sc_said.nd rfl (.inl rfl) (pe_callB (call_max2 rfl) (by rfl) zm (by decide +kernel) (pa_cons pe_int (pa_cons (pe_op op_sub (pe_fld (pv 1) rfl) (pe_fld (pv 0) rfl)) pa_nil))))
      (pss_cons (ps_set (i := 4) sc_said.nd rfl (.inl rfl) (pe_has hL hr pass0 (pa_cons (pe_fld (pv 0) rfl) (pa_cons (pe_op op_sub (pe_fld (pv 1) rfl) (pe_fld (pv 0) rfl)) (pa_cons (pe_op op_sub (pv 2) (pe_fld (pv 0) rfl)) (pa_cons (pv 3) pa_nil))))))
      (pss_one (ps_ret (pe_tup (pa_cons (pv 4) (pa_cons (pe_has hL hr pass0 (pa_cons (pe_fld (pv 0) rfl) (pa_cons (pe_op op_sub (pe_fld (pv 1) rfl) (pe_fld (pv 0) rfl)) (pa_cons (pe_op op_sub (pv 2) (pe_fld (pv 0) rfl)) (pa_cons (pv 3) pa_nil))))) pa_nil)))))), ?_⟩
    have es : (if q.t - p.t > 1 then q.t - p.t else 1) = max 1 (q.t - p.t) := by
      by_cases c : q.t - p.t > 1
      · rw [if_pos c]; omega
      · rw [if_neg c]; omega
    have hs0 : 0 < max 1 (q.t - p.t) := by omega
    have hs1 : (max 1 (q.t - p.t)).natAbs < 2 ^ 40 := by have := bp.t0; have := bp.t1; have := bq.t0; have := bq.t1; omega
    have hg : (t - p.t).natAbs < 2 ^ 40 := by have := bp.t0; have := bp.t1; omega
    have hx : (q.x - p.x).natAbs < 2 ^ 40 := by have := bp.x0; have := bp.x1; have := bq.x0; have := bq.x1; omega
    have hy : (q.y - p.y).natAbs < 2 ^ 40 := by have := bp.y0; have := bp.y1; have := bq.y0; have := bq.y1; omega
    refine q_asg (ev_max2 ev_c (ev_I0 (g := fun i j => .int (i - j)) (ev_t T hq (ev_var rfl)) (ev_t T hp (ev_var rfl)))) (fun H1 e1 => ?_)
    rw [es]
    have hp1 := hp.mono e1
    have hq1 := hq.mono e1
    refine q_asg (ev_call (ea_cons (ev_x T hp1 (ev_var rfl)) (ea_cons (ev_I0 (g := fun i j => .int (i - j)) (ev_x T hq1 (ev_var rfl)) (ev_x T hp1 (ev_var rfl))) (ea_cons (ev_I0 (g := fun i j => .int (i - j)) (ev_v rfl) (ev_t T hp1 (ev_var rfl))) (ea_cons (ev_v rfl) ea_nil)))) (sv_line hx hg hs0 hs1)) (fun H2 e2 => ?_)
    have hp2 := hp1.mono e2
    have hq2 := hq1.mono e2
    refine s_retU (eu_tup (ea_cons (ev_v rfl) (ea_cons (ev_call (ea_cons (ev_y T hp2 (ev_var rfl)) (ea_cons (ev_I0 (g := fun i j => .int (i - j)) (ev_y T hq2 (ev_var rfl)) (ev_y T hp2 (ev_var rfl))) (ea_cons (ev_I0 (g := fun i j => .int (i - j)) (ev_v rfl) (ev_t T hp2 (ev_var rfl))) (ea_cons (ev_v rfl) ea_nil)))) (sv_line hy hg hs0 hs1)) ea_nil)) (by show 2 ≤ 100000; decide)) (fun x H3 hx3 e3 h3 => ?_)
    exact k.go (e1.trans e2) hx3 e3 h3
end
end NH

namespace NH
open PySem PySem.Spec PyProof.Rows L2 Evl
section
variable {K : PySem.W.Frag} {mg : Str → Option Value} {σ : L2.St} {H H' : Hp} {ta tb te tl : TE} {C CR' : Addr} {D : Ends} {tz : TS} {E : XK}
/-! ### reading points, a refusal told -/
theorem q_readA {ta : TA} {a : Addr} {ns : List Nat} {i : Nat} (h : EvA ta σ H [.ref a]) (hW : WordsAt K H a ns) (hn : ns.length ≤ 1100) (k1 : Sh72.fines (Sh72.points ns) = true → ∀ l H1, Ex H H1 → PtsAt C H1 l (Sh72.points ns) → tz D (σ.set i (some (.ref l))) H1)
    (k2 : Sh72.fines (Sh72.points ns) = false → RaiseE CR' (-3) H E) : tSeq (tAsg (tCall (spRead K C CR') [] E ta) (gName i)) tz D σ H :=
  h H (Ex.refl H) _ fun H1 e1 => ⟨a, ns, rfl, hW.mono e1, hn, fun hf v H2 e2 hv => by
    obtain ⟨l, rfl, hl⟩ := hv
    exact k1 hf l H2 (e1.trans e2) hl, fun hf => (k2 hf).mono e1⟩
def tSuite (C : Addr) (i : Nat) : Addr → Value → Option Addr → TS := fun a cls d => tRet (tLst (tCons (tXf a cls d C "number" (tVar i)) tNil))
def WEx (K : PySem.W.Frag) (C : Addr) (i : Nat) (D : Ends) (σ : L2.St) : XK := WE (wAs K (.ref C) i (tSuite C i) (fun _ _ _ _ => False) D) σ
theorem w_refuse {n : Int} {i : Nat} (T : CR K mg C) (hi : i < σ.length) (k : ∀ p H2, Ex H H2 → H2 p = some (.lst [.int n]) → D.rt (.ref p) H2) : RaiseE C n H (WEx K C i D σ) := fun d H2 e hd =>
  ⟨true, T.te, fun _ a _ => ⟨.ref a, by rw [List.getElem?_set_self hi], rfl, rfl, d, xF n, .int n, rfl, hd, lk_here, (by show 1 ≤ sizeLine; decide), fun p hp => k p _ (e.trans (Ex.new hp)) upd_same⟩, fun q => Bool.noConfusion q⟩
/-- what a call told is what the outer def gives back -/
theorem told_ok {ans : List Int} {i : Nat} (T : CR K mg C) (hi : i < σ.length) (k : ∀ p H2, Ex H H2 → H2 p = some (.lst (ans.map V.int)) → D.rt (.ref p) H2) : Told C ans H D.rt (WEx K C i D σ) :=
  ⟨k, fun n e => w_refuse T hi fun p H2 e2 h2 => k p H2 e2 (by rw [e]; exact h2)⟩
end
end NH

namespace NH
open PySem PySem.Spec PyProof.Rows L2 Evl
section
variable {P : Program} {w : World} {K : PySem.W.Frag} {mg : Str → Option Value} {base : Heap} {C CR' : Addr}
/-! ### may_be_one -/
def spMay (C : Addr) : Sp := fun vs H Q _ => ∃ (a b : Addr) (p q : Sh72.Point) (v : Nat), vs = [.ref a, .ref b, vN v] ∧ PtAt C H a p ∧ PtAt C H b q ∧ NM.Bd p ∧ NM.Bd q ∧ v ≤ 65535 ∧ RetV (.bl (Sh72.may v p q)) H Q
theorem sv_may {H : Hp} {a b : Addr} {p q : Sh72.Point} {v : Nat} (h1 : PtAt C H a p) (h2 : PtAt C H b q) (h3 : NM.Bd p) (h4 : NM.Bd q) (h5 : v ≤ 65535) : SpV (spMay C) [.ref a, .ref b, vN v] H (.bl (Sh72.may v p q)) := fun _ e _ k _ => ⟨a, b, p, q, v, rfl, h1.mono e, h2.mono e, h3, h4, h5, k⟩
abbrev s_may : Stmt := top 24
theorem b_may : Bn "may_be_one" s_may ["a", "b", "speed"] := fun _ _ _ _ _ _ us hl => match us, hl with | [_, _, _], _ => rfl
theorem sc_may : FnScope ["a", "b", "speed"] ["a", "b", "speed"] (defScope s_may) := ⟨rfl, rfl, rfl, by decide +kernel, rfl, by decide +kernel, by decide +kernel⟩
theorem ok_may (D : Df K mg "may_be_one" s_may ["a", "b", "speed"]) (T : CP K C) (hF : Has P w K mg base CX0 2 "far" ["one", "other"] (spFar C)) (hS : Has P w K mg base CX0 1 "squared" ["number"] spSquared) : Has P w K mg base CX0 3 "may_be_one" ["a", "b", "speed"] (spMay C) := Has.of D fun f fd F => by
  refine F.ok sc_may (fun vs H Q E h => ?_) (fun cdv A outer s H vs Q E hr h => ?_)
  · obtain ⟨a, b, p, q, v, rfl, _⟩ := h
    rfl
  · obtain ⟨a, b, p, q, v, rfl, hp, hq, bp, bq, hv, k⟩ := h
    have hr1 : Room 1 _ := hr.mono (by decide)
    refine ⟨_, pss_one (ps_ret (pe_and (pe_cmpR op_lt (pe_fld (pv 0) rfl) (pe_fld (pv 1) rfl) (nomark _)) (pe_one (pe_cmpR op_le (pe_has hF hr pass0 (pa_cons (pv 0) (pa_cons (pv 1) pa_nil))) (pe_has hS hr1 pass0 (pa_cons (pe_op op_mul (pv 2) (pe_op op_sub (pe_fld (pv 1) rfl) (pe_fld (pv 0) rfl))) pa_nil)) (nomark _))))), ?_⟩
    have c1 : CMul (v : Int) (q.t - p.t) := .inl ⟨by omega, by omega⟩
    have b1 : ((v : Int) * (q.t - p.t)).natAbs < 2 ^ 200 := NM.bd_up (NM.bd_mul (i := 16) (j := 17) (by omega) (by have := bp.t0; have := bp.t1; have := bq.t0; have := bq.t1; omega)) (by decide)
    refine s_ret (ev_andV (ev_I0 (g := fun i j => .bl (decide (i < j))) (ev_t T hp (ev_var rfl)) (ev_t T hq (ev_var rfl))) (fun _ => ev_I0 (g := fun i j => .bl (decide (i ≤ j))) (ev_call (ea_cons (ev_var rfl) (ea_cons (ev_var rfl) ea_nil)) (sv_far hp hq bp bq))
      (ev_call (ea_cons (ev_I (g := fun i j => .int (i * j)) c1 (ev_v rfl) (ev_I0 (g := fun i j => .int (i - j)) (ev_t T hq (ev_var rfl)) (ev_t T hp (ev_var rfl)))) ea_nil) (sv_squared b1)))) fun H1 e1 => ?_
    have z := k.go e1
    rw [NM.may_iff] at z
    exact z
/-! ### pairs_of -/
def PairsAt (H : Hp) (l : Addr) (prs : List (Nat × Nat)) : Prop := ∃ as : List Addr, H l = some (.lst (as.map V.ref)) ∧ as.length = prs.length ∧ ∀ i, i < prs.length → ∃ a pr, as[i]? = some a ∧ prs[i]? = some pr ∧ H a = some (.tup [vN pr.1, vN pr.2])
theorem PairsAt.mono {H H' : Hp} {l : Addr} {prs : List (Nat × Nat)} (e : Ex H H') (h : PairsAt H l prs) : PairsAt H' l prs := by
  obtain ⟨as, h1, h2, h3⟩ := h
  refine ⟨as, e _ _ h1, h2, fun i hi => ?_⟩
  obtain ⟨a, pr, q1, q2, q3⟩ := h3 i hi
  exact ⟨a, pr, q1, q2, e _ _ q3⟩
theorem PairsAt.push {H : Hp} {l x : Addr} {prs : List (Nat × Nat)} {pr : Nat × Nat} {xs : List V} (h : PairsAt H l prs) (hl : H l = some (.lst xs)) (hx : H x = some (.tup [vN pr.1, vN pr.2])) : PairsAt (upd H l (.lst (xs ++ [.ref x]))) l (prs ++ [pr]) := by
  obtain ⟨as, h1, h2, h3⟩ := h
  rw [h1] at hl
  cases hl
  refine ⟨as ++ [x], by rw [upd_same, List.map_append]; rfl, by rw [List.length_append, List.length_append, h2]; rfl, fun i hi => ?_⟩
  by_cases c : i < prs.length
  · obtain ⟨a, q, q1, q2, q3⟩ := h3 i c
    exact ⟨a, q, by rw [List.getElem?_append_left (by omega)]; exact q1, by rw [List.getElem?_append_left c]; exact q2, by rw [upd_ne (ne_of q3 h1 (by intro z; cases z))]; exact q3⟩
  · have e : i = prs.length := by
      rw [List.length_append] at hi
      simp only [List.length_cons, List.length_nil] at hi
      omega
    refine ⟨x, pr, by rw [e, ← h2, List.getElem?_append_right (Nat.le_refl _), Nat.sub_self]; rfl, by rw [e, List.getElem?_append_right (Nat.le_refl _), Nat.sub_self]; rfl, by rw [upd_ne (ne_of hx h1 (by intro z; cases z))]; exact hx⟩
theorem PairsAt.len {H : Hp} {l : Addr} {prs : List (Nat × Nat)} {xs : List V} (h : PairsAt H l prs) (hl : H l = some (.lst xs)) : xs.length = prs.length := by
  obtain ⟨as, h1, h2, h3⟩ := h
  rw [h1] at hl
  cases hl
  rw [List.length_map]
  exact h2
def spPairs (C : Addr) : Sp := fun vs H Q _ => ∃ (l : Addr) (ps : List Sh72.Point) (v : Nat), vs = [.ref l, vN v] ∧ PtsAt C H l ps ∧ NM.AllBd ps ∧ ps.length ≤ 48 ∧ v ≤ 65535 ∧ ∀ x H2, Ex H H2 → (∃ o, x = .ref o ∧ PairsAt H2 o (Sh72.pairs v ps)) → Q x H2
theorem sx_pairs {H : Hp} {l : Addr} {ps : List Sh72.Point} {v : Nat} (h1 : PtsAt C H l ps) (h2 : NM.AllBd ps) (h3 : ps.length ≤ 48) (h4 : v ≤ 65535) : SpX (spPairs C) [.ref l, vN v] H (fun x H2 => ∃ o, x = .ref o ∧ PairsAt H2 o (Sh72.pairs v ps)) := fun _ e _ k _ => ⟨l, ps, v, rfl, h1.mono e, h2, h3, h4, k⟩
abbrev s_pairs : Stmt := top 25
abbrev n_pairs : List Str := ["points", "speed", "found", "first", "second"]
theorem b_pairs : Bn "pairs_of" s_pairs ["points", "speed"] := fun _ _ _ _ _ _ us hl => match us, hl with | [_, _], _ => rfl
theorem sc_pairs : FnScope n_pairs ["points", "speed"] (defScope s_pairs) := ⟨rfl, rfl, rfl, by decide +kernel, rfl, by decide +kernel, by decide +kernel⟩
theorem ok_pairs (D : Df K mg "pairs_of" s_pairs ["points", "speed"]) (hM : Has P w K mg base CX0 3 "may_be_one" ["a", "b", "speed"] (spMay C)) (zr : mg "range" = none) (zl : mg "len" = none) : Has P w K mg base CX0 4 "pairs_of" ["points", "speed"] (spPairs C) := Has.of D fun f fd F => by
  refine F.ok sc_pairs (fun vs H Q E h => ?_) (fun cdv A outer s H vs Q E hr h => ?_)
  · obtain ⟨l, ps, v, rfl, _⟩ := h
    rfl
  · obtain ⟨l, ps, v, rfl, hl, bp, hz, hv, k⟩ := h
    refine ⟨_, pss_cons (ps_set (i := 2) sc_pairs.nd rfl (.inl rfl) (pe_lst pa_nil))
      (pss_cons (ps_for PassesOwn.never rfl (pi_range1 rfl zr (pa_cons (pe_callB call_len_seq (by rfl) zl PySem.boot_len (pa_cons (pv 0) pa_nil)) pa_nil)) (pg_name (i := 3) sc_pairs.nd rfl (.inl rfl))
        (pss_one (ps_for PassesOwn.never rfl (pi_range1 rfl zr (pa_cons (pe_callB call_len_seq (by rfl) zl PySem.boot_len (pa_cons (pv 0) pa_nil)) pa_nil)) (pg_name (i := 4) sc_pairs.nd rfl (.inl rfl))
          (pss_one (ps_if (pt_val (pe_has hM hr pass0 (pa_cons (pe_ix ix_list (pv 0) (pv 3) (fun _ _ => rfl)) (pa_cons (pe_ix ix_list (pv 0) (pv 4) (fun _ _ => rfl)) (pa_cons (pv 1) pa_nil)))))
            (pss_one (ps_expr (pe_bm PySem.F.plainAttrs_list PySem.F.slot_list_append PySem.F.type_list_append mt_append (pv 2) (pa_cons (pe_tup (pa_cons (pv 3) (pa_cons (pv 4) pa_nil))) pa_nil)))) pss_nil)))))
      (pss_one (ps_ret (pv 2)))), ?_⟩
    refine q_asgL (el_lst ea_nil (by show 0 ≤ 100000; decide)) (fun o H1 ho e1 h1 => ?_)
    refine q_forR1 (ea_cons (ev_plen (hl.mono e1) (ev_var rfl)) ea_nil) (by omega) (fun i σ' H' => Ex H H' ∧ PairsAt H' o (NM.pairsTo v ps i) ∧ ∃ x y, σ' = [some (.ref l), some (vN v), some (.ref o), x, y])
      (fun H2 e2 => ⟨e1.trans e2, ⟨[], e2 _ _ h1, rfl, fun j hj => absurd hj (Nat.not_lt_zero j)⟩, none, none, rfl⟩) (fun i σ' H' hi hP => ?_) (fun σ' H' hP => ?_)
    · obtain ⟨e2, hpr, x, y, rfl⟩ := hP
      have hi' : i < ps.length := by omega
      refine s_forR1 (j := 4) (n := ((ps.length : Nat) : Int)) (ea_cons (ev_plen (hl.mono e2) (ev_var rfl)) ea_nil) (by omega) (fun j σ' H' => Ex H H' ∧ PairsAt H' o (NM.pairsTo v ps i ++ NM.pairsIn v ps i j) ∧ ∃ y, σ' = [some (.ref l), some (vN v), some (.ref o), some (vN i), y])
        (fun H3 e3 => ⟨e2.trans e3, by rw [NM.pairsIn_zero, List.append_nil]; exact hpr.mono e3, y, rfl⟩) (fun j σ' H' hj hP => ?_) (fun σ' H' hP => ?_)
      · obtain ⟨e3, hpr2, y2, rfl⟩ := hP
        have hj' : j < ps.length := by omega
        obtain ⟨ai, vi, pi⟩ := ev_pts (K := K) (σ := [some (.ref l), some (vN v), some (.ref o), some (vN i), some (vN j)]) (ta := tVar 0) (tb := tVar 3) (i := i) (hl.mono e3) (ev_var rfl) (ev_var rfl) hi'
        obtain ⟨aj, vj, pj⟩ := ev_pts (K := K) (σ := [some (.ref l), some (vN v), some (.ref o), some (vN i), some (vN j)]) (ta := tVar 0) (tb := tVar 4) (i := j) (hl.mono e3) (ev_var rfl) (ev_var rfl) hj'
        have test : EvT _ [some (.ref l), some (vN v), some (.ref o), some (vN i), some (vN j)] H' _ := et_B (ev_call (dvs := []) (E := E0) (ea_cons vi (ea_cons vj (ea_cons (ev_var (i := 1) rfl) ea_nil))) (sv_may pi pj (bp i hi') (bp j hj') hv))
        refine s_when test (fun hb H3 e4 => ?_) (fun hb H3 e4 => ?_)
        · obtain ⟨xs, hxs⟩ : ∃ xs, H3 o = some (.lst xs) := by
            obtain ⟨as, q1, _⟩ := hpr2.mono e4
            exact ⟨_, q1⟩
          have hlen := (hpr2.mono e4).len hxs
          have q1 := NM.pairsTo_len v ps i
          have q2 := NM.pairsIn_len v ps i j
          have q3 : i * ps.length ≤ 48 * 48 := Nat.mul_le_mul (by omega) hz
          refine s_appU hxs (ev_var rfl) (eu_tup (ea_cons (ev_var rfl) (ea_cons (ev_var rfl) ea_nil)) (by show 2 ≤ 100000; decide)) (by rw [hlen, List.length_append]; omega) (fun x H4 hx e5 h4 => ⟨Ex.mut ((e3.trans e4).trans e5) ho, ?_, _, rfl⟩)
          rw [NM.pairsIn_yes hb, ← List.append_assoc]
          exact ((hpr2.mono e4).mono e5).push (pr := (i, j)) (e5 _ _ hxs) h4
        · refine ⟨e3.trans e4, ?_, _, rfl⟩
          rw [NM.pairsIn_no hb]
          exact hpr2.mono e4
      · obtain ⟨e3, hpr2, y2, rfl⟩ := hP
        refine ⟨e3, ?_, _, _, rfl⟩
        rw [NM.pairsTo_succ]
        exact hpr2
    · obtain ⟨e2, hpr, x, y, rfl⟩ := hP
      refine s_ret (ev_var rfl) fun H3 e3 => k _ _ (e2.trans e3) ⟨o, rfl, ?_⟩
      rw [NM.pairs_is]
      exact hpr.mono e3
end
end NH

namespace NH
open PySem PySem.Spec PyProof.Rows L2 Evl
section
variable {P : Program} {w : World} {K : PySem.W.Frag} {mg : Str → Option Value} {base : Heap} {C CR' : Addr}
/-! ### off_said, goes_on, is_ahead -/
abbrev missP (p q s : Sh72.Point) : Nat := Sh72.miss2 (Sh72.ahead p q s.t) s
def spOffSaid (C : Addr) : Sp := fun vs H Q _ => ∃ (a b c : Addr) (p q s : Sh72.Point), vs = [.ref a, .ref b, .ref c] ∧ PtAt C H a p ∧ PtAt C H b q ∧ PtAt C H c s ∧ NM.Bd p ∧ NM.Bd q ∧ NM.Bd s ∧ RetV (vN (missP p q s)) H Q
theorem sv_offSaid {H : Hp} {a b c : Addr} {p q s : Sh72.Point} (h1 : PtAt C H a p) (h2 : PtAt C H b q) (h3 : PtAt C H c s) (h4 : NM.Bd p) (h5 : NM.Bd q) (h6 : NM.Bd s) : SpV (spOffSaid C) [.ref a, .ref b, .ref c] H (vN (missP p q s)) := fun _ e _ k _ => ⟨a, b, c, p, q, s, rfl, h1.mono e, h2.mono e, h3.mono e, h4, h5, h6, k⟩
abbrev s_off_said : Stmt := top 28
theorem b_off_said : Bn "off_said" s_off_said ["a", "b", "c"] := fun _ _ _ _ _ _ us hl => match us, hl with | [_, _, _], _ => rfl
theorem sc_off_said : FnScope ["a", "b", "c"] ["a", "b", "c"] (defScope s_off_said) := ⟨rfl, rfl, rfl, by decide +kernel, rfl, by decide +kernel, by decide +kernel⟩
theorem ok_off_said (D : Df K mg "off_said" s_off_said ["a", "b", "c"]) (T : CP K C) (hO : Has P w K mg base CX0 2 "off" ["place", "point"] (spOff K C)) (hSd : Has P w K mg base CX0 3 "said_at" ["a", "b", "t"] (spSaid C)) : Has P w K mg base CX0 4 "off_said" ["a", "b", "c"] (spOffSaid C) := Has.of D fun f fd F => by
  refine F.ok sc_off_said (fun vs H Q E h => ?_) (fun cdv A outer st H vs Q E hr h => ?_)
  · obtain ⟨a, b, c, p, q, s, rfl, _⟩ := h
    rfl
  · obtain ⟨a, b, c, p, q, s, rfl, hp, hq, hs, bp, bq, bs, k⟩ := h
    have hr2 : Room 2 _ := hr.mono (by decide)
    refine ⟨_, pss_one (ps_ret (pe_has hO hr2 pass0 (pa_cons (pe_has hSd hr pass0 (pa_cons (pv 0) (pa_cons (pv 1) (pa_cons (pe_fld (pv 2) rfl) pa_nil)))) (pa_cons (pv 2) pa_nil)))), ?_⟩
    have ht : s.t.natAbs < 2 ^ 33 := NM.bd_up bs.t16 (by decide)
    obtain ⟨c1, c2⟩ := NM.ahead_bd bp bq ht
    refine s_ret (ev_callU (eu_call (ea_cons (ev_var rfl) (ea_cons (ev_var rfl) (ea_cons (ev_t T hs (ev_var rfl)) ea_nil))) (su_said hp hq bp bq ht)) (ev_var rfl) (fun x H1 e1 h1 => sv_off (SqT.of h1) (hs.mono e1) bs c1 c2)) fun H1 e1 => k.go e1
def spGoesOn (C : Addr) : Sp := fun vs H Q _ => ∃ (a b c : Addr) (p q s : Sh72.Point) (e : Nat), vs = [.ref a, .ref b, .ref c, vN e] ∧ PtAt C H a p ∧ PtAt C H b q ∧ PtAt C H c s ∧ NM.Bd p ∧ NM.Bd q ∧ NM.Bd s ∧ e ≤ 16777216 ∧ RetV (.bl (Sh72.goesOn e p q s)) H Q
theorem sv_goesOn {H : Hp} {a b c : Addr} {p q s : Sh72.Point} {er : Nat} (h1 : PtAt C H a p) (h2 : PtAt C H b q) (h3 : PtAt C H c s) (h4 : NM.Bd p) (h5 : NM.Bd q) (h6 : NM.Bd s) (h7 : er ≤ 16777216) : SpV (spGoesOn C) [.ref a, .ref b, .ref c, vN er] H (.bl (Sh72.goesOn er p q s)) := fun _ e _ k _ => ⟨a, b, c, p, q, s, er, rfl, h1.mono e, h2.mono e, h3.mono e, h4, h5, h6, h7, k⟩
abbrev s_goes_on : Stmt := top 29
theorem b_goes_on : Bn "goes_on" s_goes_on ["a", "b", "c", "error"] := fun _ _ _ _ _ _ us hl => match us, hl with | [_, _, _, _], _ => rfl
theorem sc_goes_on : FnScope ["a", "b", "c", "error"] ["a", "b", "c", "error"] (defScope s_goes_on) := ⟨rfl, rfl, rfl, by decide +kernel, rfl, by decide +kernel, by decide +kernel⟩
theorem ok_goes_on (D : Df K mg "goes_on" s_goes_on ["a", "b", "c", "error"]) (T : CP K C) (hO : Has P w K mg base CX0 4 "off_said" ["a", "b", "c"] (spOffSaid C)) (hS : Has P w K mg base CX0 1 "squared" ["number"] spSquared) : Has P w K mg base CX0 5 "goes_on" ["a", "b", "c", "error"] (spGoesOn C) := Has.of D fun f fd F => by
  refine F.ok sc_goes_on (fun vs H Q E h => ?_) (fun cdv A outer st H vs Q E hr h => ?_)
  · obtain ⟨a, b, c, p, q, s, e, rfl, _⟩ := h
    rfl
  · obtain ⟨a, b, c, p, q, s, er, rfl, hp, hq, hs, bp, bq, bs, he, k⟩ := h
    have hr1 : Room 1 _ := hr.mono (by decide)
    refine ⟨_, pss_one (ps_ret (pe_and (pe_cmpR op_gt (pe_fld (pv 2) rfl) (pe_fld (pv 1) rfl) (nomark _)) (pe_one (pe_cmpR op_le (pe_has hO hr pass0 (pa_cons (pv 0) (pa_cons (pv 1) (pa_cons (pv 2) pa_nil)))) (pe_has hS hr1 pass0 (pa_cons (pv 3) pa_nil)) (nomark _))))), ?_⟩
    refine s_ret (ev_andV (ev_I0 (g := fun i j => .bl (decide (j < i))) (ev_t T hs (ev_var rfl)) (ev_t T hq (ev_var rfl))) (fun _ => ev_I0 (g := fun i j => .bl (decide (i ≤ j))) (ev_call (ea_cons (ev_var rfl) (ea_cons (ev_var rfl) (ea_cons (ev_var rfl) ea_nil))) (sv_offSaid hp hq hs bp bq bs)) (ev_call (ea_cons (ev_v rfl) ea_nil) (sv_squared (NM.bd_up (i := 25) (by omega) (by decide)))))) fun H1 e1 => ?_
    rw [le_cast]
    exact k.go e1
def aheadB (p q s u : Sh72.Point) : Bool := if s.t = u.t then decide (missP p q s < missP p q u) else decide (s.t < u.t)
def spIsAhead (C : Addr) : Sp := fun vs H Q _ => ∃ (a b c d : Addr) (p q s u : Sh72.Point), vs = [.ref a, .ref b, .ref c, .ref d] ∧ PtAt C H a p ∧ PtAt C H b q ∧ PtAt C H c s ∧ PtAt C H d u ∧ (NM.Bd p ∧ NM.Bd q ∧ NM.Bd s ∧ NM.Bd u) ∧ RetV (.bl (aheadB p q s u)) H Q
theorem sv_isAhead {H : Hp} {a b c d : Addr} {p q s u : Sh72.Point} (h1 : PtAt C H a p) (h2 : PtAt C H b q) (h3 : PtAt C H c s) (h4 : PtAt C H d u) (h5 : NM.Bd p ∧ NM.Bd q ∧ NM.Bd s ∧ NM.Bd u) : SpV (spIsAhead C) [.ref a, .ref b, .ref c, .ref d] H (.bl (aheadB p q s u)) := fun _ e _ k _ => ⟨a, b, c, d, p, q, s, u, rfl, h1.mono e, h2.mono e, h3.mono e, h4.mono e, h5, k⟩
abbrev s_is_ahead : Stmt := top 30
theorem b_is_ahead : Bn "is_ahead" s_is_ahead ["a", "b", "one", "other"] := fun _ _ _ _ _ _ us hl => match us, hl with | [_, _, _, _], _ => rfl
theorem sc_is_ahead : FnScope ["a", "b", "one", "other"] ["a", "b", "one", "other"] (defScope s_is_ahead) := ⟨rfl, rfl, rfl, by decide +kernel, rfl, by decide +kernel, by decide +kernel⟩
theorem ok_is_ahead (D : Df K mg "is_ahead" s_is_ahead ["a", "b", "one", "other"]) (T : CP K C) (hO : Has P w K mg base CX0 4 "off_said" ["a", "b", "c"] (spOffSaid C)) : Has P w K mg base CX0 5 "is_ahead" ["a", "b", "one", "other"] (spIsAhead C) := Has.of D fun f fd F => by
  refine F.ok sc_is_ahead (fun vs H Q E h => ?_) (fun cdv A outer st H vs Q E hr h => ?_)
  · obtain ⟨a, b, c, d, p, q, s, u, rfl, _⟩ := h
    rfl
  · obtain ⟨a, b, c, d, p, q, s, u, rfl, hp, hq, hs, hu, ⟨bp, bq, bs, bu⟩, k⟩ := h
    refine ⟨_, pss_cons (ps_if (pt_cmpR op_ne (pe_fld (pv 2) rfl) (pe_fld (pv 3) rfl) (nomark _)) (pss_one (ps_ret (pe_cmpR op_lt (pe_fld (pv 2) rfl) (pe_fld (pv 3) rfl) (nomark _)))) pss_nil)
      (pss_one (ps_ret (pe_cmpR op_lt (pe_has hO hr pass0 (pa_cons (pv 0) (pa_cons (pv 1) (pa_cons (pv 2) pa_nil)))) (pe_has hO hr pass0 (pa_cons (pv 0) (pa_cons (pv 1) (pa_cons (pv 3) pa_nil)))) (nomark _)))), ?_⟩
    refine q_when (et_test (ev_op (ev_t T hs (ev_var rfl)) (ev_t T hu (ev_var rfl)) (rv_ne rfl))) (fun hb H1 e1 => ?_) (fun hb H1 e1 => ?_)
    · have hne : ¬ s.t = u.t := by
        intro z
        rw [z] at hb
        simp at hb
      refine s_ret (ev_I0 (g := fun i j => .bl (decide (i < j))) (ev_t T (hs.mono e1) (ev_var rfl)) (ev_t T (hu.mono e1) (ev_var rfl))) fun H2 e2 => ?_
      have z := k.go (e1.trans e2)
      unfold aheadB at z
      rw [if_neg hne] at z
      exact z
    · have heq : s.t = u.t := by
        have z : decide (V.int s.t = V.int u.t) = true := by simpa using hb
        exact V.int.inj (of_decide_eq_true z)
      refine s_ret (ev_I0 (g := fun i j => .bl (decide (i < j))) (ev_call (ea_cons (ev_var rfl) (ea_cons (ev_var rfl) (ea_cons (ev_var rfl) ea_nil))) (sv_offSaid (hp.mono e1) (hq.mono e1) (hs.mono e1) bp bq bs)) (ev_call (ea_cons (ev_var rfl) (ea_cons (ev_var rfl) (ea_cons (ev_var rfl) ea_nil))) (sv_offSaid (hp.mono e1) (hq.mono e1) (hu.mono e1) bp bq bu))) fun H2 e2 => ?_
      have z := k.go (e1.trans e2)
      unfold aheadB at z
      rw [if_pos heq] at z
      rw [show decide (((missP p q s : Nat) : Int) < ((missP p q u : Nat) : Int)) = decide (missP p q s < missP p q u) from decide_eq_decide.mpr (by omega)]
      exact z
/-! ### onward -/
def optV : Option Nat → V
  | none => .non
  | some k => vN k
section
variable {σ : L2.St} {H : Hp} {D : Ends} {tz tu : TS}
theorem q_forEnum {ta : TA} {l : Addr} {ps : List Sh72.Point} {i j : Nat} (h : EvA ta σ H [.ref l]) (hp : PtsAt C H l ps) (Pv : Nat → L2.St → Hp → Prop) (h0 : ∀ H1, Ex H H1 → Pv 0 σ H1) (hE : ∀ m σ' H', Pv m σ' H' → Ex H H')
    (hs : ∀ m a σ' H', m < ps.length → Pv m σ' H' → PtAt C H' a (Sh72.at_ ps m) → ∀ H'', Ex H' H'' → tu { D with nx := Pv (m + 1), ct := Pv (m + 1), bk := tz D } ((σ'.set i (some (vN m))).set j (some (.ref a))) H'') (hd : ∀ σ' H', Pv ps.length σ' H' → tz D σ' H') :
    tSeq (tFor (iEnum K ta) (gTup K 2 (gCons (gName i) (gCons (gName j) gNil))) tu) tz D σ H := by
  obtain ⟨xs, h1, h2, h3⟩ := hp.list
  rw [← h2] at hd
  exact h H (Ex.refl H) _ fun H1 e1 => ⟨l, xs, rfl, SqL.of (e1 _ _ h1), for_it (D := { D with nx := tz D }) (walk_enum (K := K) (a := l) (xs := xs)) Pv (h0 H1 e1) (fun m σ' H' _ p => SqL.of (hE m σ' H' p _ _ h1)) (fun m x σ' H' H'' hm p y => by
    obtain ⟨T, x1, x2, rfl, hT, rfl, ex1, ex2⟩ := y
    have ex1 := Option.some.inj ex1
    subst ex1
    obtain ⟨b, q1, q2⟩ := h3 m (by omega)
    have ex2 : xs[m]? = some x2 := ex2
    rw [q1] at ex2
    have ex2 := Option.some.inj ex2
    subst ex2
    exact ⟨T, [vN m, .ref b], rfl, st_of upd_same, rfl, _, [.ref b], rfl, _, [], rfl, rfl, hs m b σ' H' (by omega) p (q2.mono (hE m σ' H' p)) _ (Ex.new hT)⟩) hd⟩
end
def spOnward (C : Addr) : Sp := fun vs H Q _ => ∃ (l a b : Addr) (ps : List Sh72.Point) (i j e : Nat), vs = [.ref l, .ref a, .ref b, vN e] ∧ PtsAt C H l ps ∧ PtAt C H a (Sh72.at_ ps i) ∧ PtAt C H b (Sh72.at_ ps j) ∧ NM.AllBd ps ∧ i < ps.length ∧ j < ps.length ∧ e ≤ 16777216 ∧ RetV (optV (Sh72.next e ps i j)) H Q
theorem sv_onward {H : Hp} {l a b : Addr} {ps : List Sh72.Point} {i j er : Nat} (h1 : PtsAt C H l ps) (h2 : PtAt C H a (Sh72.at_ ps i)) (h3 : PtAt C H b (Sh72.at_ ps j)) (h4 : NM.AllBd ps) (h5 : i < ps.length) (h6 : j < ps.length) (h7 : er ≤ 16777216) : SpV (spOnward C) [.ref l, .ref a, .ref b, vN er] H (optV (Sh72.next er ps i j)) := fun _ e _ k _ => ⟨l, a, b, ps, i, j, er, rfl, h1.mono e, h2.mono e, h3.mono e, h4, h5, h6, h7, k⟩
abbrev s_onward : Stmt := top 31
abbrev n_onward : List Str := ["points", "a", "b", "error", "best", "k", "point"]
theorem b_onward : Bn "onward" s_onward ["points", "a", "b", "error"] := fun _ _ _ _ _ _ us hl => match us, hl with | [_, _, _, _], _ => rfl
theorem sc_onward : FnScope n_onward ["points", "a", "b", "error"] (defScope s_onward) := ⟨rfl, rfl, rfl, by decide +kernel, rfl, by decide +kernel, by decide +kernel⟩
theorem ok_onward (D : Df K mg "onward" s_onward ["points", "a", "b", "error"]) (hG : Has P w K mg base CX0 5 "goes_on" ["a", "b", "c", "error"] (spGoesOn C)) (hI : Has P w K mg base CX0 5 "is_ahead" ["a", "b", "one", "other"] (spIsAhead C)) (ze : mg "enumerate" = none) : Has P w K mg base CX0 6 "onward" ["points", "a", "b", "error"] (spOnward C) := Has.of D fun f fd F => by
  refine F.ok sc_onward (fun vs H Q E h => ?_) (fun cdv A outer st H vs Q E hr h => ?_)
  · obtain ⟨l, a, b, ps, i, j, e, rfl, _⟩ := h
    rfl
  · obtain ⟨l, a, b, ps, i, j, er, rfl, hl, ha, hb, bd, hi, hj, he, k⟩ := h
    refine ⟨_, pss_cons (ps_set (i := 4) sc_onward.nd rfl (.inl rfl) pe_non)
      (pss_cons (ps_for PassesOwn.never rfl (pi_enum (by rfl) ze (pa_cons (pv 0) pa_nil)) (pg_tup rfl (pgs_cons (pg_name (i := 5) sc_onward.nd rfl (.inl rfl)) (pgs_cons (pg_name (i := 6) sc_onward.nd rfl (.inl rfl)) pgs_nil)))
        (pss_one (ps_if (pt_val (pe_has hG hr pass0 (pa_cons (pv 1) (pa_cons (pv 2) (pa_cons (pv 6) (pa_cons (pv 3) pa_nil))))))
          (pss_one (ps_if (PW.pt (pw_or (pt_cmpR op_isN (pv 4) pe_non (nomark _)) (pw_or1 (pt_val (pe_has hI hr pass0 (pa_cons (pv 1) (pa_cons (pv 2) (pa_cons (pv 6) (pa_cons (pe_ix ix_list (pv 0) (pv 4) (fun _ _ => rfl)) pa_nil))))))))) (pss_one (ps_set (i := 4) sc_onward.nd rfl (.inl rfl) (pv 5))) pss_nil)) pss_nil)))
      (pss_one (ps_ret (pv 4)))), ?_⟩
    refine q_asg ev_c (fun H1 e1 => ?_)
    refine q_forEnum (C := C) (ea_cons (ev_var rfl) ea_nil) (hl.mono e1) (fun m σ' H' => Ex H1 H' ∧ ∃ x y, σ' = [some (.ref l), some (.ref a), some (.ref b), some (vN er), some (optV (NM.onTo er ps i j m)), x, y]) (fun H2 e2 => ⟨e2, none, none, rfl⟩) (fun m σ' H' h => h.1) (fun m c σ' H' hm hP hc H'' e2 => ?_) (fun σ' H' hP => ?_)
    · obtain ⟨e3, x, y, rfl⟩ := hP
      have e13 := (e1.trans e3).trans e2
      have hc2 := hc.mono e2
      have ha2 := ha.mono e13
      have hb2 := hb.mono e13
      have sc := NM.onTo_succ er ps i j m
      have test : EvT _ [some (.ref l), some (.ref a), some (.ref b), some (vN er), some (optV (NM.onTo er ps i j m)), some (vN m), some (.ref c)] H'' _ := et_B (ev_call (dvs := []) (E := E0) (ea_cons (ev_var (i := 1) rfl) (ea_cons (ev_var (i := 2) rfl) (ea_cons (ev_var (i := 6) rfl) (ea_cons (ev_var (i := 3) rfl) ea_nil)))) (sv_goesOn ha2 hb2 hc2 (bd i hi) (bd j hj) (bd m hm) he))
      refine s_when test (fun hg H3 e4 => ?_) (fun hg H3 e4 => ?_)
      · have hg' : NM.onGo er ps i j m = true := hg
        unfold NM.onStep at sc
        rw [if_pos hg'] at sc
        cases ho : NM.onTo er ps i j m with
        | none =>
          rw [ho] at sc
          refine s_when (b := true) (et_is (et_or (b := false) (et_test (ev_op (ev_var rfl) ev_c rv_isN)) (fun q => by cases q)) rfl) (fun _ H4 e5 => ?_) (fun q => by cases q)
          refine s_asg (ev_var rfl) (fun H5 e6 => ⟨((e3.trans e2).trans e4).trans (e5.trans e6), some (vN m), some (.ref c), ?_⟩)
          rw [sc]
          rfl
        | some n =>
          rw [ho] at sc
          have hn : n < ps.length := Nat.lt_of_lt_of_le (NM.onTo_lt _ _ _ _ _ _ ho) (by omega)
          have e14 := e13.trans e4
          obtain ⟨an, vn, pn⟩ := ev_pts (K := K) (σ := [some (.ref l), some (.ref a), some (.ref b), some (vN er), some (vN n), some (vN m), some (.ref c)]) (ta := tVar 0) (tb := tVar 4) (i := n) (hl.mono e14) (ev_var rfl) (ev_var rfl) hn
          have test2 : EvT (tOr (tTest (tOp (fun x y H Q => y = .non ∧ Q (.bl (decide (x = .non))) H) (tVar 4) (tC .non))) (tB (tCall (spIsAhead C) [] E0 (tCons (tVar 1) (tCons (tVar 2) (tCons (tVar 6) (tCons (tOp (rIxL K) (tVar 0) (tVar 4)) tNil))))))) [some (.ref l), some (.ref a), some (.ref b), some (vN er), some (vN n), some (vN m), some (.ref c)] H3 (NM.isAhead ps i j m n) :=
            et_is (et_or (et_test (ev_op (ev_var rfl) ev_c rv_isN)) (fun _ => et_B (ev_call (ea_cons (ev_var rfl) (ea_cons (ev_var rfl) (ea_cons (ev_var rfl) (ea_cons vn ea_nil)))) (sv_isAhead (ha2.mono e4) (hb2.mono e4) (hc2.mono e4) pn ⟨bd i hi, bd j hj, bd m hm, bd n hn⟩)))) (by
              show (decide (vN n = V.non) || aheadB _ _ _ _) = _
              rw [decide_eq_false (by intro z; cases z), Bool.false_or]
              rfl)
          refine s_when test2 (fun hq H4 e5 => ?_) (fun hq H4 e5 => ?_)
          · refine s_asg (ev_var rfl) (fun H5 e6 => ⟨((e3.trans e2).trans e4).trans (e5.trans e6), some (vN m), some (.ref c), ?_⟩)
            simp only at sc
            rw [if_pos hq] at sc
            rw [sc]
            rfl
          · refine ⟨((e3.trans e2).trans e4).trans e5, some (vN m), some (.ref c), ?_⟩
            simp only at sc
            rw [if_neg (by rw [hq]; decide)] at sc
            rw [sc]
            rfl
      · have hg' : ¬ NM.onGo er ps i j m = true := by
          intro z
          have z2 : Sh72.goesOn er (Sh72.at_ ps i) (Sh72.at_ ps j) (Sh72.at_ ps m) = true := z
          rw [z2] at hg
          cases hg
        unfold NM.onStep at sc
        rw [if_neg hg'] at sc
        refine ⟨(e3.trans e2).trans e4, some (vN m), some (.ref c), ?_⟩
        rw [sc]
        rfl
    · obtain ⟨e3, x, y, rfl⟩ := hP
      refine s_ret (ev_var rfl) fun H3 e4 => ?_
      have z := k.go ((e1.trans e3).trans e4)
      rw [NM.next_is] at z
      exact z
end
end NH

namespace NH
open PySem PySem.Spec PyProof.Rows L2 Evl
section
variable {P : Program} {w : World} {K : PySem.W.Frag} {mg : Str → Option Value} {base : Heap} {C CR' : Addr}
/-! ### way_from -/
section
variable {σ : L2.St} {H : Hp} {ta tb : TE} {D : Ends} {tz tu : TS}
theorem el_listT {a : Addr} {xs : List V} (ha : Ev ta σ H (.ref a)) (h : SqT K H a xs) : EvL (tCB (rListS K) (tCons ta tNil)) σ H xs := fun H1 e _ q =>
  ha H1 e _ fun H2 e2 => ⟨a, xs, rfl, .inr (ex_t (e.trans e2) h), fun l hl => q l _ (fresh_back e2 hl) (e2.trans (Ex.new hl)) upd_same⟩
theorem atI_back {α : Type} (xs : List α) (v u : α) : atI (xs ++ [v, u]) (-2) = some v ∧ atI (xs ++ [v, u]) (-1) = some u := by
  constructor
  · have hl : (xs ++ [v, u]).length = xs.length + 2 := by simp
    have e : ixN (xs ++ [v, u]).length (-2) = some xs.length := by
      unfold ixN
      rw [hl, if_neg (by decide), if_pos (by omega)]
      congr 1
      omega
    unfold atI
    rw [e]
    simp
  · have hl : (xs ++ [v, u]).length = xs.length + 2 := by simp
    have e : ixN (xs ++ [v, u]).length (-1) = some (xs.length + 1) := by
      unfold ixN
      rw [hl, if_neg (by decide), if_pos (by omega)]
      congr 1
      omega
    unfold atI
    rw [e]
    simp
theorem ev_neg {n : Int} : Ev (tUn (rU fun i => .int (-i)) (tC (.int n))) σ H (.int (-n)) := ev_un ev_c ru_neg
end
def spWayFrom (K : PySem.W.Frag) (C : Addr) : Sp := fun vs H Q _ => ∃ (l t : Addr) (ps : List Sh72.Point) (i j e : Nat), vs = [.ref l, .ref t, vN e] ∧ PtsAt C H l ps ∧ SqT K H t [vN i, vN j] ∧ NM.AllBd ps ∧ i < ps.length ∧ j < ps.length ∧ ps.length ≤ 48 ∧ e ≤ 16777216 ∧ RetL ((Sh72.way e ps (i, j)).map vN) H Q
theorem sl_wayFrom {H : Hp} {l t : Addr} {ps : List Sh72.Point} {i j er : Nat} (h1 : PtsAt C H l ps) (h2 : SqT K H t [vN i, vN j]) (h4 : NM.AllBd ps) (h5 : i < ps.length) (h6 : j < ps.length) (h7 : ps.length ≤ 48) (h8 : er ≤ 16777216) : SpL (spWayFrom K C) [.ref l, .ref t, vN er] H ((Sh72.way er ps (i, j)).map vN) := fun _ e _ k _ => ⟨l, t, ps, i, j, er, rfl, h1.mono e, ex_t e h2, h4, h5, h6, h7, h8, k⟩
abbrev s_way_from : Stmt := top 32
abbrev n_way_from : List Str := ["points", "pair", "error", "way", "turn", "k"]
theorem b_way_from : Bn "way_from" s_way_from ["points", "pair", "error"] := fun _ _ _ _ _ _ us hl => match us, hl with | [_, _, _], _ => rfl
theorem sc_way_from : FnScope n_way_from ["points", "pair", "error"] (defScope s_way_from) := ⟨rfl, rfl, rfl, by decide +kernel, rfl, by decide +kernel, by decide +kernel⟩
theorem ok_way_from (D : Df K mg "way_from" s_way_from ["points", "pair", "error"]) (hO : Has P w K mg base CX0 6 "onward" ["points", "a", "b", "error"] (spOnward C)) (zr : mg "range" = none) (zl : mg "len" = none) (zli : mg "list" = none) : Has P w K mg base CX0 7 "way_from" ["points", "pair", "error"] (spWayFrom K C) := Has.of D fun f fd F => by
  refine F.ok sc_way_from (fun vs H Q E h => ?_) (fun cdv A outer st H vs Q E hr h => ?_)
  · obtain ⟨l, t, ps, i, j, e, rfl, _⟩ := h
    rfl
  · obtain ⟨l, t, ps, i, j, er, rfl, hl, ht, bd, hi, hj, hz, he, k⟩ := h
    refine ⟨_, pss_cons (ps_set (i := 3) sc_way_from.nd rfl (.inl rfl) (pe_callTy call_list_of (by rfl) zli (by decide +kernel) (pa_cons (pv 1) pa_nil)))
      (pss_cons (ps_for PassesOwn.never rfl (pi_range1 rfl zr (pa_cons (pe_callB call_len_seq (by rfl) zl PySem.boot_len (pa_cons (pv 0) pa_nil)) pa_nil)) (pg_name (i := 4) sc_way_from.nd rfl (.inl rfl))
        (pss_cons (ps_set (i := 5) sc_way_from.nd rfl (.inl rfl) (pe_has hO hr pass0 (pa_cons (pv 0) (pa_cons (pe_ix ix_list (pv 0) (pe_ix ix_list (pv 3) (pe_un un_neg pe_int) (fun _ _ => rfl)) (fun _ _ => rfl)) (pa_cons (pe_ix ix_list (pv 0) (pe_ix ix_list (pv 3) (pe_un un_neg pe_int) (fun _ _ => rfl)) (fun _ _ => rfl)) (pa_cons (pv 2) pa_nil))))))
        (pss_cons (ps_if (pt_cmpR op_isN (pv 5) pe_non (nomark _)) (pss_one (ps_ret (pv 3))) pss_nil)
        (pss_one (ps_expr (pe_bm PySem.F.plainAttrs_list PySem.F.slot_list_append PySem.F.type_list_append mt_append (pv 3) (pa_cons (pv 5) pa_nil)))))))
      (pss_one (ps_ret (pv 3)))), ?_⟩
    refine q_asgL (el_listT (ev_var rfl) ht) (fun o H1 ho e1 h1 => ?_)
    refine q_forR1 (ea_cons (ev_plen (hl.mono e1) (ev_var rfl)) ea_nil) (by omega) (fun m σ' H' => Ex H H' ∧ ∃ ws a b x y, σ' = [some (.ref l), some (.ref t), some (vN er), some (.ref o), x, y] ∧ H' o = some (.lst ((ws ++ [a, b]).map vN)) ∧ a < ps.length ∧ b < ps.length ∧ (ws ++ [a, b]) ++ Sh72.longer er ps (ps.length - m) a b = Sh72.way er ps (i, j))
      (fun H2 e2 => ⟨e1.trans e2, [], i, j, none, none, rfl, e2 _ _ h1, hi, hj, rfl⟩) (fun m σ' H' hm hP => ?_) (fun σ' H' hP => ?_)
    · obtain ⟨e2, ws, a, b, x, y, rfl, hw, ha, hb, hway⟩ := hP
      have hmm : ps.length - m = (ps.length - (m + 1)) + 1 := by omega
      rw [hmm, NM.longer_succ] at hway
      have wl := NM.way_len er ps (i, j)
      obtain ⟨i2, i1⟩ := atI_back (ws.map vN) (vN a) (vN b)
      have hw' : H' o = some (.lst (ws.map vN ++ [vN a, vN b])) := by rw [hw, List.map_append]; rfl
      have va : Ev (tOp (rIxL K) (tVar 3) (tUn (rU fun i => .int (-i)) (tC (.int 2)))) [some (.ref l), some (.ref t), some (vN er), some (.ref o), some (vN m), y] H' (vN a) := ev_op (ev_var rfl) ev_neg (rv_ixL (SqL.of hw') i2)
      have vb : Ev (tOp (rIxL K) (tVar 3) (tUn (rU fun i => .int (-i)) (tC (.int 1)))) [some (.ref l), some (.ref t), some (vN er), some (.ref o), some (vN m), y] H' (vN b) := ev_op (ev_var rfl) ev_neg (rv_ixL (SqL.of hw') i1)
      obtain ⟨pa, va2, ppa⟩ := ev_pts (K := K) (ta := tVar 0) (i := a) (hl.mono e2) (ev_var rfl) va ha
      obtain ⟨pb, vb2, ppb⟩ := ev_pts (K := K) (ta := tVar 0) (i := b) (hl.mono e2) (ev_var rfl) vb hb
      refine q_asg (ev_call (ea_cons (ev_var rfl) (ea_cons va2 (ea_cons vb2 (ea_cons (ev_var rfl) ea_nil)))) (sv_onward (hl.mono e2) ppa ppb bd ha hb he)) (fun H2 e3 => ?_)
      cases hn : Sh72.next er ps a b with
      | none =>
        rw [hn] at hway
        simp only [List.append_nil] at hway
        refine q_when (b := true) (et_test (ev_op (ev_var (v := V.non) rfl) ev_c rv_isN)) (fun _ H3 e4 => ?_) (fun q => by cases q)
        refine s_ret (ev_var rfl) fun H4 e5 => k _ _ ho (((e2.trans e3).trans e4).trans e5) ?_
        rw [← hway]
        exact ((e3.trans e4).trans e5) _ _ hw
      | some c =>
        rw [hn] at hway
        simp only at hway
        have hc := NM.next_lt hn
        refine q_when (b := false) (et_test (ev_op (ev_var (v := vN c) rfl) ev_c rv_isN)) (fun q => by cases q) (fun _ H3 e4 => ?_)
        have hlen : ((ws ++ [a, b]).map vN).length ≤ 60 := by
          rw [List.length_map]
          have z := congrArg List.length hway
          rw [List.length_append] at z
          omega
        refine s_app ((e3.trans e4) _ _ hw) (ev_var rfl) (ev_var (v := vN c) rfl) (by omega) (fun H4 e5 => ?_)
        refine ⟨Ex.mut (((e2.trans e3).trans e4).trans e5) ho, ws ++ [a], b, c, _, _, rfl, ?_, hb, hc, ?_⟩
        · rw [upd_same]
          refine congrArg (fun q => some (HO.lst q)) ?_
          simp
        · rw [← hway]
          simp
    · obtain ⟨e2, ws, a, b, x, y, rfl, hw, ha, hb, hway⟩ := hP
      have hz0 : ps.length - ((ps.length : Nat) : Int).toNat = 0 := by omega
      rw [hz0] at hway
      have hway2 : ws ++ [a, b] = Sh72.way er ps (i, j) := by
        rw [← hway]
        show _ = (ws ++ [a, b]) ++ []
        rw [List.append_nil]
      refine s_ret (ev_var rfl) fun H4 e5 => k _ _ ho (e2.trans e5) ?_
      rw [← hway2]
      exact e5 _ _ hw
end
end NH

namespace NH
open PySem PySem.Spec PyProof.Rows L2 Evl
section
variable {P : Program} {w : World} {K : PySem.W.Frag} {mg : Str → Option Value} {base : Heap} {C CR' : Addr}
/-! ### all_ways -/
def spAllWays (C : Addr) : Sp := fun vs H Q _ => ∃ (l : Addr) (ps : List Sh72.Point) (v e m : Nat), vs = [.ref l, vN v, vN e, vN m] ∧ PtsAt C H l ps ∧ NM.AllBd ps ∧ ps.length ≤ 48 ∧ v ≤ 65535 ∧ e ≤ 16777216 ∧
  ∀ x H2, Ex H H2 → (∃ t nu, x = .ref t ∧ H2 t = some (.tup [vN (Sh72.ways v e m ps).length, .ref nu]) ∧ H2 nu = some (.lst ((Sh72.told ps.length (Sh72.ways v e m ps)).map vN))) → Q x H2
theorem sx_allWays {H : Hp} {l : Addr} {ps : List Sh72.Point} {v er m : Nat} (h1 : PtsAt C H l ps) (h2 : NM.AllBd ps) (h3 : ps.length ≤ 48) (h4 : v ≤ 65535) (h5 : er ≤ 16777216) : SpX (spAllWays C) [.ref l, vN v, vN er, vN m] H
    (fun x H2 => ∃ t nu, x = .ref t ∧ H2 t = some (.tup [vN (Sh72.ways v er m ps).length, .ref nu]) ∧ H2 nu = some (.lst ((Sh72.told ps.length (Sh72.ways v er m ps)).map vN))) := fun _ e _ k _ => ⟨l, ps, v, er, m, rfl, h1.mono e, h2, h3, h4, h5, k⟩
abbrev s_all_ways : Stmt := top 33
abbrev n_all_ways : List Str := ["points", "speed", "error", "least", "numbers", "many", "pair", "way", "k"]
theorem b_all_ways : Bn "all_ways" s_all_ways ["points", "speed", "error", "least"] := fun _ _ _ _ _ _ us hl => match us, hl with | [_, _, _, _], _ => rfl
theorem sc_all_ways : FnScope n_all_ways ["points", "speed", "error", "least"] (defScope s_all_ways) := ⟨rfl, rfl, rfl, by decide +kernel, rfl, by decide +kernel, by decide +kernel⟩
section
variable {σ : L2.St} {H : Hp} {ta tb te : TE} {D : Ends} {tz tu : TS} {g : TG}
theorem rep_flat (x : V) : ∀ n : Nat, (List.replicate n [x]).flatten = List.replicate n x
  | 0 => rfl
  | n + 1 => by rw [List.replicate_succ, List.flatten_cons, rep_flat x n, List.replicate_succ]; rfl
theorem el_rep {x : V} {n : Nat} (ha : EvL ta σ H [x]) (hb : Ev tb σ H (vN n)) (hn : n ≤ 100000) : EvL (tOp rRep ta tb) σ H (List.replicate n x) := fun H1 e Q q =>
  ha H1 e _ fun p H2 _ e2 h2 => hb H2 (e.trans e2) _ fun H3 e3 => ⟨p, (n : Int), [x], rfl, rfl, e3 _ _ h2, by omega, by omega, by rw [Int.toNat_natCast]; show 1 * n ≤ sizeLine; rw [Nat.one_mul]; exact sz_of hn, fun z hz => q z _ (fresh_back (e2.trans e3) hz) ((e2.trans e3).trans (Ex.new hz)) (by
    rw [upd_same, Int.toNat_natCast, rep_flat])⟩
/-- for pair in a list of pairs that a call makes -/
theorem q_forX {R : V → Hp → Prop} {j : Nat} (h : EvX te σ H R) (Pv : Addr → List V → Nat → L2.St → Hp → Prop) (hR : ∀ v H1, Ex H H1 → R v H1 → ∃ o xs, v = .ref o ∧ H1 o = some (.lst xs) ∧ Pv o xs 0 σ H1) (hl : ∀ o xs i σ' H', Pv o xs i σ' H' → H' o = some (.lst xs))
    (hs : ∀ o xs i x σ' H', xs[i]? = some x → Pv o xs i σ' H' → tu { D with nx := Pv o xs (i + 1), ct := Pv o xs (i + 1), bk := tz D } (σ'.set j (some x)) H') (hd : ∀ o xs σ' H', Pv o xs xs.length σ' H' → tz D σ' H') : tSeq (tFor (iList K te) (gName j) tu) tz D σ H :=
  h H (Ex.refl H) _ fun v H1 e hv => by
    obtain ⟨o, xs, rfl, ho, hp⟩ := hR v H1 e hv
    exact ⟨o, rfl, ⟨xs, SqL.of ho⟩, for_list (D := { D with nx := tz D }) (Pv o xs) hp (fun i σ' H' _ p => SqL.of (hl o xs i σ' H' p)) (hs o xs) (hd o xs)⟩
theorem q_augI {i : Nat} {a b : Int} (hx : σ[i]? = some (some (.int a))) (h : Ev te σ H (.int b)) (k : ∀ H1, Ex H H1 → tz D (σ.set i (some (.int (a + b)))) H1) : tSeq (tAug i te (ipI fun i j => i + j)) tz D σ H := q_aug (f := fun i j => i + j) hx h k
end
theorem map_set_vN (l : List Nat) (k m : Nat) : (l.map vN).set k (vN m) = (l.set k m).map vN := by
  rw [List.map_set]
theorem ok_all_ways (D : Df K mg "all_ways" s_all_ways ["points", "speed", "error", "least"]) (hPr : Has P w K mg base CX0 4 "pairs_of" ["points", "speed"] (spPairs C)) (hW : Has P w K mg base CX0 7 "way_from" ["points", "pair", "error"] (spWayFrom K C)) (zl : mg "len" = none) (za : mg "all" = none) :
    Has P w K mg base CX0 8 "all_ways" ["points", "speed", "error", "least"] (spAllWays C) := Has.of D fun f fd F => by
  refine F.ok sc_all_ways (fun vs H Q E h => ?_) (fun cdv A outer st H vs Q E hr h => ?_)
  · obtain ⟨l, ps, v, e, m, rfl, _⟩ := h
    rfl
  · obtain ⟨l, ps, v, er, lm, rfl, hl, bd, hz, hv, he, k⟩ := h
    have hr4 : Room 4 _ := hr.mono (by decide)
    refine ⟨_, pss_cons (ps_set (i := 4) sc_all_ways.nd rfl (.inr rfl) (pe_op op_rep (pe_lst (pa_cons pe_int pa_nil)) (pe_callB call_len_seq (by rfl) zl PySem.boot_len (pa_cons (pv 0) pa_nil))))
      (pss_cons (ps_set (i := 5) sc_all_ways.nd rfl (.inl rfl) pe_int)
      (pss_cons (ps_for PassesOwn.never rfl (pi_list (pe_has hPr hr4 pass0 (pa_cons (pv 0) (pa_cons (pv 1) pa_nil)))) (pg_name (i := 6) sc_all_ways.nd rfl (.inl rfl))
        (pss_cons (ps_set (i := 7) sc_all_ways.nd rfl (.inl rfl) (pe_has hW hr pass0 (pa_cons (pv 0) (pa_cons (pv 6) (pa_cons (pv 2) pa_nil)))))
        (pss_one (ps_if (PW.pt (pw_and (pt_cmpR op_ge (pe_callB call_len_seq (by rfl) zl PySem.boot_len (pa_cons (pv 7) pa_nil)) (pv 3) (nomark _)) (pw_and1 (pt_val (pe_callB (cr_all rfl) (by rfl) za (by decide +kernel) (pa_cons
            (pe_lc (own := [("k", 8)]) (g := gName 8) (tt := tYes) (te := tOp rEq (tOp (rIxL K) (tVar 4) (tVar 8)) (tC (.int 0))) rfl sc_all_ways.nd (pi_list (pv 7)) (blkOk_by (N := n_all_ways) (sc := defScope s_all_ways) (by decide +kernel)) (fun _ _ _ _ _ => pg_name (i := 8) sc_all_ways.nd rfl (Or.inl rfl)) (fun _ _ _ _ _ => pts_nil)
              (fun _ _ _ _ _ => by exact (pe_cmpR op_eq (pe_ix ix_list (pv 4) (pv 8) (fun _ _ => rfl)) pe_int (nomark _)))) pa_nil))))))
          (pss_cons (ps_aug (i := 5) sc_all_ways.nd rfl (.inl rfl) pe_int ip_add)
          (pss_one (ps_for PassesOwn.never rfl (pi_list (pv 7)) (pg_name (i := 8) sc_all_ways.nd rfl (.inl rfl)) (pss_one (ps_asg (pv 5) (pg_sub (pv 4) (pv 8) set_list)))))) pss_nil))))
      (pss_one (ps_ret (pe_tup (pa_cons (pv 5) (pa_cons (pv 4) pa_nil))))))), ?_⟩
    refine q_asgL (el_rep (el_lst (ea_cons ev_c ea_nil) (by show 1 ≤ 100000; decide)) (ev_plen hl (ev_var rfl)) (by omega)) (fun nu H1 hnu e1 h1 => ?_)
    refine q_asg ev_c (fun H2 e2 => ?_)
    have e12 := e1.trans e2
    generalize hprs : Sh72.pairs v ps = prs
    refine q_forX (R := fun x H3 => ∃ o, x = .ref o ∧ PairsAt H3 o (Sh72.pairs v ps)) (ex_call (ea_cons (ev_var rfl) (ea_cons (ev_var rfl) ea_nil)) (sx_pairs (hl.mono e12) bd hz hv))
      (fun o xs i σ' H' => Ex H H' ∧ PairsAt H' o prs ∧ H' o = some (.lst xs) ∧ H' nu = some (.lst ((Sh72.told ps.length (NM.waysTo v er lm ps i)).map vN)) ∧ ∃ x y z, σ' = [some (.ref l), some (vN v), some (vN er), some (vN lm), some (.ref nu), some (vN (NM.waysTo v er lm ps i).length), x, y, z])
      (fun x H3 e3 hx => ?_) (fun o xs i σ' H' hP => hP.2.2.1) (fun o xs i x σ' H' hx hP => ?_) (fun o xs σ' H' hP => ?_)
    · obtain ⟨o, rfl, ho⟩ := hx
      rw [hprs] at ho
      obtain ⟨as, ho1, _⟩ := id ho
      refine ⟨o, _, rfl, ho1, e12.trans e3, ho, ho1, ?_, none, none, none, rfl⟩
      rw [(e2.trans e3) _ _ h1]
      show _ = some (HO.lst ((Sh72.told ps.length []).map vN))
      rw [NM.told_nil, List.map_replicate]
      rfl
    · obtain ⟨e3, ho, hoxs, hnum, x1, y1, z1, rfl⟩ := hP
      have hxl := ho.len hoxs
      have hi : i < prs.length := by
        have := (List.getElem?_eq_some_iff.mp hx).1
        omega
      obtain ⟨as, ho1, ho2, ho3⟩ := id ho
      obtain ⟨ta, pr, q1, q2, q3⟩ := ho3 i hi
      rw [ho1] at hoxs
      cases hoxs
      rw [List.getElem?_map, q1] at hx
      have ex := Option.some.inj hx
      subst ex
      have hne : o ≠ nu := by
        intro z
        rw [z, hnum] at ho1
        have z2 : (Sh72.told ps.length (NM.waysTo v er lm ps i)).map vN = as.map V.ref := by
          have z3 := Option.some.inj ho1
          injection z3
        have z4 := congrArg (fun q => q[i]?) z2
        simp only [List.getElem?_map, q1] at z4
        cases q : (Sh72.told ps.length (NM.waysTo v er lm ps i))[i]? with
        | none =>
          rw [q] at z4
          cases z4
        | some u =>
          rw [q] at z4
          have z5 := Option.some.inj z4
          cases z5
      have hpm : pr ∈ Sh72.pairs v ps := by
        rw [hprs]
        exact List.mem_of_getElem? q2
      obtain ⟨b1, b2⟩ := NM.pairs_mem hpm
      have hsucc := NM.waysTo_succ (v := v) (e := er) (least := lm) (l := ps) (m := i) (p := pr) (by rw [hprs]; exact q2)
      have hpr2 : pr = (pr.1, pr.2) := rfl
      generalize NM.waysTo v er lm ps i = r at hnum hsucc
      refine q_asgL (el_call (ea_cons (ev_var rfl) (ea_cons (ev_var rfl) (ea_cons (ev_var rfl) ea_nil))) (sl_wayFrom (hl.mono e3) (st_of q3) bd b1 b2 hz he)) (fun wa H4 hwa e4 h4 => ?_)
      rw [← hpr2] at h4
      have wlt : ∀ k, k ∈ Sh72.way er ps pr → k < ps.length := fun k hk => NM.way_lt ⟨b1, b2⟩ hk
      have wlen := NM.way_len er ps pr
      generalize hway : Sh72.way er ps pr = way at h4 wlt wlen
      have hnu4 := e4 _ _ hnum
      have ho4 := ho.mono e4
      have ho14 := e4 _ _ ho1
      have numEv : ∀ (σ : L2.St) (H5 : Hp) (kk : Nat), Ex H4 H5 → σ[4]? = some (some (.ref nu)) → σ[8]? = some (some (vN kk)) → kk < ps.length → Ev (tOp (rIxL K) (tVar 4) (tVar 8)) σ H5 (vN (NM.numOf r kk)) := fun σ H5 kk e5 s4 s8 hk =>
        ev_lst (ev_var s4) (ev_var s8) (SqL.of (e5 _ _ hnu4)) (by rw [List.getElem?_map, NM.told_get hk]; rfl)
      have vlen := ev_len (K := K) (σ := [some (.ref l), some (vN v), some (vN er), some (vN lm), some (.ref nu), some (vN r.length), some (.ref ta), some (.ref wa), z1]) (H := H4) (ta := tVar 7) (ev_var rfl) (SqL.of h4)
      rw [List.length_map] at vlen
      have em2 : (way.map fun kk => decide (NM.numOf r kk = 0)).map V.bl = way.map fun kk => V.bl (decide (NM.numOf r kk = 0)) := by
        rw [List.map_map]
        rfl
      have comp : EvL (tLc (iList K (tVar 7)) (gName 8) tYes (tOp rEq (tOp (rIxL K) (tVar 4) (tVar 8)) (tC (.int 0))) [8]) [some (.ref l), some (vN v), some (vN er), some (vN lm), some (.ref nu), some (vN r.length), some (.ref ta), some (.ref wa), z1] H4 ((way.map fun kk => decide (NM.numOf r kk = 0)).map V.bl) := by
        rw [em2]
        refine el_lcM way vN (fun kk => .bl (decide (NM.numOf r kk = 0))) (ev_var rfl) (SqL.of h4) (by omega) (fun x => rfl) (fun kk hk H5 e5 => ?_)
        refine ev_is (ev_op (numEv _ _ kk e5 rfl rfl (wlt kk hk)) ev_c (rv_eq rfl)) (congrArg V.bl (decide_eq_decide.mpr ⟨fun z => ?_, fun z => ?_⟩))
        · have z2 := V.int.inj z
          omega
        · rw [z]
          rfl
      have test : EvT _ [some (.ref l), some (vN v), some (vN er), some (vN lm), some (.ref nu), some (vN r.length), some (.ref ta), some (.ref wa), z1] H4 _ := et_and (et_test (ev_I0 (g := fun i j => .bl (decide (j ≤ i))) vlen (ev_v (i := 3) (n := (lm : Int)) rfl))) (fun _ => et_B (ev_all (K := K) comp))
      refine s_when test (fun hb H5 e5 => ?_) (fun hb H5 e5 => ?_)
      · rw [Bool.and_eq_true] at hb
        have c1 : lm ≤ way.length := by have := of_decide_eq_true hb.1; omega
        have c2 : ∀ kk, kk ∈ way → NM.numOf r kk = 0 := by
          have z := hb.2
          rw [List.all_map, List.all_eq_true] at z
          exact fun kk hk => of_decide_eq_true (z kk hk)
        rw [← hway] at c1 c2
        rw [NM.step_told c1 c2] at hsucc
        have wlt' : ∀ k, k ∈ Sh72.way er ps pr → k < ps.length := by rw [hway]; exact wlt
        have tm := NM.told_mark (n := ps.length) wlt' c2
        rw [hway] at hsucc tm
        refine q_augI (a := ((r.length : Nat) : Int)) (b := 1) rfl ev_c (fun H6 e6 => ?_)
        have en : ((r.length : Nat) : Int) + 1 = ((r.length + 1 : Nat) : Int) := by omega
        rw [en]
        have e46 := e5.trans e6
        refine s_forLn (j := 8) (ev_var rfl) (SqL.of (e46 _ _ h4)) (fun t σ' H' => Ex H H' ∧ PairsAt H' o prs ∧ H' o = some (.lst (as.map V.ref)) ∧ H' wa = some (.lst (way.map vN)) ∧ H' nu = some (.lst ((NM.mark (r.length + 1) (Sh72.told ps.length r) (way.take t)).map vN)) ∧ ∃ z, σ' = [some (.ref l), some (vN v), some (vN er), some (vN lm), some (.ref nu), some (vN (r.length + 1)), some (.ref ta), some (.ref wa), z])
          (fun H7 e7 => ⟨((e3.trans e4).trans e46).trans e7, (ho4.mono e46).mono e7, (e46.trans e7) _ _ ho14, (e46.trans e7) _ _ h4, (e46.trans e7) _ _ hnu4, z1, rfl⟩) (fun t σ' H' _ hP => SqL.of hP.2.2.2.1) (fun t x σ' H' hx hP => ?_) (fun σ' H' hP => ?_)
        · obtain ⟨f1, f2, f3, f4, f5, z, rfl⟩ := hP
          rw [List.getElem?_map] at hx
          obtain ⟨kk, hk, rfl⟩ : ∃ kk, way[t]? = some kk ∧ x = vN kk := by
            cases q : way[t]? with
            | none =>
              rw [q] at hx
              cases hx
            | some kk =>
              rw [q] at hx
              exact ⟨kk, rfl, (Option.some.inj hx).symm⟩
          have hkn := wlt kk (List.mem_of_getElem? hk)
          have hwn : wa ≠ nu := fun z => by
            rw [z, hnum] at hwa
            cases hwa
          refine s_setL f5 (ev_var rfl) (ev_var rfl) (ev_var rfl) (by rw [List.length_map, NM.mark_len, NM.told_len]; exact hkn) (fun H8 e8 => ?_)
          have g2 := f2.mono e8
          refine ⟨Ex.mut (f1.trans e8) hnu, ?_, by rw [upd_ne hne]; exact e8 _ _ f3, by rw [upd_ne hwn]; exact e8 _ _ f4, by rw [upd_same, map_set_vN, NM.mark_take hk], _, rfl⟩
          obtain ⟨bs, u1, u2, u3⟩ := g2
          refine ⟨bs, by rw [upd_ne hne]; exact u1, u2, fun i hi => ?_⟩
          obtain ⟨a, p, w1, w2, w3⟩ := u3 i hi
          exact ⟨a, p, w1, w2, by rw [upd_ne (ne_of w3 (e8 _ _ f5) (by intro z; cases z))]; exact w3⟩
        · obtain ⟨f1, f2, f3, f4, f5, z, rfl⟩ := hP
          rw [List.length_map, List.take_length, ← tm] at f5
          refine ⟨f1, f2, f3, ?_, some (.ref ta), some (.ref wa), z, ?_⟩
          · rw [hsucc]
            exact f5
          · rw [hsucc, List.length_append]
            rfl
      · have hn : ¬ (lm ≤ (Sh72.way er ps pr).length ∧ ∀ kk, kk ∈ Sh72.way er ps pr → NM.numOf r kk = 0) := by
          rw [hway]
          rintro ⟨c1, c2⟩
          have z1 : (decide (((lm : Nat) : Int) ≤ ((way.length : Nat) : Int)) && ((way.map fun kk => decide (NM.numOf r kk = 0)).all id)) = true := by
            rw [Bool.and_eq_true]
            refine ⟨decide_eq_true (by omega), ?_⟩
            rw [List.all_map, List.all_eq_true]
            exact fun kk hk => decide_eq_true (c2 kk hk)
          rw [z1] at hb
          cases hb
        rw [NM.step_not hn] at hsucc
        refine ⟨(e3.trans e4).trans e5, ho4.mono e5, e5 _ _ ho14, ?_, some (.ref ta), some (.ref wa), z1, ?_⟩
        · rw [hsucc]
          exact e5 _ _ hnu4
        · rw [hsucc]
          rfl
    · obtain ⟨e3, ho, hoxs, hnum, x1, y1, z1, rfl⟩ := hP
      have hxl := ho.len hoxs
      have ew : NM.waysTo v er lm ps xs.length = Sh72.ways v er lm ps := by rw [NM.ways_is, hprs, hxl]
      rw [ew] at hnum ⊢
      refine s_retU (eu_tup (ea_cons (ev_var rfl) (ea_cons (ev_var rfl) ea_nil)) (by show 2 ≤ 100000; decide)) (fun t H4 ht e4 h4 => k _ _ (e3.trans e4) ⟨t, nu, rfl, h4, e4 _ _ hnum⟩)
end
end NH

namespace NH
open PySem PySem.Spec PyProof.Rows L2 Evl
section
variable {P : Program} {w : World} {K : PySem.W.Frag} {mg : Str → Option Value} {base : Heap} {C CR' : Addr}
/-! ### told_ways, mo_ways -/
def spToldWays (K : PySem.W.Frag) (CR' : Addr) : Sp := fun vs H Q E => ∃ (v e m : Nat) (b : Addr) (ln : List Nat), vs = [vN v, vN e, vN m, .ref b] ∧ WordsAt K H b ln ∧ ln.length ≤ 240 ∧ Told CR' (PySh72.mo_ways v e m (NM.intsN ln)) H Q E
abbrev s_told_ways : Stmt := top 39
abbrev n_told_ways : List Str := ["q", "e", "least", "l", "many", "numbers"]
theorem b_told_ways : Bn "told_ways" s_told_ways ["q", "e", "least", "l"] := fun _ _ _ _ _ _ us hl => match us, hl with | [_, _, _, _], _ => rfl
theorem sc_told_ways : FnScope n_told_ways ["q", "e", "least", "l"] (defScope s_told_ways) := ⟨rfl, rfl, rfl, by decide +kernel, rfl, by decide +kernel, by decide +kernel⟩
theorem q_tupK {σ : L2.St} {H : Hp} {te : TE} {g : TG} {D : Ends} {tz : TS} (Pv : V → Hp → Prop) (h : ∀ Q' : VK, (∀ v H1, Pv v H1 → Q' v H1) → te σ H Q') (k : ∀ v H1, Pv v H1 → g v σ H1 (tz D)) : tSeq (tAsg te g) tz D σ H := h _ k
theorem ok_told_ways (D : Df K mg "told_ways" s_told_ways ["q", "e", "least", "l"]) (hA : Has P w K mg base (L2.CX P w) 3 "ask" ["holds", "number"] (spAsk CR')) (hM : Has P w K mg base (L2.CX P w) 4 "ask_many" ["words", "most"] (spAskMany K CR')) (hRd : Has P w K mg base (L2.CX P w) 4 "read_points" ["words"] (spRead K C CR'))
    (hAW : Has P w K mg base CX0 8 "all_ways" ["points", "speed", "error", "least"] (spAllWays C)) (g1 : GI mg "MOST_REACH" 65535) (g2 : GI mg "OUT_OF_RANGE" (-2)) (g3 : GI mg "MOST_POINTS" 48) (g4 : GI mg "MOST_ERROR" 16777216) (g5 : GI mg "MOST_LEAST" 255) : Has P w K mg base (L2.CX P w) 9 "told_ways" ["q", "e", "least", "l"] (spToldWays K CR') := Has.of D fun f fd F => by
  refine F.okX sc_told_ways (fun vs H Q E h => ?_) (fun cdv A outer s H vs Q E hr h => ?_)
  · obtain ⟨v, e, m, b, ln, rfl, _⟩ := h
    rfl
  · obtain ⟨v, er, lm, b, ln, rfl, hL, hln, k1, k2⟩ := h
    have hr3 : Room 3 _ := hr.mono (by decide)
    have hr4 : Room 4 _ := hr.mono (by decide)
    refine ⟨_, pss_cons (ps_expr (pe_has hA hr3 (passes_call (takes_of rfl rfl rfl rfl) fun _ _ _ _ h => h) (pa_cons (pe_and (pe_cmpR op_le (pv 0) (pe_gi g1) (nomark _)) (pe_and (pe_cmpR op_le (pv 1) (pe_gi g4) (nomark _)) (pe_one (pe_cmpR op_le (pv 2) (pe_gi g5) (nomark _))))) (pa_cons (pe_gi g2) pa_nil))))
      (pss_cons (ps_expr (pe_has hM hr4 (passes_call (takes_of rfl rfl rfl rfl) fun _ _ _ _ h => h) (pa_cons (pv 3) (pa_cons (pe_gi g3) pa_nil))))
      (pss_cons (ps_asg (pe_has hAW hr pass0 (pa_cons (pe_has hRd hr4 (passes_call (takes_of rfl rfl rfl rfl) fun _ _ _ _ h => h) (pa_cons (pv 3) pa_nil)) (pa_cons (pv 0) (pa_cons (pv 1) (pa_cons (pv 2) pa_nil)))))
        (pg_tup rfl (pgs_cons (pg_name (i := 4) sc_told_ways.nd rfl (.inl rfl)) (pgs_cons (pg_name (i := 5) sc_told_ways.nd rfl (.inl rfl)) pgs_nil))))
      (pss_one (ps_ret (pe_op op_cat (pe_lst (pa_cons (pv 4) pa_nil)) (pv 5)))))), ?_⟩
    refine q_ask (ev_andV (ev_I0 (g := fun i j => .bl (decide (i ≤ j))) (ev_v rfl) ev_c) (fun _ => ev_andV (ev_I0 (g := fun i j => .bl (decide (i ≤ j))) (ev_v rfl) ev_c) (fun _ => ev_I0 (g := fun i j => .bl (decide (i ≤ j))) (ev_v rfl) ev_c))) ev_c (fun hb H1 e1 => ?_) (fun hb => k2 (-2) (NM.ways_bad (fun z => by
      rw [Bool.and_eq_false_iff, Bool.and_eq_false_iff] at hb
      rcases hb with hb | hb | hb
      · have := of_decide_eq_false hb; omega
      · have := of_decide_eq_false hb; omega
      · have := of_decide_eq_false hb; omega)))
    rw [Bool.and_eq_true, Bool.and_eq_true] at hb
    have hv : v ≤ 65535 := by have := of_decide_eq_true hb.1; omega
    have he : er ≤ 16777216 := by have := of_decide_eq_true hb.2.1; omega
    have hm : lm ≤ 255 := by have := of_decide_eq_true hb.2.2; omega
    refine q_askMany (ea_cons (ev_var rfl) (ea_cons ev_c ea_nil)) (hL.mono e1) (fun hk H2 e2 => ?_) (fun hk => (k2 (-2) (NM.ways_bad (fun z => hk z.2))).mono e1)
    have e12 := e1.trans e2
    have cond : (v ≤ 65535 ∧ er ≤ 16777216 ∧ lm ≤ 255) ∧ ln.length / 4 ≤ 48 := ⟨⟨hv, he, hm⟩, hk⟩
    have ll : (Sh72.points ln).length ≤ 48 := by rw [NM.points_length]; omega
    refine q_tupK (fun x H3 => Sh72.fines (Sh72.points ln) = true ∧ Ex H2 H3 ∧ ∃ t nu, x = .ref t ∧ H3 t = some (.tup [vN (Sh72.ways v er lm (Sh72.points ln)).length, .ref nu]) ∧ H3 nu = some (.lst ((Sh72.told (Sh72.points ln).length (Sh72.ways v er lm (Sh72.points ln))).map vN))) (fun Q' q' => ?_) (fun x H3 hx => ?_)
    · refine ⟨_, rfl, b, ln, rfl, hL.mono e12, by omega, fun hf y H4 e4 hy => ?_, fun hf => (k2 (-3) (NM.ways_not cond hf)).mono e12⟩
      obtain ⟨l1, rfl, hl1⟩ := hy
      exact ⟨_, rfl, _, rfl, _, rfl, sx_allWays hl1 (NM.fines_bd hf) ll hv he H4 (Ex.refl H4) _ (fun x H5 e5 h5 => q' x H5 ⟨hf, e4.trans e5, h5⟩) E0⟩
    · obtain ⟨hf, e23, t, nu, rfl, ht, hnu⟩ := hx
      refine ⟨t, _, rfl, st_of ht, rfl, _, [.ref nu], rfl, _, [], rfl, rfl, ?_⟩
      refine s_retL (el_catR (el_lst (ea_cons (ev_var rfl) ea_nil) (by show 1 ≤ 100000; decide)) (ev_var rfl) hnu (by rw [List.length_map, NM.told_len]; show 1 + _ ≤ 100000; omega)) (fun y H4 hy e4 h4 => k1 y H4 ((e12.trans e23).trans e4) ?_)
      rw [NM.ways_ok cond hf, h4]
      refine congrArg (fun q => some (HO.lst (vN (Sh72.ways v er lm (Sh72.points ln)).length :: q))) ?_
      unfold NM.intsN Sh72Neutral.ints
      rw [List.map_map]
      rfl
def spWaysMo (K : PySem.W.Frag) : Sp := fun vs H Q _ => ∃ (v e m : Nat) (b : Addr) (ln : List Nat), vs = [vN v, vN e, vN m, .ref b] ∧ WordsAt K H b ln ∧ ln.length ≤ 240 ∧ ∀ (H' : Hp) (p : Addr), H' p = some (.lst ((PySh72.mo_ways v e m (NM.intsN ln)).map V.int)) → Q (.ref p) H'
abbrev s_mo : Stmt := top 40
abbrev n_mo : List Str := ["q", "e", "least", "l", "refusal"]
theorem b_mo : Bn "mo_ways" s_mo ["q", "e", "least", "l"] := fun _ _ _ _ _ _ us hl => match us, hl with | [_, _, _, _], _ => rfl
theorem sc_mo : FnScope n_mo ["q", "e", "least", "l"] (defScope s_mo) := ⟨rfl, rfl, rfl, by decide +kernel, rfl, by decide +kernel, by decide +kernel⟩
theorem ok_mo {f : Addr} {fd : FuncData} (F : Fun K "mo_ways" "mo_ways" s_mo f fd) (T : CR K mg CR') (hT : Has P w K mg base (L2.CX P w) 9 "told_ways" ["q", "e", "least", "l"] (spToldWays K CR')) : FnOk P w K mg base CX0 10 f fd ["q", "e", "least", "l"] (spWaysMo K) := by
  refine F.ok sc_mo (fun vs H Q E h => ?_) (fun cdv A outer s H vs Q E hr h => ?_)
  · obtain ⟨v, e, m, b, ln, rfl, _⟩ := h
    rfl
  · obtain ⟨v, er, lm, b, ln, rfl, hL, hln, k⟩ := h
    refine ⟨_, pss_one (ps_try_as (i := 4) (tb := fun W => tRet (tCallS (spToldWays K CR') (WE W) (tCons (tVar 0) (tCons (tVar 1) (tCons (tVar 2) (tCons (tVar 3) tNil)))))) (ts := tSuite CR' 4) (Wout := fun _ _ _ _ => False) rfl rfl sc_mo.nd rfl rfl ⟨rfl, by decide, .inl T.gC⟩ takes0
      (fun W pn xe tk _ => pss_one (ps_ret (by exact (pe_hasS hT hr (fun σ => passAt tk σ) (by exact (pa_cons (pv 0) (pa_cons (pv 1) (pa_cons (pv 2) (pa_cons (pv 3) pa_nil)))))))))
      (fun a oe cls d pn hz hf => pss_one (ps_ret (pe_lst (pa_cons (by exact (pe_xf T.xf T.no hz hf (pv 4))) pa_nil))))), ?_⟩
    exact ⟨_, rfl, _, rfl, _, rfl, _, rfl, v, er, lm, b, ln, rfl, hL, hln, told_ok T (by show 4 < 5; decide) fun p H2 _ h2 => k H2 p h2⟩
end
end NH

namespace NH
open PySem PySem.Spec PyProof.Rows L2 Evl
open PySem.W (Codec)
/-! ### the request -/
section
variable {K : PySem.W.Frag} {H : Hp}
theorem dw_int {v : V} {z : Int} (h : Dw K H v (.int z)) : v = .int z := by
  cases h
  rfl
theorem dw_list {v : V} {l : List Int} (h : Dw K H v (.list (l.map PySem.W.WData.int))) : ∃ a, v = .ref a ∧ SqL K H a (l.map V.int) := by
  cases h with
  | lst hs ha =>
    have e := ints_dw l _ ha
    subst e
    exact ⟨_, rfl, hs⟩
theorem dwall_cons {xs : List V} {d : PySem.W.WData} {ds : List PySem.W.WData} (h : DwAll K H xs (d :: ds)) : ∃ v vs, xs = v :: vs ∧ Dw K H v d ∧ DwAll K H vs ds := by
  cases h with
  | cons h1 h2 => exact ⟨_, _, rfl, h1, h2⟩
theorem dwall_nil {xs : List V} (h : DwAll K H xs []) : xs = [] := by
  cases h
  rfl
theorem nat_of {m : Int} {z : Int} (h : Codec.inInt 0 m z = true) : ∃ n : Nat, z = (n : Int) ∧ (n : Int) ≤ m := by
  have q := Codec.inInt_iff.mp h
  exact ⟨z.toNat, by omega, by omega⟩
theorem words_of {m : Int} {l : List Int} (h : l.all (Codec.inInt 0 m) = true) : ∃ ns : List Nat, l = NM.intsN ns ∧ l.length = ns.length ∧ ∀ n ∈ ns, (n : Int) ≤ m := by
  have e := NM.ints_nats (l := l) fun x hx => (Codec.inInt_iff.mp (List.all_eq_true.mp h x hx)).1
  refine ⟨Sh72Neutral.nats l, e.symm, by unfold Sh72Neutral.nats; rw [List.length_map], fun n hn => ?_⟩
  obtain ⟨x, hx, e2⟩ := List.mem_map.mp hn
  have q := Codec.inInt_iff.mp (List.all_eq_true.mp h x hx)
  have e2 : x.toNat = n := e2
  omega
theorem words_at {a : Addr} {ns : List Nat} (h : SqL K H a ((NM.intsN ns).map V.int)) : WordsAt K H a ns := by
  unfold WordsAt
  unfold NM.intsN Sh72Neutral.ints at h
  rw [List.map_map] at h
  exact h
end
section
variable {P : Program} {w : World} {K : PySem.W.Frag} {mg : Str → Option Value} {h : Heap} {k : Nat} {x : Str} {ps : List Str} {sp : Sp} {st : Stmt} {fa : Addr}
/-- the row's def, from its promise -/
theorem fin (D : Df K mg x st ps) (hfa : mg x = some (.ref fa)) (all : ∀ (base : Heap) (fd : FuncData), Fun K x x st fa fd → FnOk P w K mg base CX0 k fa fd ps sp) :
    ∃ fd : FuncData, (∀ (s : Shared) (us : List Value), us.length = ps.length → BindsTo s fd ⟨us, []⟩ (ps.zip us)) ∧ ∀ base : Heap, K.In base → base.Ns mainGlobals mg → FnOk P w K mg base CX0 k fa fd ps sp := by
  obtain ⟨f, fd, F, m, b⟩ := D
  rw [m] at hfa
  cases hfa
  exact ⟨fd, fun s us hu => .of_eq (b us hu), fun base _ _ => all base fd F⟩
end
end NH

namespace NH
open PySem PySem.Spec PyProof.Rows L2 Evl
section
variable {K : PySem.W.Frag} {mg : Str → Option Value} {h : Heap}
abbrev Has_refused (K : PySem.W.Frag) (mg : Str → Option Value) : Prop := ∃ C, CR K mg C ∧ ∀ (P : Program) (w : World) (base : Heap), HasR P w K mg base C
theorem cls_refused {C f1 : Addr} (X : K.In h) (G : h.Ns mainGlobals mg) {nm q : Str} {N : Addr} {bs : List Value} {sn : List Str} {sub : List Value} {ab : Bool} {col : Option Bool} {dd : Option Addr} {m0 m1 m2 m3 m5 : Option Value}
    {od1 an1 : Option Addr} {sl1 : Array (Option Value)} {oc1 kV1 dc1 pm1 cd1 ct1 : Value}
    (aC : PySem.W.nsIn K mainGlobals "Refused" = some (some (.ref C)))
    (xL : K.lookup C = some (excClassObj nm q C N bs [.type "ValueError", .type "Exception", .type "BaseException", .type "object"] true sn sub ab col dd m0 m1 m2 m3 m5 "ValueError.__new__"))
    (sa : PySem.W.findIn K (.ref C) "__setattr__" = some (some (.builtin "object.__setattr__"))) (ga : PySem.W.findIn K (.ref C) "__getattribute__" = some (some (.builtin "BaseException.__getattribute__"))) (gg : PySem.W.findIn K (.ref C) "__getattr__" = some none) (nb : PySem.W.findIn K (.ref C) "number" = some none)
    (a1 : PySem.W.findIn K (.ref C) "__init__" = some (some (.ref f1))) (t1 : PySem.W.typeIn K (.ref f1) = some (.type "function"))
    (l1 : K.lookup f1 = some ⟨oc1, od1, .func (PySem.W.fnOf "__init__" "Refused.__init__" (defArgs s_rinit) (defBody s_rinit) (defScope s_rinit) .none kV1 dc1 pm1 an1 cd1 ct1), sl1⟩) (c1 : PySem.W.codeIn K cd1 "Refused.__init__" = true) (k1 : PySem.W.keepIn K (.ref f1) = true)
    (kC : PySem.W.keepIn K (.ref C) = true) (eC : PySem.W.subIn K (.ref C) (.type "BaseException") = some true) (tC : PySem.W.typeIn K (.ref C) = some (.type "type")) (hC : PySem.W.hasDictIn K C = true) (iC : PySem.W.isClsIn K C = true) (sC : PySem.W.subIn K (.ref C) (.ref C) = some true) :
    Has_refused K mg := by
  have T : CR K mg C := ⟨PySem.W.mg_of X G aC, ⟨⟨nm, q, N, bs, _, sn, sub, ab, col, dd, m0, m1, m2, m3, m5, xL, by decide +kernel⟩, sa, eC, tC, kC⟩, ⟨ga, gg, eC, hC⟩, nb, exm_self eC iC tC sC⟩
  have F1 := fun_mk (st := s_rinit) l1 c1 k1
  have b1 := F1.binds (ps := ["self", "number"]) fun _ _ _ _ _ _ us hl => match us, hl with | [_, _], _ => rfl
  exact ⟨C, T, fun P w base => ⟨f1, _, a1, t1, ok_rinit F1 T, b1⟩⟩
end
end NH

namespace NH
open PySem PySem.Spec PyProof.Rows L2 Evl
section
variable {K : PySem.W.Frag} {mg : Str → Option Value} {h : Heap}
abbrev Has_point (K : PySem.W.Frag) (mg : Str → Option Value) : Prop := ∃ C, CP K C ∧ ∀ (P : Program) (w : World) (base : Heap), HasMk P w K mg base 1 "Point" C ["self", "t", "x", "y", "light"] (spPInit C)
theorem cls_point {C f1 : Addr} (X : K.In h) (G : h.Ns mainGlobals mg) {od1 an1 : Option Addr} {sl1 : Array (Option Value)} {oc1 kV1 dc1 pm1 cd1 ct1 : Value}
    (aC : PySem.W.nsIn K mainGlobals "Point" = some (some (.ref C)))
    (a1 : PySem.W.findIn K (.ref C) "__init__" = some (some (.ref f1))) (i1 : PySem.W.isFn K (.ref f1) = true)
    (l1 : K.lookup f1 = some ⟨oc1, od1, .func (PySem.W.fnOf "__init__" "Point.__init__" (defArgs s_pinit) (defBody s_pinit) (defScope s_pinit) .none kV1 dc1 pm1 an1 cd1 ct1), sl1⟩) (c1 : PySem.W.codeIn K cd1 "Point.__init__" = true) (k1 : PySem.W.keepIn K (.ref f1) = true)
    (pg : PySem.W.plainGet K C Str.empty = true) (hd : PySem.W.hasDictIn K C = true) (po : PySem.W.plainOver K C = true) (sa : PySem.W.findIn K (.ref C) "__setattr__" = some (some (.builtin "object.__setattr__"))) (mk : PySem.W.makesIn K C = true) (kc : PySem.W.keepIn K (.ref C) = true)
    (nT : PySem.W.findIn K (.ref C) "t" = some none) (nX : PySem.W.findIn K (.ref C) "x" = some none) (nY : PySem.W.findIn K (.ref C) "y" = some none) (nL : PySem.W.findIn K (.ref C) "light" = some none) :
    Has_point K mg := by
  have T : CP K C := ⟨⟨pg, hd, po, sa⟩, nT, nX, nY, nL⟩
  have F1 := fun_mk (st := s_pinit) l1 c1 k1
  have b1 := F1.binds (ps := ["self", "t", "x", "y", "light"]) fun _ _ _ _ _ _ us hl => match us, hl with | [_, _, _, _, _], _ => rfl
  exact ⟨C, T, fun P w base => ⟨f1, _, ⟨mk, a1, i1, kc⟩, ok_pinit F1 T, PySem.W.mg_of X G aC, b1⟩⟩
end
end NH

open PySem PySem.W PyProof.Rows
set_option maxRecDepth 100000 in
set_option maxHeartbeats 8000000 in
theorem PySem.Challenge.cw_newandmoving_s04_mo_ways_holds : PySem.Challenge.rw_newandmoving_s04_mo_ways.Holds := by
  w_on; k_headS; (case hw => exact ⟨[.int 0, .int 0, .int 0, .list []], by decide +kernel, by decide +kernel⟩)
  k_fillS
  refine L2.walk_specK (r := PySem.Challenge.rw_newandmoving_s04_mo_ways) (k := 10) (CX := L2.CX0) (ps := ["q", "e", "least", "l"]) (sp := NH.spWaysMo) (by decide +kernel) rfl rfl ⟨rfl, by decide, by decide⟩ (fun w h Y => PySem.W.kIn_of Y) ?F ?S (fun _ _ _ _ z => z)
  case F =>
    intro w mg fa h Y KX G hmg
    have g_NOT_AS_TOLD : NH.GI mg "NOT_AS_TOLD" (-3) := by
      refine' NH.gi_mk KX G ?a
      (case a => k_is)
    have g_WORD : NH.GI mg "WORD" 4294967296 := by
      refine' NH.gi_mk KX G ?a
      (case a => k_is)
    have g_HALF_WORD : NH.GI mg "HALF_WORD" 2147483648 := by
      refine' NH.gi_mk KX G ?a
      (case a => k_is)
    have g_POINT_WORDS : NH.GI mg "POINT_WORDS" 4 := by
      refine' NH.gi_mk KX G ?a
      (case a => k_is)
    have g_LAST_TIME : NH.GI mg "LAST_TIME" 65535 := by
      refine' NH.gi_mk KX G ?a
      (case a => k_is)
    have g_EDGE : NH.GI mg "EDGE" 32768 := by
      refine' NH.gi_mk KX G ?a
      (case a => k_is)
    have g_MOST_LIGHT : NH.GI mg "MOST_LIGHT" 65536 := by
      refine' NH.gi_mk KX G ?a
      (case a => k_is)
    have g_OUT_OF_RANGE : NH.GI mg "OUT_OF_RANGE" (-2) := by
      refine' NH.gi_mk KX G ?a
      (case a => k_is)
    have g_PARTS : NH.GI mg "PARTS" 256 := by
      refine' NH.gi_mk KX G ?a
      (case a => k_is)
    have g_MOST_POINTS : NH.GI mg "MOST_POINTS" 48 := by
      refine' NH.gi_mk KX G ?a
      (case a => k_is)
    have g_MOST_REACH : NH.GI mg "MOST_REACH" 65535 := by
      refine' NH.gi_mk KX G ?a
      (case a => k_is)
    have g_MOST_ERROR : NH.GI mg "MOST_ERROR" 16777216 := by
      refine' NH.gi_mk KX G ?a
      (case a => k_is)
    have g_MOST_LEAST : NH.GI mg "MOST_LEAST" 255 := by
      refine' NH.gi_mk KX G ?a
      (case a => k_is)
    have z_abs : mg "abs" = none := by
      refine' PySem.W.mg_none_of KX G ?a
      (case a => k_is)
    have z_len : mg "len" = none := by
      refine' PySem.W.mg_none_of KX G ?a
      (case a => k_is)
    have z_range : mg "range" = none := by
      refine' PySem.W.mg_none_of KX G ?a
      (case a => k_is)
    have z_all : mg "all" = none := by
      refine' PySem.W.mg_none_of KX G ?a
      (case a => k_is)
    have z_max : mg "max" = none := by
      refine' PySem.W.mg_none_of KX G ?a
      (case a => k_is)
    have z_enumerate : mg "enumerate" = none := by
      refine' PySem.W.mg_none_of KX G ?a
      (case a => k_is)
    have z_list : mg "list" = none := by
      refine' PySem.W.mg_none_of KX G ?a
      (case a => k_is)
    have d_ask := (by
      refine' NH.df_mk KX G NH.b_ask ?a ?l ?c ?k
      (case a => k_is)
      (case l => k_is)
      (case c => k_is)
      (case k => k_is) : NH.Df _ mg "ask" NH.s_ask ["holds", "number"])
    have d_signed := (by
      refine' NH.df_mk KX G NH.b_signed ?a ?l ?c ?k
      (case a => k_is)
      (case l => k_is)
      (case c => k_is)
      (case k => k_is) : NH.Df _ mg "signed" NH.s_signed ["word"])
    have d_point_at := (by
      refine' NH.df_mk KX G NH.b_point_at ?a ?l ?c ?k
      (case a => k_is)
      (case l => k_is)
      (case c => k_is)
      (case k => k_is) : NH.Df _ mg "point_at" NH.s_point_at ["words", "at"])
    have d_is_point := (by
      refine' NH.df_mk KX G NH.b_is_point ?a ?l ?c ?k
      (case a => k_is)
      (case l => k_is)
      (case c => k_is)
      (case k => k_is) : NH.Df _ mg "is_point" NH.s_is_point ["point"])
    have d_read := (by
      refine' NH.df_mk KX G NH.b_read ?a ?l ?c ?k
      (case a => k_is)
      (case l => k_is)
      (case c => k_is)
      (case k => k_is) : NH.Df _ mg "read_points" NH.s_read ["words"])
    have d_ask_many := (by
      refine' NH.df_mk KX G NH.b_ask_many ?a ?l ?c ?k
      (case a => k_is)
      (case l => k_is)
      (case c => k_is)
      (case k => k_is) : NH.Df _ mg "ask_many" NH.s_ask_many ["words", "most"])
    have d_squared := (by
      refine' NH.df_mk KX G NH.b_squared ?a ?l ?c ?k
      (case a => k_is)
      (case l => k_is)
      (case c => k_is)
      (case k => k_is) : NH.Df _ mg "squared" NH.s_squared ["number"])
    have d_far := (by
      refine' NH.df_mk KX G NH.b_far ?a ?l ?c ?k
      (case a => k_is)
      (case l => k_is)
      (case c => k_is)
      (case k => k_is) : NH.Df _ mg "far" NH.s_far ["one", "other"])
    have d_off := (by
      refine' NH.df_mk KX G NH.b_off ?a ?l ?c ?k
      (case a => k_is)
      (case l => k_is)
      (case c => k_is)
      (case k => k_is) : NH.Df _ mg "off" NH.s_off ["place", "point"])
    have d_rounded := (by
      refine' NH.df_mk KX G NH.b_rounded ?a ?l ?c ?k
      (case a => k_is)
      (case l => k_is)
      (case c => k_is)
      (case k => k_is) : NH.Df _ mg "rounded" NH.s_rounded ["above", "below"])
    have d_line := (by
      refine' NH.df_mk KX G NH.b_line ?a ?l ?c ?k
      (case a => k_is)
      (case l => k_is)
      (case c => k_is)
      (case k => k_is) : NH.Df _ mg "said_on_a_line" NH.s_line ["begin", "step", "gone", "span"])
    have d_said := (by
      refine' NH.df_mk KX G NH.b_said ?a ?l ?c ?k
      (case a => k_is)
      (case l => k_is)
      (case c => k_is)
      (case k => k_is) : NH.Df _ mg "said_at" NH.s_said ["a", "b", "t"])
    have d_may := (by
      refine' NH.df_mk KX G NH.b_may ?a ?l ?c ?k
      (case a => k_is)
      (case l => k_is)
      (case c => k_is)
      (case k => k_is) : NH.Df _ mg "may_be_one" NH.s_may ["a", "b", "speed"])
    have d_pairs := (by
      refine' NH.df_mk KX G NH.b_pairs ?a ?l ?c ?k
      (case a => k_is)
      (case l => k_is)
      (case c => k_is)
      (case k => k_is) : NH.Df _ mg "pairs_of" NH.s_pairs ["points", "speed"])
    have d_off_said := (by
      refine' NH.df_mk KX G NH.b_off_said ?a ?l ?c ?k
      (case a => k_is)
      (case l => k_is)
      (case c => k_is)
      (case k => k_is) : NH.Df _ mg "off_said" NH.s_off_said ["a", "b", "c"])
    have d_goes_on := (by
      refine' NH.df_mk KX G NH.b_goes_on ?a ?l ?c ?k
      (case a => k_is)
      (case l => k_is)
      (case c => k_is)
      (case k => k_is) : NH.Df _ mg "goes_on" NH.s_goes_on ["a", "b", "c", "error"])
    have d_is_ahead := (by
      refine' NH.df_mk KX G NH.b_is_ahead ?a ?l ?c ?k
      (case a => k_is)
      (case l => k_is)
      (case c => k_is)
      (case k => k_is) : NH.Df _ mg "is_ahead" NH.s_is_ahead ["a", "b", "one", "other"])
    have d_onward := (by
      refine' NH.df_mk KX G NH.b_onward ?a ?l ?c ?k
      (case a => k_is)
      (case l => k_is)
      (case c => k_is)
      (case k => k_is) : NH.Df _ mg "onward" NH.s_onward ["points", "a", "b", "error"])
    have d_way_from := (by
      refine' NH.df_mk KX G NH.b_way_from ?a ?l ?c ?k
      (case a => k_is)
      (case l => k_is)
      (case c => k_is)
      (case k => k_is) : NH.Df _ mg "way_from" NH.s_way_from ["points", "pair", "error"])
    have d_all_ways := (by
      refine' NH.df_mk KX G NH.b_all_ways ?a ?l ?c ?k
      (case a => k_is)
      (case l => k_is)
      (case c => k_is)
      (case k => k_is) : NH.Df _ mg "all_ways" NH.s_all_ways ["points", "speed", "error", "least"])
    have d_told_ways := (by
      refine' NH.df_mk KX G NH.b_told_ways ?a ?l ?c ?k
      (case a => k_is)
      (case l => k_is)
      (case c => k_is)
      (case k => k_is) : NH.Df _ mg "told_ways" NH.s_told_ways ["q", "e", "least", "l"])
    have d_mo := (by
      refine' NH.df_mk KX G NH.b_mo ?a ?l ?c ?k
      (case a => k_is)
      (case l => k_is)
      (case c => k_is)
      (case k => k_is) : NH.Df _ mg "mo_ways" NH.s_mo ["q", "e", "least", "l"])
    have c_refused := (by
      refine' NH.cls_refused KX G ?aC ?xL ?sa ?ga ?gg ?nb ?a1 ?t1 ?l1 ?c1 ?k1 ?kC ?eC ?tC ?hC ?iC ?sC
      (case aC => k_is)
      (case xL => k_is)
      (case sa => k_is)
      (case ga => k_is)
      (case gg => k_is)
      (case nb => k_is)
      (case a1 => k_is)
      (case t1 => k_is)
      (case l1 => k_is)
      (case c1 => k_is)
      (case k1 => k_is)
      (case kC => k_is)
      (case eC => k_is)
      (case tC => k_is)
      (case hC => k_is)
      (case iC => k_is)
      (case sC => first | rfl | k_is) : NH.Has_refused _ mg)
    have c_point := (by
      refine' NH.cls_point KX G ?aC ?a1 ?i1 ?l1 ?c1 ?k1 ?pg ?hd ?po ?sa ?mk ?kc ?nT ?nX ?nY ?nL
      (case aC => k_is)
      (case a1 => k_is)
      (case i1 => k_is)
      (case l1 => k_is)
      (case c1 => k_is)
      (case k1 => k_is)
      (case pg => k_is)
      (case hd => k_is)
      (case po => k_is)
      (case sa => k_is)
      (case mk => k_is)
      (case kc => k_is)
      (case nT => k_is)
      (case nX => k_is)
      (case nY => k_is)
      (case nL => k_is) : NH.Has_point _ mg)
    obtain ⟨CR', TR, hR⟩ := c_refused
    obtain ⟨C, TP, hP⟩ := c_point
    refine NH.fin d_mo hmg fun base fd F => ?_
    have h_ask := NH.ok_ask (P := PySem.Challenge.pw_newandmoving_s04_mo_ways) (w := w) (base := base) d_ask TR (hR _ _ _)
    have h_signed := NH.ok_signed (P := PySem.Challenge.pw_newandmoving_s04_mo_ways) (w := w) (base := base) d_signed g_HALF_WORD g_WORD
    have h_point_at := NH.ok_point_at d_point_at h_signed (hP _ _ _)
    have h_is_point := NH.ok_is_point (P := PySem.Challenge.pw_newandmoving_s04_mo_ways) (w := w) (base := base) d_is_point TP g_LAST_TIME g_EDGE g_MOST_LIGHT z_abs
    have h_read := NH.ok_read d_read h_point_at h_is_point h_ask g_POINT_WORDS g_NOT_AS_TOLD z_len z_range z_all
    have h_ask_many := NH.ok_ask_many (P := PySem.Challenge.pw_newandmoving_s04_mo_ways) (w := w) (base := base) d_ask_many h_ask g_POINT_WORDS g_OUT_OF_RANGE z_len
    have h_sq := NH.ok_squared (P := PySem.Challenge.pw_newandmoving_s04_mo_ways) (w := w) (base := base) d_squared
    have h_far := NH.ok_far d_far TP h_sq
    have h_rounded := NH.ok_rounded (P := PySem.Challenge.pw_newandmoving_s04_mo_ways) (w := w) (base := base) d_rounded
    have h_line := NH.ok_line d_line h_rounded g_PARTS
    have h_said := NH.ok_said d_said TP h_line z_max
    have h_off := NH.ok_off d_off TP h_sq g_PARTS
    have h_may := NH.ok_may d_may TP h_far h_sq
    have h_pairs := NH.ok_pairs d_pairs h_may z_range z_len
    have h_off_said := NH.ok_off_said d_off_said TP h_off h_said
    have h_goes := NH.ok_goes_on d_goes_on TP h_off_said h_sq
    have h_ia := NH.ok_is_ahead d_is_ahead TP h_off_said
    have h_on := NH.ok_onward d_onward h_goes h_ia z_enumerate
    have h_way := NH.ok_way_from d_way_from h_on z_range z_len z_list
    have h_all := NH.ok_all_ways d_all_ways h_pairs h_way z_len z_all
    exact NH.ok_mo F TR (NH.ok_told_ways d_told_ways h_ask h_ask_many h_read h_all g_MOST_REACH g_OUT_OF_RANGE g_MOST_POINTS g_MOST_ERROR g_MOST_LEAST)
  case S =>
    intro K H xs a hO hwi hask hx
    obtain ⟨z0, z1, z2, z3, u⟩ := a
    have q : (Codec.inInt 0 4294967295 z0 && (Codec.inInt 0 4294967295 z1 && (Codec.inInt 0 4294967295 z2 && ((Codec.inLen 0 240 z3 && z3.all (Codec.inInt 0 4294967295)) && true)))) = true := hwi
    simp only [Bool.and_eq_true] at q
    obtain ⟨q0, q1, q2, ⟨q3, p3⟩, _⟩ := q
    obtain ⟨v, rfl, hv⟩ := NH.nat_of q0
    obtain ⟨e, rfl, he⟩ := NH.nat_of q1
    obtain ⟨m, rfl, hm⟩ := NH.nat_of q2
    obtain ⟨ln, rfl, lln, mln⟩ := NH.words_of p3
    have bln := Codec.inNat_iff.mp q3
    obtain ⟨v0, r0, rfl, e0, hx⟩ := NH.dwall_cons (d := .int (v : Int)) (ds := [.int (e : Int), .int (m : Int), .list ((NM.intsN ln).map WData.int)]) hx
    obtain ⟨v1, r1, rfl, e1, hx⟩ := NH.dwall_cons hx
    obtain ⟨v2, r2, rfl, e2, hx⟩ := NH.dwall_cons hx
    obtain ⟨v3, r3, rfl, e3, hx⟩ := NH.dwall_cons hx
    obtain rfl := NH.dwall_nil hx
    obtain rfl := NH.dw_int e0
    obtain rfl := NH.dw_int e1
    obtain rfl := NH.dw_int e2
    obtain ⟨aln, rfl, wln⟩ := NH.dw_list e3
    exact ⟨v, e, m, aln, ln, rfl, NH.words_at wln, by omega, fun H' p hp => .lst (L2.SqL.of hp) (L2.dw_ints _)⟩
#print axioms PySem.Challenge.cw_newandmoving_s04_mo_ways_holds
