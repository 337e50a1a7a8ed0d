import PyProof.Rows.All
import Wide.All
import OpenK.AllK
import Wide.FinOn
import PyProof.EqAt
import PyProof.EqKinds
import PyProof.TupleCall
import Open.SpecLaws
import KE.OsGo
import HandS.ForSpec
import HandS.Comp
import HandS.Iter
import HandS.Walk
import HandS.Wide
import HandS.ExcInit
import HandS.ExcField
import HandS.Evl
import PySem.Challenge.RW_newandmoving_s06_mo_fit
set_option Elab.async false
set_option linter.all false
set_option maxRecDepth 100000
set_option maxHeartbeats 4000000
namespace NM
open Sh72
/-! ### words, points -/
abbrev intsN (l : List Nat) : List Int := Sh72Neutral.ints l
theorem nats_ints (l : List Nat) : Sh72Neutral.nats (intsN l) = l := by
  unfold intsN Sh72Neutral.ints Sh72Neutral.nats
  rw [List.map_map]
  conv => rhs; rw [← List.map_id l]
  apply List.map_congr_left
  intro a _
  simp
theorem ints_nats {l : List Int} (h : ∀ x ∈ l, 0 ≤ x) : intsN (Sh72Neutral.nats l) = l := by
  unfold intsN Sh72Neutral.ints Sh72Neutral.nats
  rw [List.map_map]
  conv => rhs; rw [← List.map_id l]
  apply List.map_congr_left
  intro a ha
  have := h a ha
  simp only [Function.comp, id]
  omega
theorem sq_cast (z : Int) : ((square z : Nat) : Int) = z * z := by
  unfold square
  have : 0 ≤ z * z := by
    rcases Int.le_total 0 z with h | h
    · exact Int.mul_nonneg h h
    · exact Int.mul_nonneg_of_nonpos_of_nonpos h h
  omega
theorem dist2_cast (a b : Point) : ((dist2 a b : Nat) : Int) = (a.x - b.x) * (a.x - b.x) + (a.y - b.y) * (a.y - b.y) := by
  unfold dist2
  rw [Int.natCast_add, sq_cast, sq_cast]
theorem miss2_cast (p : Int × Int) (c : Point) : ((miss2 p c : Nat) : Int) = (p.1 - 256 * c.x) * (p.1 - 256 * c.x) + (p.2 - 256 * c.y) * (p.2 - 256 * c.y) := by
  unfold miss2
  rw [Int.natCast_add, sq_cast, sq_cast]
theorem square_neg (z : Int) : square (-z) = square z := by
  unfold square
  rw [Int.neg_mul_neg]
theorem dist2_comm (a b : Point) : dist2 a b = dist2 b a := by
  unfold dist2
  rw [show a.x - b.x = -(b.x - a.x) by omega, show a.y - b.y = -(b.y - a.y) by omega, square_neg, square_neg]
theorem points_length (l : List Nat) : (points l).length = l.length / 4 := by
  unfold points
  rw [List.length_map, List.length_range]
theorem at_points {l : List Nat} {i : Nat} (h : i < l.length / 4) : at_ (points l) i = ⟨signed32 (num l (4 * i)), signed32 (num l (4 * i + 1)), signed32 (num l (4 * i + 2)), signed32 (num l (4 * i + 3))⟩ := by
  unfold at_ points
  rw [List.getD_eq_getElem?_getD, List.getElem?_map, List.getElem?_range h]
  rfl
theorem num_at {l : List Nat} {i : Nat} (h : i < l.length) : l[i]? = some (num l i) := by
  unfold num
  rw [List.getD_eq_getElem?_getD, List.getElem?_eq_getElem h]
  rfl
theorem at_get {l : List Point} {i : Nat} (h : i < l.length) : l[i]? = some (at_ l i) := by
  unfold at_
  rw [List.getD_eq_getElem?_getD, List.getElem?_eq_getElem h]
  rfl
/-- as it's told that points are -/
structure Bd (p : Point) : Prop where
  t0 : 0 ≤ p.t
  t1 : p.t ≤ 65535
  x0 : -32768 ≤ p.x
  x1 : p.x ≤ 32768
  y0 : -32768 ≤ p.y
  y1 : p.y ≤ 32768
  m0 : -65536 ≤ p.mag
  m1 : p.mag ≤ 65536
theorem fine_iff (p : Point) : fine p = true ↔ Bd p := by
  unfold fine
  simp only [Bool.and_eq_true, decide_eq_true_eq]
  constructor
  · rintro ⟨h1, h2, h3, h4, h5⟩
    exact ⟨by omega, by omega, by omega, by omega, by omega, by omega, by omega, by omega⟩
  · rintro ⟨h1, h2, h3, h4, h5, h6, h7, h8⟩
    exact ⟨by omega, by omega, by omega, by omega, by omega⟩
def AllBd (l : List Point) : Prop := ∀ i, i < l.length → Bd (at_ l i)
theorem fines_bd {l : List Point} (h : fines l = true) : AllBd l := fun i hi => by
  have e := at_get hi
  exact (fine_iff _).mp (List.all_eq_true.mp h _ (List.mem_of_getElem? e))
theorem range_at (l : List Point) : (List.range l.length).map (fun j => at_ l j) = l := by
  apply List.ext_getElem?
  intro i
  rw [List.getElem?_map]
  by_cases h : i < l.length
  · rw [List.getElem?_range h, at_get h]
    rfl
  · rw [List.getElem?_eq_none (by rw [List.length_range]; omega), List.getElem?_eq_none (by omega)]
    rfl
theorem range_map_at {α : Type} (g : Point → α) (l : List Point) : (List.range l.length).map (fun j => g (at_ l j)) = l.map g := by
  conv => rhs; rw [← range_at l]
  rw [List.map_map]
  rfl
theorem all_range (g : Point → Bool) (l : List Point) : ((List.range l.length).map (fun j => g (at_ l j))).all id = l.all g := by
  rw [range_map_at, List.all_map]
  rfl
theorem at_append_left {a b : List Point} {i : Nat} (h : i < a.length) : at_ (a ++ b) i = at_ a i := by
  unfold at_
  rw [List.getD_eq_getElem?_getD, List.getD_eq_getElem?_getD, List.getElem?_append_left h]
theorem at_append_right {a b : List Point} {i : Nat} (h : a.length ≤ i) : at_ (a ++ b) i = at_ b (i - a.length) := by
  unfold at_
  rw [List.getD_eq_getElem?_getD, List.getD_eq_getElem?_getD, List.getElem?_append_right h]
/-! ### sizes -/
theorem bd_up {a : Int} {i j : Nat} (h : a.natAbs < 2 ^ i) (hij : i ≤ j) : a.natAbs < 2 ^ j := Nat.lt_of_lt_of_le h (Nat.pow_le_pow_right (by decide) hij)
theorem bd_add {a b : Int} {i : Nat} (ha : a.natAbs < 2 ^ i) (hb : b.natAbs < 2 ^ i) : (a + b).natAbs < 2 ^ (i + 1) := by
  rw [Nat.pow_succ]
  omega
theorem bd_sub {a b : Int} {i : Nat} (ha : a.natAbs < 2 ^ i) (hb : b.natAbs < 2 ^ i) : (a - b).natAbs < 2 ^ (i + 1) := by
  rw [Nat.pow_succ]
  omega
theorem bd_mul {a b : Int} {i j : Nat} (ha : a.natAbs < 2 ^ i) (hb : b.natAbs < 2 ^ j) : (a * b).natAbs < 2 ^ (i + j) := by
  rw [Int.natAbs_mul, Nat.pow_add]
  exact Nat.mul_lt_mul'' ha hb
theorem near_bd {a b : Int} {i : Nat} (hb : 0 < b) (ha : a.natAbs < 2 ^ i) : (near a b).natAbs < 2 ^ (i + 1) := by
  unfold near
  have p : 0 < 2 ^ i := Nat.two_pow_pos i
  have e : (2 : Nat) ^ (i + 1) = 2 * 2 ^ i := by rw [Nat.pow_succ]; omega
  rw [e]
  generalize (2 : Nat) ^ i = m at ha p
  have h2 : (0 : Int) < 2 * b := by omega
  have up : (2 * a + b) / (2 * b) < (m : Int) + 1 := by
    apply Int.ediv_lt_of_lt_mul h2
    have h3 : (m : Int) * b ≥ m := by
      have := Int.mul_le_mul_of_nonneg_left (show (1 : Int) ≤ b by omega) (show (0 : Int) ≤ m by omega)
      omega
    have e3 : ((m : Int) + 1) * (2 * b) = 2 * (m * b) + 2 * b := by grind
    rw [e3]
    omega
  have lo : -((m : Int)) ≤ (2 * a + b) / (2 * b) := by
    apply Int.le_ediv_of_mul_le h2
    have h3 : (m : Int) * b ≥ m := by
      have := Int.mul_le_mul_of_nonneg_left (show (1 : Int) ≤ b by omega) (show (0 : Int) ≤ m by omega)
      omega
    have e3 : -(m : Int) * (2 * b) = -(2 * (m * b)) := by grind
    rw [e3]
    omega
  omega
end NM

namespace NM
open Sh72
/-! ### what is answered, law by law -/
abbrev small (l : List Nat) (m : Nat) : Prop := l.length / 4 ≤ m
theorem new_bad {r : Nat} {kn ln : List Nat} (h : ¬ (r ≤ 65535 ∧ kn.length / 4 ≤ 256 ∧ ln.length / 4 ≤ 256)) : PySh72.mo_new r (intsN kn) (intsN ln) = [-2] := by
  unfold PySh72.mo_new Sh72Neutral.f
  simp only [Sh72Neutral.callOf, nats_ints, Int.toNat_natCast, few]
  rw [if_neg (by simp only [Bool.and_eq_true, decide_eq_true_eq]; omega)]
  rfl
theorem new_not {r : Nat} {kn ln : List Nat} (h : r ≤ 65535 ∧ kn.length / 4 ≤ 256 ∧ ln.length / 4 ≤ 256) (hf : fines (points kn) = false ∨ fines (points ln) = false) : PySh72.mo_new r (intsN kn) (intsN ln) = [-3] := by
  unfold PySh72.mo_new Sh72Neutral.f
  simp only [Sh72Neutral.callOf, nats_ints, Int.toNat_natCast, few]
  rw [if_pos (by simp only [Bool.and_eq_true, decide_eq_true_eq]; omega)]
  simp only [answer]
  rw [if_pos hf]
  rfl
theorem new_ok {r : Nat} {kn ln : List Nat} (h : r ≤ 65535 ∧ kn.length / 4 ≤ 256 ∧ ln.length / 4 ≤ 256) (h1 : fines (points kn) = true) (h2 : fines (points ln) = true) :
    PySh72.mo_new r (intsN kn) (intsN ln) = (((Sh72.new r (points kn) (points ln)).length : Nat) : Int) :: intsN (Sh72.new r (points kn) (points ln)) := by
  unfold PySh72.mo_new Sh72Neutral.f
  simp only [Sh72Neutral.callOf, nats_ints, Int.toNat_natCast, few]
  rw [if_pos (by simp only [Bool.and_eq_true, decide_eq_true_eq]; omega)]
  simp only [answer]
  rw [if_neg (by rw [h1, h2]; decide)]
  rfl
theorem states_bad {r d : Nat} {kn ln : List Nat} (h : ¬ ((r ≤ 65535 ∧ d ≤ 131072) ∧ kn.length / 4 ≤ 256 ∧ ln.length / 4 ≤ 256)) : PySh72.mo_states r d (intsN kn) (intsN ln) = [-2] := by
  unfold PySh72.mo_states Sh72Neutral.f
  simp only [Sh72Neutral.callOf, nats_ints, Int.toNat_natCast, few]
  rw [if_neg (by simp only [Bool.and_eq_true, decide_eq_true_eq]; omega)]
  rfl
theorem states_not {r d : Nat} {kn ln : List Nat} (h : (r ≤ 65535 ∧ d ≤ 131072) ∧ kn.length / 4 ≤ 256 ∧ ln.length / 4 ≤ 256) (hf : fines (points kn) = false ∨ fines (points ln) = false) : PySh72.mo_states r d (intsN kn) (intsN ln) = [-3] := by
  unfold PySh72.mo_states Sh72Neutral.f
  simp only [Sh72Neutral.callOf, nats_ints, Int.toNat_natCast, few]
  rw [if_pos (by simp only [Bool.and_eq_true, decide_eq_true_eq]; omega)]
  simp only [answer]
  rw [if_pos hf]
  rfl
theorem states_ok {r d : Nat} {kn ln : List Nat} (h : (r ≤ 65535 ∧ d ≤ 131072) ∧ kn.length / 4 ≤ 256 ∧ ln.length / 4 ≤ 256) (h1 : fines (points kn) = true) (h2 : fines (points ln) = true) :
    PySh72.mo_states r d (intsN kn) (intsN ln) = 0 :: intsN ((points kn).map fun k => state r d k (points ln)) := by
  unfold PySh72.mo_states Sh72Neutral.f
  simp only [Sh72Neutral.callOf, nats_ints, Int.toNat_natCast, few]
  rw [if_pos (by simp only [Bool.and_eq_true, decide_eq_true_eq]; omega)]
  simp only [answer]
  rw [if_neg (by rw [h1, h2]; decide)]
  rfl
theorem pairs_bad {q : Nat} {ln : List Nat} (h : ¬ (q ≤ 65535 ∧ ln.length / 4 ≤ 48)) : PySh72.mo_pairs q (intsN ln) = [-2] := by
  unfold PySh72.mo_pairs Sh72Neutral.f
  simp only [Sh72Neutral.callOf, nats_ints, Int.toNat_natCast, some_]
  rw [if_neg (by simp only [Bool.and_eq_true, decide_eq_true_eq]; omega)]
  rfl
theorem pairs_not {q : Nat} {ln : List Nat} (h : q ≤ 65535 ∧ ln.length / 4 ≤ 48) (hf : fines (points ln) = false) : PySh72.mo_pairs q (intsN ln) = [-3] := by
  unfold PySh72.mo_pairs Sh72Neutral.f
  simp only [Sh72Neutral.callOf, nats_ints, Int.toNat_natCast, some_]
  rw [if_pos (by simp only [Bool.and_eq_true, decide_eq_true_eq]; omega)]
  simp only [answer]
  rw [if_pos hf]
  rfl
theorem pairs_ok {q : Nat} {ln : List Nat} (h : q ≤ 65535 ∧ ln.length / 4 ≤ 48) (h1 : fines (points ln) = true) :
    PySh72.mo_pairs q (intsN ln) = (((pairs q (points ln)).length : Nat) : Int) :: intsN ((pairs q (points ln)).flatMap fun p => [p.1, p.2]) := by
  unfold PySh72.mo_pairs Sh72Neutral.f
  simp only [Sh72Neutral.callOf, nats_ints, Int.toNat_natCast, some_]
  rw [if_pos (by simp only [Bool.and_eq_true, decide_eq_true_eq]; omega)]
  simp only [answer]
  rw [if_neg (by rw [h1]; decide)]
  rfl
theorem ways_bad {q e m : Nat} {ln : List Nat} (h : ¬ ((q ≤ 65535 ∧ e ≤ 16777216 ∧ m ≤ 255) ∧ ln.length / 4 ≤ 48)) : PySh72.mo_ways q e m (intsN ln) = [-2] := by
  unfold PySh72.mo_ways Sh72Neutral.f
  simp only [Sh72Neutral.callOf, nats_ints, Int.toNat_natCast, some_]
  rw [if_neg (by simp only [Bool.and_eq_true, decide_eq_true_eq]; omega)]
  rfl
theorem ways_not {q e m : Nat} {ln : List Nat} (h : (q ≤ 65535 ∧ e ≤ 16777216 ∧ m ≤ 255) ∧ ln.length / 4 ≤ 48) (hf : fines (points ln) = false) : PySh72.mo_ways q e m (intsN ln) = [-3] := by
  unfold PySh72.mo_ways Sh72Neutral.f
  simp only [Sh72Neutral.callOf, nats_ints, Int.toNat_natCast, some_]
  rw [if_pos (by simp only [Bool.and_eq_true, decide_eq_true_eq]; omega)]
  simp only [answer]
  rw [if_pos hf]
  rfl
theorem ways_ok {q e m : Nat} {ln : List Nat} (h : (q ≤ 65535 ∧ e ≤ 16777216 ∧ m ≤ 255) ∧ ln.length / 4 ≤ 48) (h1 : fines (points ln) = true) :
    PySh72.mo_ways q e m (intsN ln) = (((Sh72.ways q e m (points ln)).length : Nat) : Int) :: intsN (Sh72.told (points ln).length (Sh72.ways q e m (points ln))) := by
  unfold PySh72.mo_ways Sh72Neutral.f
  simp only [Sh72Neutral.callOf, nats_ints, Int.toNat_natCast, some_]
  rw [if_pos (by simp only [Bool.and_eq_true, decide_eq_true_eq]; omega)]
  simp only [answer]
  rw [if_neg (by rw [h1]; decide)]
  rfl
theorem int32_is (x : Nat) : Sh72Neutral.int32 x = signed32 x := by
  unfold Sh72Neutral.int32 signed32
  rfl
theorem ahead_not {t : Nat} {ln : List Nat} (hf : fines (points ln) = false) : PySh72.mo_ahead t (intsN ln) = [-3] := by
  unfold PySh72.mo_ahead Sh72Neutral.f
  simp only [Sh72Neutral.callOf, nats_ints, Int.toNat_natCast, answer]
  rw [if_pos hf]
  rfl
theorem ahead_ok {t : Nat} {ln : List Nat} (h1 : fines (points ln) = true) :
    PySh72.mo_ahead t (intsN ln) = [0, ((longOf (ahead (at_ (points ln) 0) (at_ (points ln) 1) (signed32 t)).1 : Nat) : Int), ((longOf (ahead (at_ (points ln) 0) (at_ (points ln) 1) (signed32 t)).2 : Nat) : Int)] := by
  unfold PySh72.mo_ahead Sh72Neutral.f
  simp only [Sh72Neutral.callOf, nats_ints, Int.toNat_natCast, answer, int32_is]
  rw [if_neg (by rw [h1]; decide)]
  rfl
theorem fit_bad {ln : List Nat} (h : ¬ (ln.length / 4 ≤ 48)) : PySh72.mo_fit (intsN ln) = [-2] := by
  unfold PySh72.mo_fit Sh72Neutral.f
  simp only [Sh72Neutral.callOf, nats_ints, Int.toNat_natCast, some_]
  rw [if_neg (by simp only [decide_eq_true_eq]; omega)]
  rfl
theorem fit_not {ln : List Nat} (h : ln.length / 4 ≤ 48) (hf : fines (points ln) = false) : PySh72.mo_fit (intsN ln) = [-3] := by
  unfold PySh72.mo_fit Sh72Neutral.f
  simp only [Sh72Neutral.callOf, nats_ints, Int.toNat_natCast, some_]
  rw [if_pos (by simp only [decide_eq_true_eq]; omega)]
  simp only [answer]
  rw [if_pos hf]
  rfl
theorem fit_none {ln : List Nat} (h : ln.length / 4 ≤ 48) (h1 : fines (points ln) = true) (hn : Sh72.fit (points ln) = none) : PySh72.mo_fit (intsN ln) = [-4] := by
  unfold PySh72.mo_fit Sh72Neutral.f
  simp only [Sh72Neutral.callOf, nats_ints, Int.toNat_natCast, some_]
  rw [if_pos (by simp only [decide_eq_true_eq]; omega)]
  simp only [answer]
  rw [if_neg (by rw [h1]; decide), hn]
  rfl
theorem fit_ok {ln : List Nat} {f : Fit} (h : ln.length / 4 ≤ 48) (h1 : fines (points ln) = true) (hn : Sh72.fit (points ln) = some f) :
    PySh72.mo_fit (intsN ln) = [0, 5, ((longOf f.x0 : Nat) : Int), ((longOf f.vx : Nat) : Int), ((longOf f.y0 : Nat) : Int), ((longOf f.vy : Nat) : Int), ((longOf f.over : Nat) : Int), 1, ((f.worst (points ln) % 18446744073709551616 : Nat) : Int)] := by
  unfold PySh72.mo_fit Sh72Neutral.f
  simp only [Sh72Neutral.callOf, nats_ints, Int.toNat_natCast, some_]
  rw [if_pos (by simp only [decide_eq_true_eq]; omega)]
  simp only [answer]
  rw [if_neg (by rw [h1]; decide), hn]
  rfl
theorem place_bad {ln ts : List Nat} (h : ¬ (ln.length / 4 ≤ 48 ∧ ts.length ≤ 256)) : PySh72.mo_place (intsN ln) (intsN ts) = [-2] := by
  unfold PySh72.mo_place Sh72Neutral.f
  simp only [Sh72Neutral.callOf, nats_ints, Int.toNat_natCast, some_, few]
  rw [if_neg (by simp only [Bool.and_eq_true, decide_eq_true_eq]; omega)]
  rfl
theorem place_not {ln ts : List Nat} (h : ln.length / 4 ≤ 48 ∧ ts.length ≤ 256) (hf : fines (points ln) = false ∨ ((times ts).all fun t => decide (t.natAbs ≤ 65536)) = false) : PySh72.mo_place (intsN ln) (intsN ts) = [-3] := by
  unfold PySh72.mo_place Sh72Neutral.f
  simp only [Sh72Neutral.callOf, nats_ints, Int.toNat_natCast, some_, few]
  rw [if_pos (by simp only [Bool.and_eq_true, decide_eq_true_eq]; omega)]
  simp only [answer]
  rw [if_pos hf]
  rfl
theorem place_none {ln ts : List Nat} (h : ln.length / 4 ≤ 48 ∧ ts.length ≤ 256) (h1 : fines (points ln) = true) (h2 : ((times ts).all fun t => decide (t.natAbs ≤ 65536)) = true) (hn : Sh72.fit (points ln) = none) : PySh72.mo_place (intsN ln) (intsN ts) = [-4] := by
  unfold PySh72.mo_place Sh72Neutral.f
  simp only [Sh72Neutral.callOf, nats_ints, Int.toNat_natCast, some_, few]
  rw [if_pos (by simp only [Bool.and_eq_true, decide_eq_true_eq]; omega)]
  simp only [answer]
  rw [if_neg (by rw [h1, h2]; decide), hn]
  rfl
theorem place_ok {ln ts : List Nat} {f : Fit} (h : ln.length / 4 ≤ 48 ∧ ts.length ≤ 256) (h1 : fines (points ln) = true) (h2 : ((times ts).all fun t => decide (t.natAbs ≤ 65536)) = true) (hn : Sh72.fit (points ln) = some f) :
    PySh72.mo_place (intsN ln) (intsN ts) = 0 :: intsN ((times ts).flatMap fun t => [longOf (f.place t).1, longOf (f.place t).2]) := by
  unfold PySh72.mo_place Sh72Neutral.f
  simp only [Sh72Neutral.callOf, nats_ints, Int.toNat_natCast, some_, few]
  rw [if_pos (by simp only [Bool.and_eq_true, decide_eq_true_eq]; omega)]
  simp only [answer]
  rw [if_neg (by rw [h1, h2]; decide), hn]
  rfl
theorem one_bad {e : Nat} {kn ln : List Nat} (h : ¬ (e ≤ 16777216 ∧ kn.length / 4 ≤ 48 ∧ ln.length / 4 ≤ 48)) : PySh72.mo_one e (intsN kn) (intsN ln) = [-2] := by
  unfold PySh72.mo_one Sh72Neutral.f
  simp only [Sh72Neutral.callOf, nats_ints, Int.toNat_natCast, some_]
  rw [if_neg (by simp only [Bool.and_eq_true, decide_eq_true_eq]; omega)]
  rfl
theorem one_not {e : Nat} {kn ln : List Nat} (h : e ≤ 16777216 ∧ kn.length / 4 ≤ 48 ∧ ln.length / 4 ≤ 48) (hf : fines (points kn) = false ∨ fines (points ln) = false) : PySh72.mo_one e (intsN kn) (intsN ln) = [-3] := by
  unfold PySh72.mo_one Sh72Neutral.f
  simp only [Sh72Neutral.callOf, nats_ints, Int.toNat_natCast, some_]
  rw [if_pos (by simp only [Bool.and_eq_true, decide_eq_true_eq]; omega)]
  simp only [answer]
  rw [if_pos hf]
  rfl
theorem one_ok {e : Nat} {kn ln : List Nat} (h : e ≤ 16777216 ∧ kn.length / 4 ≤ 48 ∧ ln.length / 4 ≤ 48) (h1 : fines (points kn) = true) (h2 : fines (points ln) = true) :
    PySh72.mo_one e (intsN kn) (intsN ln) = [if Sh72.one e (points kn) (points ln) = true then 1 else 0] := by
  unfold PySh72.mo_one Sh72Neutral.f
  simp only [Sh72Neutral.callOf, nats_ints, Int.toNat_natCast, some_]
  rw [if_pos (by simp only [Bool.and_eq_true, decide_eq_true_eq]; omega)]
  simp only [answer]
  rw [if_neg (by rw [h1, h2]; decide)]
  by_cases c : Sh72.one e (points kn) (points ln) = true
  · simp only [if_pos c]
    rfl
  · simp only [if_neg c]
    rfl
theorem chance_ok {n r w h : Nat} (hw : w < 65536) (hh : h < 65536) : PySh72.mo_chance1 n r w h = [((min 65536 ((n % 4096) * ((2 * (r % 1024) + 1) * (2 * (r % 1024) + 1)) * 65536 / (max 1 w * max 1 h)) : Nat) : Int)] := by
  unfold PySh72.mo_chance1 Sh72Neutral.f
  simp only [Sh72Neutral.callOf, Int.toNat_natCast, answer]
  rw [Nat.mod_eq_of_lt hw, Nat.mod_eq_of_lt hh]
  unfold chance
  rw [← Nat.mul_assoc (n % 4096)]
  rfl
end NM

namespace NM
open Sh72
/-! ### nearest, state -/
def nst (p : Point) (l : List Point) (b i : Nat) : Nat := if dist2 p (at_ l i) < dist2 p (at_ l b) then i else b
def best (p : Point) (l : List Point) (m : Nat) : Nat := (List.range m).foldl (nst p l) 0
theorem best_succ (p : Point) (l : List Point) (m : Nat) : best p l (m + 1) = nst p l (best p l m) m := by
  unfold best
  rw [List.range_succ, List.foldl_append]
  rfl
theorem best_one (p : Point) (l : List Point) : best p l 1 = 0 := by
  rw [best_succ]
  show nst p l 0 0 = 0
  unfold nst
  rw [if_neg (Nat.lt_irrefl _)]
theorem best_lt (p : Point) (l : List Point) : ∀ m, best p l (m + 1) < m + 1
  | 0 => by rw [best_one]; omega
  | m + 1 => by
    have ih := best_lt p l m
    rw [best_succ]
    unfold nst
    split <;> omega
theorem nearest_is {p : Point} {l : List Point} (h : 0 < l.length) : nearest p l = some (best p l l.length) := by
  unfold nearest
  cases l with
  | nil => simp at h
  | cons a r => rfl
theorem nearest_nil (p : Point) : nearest p [] = none := rfl
theorem state_nil (r d : Nat) (k : Point) : state r d k [] = 3 := rfl
theorem state_is {r d : Nat} {k : Point} {l : List Point} (h : 0 < l.length) : state r d k l =
    if r * r < dist2 k (at_ l (best k l l.length)) then 3 else if (at_ l (best k l l.length)).mag < k.mag - d then 1 else if k.mag + d < (at_ l (best k l l.length)).mag then 2 else 0 := by
  unfold state
  rw [nearest_is h]
  simp only
  by_cases c : r * r < dist2 k (at_ l (best k l l.length))
  · rw [if_pos c, if_pos c]
  · rw [if_neg c, if_neg c]
    generalize (at_ l (best k l l.length)).mag = a
    generalize k.mag = b
    by_cases c1 : a < b - d
    · rw [if_pos c1, if_pos (show d < (a - b).natAbs by omega), if_pos (show a < b by omega)]
    · rw [if_neg c1]
      by_cases c2 : b + d < a
      · rw [if_pos c2, if_pos (show d < (a - b).natAbs by omega), if_neg (show ¬ a < b by omega)]
      · rw [if_neg c2, if_neg (show ¬ d < (a - b).natAbs by omega)]
/-! ### pairs -/
def pairsIn (v : Nat) (l : List Point) (i m : Nat) : List (Nat × Nat) := (List.range m).filterMap fun j => if may v (at_ l i) (at_ l j) = true then some (i, j) else none
def pairsTo (v : Nat) (l : List Point) (m : Nat) : List (Nat × Nat) := (List.range m).flatMap fun i => pairsIn v l i l.length
theorem pairsIn_yes {v : Nat} {l : List Point} {i m : Nat} (h : may v (at_ l i) (at_ l m) = true) : pairsIn v l i (m + 1) = pairsIn v l i m ++ [(i, m)] := by
  unfold pairsIn
  rw [List.range_succ, List.filterMap_append]
  simp [h]
theorem pairsIn_no {v : Nat} {l : List Point} {i m : Nat} (h : may v (at_ l i) (at_ l m) = false) : pairsIn v l i (m + 1) = pairsIn v l i m := by
  unfold pairsIn
  rw [List.range_succ, List.filterMap_append]
  simp [h]
theorem pairsIn_zero (v : Nat) (l : List Point) (i : Nat) : pairsIn v l i 0 = [] := rfl
theorem pairsTo_succ (v : Nat) (l : List Point) (m : Nat) : pairsTo v l (m + 1) = pairsTo v l m ++ pairsIn v l m l.length := by
  unfold pairsTo
  rw [List.range_succ, List.flatMap_append]
  simp
theorem pairs_is (v : Nat) (l : List Point) : pairs v l = pairsTo v l l.length := rfl
theorem pairsIn_len (v : Nat) (l : List Point) (i m : Nat) : (pairsIn v l i m).length ≤ m := by
  unfold pairsIn
  have h := List.length_filterMap_le (fun j => if may v (at_ l i) (at_ l j) = true then some (i, j) else none) (List.range m)
  rw [List.length_range] at h
  exact h
theorem pairsTo_len (v : Nat) (l : List Point) : ∀ m, (pairsTo v l m).length ≤ m * l.length
  | 0 => by simp [pairsTo]
  | m + 1 => by
    rw [pairsTo_succ, List.length_append, Nat.succ_mul]
    have h1 := pairsTo_len v l m
    have h2 := pairsIn_len v l m l.length
    omega
theorem pairsIn_mem {v : Nat} {l : List Point} {i m : Nat} {p : Nat × Nat} (h : p ∈ pairsIn v l i m) : p.1 = i ∧ p.2 < m ∧ may v (at_ l p.1) (at_ l p.2) = true := by
  unfold pairsIn at h
  obtain ⟨j, hj, e⟩ := List.mem_filterMap.mp h
  by_cases c : may v (at_ l i) (at_ l j) = true
  · rw [if_pos c] at e
    have e2 := Option.some.inj e
    subst e2
    exact ⟨rfl, List.mem_range.mp hj, c⟩
  · rw [if_neg c] at e
    cases e
theorem pairs_mem {v : Nat} {l : List Point} {p : Nat × Nat} (h : p ∈ pairs v l) : p.1 < l.length ∧ p.2 < l.length := by
  rw [pairs_is] at h
  unfold pairsTo at h
  obtain ⟨i, hi, e⟩ := List.mem_flatMap.mp h
  obtain ⟨e1, e2, _⟩ := pairsIn_mem e
  exact ⟨by rw [e1]; exact List.mem_range.mp hi, e2⟩
theorem may_iff (v : Nat) (a b : Point) : may v a b = (decide (a.t < b.t) && decide (((dist2 a b : Nat) : Int) ≤ (v * (b.t - a.t)) * (v * (b.t - a.t)))) := by
  unfold may
  congr 1
  apply decide_eq_decide.mpr
  rw [← sq_cast]
  omega
/-! ### ways -/
def missAt (l : List Point) (a b k : Nat) : Nat := miss2 (ahead (at_ l a) (at_ l b) (at_ l k).t) (at_ l k)
def onGo (e : Nat) (l : List Point) (a b k : Nat) : Bool := goesOn e (at_ l a) (at_ l b) (at_ l k)
def isAhead (l : List Point) (a b k m : Nat) : Bool := if (at_ l k).t = (at_ l m).t then decide (missAt l a b k < missAt l a b m) else decide ((at_ l k).t < (at_ l m).t)
def onStep (e : Nat) (l : List Point) (a b : Nat) (o : Option Nat) (k : Nat) : Option Nat := if onGo e l a b k = true then (match o with
  | none => some k
  | some m => if isAhead l a b k m = true then some k else o) else o
def onTo (e : Nat) (l : List Point) (a b m : Nat) : Option Nat := (List.range m).foldl (onStep e l a b) none
theorem next_is (e : Nat) (l : List Point) (a b : Nat) : next e l a b = onTo e l a b l.length := by
  unfold next onTo
  rw [List.foldl_filter]
  apply congrFun
  apply congrFun
  apply congrArg
  funext o k
  unfold onStep onGo
  by_cases c : goesOn e (at_ l a) (at_ l b) (at_ l k) = true
  · rw [if_pos c, if_pos c]
    cases o with
    | none => rfl
    | some m =>
      simp only
      unfold isAhead missAt
      by_cases d : (at_ l k).t = (at_ l m).t
      · simp [d]
      · simp [d]
  · rw [if_neg c, if_neg c]
theorem onTo_succ (e : Nat) (l : List Point) (a b m : Nat) : onTo e l a b (m + 1) = onStep e l a b (onTo e l a b m) m := by
  unfold onTo
  rw [List.range_succ, List.foldl_append]
  rfl
theorem onTo_lt (e : Nat) (l : List Point) (a b : Nat) : ∀ m k, onTo e l a b m = some k → k < m
  | 0, k, h => by cases h
  | m + 1, k, h => by
    rw [onTo_succ] at h
    unfold onStep at h
    have ih := onTo_lt e l a b m
    split at h
    · split at h
      · rename_i e0
        have := Option.some.inj h
        omega
      · rename_i q e0
        split at h
        · have := Option.some.inj h
          omega
        · have := ih k (by rw [← h, e0])
          omega
    · have := ih k h
      omega
theorem next_lt {e : Nat} {l : List Point} {a b k : Nat} (h : next e l a b = some k) : k < l.length := by
  rw [next_is] at h
  exact onTo_lt _ _ _ _ _ _ h
theorem longer_len (e : Nat) (l : List Point) : ∀ f a b, (longer e l f a b).length ≤ f
  | 0, _, _ => Nat.le_refl 0
  | f + 1, a, b => by
    unfold longer
    split
    · exact Nat.zero_le _
    · rename_i c _
      have := longer_len e l f b c
      simp only [List.length_cons]
      omega
theorem longer_lt (e : Nat) (l : List Point) : ∀ f a b k, k ∈ longer e l f a b → k < l.length
  | 0, _, _, _, h => by cases h
  | f + 1, a, b, k, h => by
    unfold longer at h
    split at h
    · cases h
    · rename_i c hc
      rcases List.mem_cons.mp h with q | q
      · rw [q]
        exact next_lt hc
      · exact longer_lt e l f b c k q
theorem way_lt {e : Nat} {l : List Point} {p : Nat × Nat} (h : p.1 < l.length ∧ p.2 < l.length) {k : Nat} (hk : k ∈ way e l p) : k < l.length := by
  unfold way at hk
  rcases List.mem_cons.mp hk with q | hk
  · rw [q]; exact h.1
  · rcases List.mem_cons.mp hk with q | hk
    · rw [q]; exact h.2
    · exact longer_lt e l _ _ _ k hk
theorem way_len (e : Nat) (l : List Point) (p : Nat × Nat) : 2 ≤ (way e l p).length ∧ (way e l p).length ≤ l.length + 2 := by
  unfold way
  have := longer_len e l l.length p.1 p.2
  simp only [List.length_cons]
  omega
/-- the numbers of the points, r the ways told -/
def numOf (r : List (List Nat)) (i : Nat) : Nat := match r.findIdx? fun w => w.contains i with
  | none => 0
  | some k => k + 1
theorem told_is (n : Nat) (r : List (List Nat)) : told n r = (List.range n).map (numOf r) := rfl
theorem told_len (n : Nat) (r : List (List Nat)) : (told n r).length = n := by
  rw [told_is, List.length_map, List.length_range]
theorem told_get {n : Nat} {r : List (List Nat)} {i : Nat} (h : i < n) : (told n r)[i]? = some (numOf r i) := by
  rw [told_is, List.getElem?_map, List.getElem?_range h]
  rfl
theorem numOf_zero {r : List (List Nat)} {i : Nat} : numOf r i = 0 ↔ (r.any fun x => x.contains i) = false := by
  unfold numOf
  cases h : r.findIdx? fun w => w.contains i with
  | none =>
    rw [List.findIdx?_eq_none_iff] at h
    simp only [true_iff]
    rw [List.any_eq_false]
    intro x hx
    rw [h x hx]
    decide
  | some k =>
    simp only
    constructor
    · intro q
      omega
    · intro q
      rw [List.any_eq_false] at q
      have z := List.findIdx?_eq_some_iff_getElem.mp h
      obtain ⟨h1, h2, _⟩ := z
      exact absurd h2 (q _ (List.getElem_mem h1))
theorem told_nil (n : Nat) : told n [] = List.replicate n 0 := by
  rw [told_is]
  apply List.ext_getElem?
  intro i
  rw [List.getElem?_map, List.getElem?_replicate]
  by_cases h : i < n
  · rw [List.getElem?_range h, if_pos h]
    rfl
  · rw [List.getElem?_eq_none (by rw [List.length_range]; omega), if_neg h]
    rfl
theorem numOf_append {r : List (List Nat)} {w : List Nat} {i : Nat} : numOf (r ++ [w]) i = if numOf r i = 0 then (if w.contains i = true then r.length + 1 else 0) else numOf r i := by
  unfold numOf
  rw [List.findIdx?_append]
  cases h : r.findIdx? fun w => w.contains i with
  | none =>
    simp only [Option.none_or, if_pos]
    by_cases c : i ∈ w
    · simp [List.findIdx?_cons, c]
    · simp [List.findIdx?_cons, c]
  | some k =>
    simp
/-- the way's points get the number many -/
def mark (m : Nat) (ns : List Nat) (w : List Nat) : List Nat := w.foldl (fun a k => a.set k m) ns
theorem mark_len (m : Nat) : ∀ (w ns : List Nat), (mark m ns w).length = ns.length
  | [], ns => rfl
  | k :: w, ns => by
    show (mark m (ns.set k m) w).length = _
    rw [mark_len m w, List.length_set]
theorem mark_get (m : Nat) : ∀ (w ns : List Nat) (i : Nat), (mark m ns w)[i]? = if w.contains i = true ∧ i < ns.length then some m else ns[i]?
  | [], ns, i => by simp [mark]
  | k :: w, ns, i => by
    show (mark m (ns.set k m) w)[i]? = _
    rw [mark_get m w, List.length_set]
    by_cases c : w.contains i = true ∧ i < ns.length
    · rw [if_pos c, if_pos ⟨by simp at c ⊢; exact .inr c.1, c.2⟩]
    · rw [if_neg c]
      by_cases d : k = i
      · subst d
        by_cases hk : k < ns.length
        · rw [List.getElem?_set_self hk, if_pos ⟨by simp, hk⟩]
        · rw [if_neg (fun z => hk z.2), List.getElem?_eq_none (by rw [List.length_set]; omega), List.getElem?_eq_none (by omega)]
      · rw [List.getElem?_set_ne d]
        rw [if_neg (fun z => c ⟨by
          have z1 := z.1
          simp at z1 ⊢
          rcases z1 with z1 | z1
          · exact absurd z1.symm d
          · exact z1, z.2⟩)]
theorem mark_take {m : Nat} {ns w : List Nat} {i k : Nat} (h : w[i]? = some k) : mark m ns (w.take (i + 1)) = (mark m ns (w.take i)).set k m := by
  have e : w.take (i + 1) = w.take i ++ [k] := by
    rw [List.take_add_one, h]
    rfl
  rw [e]
  unfold mark
  rw [List.foldl_append]
  rfl
theorem told_mark {n : Nat} {r : List (List Nat)} {w : List Nat} (hw : ∀ k ∈ w, k < n) (hd : ∀ k ∈ w, numOf r k = 0) : told n (r ++ [w]) = mark (r.length + 1) (told n r) w := by
  apply List.ext_getElem?
  intro i
  rw [mark_get, told_len]
  by_cases hi : i < n
  · rw [told_get hi, told_get hi, numOf_append]
    by_cases c : w.contains i = true
    · rw [if_pos (hd i (by simpa using c)), if_pos c, if_pos ⟨c, hi⟩]
    · rw [if_neg c, if_neg (fun (z : w.contains i = true ∧ i < n) => c z.1)]
      split
      · rename_i z
        rw [z]
      · rfl
  · rw [List.getElem?_eq_none (by rw [told_len]; omega), if_neg (fun z => hi z.2), List.getElem?_eq_none (by rw [told_len]; omega)]
def wayStep (e least : Nat) (l : List Point) (r : List (List Nat)) (p : Nat × Nat) : List (List Nat) := if (way e l p).length < max 2 least ∨ (way e l p).any (fun i => r.any fun x => x.contains i) = true then r else r ++ [way e l p]
def waysTo (v e least : Nat) (l : List Point) (m : Nat) : List (List Nat) := ((pairs v l).take m).foldl (wayStep e least l) []
theorem ways_is (v e least : Nat) (l : List Point) : ways v e least l = waysTo v e least l (pairs v l).length := by
  unfold waysTo
  rw [List.take_length]
  rfl
theorem waysTo_succ {v e least : Nat} {l : List Point} {m : Nat} {p : Nat × Nat} (h : (pairs v l)[m]? = some p) : waysTo v e least l (m + 1) = wayStep e least l (waysTo v e least l m) p := by
  have e2 : (pairs v l).take (m + 1) = (pairs v l).take m ++ [p] := by
    rw [List.take_add_one, h]
    rfl
  unfold waysTo
  rw [e2, List.foldl_append]
  rfl
theorem free_iff {r : List (List Nat)} {w : List Nat} : (w.any (fun i => r.any fun x => x.contains i)) = false ↔ ∀ k ∈ w, numOf r k = 0 := by
  rw [List.any_eq_false]
  constructor
  · intro h k hk
    have := h k hk
    exact numOf_zero.mpr (by simpa using this)
  · intro h k hk
    have := numOf_zero.mp (h k hk)
    rw [this]
    decide
theorem step_told {e least : Nat} {l : List Point} {r : List (List Nat)} {p : Nat × Nat} (h1 : least ≤ (way e l p).length) (h2 : ∀ k ∈ way e l p, numOf r k = 0) : wayStep e least l r p = r ++ [way e l p] := by
  unfold wayStep
  rw [if_neg]
  rintro (h | h)
  · have := (way_len e l p).1
    omega
  · rw [free_iff.mpr h2] at h
    cases h
theorem step_not {e least : Nat} {l : List Point} {r : List (List Nat)} {p : Nat × Nat} (h : ¬ (least ≤ (way e l p).length ∧ ∀ k ∈ way e l p, numOf r k = 0)) : wayStep e least l r p = r := by
  unfold wayStep
  rw [if_pos]
  by_cases c : least ≤ (way e l p).length
  · right
    cases q : (way e l p).any (fun i => r.any fun x => x.contains i) with
    | true => rfl
    | false => exact absurd ⟨c, free_iff.mp q⟩ h
  · left
    omega
theorem waysTo_len (v e least : Nat) (l : List Point) : ∀ m, m ≤ (pairs v l).length → (waysTo v e least l m).length ≤ m
  | 0, _ => by simp [waysTo]
  | m + 1, h => by
    have ih := waysTo_len v e least l m (by omega)
    rw [waysTo_succ (List.getElem?_eq_getElem (by omega))]
    unfold wayStep
    split
    · omega
    · rw [List.length_append]
      simp only [List.length_cons, List.length_nil]
      omega
end NM

namespace NM
open Sh72
/-! ### sums -/
theorem sum_is (l : List Int) : l.sum = Sh72.sum l := rfl
theorem sum_cons (a : Int) (l : List Int) : Sh72.sum (a :: l) = a + Sh72.sum l := rfl
theorem sum_bd {i j : Nat} : ∀ {l : List Int}, (∀ x ∈ l, x.natAbs < 2 ^ i) → l.length ≤ 2 ^ j → (Sh72.sum l).natAbs < 2 ^ (i + j) := fun {l} h hl => by
  have q : ∀ l : List Int, (∀ x ∈ l, x.natAbs < 2 ^ i) → (Sh72.sum l).natAbs ≤ l.length * (2 ^ i - 1) := by
    intro l
    induction l with
    | nil => intro _; simp [Sh72.sum]
    | cons a r ih =>
      intro h
      have h1 := h a List.mem_cons_self
      have h2 := ih fun x hx => h x (List.mem_cons_of_mem _ hx)
      rw [sum_cons, List.length_cons, Nat.succ_mul]
      omega
  have h3 := q l h
  have p : 0 < 2 ^ i := Nat.two_pow_pos i
  have h4 : l.length * (2 ^ i - 1) ≤ 2 ^ j * (2 ^ i - 1) := Nat.mul_le_mul_right _ hl
  have h5 : 2 ^ j * (2 ^ i - 1) < 2 ^ j * 2 ^ i := Nat.mul_lt_mul_of_pos_left (by omega) (Nat.two_pow_pos j)
  rw [Nat.pow_add, Nat.mul_comm (2 ^ i)]
  omega
/-! ### the fit -/
abbrev Sm (f : Point → Int) (l : List Point) : Int := Sh72.sum (l.map f)
theorem Sm_cons (f : Point → Int) (p : Point) (l : List Point) : Sm f (p :: l) = f p + Sm f l := rfl
abbrev St (l : List Point) : Int := Sm (fun p => p.t) l
abbrev Stt (l : List Point) : Int := Sm (fun p => p.t * p.t) l
abbrev Sx (l : List Point) : Int := Sm (fun p => p.x) l
abbrev Stx (l : List Point) : Int := Sm (fun p => p.t * p.x) l
abbrev Sy (l : List Point) : Int := Sm (fun p => p.y) l
abbrev Sty (l : List Point) : Int := Sm (fun p => p.t * p.y) l
abbrev gOf (l : List Point) : Int := ((l.length : Nat) : Int) * Stt l - St l * St l
abbrev fitOf (l : List Point) : Fit := ⟨Stt l * Sx l - St l * Stx l, ((l.length : Nat) : Int) * Stx l - St l * Sx l, Stt l * Sy l - St l * Sty l, ((l.length : Nat) : Int) * Sty l - St l * Sy l, gOf l⟩
theorem fit_is (l : List Point) : Sh72.fit l = if gOf l ≤ 0 then none else some (fitOf l) := rfl
theorem fit_nope {l : List Point} (h : gOf l ≤ 0) : Sh72.fit l = none := by rw [fit_is, if_pos h]
theorem fit_yes {l : List Point} (h : ¬ gOf l ≤ 0) : Sh72.fit l = some (fitOf l) := by rw [fit_is, if_neg h]
/-- of bounded numbers -/
structure FBd (f : Fit) : Prop where
  g0 : 0 < f.over
  g : f.over.natAbs < 2 ^ 47
  x0 : f.x0.natAbs < 2 ^ 63
  vx : f.vx.natAbs < 2 ^ 47
  y0 : f.y0.natAbs < 2 ^ 63
  vy : f.vy.natAbs < 2 ^ 47
theorem mem_bd {l : List Point} (h : AllBd l) {p : Point} (hp : p ∈ l) : Bd p := by
  obtain ⟨i, hi, e⟩ := List.getElem_of_mem hp
  have e2 := at_get hi
  rw [List.getElem?_eq_getElem hi, e] at e2
  have e3 := Option.some.inj e2
  rw [e3]
  exact h i hi
theorem Bd.t16 {p : Point} (h : Bd p) : p.t.natAbs < 2 ^ 16 := by have := h.t0; have := h.t1; omega
theorem Bd.x16 {p : Point} (h : Bd p) : p.x.natAbs < 2 ^ 16 := by have := h.x0; have := h.x1; omega
theorem Bd.y16 {p : Point} (h : Bd p) : p.y.natAbs < 2 ^ 16 := by have := h.y0; have := h.y1; omega
theorem Sm_bd {i : Nat} {f : Point → Int} {l : List Point} (hl : l.length ≤ 128) (h : ∀ p ∈ l, (f p).natAbs < 2 ^ i) : (Sm f l).natAbs < 2 ^ (i + 7) := by
  refine sum_bd (fun x hx => ?_) (by rw [List.length_map]; exact hl)
  obtain ⟨p, hp, e⟩ := List.mem_map.mp hx
  rw [← e]
  exact h p hp
section
variable {l : List Point}
theorem St_bd (hl : l.length ≤ 128) (h : AllBd l) : (St l).natAbs < 2 ^ 23 := Sm_bd hl fun _ hp => (mem_bd h hp).t16
theorem Stt_bd (hl : l.length ≤ 128) (h : AllBd l) : (Stt l).natAbs < 2 ^ 39 := Sm_bd hl fun _ hp => bd_mul (mem_bd h hp).t16 (mem_bd h hp).t16
theorem Sx_bd (hl : l.length ≤ 128) (h : AllBd l) : (Sx l).natAbs < 2 ^ 23 := Sm_bd hl fun _ hp => (mem_bd h hp).x16
theorem Stx_bd (hl : l.length ≤ 128) (h : AllBd l) : (Stx l).natAbs < 2 ^ 39 := Sm_bd hl fun _ hp => bd_mul (mem_bd h hp).t16 (mem_bd h hp).x16
theorem Sy_bd (hl : l.length ≤ 128) (h : AllBd l) : (Sy l).natAbs < 2 ^ 23 := Sm_bd hl fun _ hp => (mem_bd h hp).y16
theorem Sty_bd (hl : l.length ≤ 128) (h : AllBd l) : (Sty l).natAbs < 2 ^ 39 := Sm_bd hl fun _ hp => bd_mul (mem_bd h hp).t16 (mem_bd h hp).y16
theorem n_bd (hl : l.length ≤ 127) : (((l.length : Nat) : Int)).natAbs < 2 ^ 7 := by rw [Int.natAbs_natCast]; omega
theorem fitOf_bd (hl : l.length ≤ 127) (h : AllBd l) (hg : ¬ gOf l ≤ 0) : FBd (fitOf l) := by
  have hl' : l.length ≤ 128 := by omega
  refine ⟨by show 0 < gOf l; omega, ?_, ?_, ?_, ?_, ?_⟩
  · exact bd_sub (bd_mul (n_bd hl) (Stt_bd hl' h)) (bd_mul (St_bd hl' h) (St_bd hl' h))
  · exact bd_sub (bd_mul (Stt_bd hl' h) (Sx_bd hl' h)) (bd_mul (St_bd hl' h) (Stx_bd hl' h))
  · exact bd_sub (bd_mul (n_bd hl) (Stx_bd hl' h)) (bd_mul (St_bd hl' h) (Sx_bd hl' h))
  · exact bd_sub (bd_mul (Stt_bd hl' h) (Sy_bd hl' h)) (bd_mul (St_bd hl' h) (Sty_bd hl' h))
  · exact bd_sub (bd_mul (n_bd hl) (Sty_bd hl' h)) (bd_mul (St_bd hl' h) (Sy_bd hl' h))
end
theorem place1_bd {x0 v g t : Int} (hx : x0.natAbs < 2 ^ 63) (hv : v.natAbs < 2 ^ 47) (ht : t.natAbs < 2 ^ 17) : (256 * (x0 + v * t)).natAbs < 2 ^ 74 :=
  bd_mul (i := 9) (by decide) (bd_add (i := 64) (bd_up hx (by decide)) (bd_mul hv ht))
theorem place_bd' {f : Fit} {t : Int} (h : FBd f) (ht : t.natAbs < 2 ^ 17) : (f.place t).1.natAbs < 2 ^ 75 ∧ (f.place t).2.natAbs < 2 ^ 75 :=
  ⟨near_bd h.g0 (place1_bd (g := 0) h.x0 h.vx ht), near_bd h.g0 (place1_bd (g := 0) h.y0 h.vy ht)⟩
/-! ### the worst -/
theorem foldl_max_ge : ∀ (l : List Nat) (a : Nat), a ≤ l.foldl max a
  | [], a => Nat.le_refl a
  | x :: r, a => Nat.le_trans (Nat.le_max_left a x) (foldl_max_ge r (max a x))
theorem foldl_max_mem_le : ∀ (l : List Nat) (a x : Nat), x ∈ l → x ≤ l.foldl max a
  | y :: r, a, x, h => by
    rcases List.mem_cons.mp h with q | q
    · rw [q]
      exact Nat.le_trans (Nat.le_max_right a y) (foldl_max_ge r (max a y))
    · exact foldl_max_mem_le r (max a y) x q
theorem foldl_max_le : ∀ (l : List Nat) (a m : Nat), a ≤ m → (∀ x ∈ l, x ≤ m) → l.foldl max a ≤ m
  | [], a, m, h, _ => h
  | y :: r, a, m, h, hl => foldl_max_le r (max a y) m (Nat.max_le.mpr ⟨h, hl y List.mem_cons_self⟩) fun x hx => hl x (List.mem_cons_of_mem _ hx)
theorem worst_of {f : Fit} {l : List Point} {m : Int} (hm : m ∈ l.map fun p => ((miss2 (f.place p.t) p : Nat) : Int)) (hle : ∀ y, y ∈ (l.map fun p => ((miss2 (f.place p.t) p : Nat) : Int)) → y ≤ m) : m = ((f.worst l : Nat) : Int) := by
  obtain ⟨p, hp, e⟩ := List.mem_map.mp hm
  have e : ((miss2 (f.place p.t) p : Nat) : Int) = m := e
  have h1 : miss2 (f.place p.t) p ≤ f.worst l := foldl_max_mem_le _ 0 _ (List.mem_map.mpr ⟨p, hp, rfl⟩)
  have h2 : f.worst l ≤ m.toNat := foldl_max_le _ 0 _ (Nat.zero_le _) fun x hx => by
    obtain ⟨q, hq, e2⟩ := List.mem_map.mp hx
    have := hle _ (List.mem_map.mpr ⟨q, hq, rfl⟩)
    have e2 : miss2 (f.place q.t) q = x := e2
    omega
  omega
/-! ### least squares: no point is farther than 7 edges from the fit of 48 -/
theorem res_sum (a b c : Int) (f : Point → Int) : ∀ l : List Point, Sm (fun p => (a * f p - b - c * p.t) * (a * f p - b - c * p.t)) l =
    a * a * Sm (fun p => f p * f p) l + ((l.length : Nat) : Int) * (b * b) + c * c * Stt l - 2 * a * b * Sm f l - 2 * a * c * Sm (fun p => p.t * f p) l + 2 * b * c * St l
  | [] => by simp [Sm, Sh72.sum]
  | p :: l => by
    have ih := res_sum a b c f l
    have e : (((p :: l).length : Nat) : Int) = ((l.length : Nat) : Int) + 1 := by simp
    rw [Sm_cons, ih, e]
    simp only [Stt, St, Sm_cons]
    generalize Sm (fun p => f p * f p) l = A
    generalize Sm (fun p => p.t * p.t) l = B
    generalize Sm f l = C
    generalize Sm (fun p => p.t * f p) l = D
    generalize Sm (fun p => p.t) l = E
    generalize ((l.length : Nat) : Int) = n
    generalize f p = u
    generalize p.t = t
    grind
theorem sq_nn (z : Int) : 0 ≤ z * z := by
  have := sq_cast z
  omega
theorem Sm_nn {f : Point → Int} (h : ∀ p, 0 ≤ f p) : ∀ l, 0 ≤ Sm f l
  | [] => Int.le_refl 0
  | p :: l => by
    have := Sm_nn h l
    have := h p
    rw [Sm_cons]
    omega
theorem Sm_mem {f : Point → Int} (h : ∀ p, 0 ≤ f p) : ∀ {l : List Point} {p : Point}, p ∈ l → f p ≤ Sm f l
  | q :: l, p, hp => by
    rw [Sm_cons]
    rcases List.mem_cons.mp hp with e | e
    · have := Sm_nn h l
      rw [e]
      omega
    · have := Sm_mem h e
      have := h q
      omega
theorem Sm_le {f : Point → Int} {m : Int} : ∀ {l : List Point}, (∀ p ∈ l, f p ≤ m) → Sm f l ≤ ((l.length : Nat) : Int) * m
  | [], _ => by simp [Sm, Sh72.sum]
  | q :: l, h => by
    have ih := Sm_le fun p hp => h p (List.mem_cons_of_mem q hp)
    have h1 := h q List.mem_cons_self
    have e : (((q :: l).length : Nat) : Int) = ((l.length : Nat) : Int) + 1 := by simp
    rw [Sm_cons, e, Int.add_mul]
    omega
/-- |u| is no more than v -/
theorem abs_le_of_sq {u v : Int} (hv : 0 ≤ v) (h : u * u ≤ v * v) : -v ≤ u ∧ u ≤ v := by
  constructor
  · apply Int.not_lt.mp
    intro c
    have h1 : v + 1 ≤ -u := by omega
    have h2 : (v + 1) * (v + 1) ≤ (-u) * (-u) := Int.mul_le_mul h1 h1 (by omega) (by omega)
    rw [Int.neg_mul_neg] at h2
    have e : (v + 1) * (v + 1) = v * v + 2 * v + 1 := by grind
    omega
  · apply Int.not_lt.mp
    intro c
    have h1 : v + 1 ≤ u := by omega
    have h2 : (v + 1) * (v + 1) ≤ u * u := Int.mul_le_mul h1 h1 (by omega) (by omega)
    have e : (v + 1) * (v + 1) = v * v + 2 * v + 1 := by grind
    omega
theorem ls_res {l : List Point} {f : Point → Int} (hl : l.length ≤ 48) (hf : ∀ p ∈ l, -32768 ≤ f p ∧ f p ≤ 32768) (hg : 0 < gOf l) {p : Point} (hp : p ∈ l) :
    -(229376 * gOf l) ≤ gOf l * f p - (Stt l * Sm f l - St l * Sm (fun p => p.t * f p) l) - (((l.length : Nat) : Int) * Sm (fun p => p.t * f p) l - St l * Sm f l) * p.t ∧
      gOf l * f p - (Stt l * Sm f l - St l * Sm (fun p => p.t * f p) l) - (((l.length : Nat) : Int) * Sm (fun p => p.t * f p) l - St l * Sm f l) * p.t ≤ 229376 * gOf l := by
  have R := res_sum (gOf l) (Stt l * Sm f l - St l * Sm (fun p => p.t * f p) l) (((l.length : Nat) : Int) * Sm (fun p => p.t * f p) l - St l * Sm f l) f l
  have Z := res_sum 0 (Stt l * Sm f l - St l * Sm (fun p => p.t * f p) l) (((l.length : Nat) : Int) * Sm (fun p => p.t * f p) l - St l * Sm f l) f l
  have zn := Sm_nn (f := fun p => (0 * f p - (Stt l * Sm f l - St l * Sm (fun p => p.t * f p) l) - (((l.length : Nat) : Int) * Sm (fun p => p.t * f p) l - St l * Sm f l) * p.t) * (0 * f p - (Stt l * Sm f l - St l * Sm (fun p => p.t * f p) l) - (((l.length : Nat) : Int) * Sm (fun p => p.t * f p) l - St l * Sm f l) * p.t)) (fun p => sq_nn _) l
  have M := Sm_mem (f := fun p => (gOf l * f p - (Stt l * Sm f l - St l * Sm (fun p => p.t * f p) l) - (((l.length : Nat) : Int) * Sm (fun p => p.t * f p) l - St l * Sm f l) * p.t) * (gOf l * f p - (Stt l * Sm f l - St l * Sm (fun p => p.t * f p) l) - (((l.length : Nat) : Int) * Sm (fun p => p.t * f p) l - St l * Sm f l) * p.t)) (fun p => sq_nn _) hp
  have XX : Sm (fun p => f p * f p) l ≤ ((l.length : Nat) : Int) * 1073741824 := Sm_le fun p hp => by
    obtain ⟨h1, h2⟩ := hf p hp
    have e := sq_nn (f p)
    have : f p * f p ≤ 32768 * 32768 := by
      rcases Int.le_total 0 (f p) with c | c
      · exact Int.mul_le_mul h2 h2 c (by decide)
      · have q : (-(f p)) * (-(f p)) ≤ 32768 * 32768 := Int.mul_le_mul (by omega) (by omega) (by omega) (by decide)
        rw [Int.neg_mul_neg] at q
        exact q
    exact this
  have XX0 : 0 ≤ Sm (fun p => f p * f p) l := Sm_nn (fun p => sq_nn _) l
  rw [Z] at zn
  rw [R] at M
  apply abs_le_of_sq (by omega)
  refine Int.le_trans M ?_
  clear M R Z
  have XX2 : Sm (fun p => f p * f p) l ≤ 52613349376 := by
    have : ((l.length : Nat) : Int) * 1073741824 ≤ 48 * 1073741824 := Int.mul_le_mul_of_nonneg_right (by omega) (by decide)
    omega
  have hgg := sq_nn (gOf l)
  have key : gOf l * gOf l * Sm (fun p => f p * f p) l ≤ gOf l * gOf l * 52613349376 := Int.mul_le_mul_of_nonneg_left XX2 hgg
  have hG : gOf l = ((l.length : Nat) : Int) * Stt l - St l * St l := rfl
  generalize gOf l = g at *
  generalize Sm (fun p => f p * f p) l = xx at *
  generalize ((l.length : Nat) : Int) = n at *
  have hS : Stt l = Sm (fun p => p.t * p.t) l := rfl
  generalize Stt l = tt at *
  generalize St l = t at *
  generalize Sm f l = x at *
  generalize Sm (fun p => p.t * f p) l = tx at *
  have e1 : 229376 * g * (229376 * g) = g * g * 52613349376 := by grind
  rw [e1]
  refine Int.le_trans ?_ key
  have id1 : n * ((tt * x - t * tx) * (tt * x - t * tx)) + (n * tx - t * x) * (n * tx - t * x) * tt + 2 * (tt * x - t * tx) * (n * tx - t * x) * t = g * ((tt * x - t * tx) * x + (n * tx - t * x) * tx) := by
    rw [hG]
    grind
  have zn2 : 0 ≤ g * ((tt * x - t * tx) * x + (n * tx - t * x) * tx) := by
    rw [← id1]
    have : 0 * 0 * xx + n * ((tt * x - t * tx) * (tt * x - t * tx)) + (n * tx - t * x) * (n * tx - t * x) * tt - 2 * 0 * (tt * x - t * tx) * x - 2 * 0 * (n * tx - t * x) * tx + 2 * (tt * x - t * tx) * (n * tx - t * x) * t = n * ((tt * x - t * tx) * (tt * x - t * tx)) + (n * tx - t * x) * (n * tx - t * x) * tt + 2 * (tt * x - t * tx) * (n * tx - t * x) * t := by grind
    rw [this] at zn
    exact zn
  have : g * g * xx + n * ((tt * x - t * tx) * (tt * x - t * tx)) + (n * tx - t * x) * (n * tx - t * x) * tt - 2 * g * (tt * x - t * tx) * x - 2 * g * (n * tx - t * x) * tx + 2 * (tt * x - t * tx) * (n * tx - t * x) * t = g * g * xx - g * ((tt * x - t * tx) * x + (n * tx - t * x) * tx) := by
    have : g * g * xx + n * ((tt * x - t * tx) * (tt * x - t * tx)) + (n * tx - t * x) * (n * tx - t * x) * tt - 2 * g * (tt * x - t * tx) * x - 2 * g * (n * tx - t * x) * tx + 2 * (tt * x - t * tx) * (n * tx - t * x) * t = g * g * xx + (n * ((tt * x - t * tx) * (tt * x - t * tx)) + (n * tx - t * x) * (n * tx - t * x) * tt + 2 * (tt * x - t * tx) * (n * tx - t * x) * t) - 2 * (g * ((tt * x - t * tx) * x + (n * tx - t * x) * tx)) := by grind
    rw [this, id1]
    omega
  rw [this]
  omega
theorem near_off {g x d s : Int} (hg : 0 < g) (h1 : -(229376 * g) ≤ g * x - s) (h2 : g * x - s ≤ 229376 * g) : -58720257 ≤ near (256 * s) g - 256 * x ∧ near (256 * s) g - 256 * x ≤ 58720257 := by
  unfold near
  have h3 : (0 : Int) < 2 * g := by omega
  have up : (2 * (256 * s) + g) / (2 * g) < 256 * x + 58720258 := by
    apply Int.ediv_lt_of_lt_mul h3
    have e : (256 * x + 58720258) * (2 * g) = 512 * (g * x) + 117440516 * g := by grind
    rw [e]
    generalize g * x = q at *
    omega
  have lo : 256 * x - 58720257 ≤ (2 * (256 * s) + g) / (2 * g) := by
    apply Int.le_ediv_of_mul_le h3
    have e : (256 * x - 58720257) * (2 * g) = 512 * (g * x) - 117440514 * g := by grind
    rw [e]
    generalize g * x = q at *
    omega
  omega
theorem sq_small {z : Int} (h1 : -58720257 ≤ z) (h2 : z ≤ 58720257) : square z ≤ 3448068582162049 + 0 := by
  have e := sq_cast z
  have : z * z ≤ 58720257 * 58720257 := by
    rcases Int.le_total 0 z with c | c
    · exact Int.mul_le_mul h2 h2 c (by decide)
    · have q : (-z) * (-z) ≤ 58720257 * 58720257 := Int.mul_le_mul (by omega) (by omega) (by omega) (by decide)
      rw [Int.neg_mul_neg] at q
      exact q
  omega
theorem worst_small {l : List Point} (hl : l.length ≤ 48) (h : AllBd l) (hg : ¬ gOf l ≤ 0) : (fitOf l).worst l < 18446744073709551616 := by
  have hg' : 0 < gOf l := by omega
  refine Nat.lt_of_le_of_lt (foldl_max_le _ 0 6896137164324100 (Nat.zero_le _) fun x hx => ?_) (by decide)
  obtain ⟨p, hp, e⟩ := List.mem_map.mp hx
  rw [← e]
  have b := mem_bd h hp
  obtain ⟨a1, a2⟩ := ls_res (f := fun p => p.x) hl (fun p hp => ⟨(mem_bd h hp).x0, (mem_bd h hp).x1⟩) hg' hp
  obtain ⟨b1, b2⟩ := ls_res (f := fun p => p.y) hl (fun p hp => ⟨(mem_bd h hp).y0, (mem_bd h hp).y1⟩) hg' hp
  obtain ⟨c1, c2⟩ := near_off (x := p.x) (d := 0) (s := (fitOf l).x0 + (fitOf l).vx * p.t) hg' (by rw [Int.sub_sub] at a1; exact a1) (by rw [Int.sub_sub] at a2; exact a2)
  obtain ⟨d1, d2⟩ := near_off (x := p.y) (d := 0) (s := (fitOf l).y0 + (fitOf l).vy * p.t) hg' (by rw [Int.sub_sub] at b1; exact b1) (by rw [Int.sub_sub] at b2; exact b2)
  have s1 := sq_small c1 c2
  have s2 := sq_small d1 d2
  show square _ + square _ ≤ _
  exact Nat.le_trans (Nat.add_le_add s1 s2) (by decide)
end NM

/-! ## 3. Heap words: a point, points, what is raised; expressions that are known to give a value -/
namespace NH
open PySem PySem.Spec PyProof.Rows L2 Evl
/-! ### what a module's name holds -/
def GI (mg : Str → Option Value) (x : Str) (n : Int) : Prop := ∃ t, mg x = some (.int n t)
theorem pe_gi {X : Cx} {x : Str} {n : Int} {pos : Pos} (h : GI X.mg x n) (hg : Gl X x := by rfl) (hd : (x == ("__debug__" : Str)) = false := by decide) : PE X (.Name x pos) (tC (.int n)) := by
  obtain ⟨t, e⟩ := h
  exact pe_glob hg e ⟨t, rfl⟩ hd
/-- a def that keeps a promise -/
def Has (P : Program) (w : World) (K : PySem.W.Frag) (mg : Str → Option Value) (base : Heap) (CX : CXT) (k : Nat) (x : Str) (ps : List Str) (sp : Sp) : Prop :=
  ∃ f fd, FnOk P w K mg base CX k f fd ps sp ∧ mg x = some (.ref f) ∧ PySem.W.keepIn K (.ref f) = true ∧ Binds K fd ps []
/-- a def of the text as it stands behind the top -/
def Df (K : PySem.W.Frag) (mg : Str → Option Value) (x : Str) (st : Stmt) (ps : List Str) : Prop :=
  ∃ f fd, Fun K x x st f fd ∧ mg x = some (.ref f) ∧ ∀ us : List Value, us.length = ps.length → bindArgs fd ⟨us, []⟩ = pure (ps.zip us)
def Bn (x : Str) (st : Stmt) (ps : List Str) : Prop := ∀ (kV doc pm : Value) (an : Option Addr) (cdv ct : Value) (us : List Value), us.length = ps.length → bindArgs (PySem.W.fnOf x x (defArgs st) (defBody st) (defScope st) .none kV doc pm an cdv ct) ⟨us, []⟩ = pure (ps.zip us)
theorem df_mk {K : PySem.W.Frag} {mg : Str → Option Value} {h : Heap} {x : Str} {st : Stmt} {ps : List Str} {f : Addr} {oc : Value} {od an : Option Addr} {osl : Array (Option Value)} {kV doc pm cdv ct : Value} (X : K.In h) (G : h.Ns mainGlobals mg) (hb : Bn x st ps)
    (a : PySem.W.nsIn K mainGlobals x = some (some (.ref f))) (l : K.lookup f = some ⟨oc, od, .func (PySem.W.fnOf x x (defArgs st) (defBody st) (defScope st) .none kV doc pm an cdv ct), osl⟩) (c : PySem.W.codeIn K cdv x = true) (k : PySem.W.keepIn K (.ref f) = true) : Df K mg x st ps :=
  ⟨f, _, fun_mk l c k, PySem.W.mg_of X G a, hb kV doc pm an cdv ct⟩
theorem gi_mk {K : PySem.W.Frag} {mg : Str → Option Value} {h : Heap} {x : Str} {n : Int} {t : Tok} (X : K.In h) (G : h.Ns mainGlobals mg) (a : PySem.W.nsIn K mainGlobals x = some (some (.int n t))) : GI mg x n := ⟨t, PySem.W.mg_of X G a⟩
section
variable {P : Program} {w : World} {K : PySem.W.Frag} {mg : Str → Option Value} {base : Heap} {CX : CXT} {k : Nat} {x : Str} {ps : List Str} {sp : Sp} {st : Stmt}
theorem Has.of (D : Df K mg x st ps) (h : ∀ f fd, Fun K x x st f fd → FnOk P w K mg base CX k f fd ps sp) : Has P w K mg base CX k x ps sp := by
  obtain ⟨f, fd, F, m, b⟩ := D
  exact ⟨f, fd, h f fd F, m, F.kp, .all b⟩
theorem Has.mono {j : Nat} (h : Has P w K mg base CX j x ps sp) (hj : j ≤ k) : Has P w K mg base CX k x ps sp := by
  obtain ⟨f, fd, F, r⟩ := h
  exact ⟨f, fd, F.mono hj, r⟩
end
section
variable {X : Cx} {CX : CXT} {k : Nat} {x : Str} {ps : List Str} {sp : Sp} {p pos : Pos} {e : Expr} {es : List Expr} {t : TA} {E : XK}
theorem pe_has (h : Has X.prog X.w X.K X.mg X.base CX k x ps sp) (hr : Room k X.A) (hx : Passes CX X E) (ha : PA X (e :: es) t) (hg : Gl X x := by rfl) (hdb : (x == ("__debug__" : Str)) = false := by decide)
    (he : starEach (e :: es) X.env = (false, eval e X.env) :: starEach es X.env := by rfl) (hpl : (backTo pos (starEach es X.env)).any (·.1) = false := by rfl) : PE X (.Call (.Name x p) (e :: es) [] pos) (tCall sp [] E t) := by
  obtain ⟨f, fd, F, m, kp, b⟩ := h
  exact pe_call F hr hg m kp b .nil hx ha hdb he hpl
theorem pe_hasS {E : L2.St → XK} (h : Has X.prog X.w X.K X.mg X.base CX k x ps sp) (hr : Room k X.A) (hx : ∀ σ, PassesAt CX X σ (E σ)) (ha : PA X (e :: es) t) (hg : Gl X x := by rfl) (hdb : (x == ("__debug__" : Str)) = false := by decide)
    (he : starEach (e :: es) X.env = (false, eval e X.env) :: starEach es X.env := by rfl) (hpl : (backTo pos (starEach es X.env)).any (·.1) = false := by rfl) : PE X (.Call (.Name x p) (e :: es) [] pos) (tCallS sp E t) := by
  obtain ⟨f, fd, F, m, kp, b⟩ := h
  exact pe_callS F hr hg m kp b hx ha hdb he hpl
end
/-! ### lookups -/
theorem lk_here {k : Str} {v : V} {r : List (Str × V)} : List.lookup k ((k, v) :: r) = some v := by
  have e : (k == k) = true := beq_self_eq_true k
  simp only [List.lookup, e]
theorem lk_past {k g : Str} {v : V} {r : List (Str × V)} (h : (k == g) = false) : List.lookup k ((g, v) :: r) = List.lookup k r := by
  simp only [List.lookup, h]
theorem put_past {f g : Str} {v x : V} {r : List (Str × V)} (h : ¬ g = f) : putF f v ((g, x) :: r) = (g, x) :: putF f v r := if_neg h
/-! ### a point -/
def ptF (p : Sh72.Point) : List (Str × V) := [("t", .int p.t), ("x", .int p.x), ("y", .int p.y), ("light", .int p.mag)]
def PtAt (C : Addr) (H : Hp) (a : Addr) (p : Sh72.Point) : Prop := ∃ dx, H a = some (.ins C dx (ptF p))
theorem PtAt.mono {C : Addr} {H H' : Hp} {a : Addr} {p : Sh72.Point} (e : Ex H H') (h : PtAt C H a p) : PtAt C H' a p := by
  obtain ⟨dx, h⟩ := h
  exact ⟨dx, e _ _ h⟩
theorem ptF_t (p : Sh72.Point) : (ptF p).lookup ("t" : Str) = some (.int p.t) := lk_here
theorem ptF_x (p : Sh72.Point) : (ptF p).lookup ("x" : Str) = some (.int p.x) := (lk_past (by decide +kernel)).trans lk_here
theorem ptF_y (p : Sh72.Point) : (ptF p).lookup ("y" : Str) = some (.int p.y) := (lk_past (by decide +kernel)).trans ((lk_past (by decide +kernel)).trans lk_here)
theorem ptF_l (p : Sh72.Point) : (ptF p).lookup ("light" : Str) = some (.int p.mag) := (lk_past (by decide +kernel)).trans ((lk_past (by decide +kernel)).trans ((lk_past (by decide +kernel)).trans lk_here))
theorem ptF_new (p : Sh72.Point) : putF "light" (.int p.mag) (putF "y" (.int p.y) (putF "x" (.int p.x) (putF "t" (.int p.t) []))) = ptF p := by
  have e1 : putF "t" (V.int p.t) [] = ([("t", .int p.t)] : List (Str × V)) := rfl
  have e2 : putF "x" (V.int p.x) ([("t", .int p.t)] : List (Str × V)) = ([("t", .int p.t), ("x", .int p.x)] : List (Str × V)) := (put_past (by decide +kernel)).trans rfl
  have e3 : putF "y" (V.int p.y) ([("t", .int p.t), ("x", .int p.x)] : List (Str × V)) = ([("t", .int p.t), ("x", .int p.x), ("y", .int p.y)] : List (Str × V)) := (put_past (by decide +kernel)).trans (congrArg _ ((put_past (by decide +kernel)).trans rfl))
  rw [e1, e2, e3]
  exact (put_past (by decide +kernel)).trans (congrArg _ ((put_past (by decide +kernel)).trans (congrArg _ ((put_past (by decide +kernel)).trans rfl))))
/-- what the written part says of Point -/
structure CP (K : PySem.W.Frag) (C : Addr) : Prop where
  cl : Cls K C
  t : NoAttr K C "t"
  x : NoAttr K C "x"
  y : NoAttr K C "y"
  l : NoAttr K C "light"
/-! ### known values -/
section
variable {K : PySem.W.Frag} {σ : L2.St} {H H' : Hp} {ta tb te : TE} {x y z v : V} {r : R2} {C a dx : Addr} {fs : List (Str × V)} {f : Str} {p q : Sh72.Point}
theorem ev_fld (ha : Ev ta σ H (.ref a)) (ho : H a = some (.ins C dx fs)) (hc : Cls K C) (hn : NoAttr K C f) (hl : fs.lookup f = some v) : Ev (tFld K ta f) σ H v := fun H1 e _ q =>
  ha H1 e _ fun H2 e2 => ⟨a, C, dx, fs, v, rfl, (e.trans e2) a _ ho, hc, hn, hl, q H2 e2⟩
theorem ev_t (T : CP K C) (h : PtAt C H a p) (ha : Ev ta σ H (.ref a)) : Ev (tFld K ta "t") σ H (.int p.t) := by
  obtain ⟨dx, h⟩ := h
  exact ev_fld ha h T.cl T.t (ptF_t p)
theorem ev_x (T : CP K C) (h : PtAt C H a p) (ha : Ev ta σ H (.ref a)) : Ev (tFld K ta "x") σ H (.int p.x) := by
  obtain ⟨dx, h⟩ := h
  exact ev_fld ha h T.cl T.x (ptF_x p)
theorem ev_y (T : CP K C) (h : PtAt C H a p) (ha : Ev ta σ H (.ref a)) : Ev (tFld K ta "y") σ H (.int p.y) := by
  obtain ⟨dx, h⟩ := h
  exact ev_fld ha h T.cl T.y (ptF_y p)
theorem ev_l (T : CP K C) (h : PtAt C H a p) (ha : Ev ta σ H (.ref a)) : Ev (tFld K ta "light") σ H (.int p.mag) := by
  obtain ⟨dx, h⟩ := h
  exact ev_fld ha h T.cl T.l (ptF_l p)
/-- two ints in, a value out -/
theorem ev_I0 {g : Int → Int → V} {i j : Int} (ha : Ev ta σ H (.int i)) (hb : Ev tb σ H (.int j)) : Ev (tOp (rI0 g) ta tb) σ H (g i j) := ev_op ha hb rv_I0
theorem ev_I {c : Int → Int → Prop} {g : Int → Int → V} {i j : Int} (hc : c i j) (ha : Ev ta σ H (.int i)) (hb : Ev tb σ H (.int j)) : Ev (tOp (rI c g) ta tb) σ H (g i j) := ev_op ha hb (rv_I hc)
theorem ev_v {i : Nat} {n : Int} (h : σ[i]? = some (some (.int n))) : Ev (tVar i) σ H (.int n) := ev_var h
def rAbs : List V → Hp → VK → Prop := fun xs H Q => ∃ i, xs = [.int i] ∧ Q (.int (if i < 0 then -i else i)) H
theorem ev_abs {i : Int} (ha : Ev ta σ H (.int i)) : Ev (tCB rAbs (tCons ta tNil)) σ H (.int ((i.natAbs : Nat) : Int)) := by
  have e : (if i < 0 then -i else i) = ((i.natAbs : Nat) : Int) := by split <;> omega
  rw [← e]
  exact ev_cb (ea_cons ha ea_nil) fun H1 _ Q q => ⟨i, rfl, q H1 (Ex.refl H1)⟩
theorem ev_all {tl : TE} {bs : List Bool} (h : EvL tl σ H (bs.map V.bl)) : Ev (tCB (rAll K) (tCons tl tNil)) σ H (.bl (bs.all id)) := fun H1 e _ q =>
  h H1 e _ fun p H2 _ e2 hp => ⟨p, bs, rfl, sq_of hp, q H2 e2⟩
theorem ev_sum {tl : TE} {ns : List Int} (h : EvL tl σ H (ns.map V.int)) : Ev (tCB (rSum K) (tCons tl tNil)) σ H (.int ns.sum) := fun H1 e _ q =>
  h H1 e _ fun p H2 _ e2 hp => ⟨p, ns, rfl, sq_of hp, q H2 e2⟩
theorem ev_lst {i : Nat} {l : Addr} {xs : List V} (ha : Ev ta σ H (.ref l)) (hb : Ev tb σ H (.int (i : Int))) (h : SqL K H l xs) (hx : xs[i]? = some v) : Ev (tOp (rIxL K) ta tb) σ H v := ev_op ha hb (rv_ixL h (atI_nat hx))
theorem ev_tup {i : Nat} {l : Addr} {xs : List V} (ha : Ev ta σ H (.ref l)) (hb : Ev tb σ H (.int (i : Int))) (h : SqT K H l xs) (hx : xs[i]? = some v) : Ev (tOp (rIxT K) ta tb) σ H v := ev_op ha hb (rv_ixT h (atI_nat hx))
theorem EvU.mono {xs : List V} (e : Ex H H') (h : EvU te σ H xs) : EvU te σ H' xs := fun H1 a Q q => h H1 (e.trans a) Q q
/-- a call that makes a tuple -/
def SpU (sp : Sp) (vs : List V) (H : Hp) (xs : List V) : Prop := ∀ H1, Ex H H1 → ∀ Q : VK, (∀ p H2, H1 p = none → Ex H1 H2 → H2 p = some (.tup xs) → Q (.ref p) H2) → ∀ E : XK, sp vs H1 Q E
theorem eu_call {sp : Sp} {dvs vs xs : List V} {E : XK} {ta : TA} (h : EvA ta σ H vs) (hs : SpU sp (vs ++ dvs) H xs) : EvU (tCall sp dvs E ta) σ H xs := fun H1 e Q q =>
  h H1 e _ fun H2 e2 => hs H2 (e.trans e2) Q (fun p H3 hp e3 h3 => q p H3 (fresh_back e2 hp) (e2.trans e3) h3) E
/-- something that P tells of -/
def EvX (te : TE) (σ : L2.St) (H : Hp) (P : V → Hp → Prop) : Prop := ∀ H1, Ex H H1 → ∀ Q : VK, (∀ v H2, Ex H1 H2 → P v H2 → Q v H2) → te σ H1 Q
def SpX (sp : Sp) (vs : List V) (H : Hp) (P : V → Hp → Prop) : Prop := ∀ H1, Ex H H1 → ∀ Q : VK, (∀ v H2, Ex H1 H2 → P v H2 → Q v H2) → ∀ E : XK, sp vs H1 Q E
theorem ex_call {sp : Sp} {dvs vs : List V} {E : XK} {ta : TA} {P : V → Hp → Prop} (h : EvA ta σ H vs) (hs : SpX sp (vs ++ dvs) H P) : EvX (tCall sp dvs E ta) σ H P := fun H1 e Q q =>
  h H1 e _ fun H2 e2 => hs H2 (e.trans e2) Q (fun v H3 e3 h3 => q v H3 (e2.trans e3) h3) E
variable {D : Ends} {tz tu : TS}
theorem q_asgX {i : Nat} {P : V → Hp → Prop} (h : EvX te σ H P) (k : ∀ v H1, Ex H H1 → P v H1 → tz D (σ.set i (some v)) H1) : tSeq (tAsg te (gName i)) tz D σ H := h H (Ex.refl H) _ k
theorem s_asgX {i : Nat} {P : V → Hp → Prop} (h : EvX te σ H P) (k : ∀ v H1, Ex H H1 → P v H1 → D.nx (σ.set i (some v)) H1) : tAsg te (gName i) D σ H := h H (Ex.refl H) _ k
theorem s_retX {P : V → Hp → Prop} (h : EvX te σ H P) (k : ∀ v H1, Ex H H1 → P v H1 → D.rt v H1) : tRet te D σ H := h H (Ex.refl H) _ k
theorem q_asgT2 {i j : Nat} {v1 v2 : V} (h : EvU te σ H [v1, v2]) (k : ∀ H1, Ex H H1 → tz D ((σ.set i (some v1)).set j (some v2)) H1) : tSeq (tAsg te (gTup K 2 (gCons (gName i) (gCons (gName j) gNil)))) tz D σ H :=
  h H (Ex.refl H) _ fun p H1 _ e hp => ⟨p, [v1, v2], rfl, st_of hp, rfl, v1, [v2], rfl, v2, [], rfl, rfl, k H1 e⟩
/-- c is kept where the test says so -/
theorem q_yes {b : Bool} {t : TT} {tw : TS} (h : EvT t σ H b) (hb : b = true) (k : ∀ H1, Ex H H1 → tu { D with nx := tz D } σ H1) : tSeq (tIfS t tu tw) tz D σ H := q_if h (fun _ H1 e => k H1 e) (fun q => by rw [hb] at q; cases q)
end
/-! ### points -/
def PtsAt (C : Addr) (H : Hp) (l : Addr) (ps : List Sh72.Point) : Prop := ∃ as : List Addr, H l = some (.lst (as.map V.ref)) ∧ as.length = ps.length ∧ ∀ i, i < ps.length → ∃ a, as[i]? = some a ∧ PtAt C H a (Sh72.at_ ps i)
theorem PtsAt.mono {C : Addr} {H H' : Hp} {l : Addr} {ps : List Sh72.Point} (e : Ex H H') (h : PtsAt C H l ps) : PtsAt C H' l ps := by
  obtain ⟨as, h1, h2, h3⟩ := h
  refine ⟨as, e _ _ h1, h2, fun i hi => ?_⟩
  obtain ⟨a, q1, q2⟩ := h3 i hi
  exact ⟨a, q1, q2.mono e⟩
theorem PtsAt.list {C : Addr} {H : Hp} {l : Addr} {ps : List Sh72.Point} (h : PtsAt C H l ps) : ∃ xs : List V, H l = some (.lst xs) ∧ xs.length = ps.length ∧ ∀ i, i < ps.length → ∃ a, xs[i]? = some (.ref a) ∧ PtAt C H a (Sh72.at_ ps i) := by
  obtain ⟨as, h1, h2, h3⟩ := h
  refine ⟨_, h1, by rw [List.length_map]; exact h2, fun i hi => ?_⟩
  obtain ⟨a, q1, q2⟩ := h3 i hi
  exact ⟨a, by rw [List.getElem?_map, q1]; rfl, q2⟩
theorem ev_pts {K : PySem.W.Frag} {σ : L2.St} {H : Hp} {C l : Addr} {ps : List Sh72.Point} {ta tb : TE} {i : Nat} (h : PtsAt C H l ps) (ha : Ev ta σ H (.ref l)) (hb : Ev tb σ H (.int (i : Int))) (hi : i < ps.length) :
    ∃ a, Ev (tOp (rIxL K) ta tb) σ H (.ref a) ∧ PtAt C H a (Sh72.at_ ps i) := by
  obtain ⟨xs, h1, _, h3⟩ := h.list
  obtain ⟨a, q1, q2⟩ := h3 i hi
  exact ⟨a, ev_lst ha hb (SqL.of h1) q1, q2⟩
theorem ev_plen {K : PySem.W.Frag} {σ : L2.St} {H : Hp} {C l : Addr} {ps : List Sh72.Point} {ta : TE} (h : PtsAt C H l ps) (ha : Ev ta σ H (.ref l)) : Ev (tCB (rLenS K) (tCons ta tNil)) σ H (.int ((ps.length : Nat) : Int)) := by
  obtain ⟨xs, h1, h2, _⟩ := h.list
  rw [← h2]
  exact ev_len ha (SqL.of h1)
/-! ### words -/
abbrev vN (n : Nat) : V := .int ((n : Nat) : Int)
def WordsAt (K : PySem.W.Frag) (H : Hp) (a : Addr) (ns : List Nat) : Prop := SqL K H a (ns.map vN)
theorem WordsAt.mono {K : PySem.W.Frag} {H H' : Hp} {a : Addr} {ns : List Nat} (e : Ex H H') (h : WordsAt K H a ns) : WordsAt K H' a ns := ex_l e h
theorem ev_word {K : PySem.W.Frag} {σ : L2.St} {H : Hp} {a : Addr} {ns : List Nat} {ta tb : TE} {i : Nat} (h : WordsAt K H a ns) (ha : Ev ta σ H (.ref a)) (hb : Ev tb σ H (.int (i : Int))) (hi : i < ns.length) :
    Ev (tOp (rIxL K) ta tb) σ H (.int ((Sh72.num ns i : Nat) : Int)) := ev_lst ha hb h (by rw [List.getElem?_map, NM.num_at hi]; rfl)
theorem ev_wlen {K : PySem.W.Frag} {σ : L2.St} {H : Hp} {a : Addr} {ns : List Nat} {ta : TE} (h : WordsAt K H a ns) (ha : Ev ta σ H (.ref a)) : Ev (tCB (rLenS K) (tCons ta tNil)) σ H (.int ((ns.length : Nat) : Int)) := by
  have q := ev_len (K := K) ha h
  rw [List.length_map] at q
  exact q
/-! ### what is raised -/
def xF (n : Int) : List (Str × V) := [("number", .int n)]
def RaiseE (CR : Addr) (n : Int) (H : Hp) (E : XK) : Prop := ∀ (d : Addr) (H2 : Hp), Ex H H2 → H2 d = some (.xd (xF n)) → E (.ref CR) (some d) H2
theorem RaiseE.mono {CR : Addr} {n : Int} {H H' : Hp} {E : XK} (e : Ex H H') (h : RaiseE CR n H E) : RaiseE CR n H' E := fun d H2 e2 q => h d H2 (e.trans e2) q
/-- what the written part says of Refused -/
structure CR (K : PySem.W.Frag) (mg : Str → Option Value) (C : Addr) : Prop where
  gC : mg "Refused" = some (.ref C)
  ox : OexC K C
  xf : XfC K C
  no : PySem.W.findIn K (.ref C) "number" = some none
  te : PySem.W.exmOne K (.ref C) (.ref C) = some true
/-- told: the answer comes as a list, or its one number is raised -/
def Told (C : Addr) (ans : List Int) (H : Hp) (Q : VK) (E : XK) : Prop := (∀ p H2, Ex H H2 → H2 p = some (.lst (ans.map V.int)) → Q (.ref p) H2) ∧ ∀ n, ans = [n] → RaiseE C n H E
theorem exm_self {K : PySem.W.Frag} {S : Addr} (h1 : PySem.W.subIn K (.ref S) (.type "BaseException") = some true) (h2 : PySem.W.isClsIn K S = true) (h3 : PySem.W.typeIn K (.ref S) = some (.type "type")) (h4 : PySem.W.subIn K (.ref S) (.ref S) = some true) :
    PySem.W.exmOne K (.ref S) (.ref S) = some true := by
  have e1 : (PySem.W.subIn K (.ref S) (.type "BaseException") == some true) = true := by rw [h1] <;> rfl
  have e2 : ((PySem.W.clsIn K S).isSome && PySem.W.typeIn K (.ref S) == some (.type "type")) = true := by
    have h2' : (PySem.W.clsIn K S).isSome = true := h2
    rw [h2', h3] <;> rfl
  show (if (PySem.W.subIn K (.ref S) (.type "BaseException") == some true) = true then (if ((PySem.W.clsIn K S).isSome && PySem.W.typeIn K (.ref S) == some (.type "type")) = true then PySem.W.subIn K (.ref S) (.ref S) else none) else none) = some true
  rw [if_pos e1, if_pos e2]
  exact h4
end NH

namespace NH
open PySem PySem.Spec PyProof.Rows L2 Evl
/-! ### comprehensions over and into points -/
section
variable {K : PySem.W.Frag} {σ : L2.St} {H H' : Hp} {ta tb te tl : TE} {C a : Addr} {D : Ends} {tz : TS}
theorem et_yes : EvT tYes σ H true := fun H1 _ _ q => q H1 (Ex.refl H1)
theorem given_all (n : Nat) (v : Nat → V) : given n (fun _ => true) v = (List.range n).map v := by
  unfold given
  rw [List.filter_eq_self.mpr (fun _ _ => rfl)]
theorem PtAt.beside {H : Hp} {x D : Addr} {p : Sh72.Point} {xs : List V} {o : HO} (h : PtAt C H x p) (hD : H D = some (.lst xs)) : PtAt C (upd H D o) x p := by
  obtain ⟨dx, h⟩ := h
  exact ⟨dx, by rw [upd_ne (ne_of h hD (by intro q; cases q))]; exact h⟩
/-- [a new point for k in range(n)] -/
theorem ex_lcP {ta : TA} {j : Nat} {vs : List Nat} {ps : List Sh72.Point} (h : EvA ta σ H [.int ((ps.length : Nat) : Int)]) (hz : ps.length ≤ 40000) (hw : ∀ x, wipe ((wipe σ vs).set j (some x)) vs = wipe σ vs)
    (he : ∀ (i : Nat) H1, Ex H H1 → i < ps.length → EvX te ((wipe σ vs).set j (some (.int (i : Int)))) H1 (fun v H2 => ∃ x, v = .ref x ∧ PtAt C H2 x (Sh72.at_ ps i))) :
    EvX (tLc (iRng1 ta) (gName j) tYes te vs) σ H (fun v H2 => ∃ p, v = .ref p ∧ PtsAt C H2 p ps) := fun H0 e Q q => h H0 e _ fun H1 e1 => ⟨_, rfl, by omega, by omega, fun Dl hD =>
  lc_range (lo := 0) (n := ((ps.length : Nat) : Int).toNat) (fun i H' => Ex H1 H' ∧ ∃ as : List Addr, H' Dl = some (.lst (as.map V.ref)) ∧ as.length = i ∧ ∀ j, j < i → ∃ x, as[j]? = some x ∧ PtAt C H' x (Sh72.at_ ps j))
    ⟨Ex.new hD, [], upd_same, rfl, fun j hj => absurd hj (Nat.not_lt_zero j)⟩ (fun i H' hi p => by
      obtain ⟨e2, as, hl, hlen, hpt⟩ := p
      have e0 : (0 : Int) + (i : Int) = (i : Int) := Int.zero_add _
      rw [e0]
      refine ⟨hw _, ?_⟩
      show te ((wipe σ vs).set j (some (.int (i : Int)))) H' _
      refine he i H' ((e.trans e1).trans e2) (by omega) H' (Ex.refl H') _ fun v H4 e4 hv => ?_
      obtain ⟨x, rfl, hx⟩ := hv
      have hl4 := e4 _ _ hl
      refine ⟨as.map V.ref, hl4, by rw [List.length_map]; exact sz_lt (by omega), Ex.mut (e2.trans e4) hD, as ++ [x], by rw [upd_same, List.map_append]; rfl, by rw [List.length_append, hlen]; rfl, fun j hj => ?_⟩
      by_cases hji : j < i
      · obtain ⟨y, q1, q2⟩ := hpt j hji
        exact ⟨y, by rw [List.getElem?_append_left (by omega)]; exact q1, (q2.mono e4).beside hl4⟩
      · have hj' : j = as.length := by omega
        refine ⟨x, by rw [hj', List.getElem?_append_right (Nat.le_refl _), Nat.sub_self]; rfl, ?_⟩
        rw [hj', hlen]
        exact hx.beside hl4) (fun H' p => by
      obtain ⟨e2, as, hl, hlen, hpt⟩ := p
      have en : ((ps.length : Nat) : Int).toNat = ps.length := by omega
      rw [en] at hlen hpt
      exact q (.ref Dl) H' (e1.trans e2) ⟨Dl, rfl, as, hl, hlen, hpt⟩)⟩
/-- [v of a point for point in points] -/
theorem el_lcPts {j : Nat} {vs : List Nat} {l : Addr} {ps : List Sh72.Point} (v : Sh72.Point → V) (hp : PtsAt C H l ps) (h : Ev tl σ H (.ref l)) (hz : ps.length ≤ 40000) (hw : ∀ x, wipe ((wipe σ vs).set j (some x)) vs = wipe σ vs)
    (he : ∀ (i : Nat) (a : Addr) H1, Ex H H1 → i < ps.length → PtAt C H1 a (Sh72.at_ ps i) → Ev te ((wipe σ vs).set j (some (.ref a))) H1 (v (Sh72.at_ ps i))) :
    EvL (tLc (iList K tl) (gName j) tYes te vs) σ H (ps.map v) := by
  obtain ⟨xs, h1, h2, h3⟩ := hp.list
  have g : EvL (tLc (iList K tl) (gName j) tYes te vs) σ H (given xs.length (fun _ => true) (fun i => v (Sh72.at_ ps i))) :=
    el_lcL (fun _ => true) (fun i => v (Sh72.at_ ps i)) h (SqL.of h1) (by omega) hw (fun _ _ _ _ _ => et_yes) (fun i x H1 e hx _ => by
      have hi : i < ps.length := by
        have := (List.getElem?_eq_some_iff.mp hx).1
        omega
      obtain ⟨a, q1, q2⟩ := h3 i hi
      rw [q1] at hx
      have ex := Option.some.inj hx
      subst ex
      exact he i a H1 e hi (q2.mono e))
  rw [given_all, h2, NM.range_map_at] at g
  exact g
/-- ask(..) as a statement -/
theorem RaiseE.go {n : Int} {E : XK} (h : RaiseE C n H E) (e : Ex H H') : RaiseE C n H' E := h.mono e
end
end NH
namespace NH
open PySem PySem.Spec PyProof.Rows L2 Evl
section
variable {K : PySem.W.Frag} {σ : L2.St} {H H' : Hp} {ta tb te tl : TE} {C a : Addr} {D : Ends} {tz : TS} {t : TT}
theorem q_asgK {i : Nat} (Pv : V → Hp → Prop) (h : ∀ Q' : VK, (∀ v H1, Pv v H1 → Q' v H1) → te σ H Q') (k : ∀ v H1, Pv v H1 → tz D (σ.set i (some v)) H1) : tSeq (tAsg te (gName i)) tz D σ H := h _ k
theorem gt_cast (r d : Nat) : decide (((r : Nat) : Int) * ((r : Nat) : Int) < ((d : Nat) : Int)) = decide (r * r < d) := by
  apply decide_eq_decide.mpr
  rw [← Int.natCast_mul]
  omega
theorem le_cast (r d : Nat) : decide (((d : Nat) : Int) ≤ ((r : Nat) : Int) * ((r : Nat) : Int)) = decide (d ≤ r * r) := by
  apply decide_eq_decide.mpr
  rw [← Int.natCast_mul]
  omega
/-- [.. for k, point in enumerate(points) if ..] -/
theorem el_lcEnum {ta : TA} {l : Addr} {ps : List Sh72.Point} {i j : Nat} {vs : List Nat} (f : Nat → Bool) (v : Nat → V) (h : EvA ta σ H [.ref l]) (hp : PtsAt C H l ps) (hz : ps.length ≤ 40000) (hw : ∀ x y, wipe (((wipe σ vs).set i (some x)).set j (some y)) vs = wipe σ vs)
    (ht : ∀ (m : Nat) (a : Addr) H1, Ex H H1 → m < ps.length → PtAt C H1 a (Sh72.at_ ps m) → EvT t (((wipe σ vs).set i (some (vN m))).set j (some (.ref a))) H1 (f m))
    (he : ∀ (m : Nat) (a : Addr) H1, Ex H H1 → m < ps.length → PtAt C H1 a (Sh72.at_ ps m) → f m = true → Ev te (((wipe σ vs).set i (some (vN m))).set j (some (.ref a))) H1 (v m)) :
    EvL (tLc (iEnum K ta) (gTup K 2 (gCons (gName i) (gCons (gName j) gNil))) t te vs) σ H (given ps.length f v) := by
  obtain ⟨xs, h1, h2, h3⟩ := hp.list
  rw [← h2]
  exact fun H0 e Q q => h H0 e _ fun H1 e1 => ⟨l, xs, rfl, SqL.of ((e.trans e1) _ _ h1), fun Dl hD =>
    lc_it (walk_enum (K := K) (a := l) (xs := xs)) (Cw H1 f v Dl) ⟨hD, Ex.new hD, upd_same⟩ (fun m H' _ p => SqL.of (p.2.1 _ _ ((e.trans e1) _ _ h1))) (fun m x H' H'' hm p y => by
      obtain ⟨T, x1, x2, rfl, hT, rfl, ex1, ex2⟩ := y
      have ex1 := Option.some.inj ex1
      subst ex1
      obtain ⟨b, q1, q2⟩ := h3 m (by omega)
      have ex2 : xs[m]? = some x2 := ex2
      rw [q1] at ex2
      have ex2 := Option.some.inj ex2
      subst ex2
      have p' : Cw H1 f v Dl m (upd H' T (.tup [vN m, .ref b])) := ⟨p.1, p.2.1.trans (Ex.new hT), (Ex.new hT) _ _ p.2.2⟩
      exact ⟨T, [vN m, .ref b], rfl, st_of upd_same, rfl, _, [.ref b], rfl, _, [], rfl, rfl, hw _ _, cw_turn p' (by omega) (ht m b H1 (e.trans e1) (by omega) (q2.mono (e.trans e1))) (fun hf => he m b H1 (e.trans e1) (by omega) (q2.mono (e.trans e1)) hf)⟩)
      (fun H' p => q Dl H' (fresh_back e1 p.1) (e1.trans p.2.1) p.2.2)⟩
/-- a new list behind a new one, behind one that stands -/
theorem el_cat {xs ys : List V} (ha : EvL ta σ H xs) (hb : EvL tb σ H ys) (hz : xs.length + ys.length ≤ 100000) : EvL (tOp rCat ta tb) σ H (xs ++ ys) := fun H1 e Q q =>
  ha H1 e _ fun p H2 _ e2 h2 => hb H2 (e.trans e2) _ fun p2 H3 _ e3 h3 => ⟨p, p2, xs, ys, rfl, rfl, e3 _ _ h2, h3, sz_of hz, fun z hz => q z _ (fresh_back (e2.trans e3) hz) ((e2.trans e3).trans (Ex.new hz)) upd_same⟩
theorem el_catR {xs ys : List V} {l : Addr} (ha : EvL ta σ H xs) (hb : Ev tb σ H (.ref l)) (hl : H l = some (.lst ys)) (hz : xs.length + ys.length ≤ 100000) : EvL (tOp rCat ta tb) σ H (xs ++ ys) := fun H1 e Q q =>
  ha H1 e _ fun p H2 _ e2 h2 => hb H2 (e.trans e2) _ fun H3 e3 => ⟨p, l, xs, ys, rfl, rfl, e3 _ _ h2, ((e.trans e2).trans e3) _ _ hl, sz_of hz, fun z hz => q z _ (fresh_back (e2.trans e3) hz) ((e2.trans e3).trans (Ex.new hz)) upd_same⟩
/-- [v of an item for item in a list], its items told by g -/
theorem el_lcM {α : Type} {j : Nat} {vs : List Nat} (xs : List α) (g v : α → V) (h : Ev tl σ H (.ref a)) (hx : SqL K H a (xs.map g)) (hz : xs.length ≤ 40000) (hw : ∀ x, wipe ((wipe σ vs).set j (some x)) vs = wipe σ vs)
    (he : ∀ x, x ∈ xs → ∀ H1, Ex H H1 → Ev te ((wipe σ vs).set j (some (g x))) H1 (v x)) : EvL (tLc (iList K tl) (gName j) tYes te vs) σ H (xs.map v) := by
  have q : EvL (tLc (iList K tl) (gName j) tYes te vs) σ H (given (xs.map g).length (fun _ => true) (fun i => ((xs[i]?).map v).getD .non)) :=
    el_lcL (fun _ => true) (fun i => ((xs[i]?).map v).getD .non) h hx (by rw [List.length_map]; omega) hw (fun _ _ _ _ _ => et_yes) (fun i y H1 e hy _ => by
      rw [List.getElem?_map] at hy
      cases hi : xs[i]? with
      | none =>
        rw [hi] at hy
        cases hy
      | some x =>
        rw [hi] at hy
        have ey := Option.some.inj hy
        subst ey
        exact he x (List.mem_of_getElem? hi) H1 e)
  have e : given (xs.map g).length (fun _ => true) (fun i => ((xs[i]?).map v).getD .non) = xs.map v := by
    rw [given_all, List.length_map]
    apply List.ext_getElem?
    intro i
    rw [List.getElem?_map, List.getElem?_map]
    by_cases c : i < xs.length
    · rw [List.getElem?_range c, List.getElem?_eq_getElem c]
      show some (((xs[i]?).map v).getD .non) = _
      rw [List.getElem?_eq_getElem c]
      rfl
    · rw [List.getElem?_eq_none (by rw [List.length_range]; omega), List.getElem?_eq_none (by omega)]
      rfl
  rw [e] at q
  exact q
/-- the same over a new list -/
theorem el_lcNM {α : Type} {j : Nat} {vs : List Nat} (xs : List α) (g v : α → V) (h : EvL tl σ H (xs.map g)) (hz : xs.length ≤ 40000) (hw : ∀ x, wipe ((wipe σ vs).set j (some x)) vs = wipe σ vs)
    (he : ∀ x, x ∈ xs → ∀ H1, Ex H H1 → Ev te ((wipe σ vs).set j (some (g x))) H1 (v x)) : EvL (tLc (iList K tl) (gName j) tYes te vs) σ H (xs.map v) := by
  have q : EvL (tLc (iList K tl) (gName j) tYes te vs) σ H (given (xs.map g).length (fun _ => true) (fun i => ((xs[i]?).map v).getD .non)) :=
    el_lcNL (fun _ => true) (fun i => ((xs[i]?).map v).getD .non) h (by rw [List.length_map]; omega) hw (fun _ _ _ _ _ => et_yes) (fun i y H1 e hy _ => by
      rw [List.getElem?_map] at hy
      cases hi : xs[i]? with
      | none =>
        rw [hi] at hy
        cases hy
      | some x =>
        rw [hi] at hy
        have ey := Option.some.inj hy
        subst ey
        exact he x (List.mem_of_getElem? hi) H1 e)
  have e : given (xs.map g).length (fun _ => true) (fun i => ((xs[i]?).map v).getD .non) = xs.map v := by
    rw [given_all, List.length_map]
    apply List.ext_getElem?
    intro i
    rw [List.getElem?_map, List.getElem?_map]
    by_cases c : i < xs.length
    · rw [List.getElem?_range c, List.getElem?_eq_getElem c]
      show some (((xs[i]?).map v).getD .non) = _
      rw [List.getElem?_eq_getElem c]
      rfl
    · rw [List.getElem?_eq_none (by rw [List.length_range]; omega), List.getElem?_eq_none (by omega)]
      rfl
  rw [e] at q
  exact q
/-- max of a new list -/
theorem ev_maxL {ns : List Int} {z : Int} (h : EvL tl σ H (ns.map V.int)) (h0 : 0 < ns.length) (hm : ∀ m, m ∈ ns → (∀ y, y ∈ ns → y ≤ m) → m = z) : Ev (tCB (rMax K) (tCons tl tNil)) σ H (.int z) := fun H1 e _ q =>
  h H1 e _ fun p H2 _ e2 hp => ⟨p, ns, rfl, sq_of hp, h0, fun m m1 m2 => by
    rw [hm m m1 m2]
    exact q H2 e2⟩
/-- a call whose first argument is a new tuple -/
theorem ev_callU {sp : Sp} {E : XK} {xs : List V} {v z : V} (h1 : EvU ta σ H xs) (h2 : Ev tb σ H v) (hs : ∀ p H1, Ex H H1 → H1 p = some (.tup xs) → SpV sp [.ref p, v] H1 z) : Ev (tCall sp [] E (tCons ta (tCons tb tNil))) σ H z := fun H1 e Q q =>
  h1 H1 e _ fun p H2 _ e2 hp => h2 H2 (e.trans e2) _ fun H3 e3 => hs p H3 ((e.trans e2).trans e3) (e3 _ _ hp) H3 (Ex.refl H3) Q (fun H4 e4 => q H4 ((e2.trans e3).trans e4)) E
theorem rv_isN {x : V} : RV (fun x y H Q => y = .non ∧ Q (.bl (decide (x = .non))) H) x .non H (.bl (decide (x = .non))) := fun H1 _ _ q => ⟨rfl, q H1 (Ex.refl H1)⟩
end
end NH

/-! ## 4. The defs, one by one -/
namespace NH
open PySem PySem.Spec PyProof.Rows L2 Evl
def top (i : Nat) : Stmt := PySem.Challenge.pw_newandmoving_s06_mo_fit.main.body.getD i (.Pass ⟨0, 0, 0, 0⟩)
section
variable {X : Cx} {C : Addr} {k : Nat} {x : Str} {ps : List Str} {sp : Sp} {p pos pos2 : Pos} {e : Expr} {es : List Expr} {ta : TA}
/-- a class that is made -/
def HasMk (P : Program) (w : World) (K : PySem.W.Frag) (mg : Str → Option Value) (base : Heap) (k : Nat) (x : Str) (C : Addr) (ps : List Str) (sp : Sp) : Prop :=
  ∃ f fd, Mk K C f ∧ FnOk P w K mg base CX0 k f fd ps sp ∧ mg x = some (.ref C) ∧ Binds K fd ps []
theorem pe_mk (h : HasMk X.prog X.w X.K X.mg X.base k x C ps sp) (hr : Room (k + 1) X.A) (ha : PA X (e :: es) ta) (hg : Gl X x := by rfl) (hdb : (x == ("__debug__" : Str)) = false := by decide)
    (he : starEach (e :: es) X.env = (false, eval e X.env) :: starEach es X.env := by rfl) (hpl : (backTo pos (starEach es X.env)).any (·.1) = false := by rfl) : PE X (.Call (.Name x p) (e :: es) [] pos) (tMake C sp [] E0 ta) := by
  obtain ⟨f, fd, M, F, m, b⟩ := h
  exact pe_make M F hr hg m b .nil pass0 ha hdb he hpl
/-! ### Refused -/
def spRInit (C : Addr) : Sp := fun vs H Q _ => ∃ (a : Addr) (n : Int), vs = [.ref a, .int n] ∧ H a = some (exo a C none) ∧ ∀ dx, H dx = none → dx ≠ a → Q .non (upd (upd H dx (exd dx (xF n))) a (exo a C (some dx)))
def HasR (P : Program) (w : World) (K : PySem.W.Frag) (mg : Str → Option Value) (base : Heap) (C : Addr) : Prop :=
  ∃ fI fd, PySem.W.findIn K (.ref C) "__init__" = some (some (.ref fI)) ∧ PySem.W.typeIn K (.ref fI) = some (.type "function") ∧ FnOk P w K mg base CX0 1 fI fd ["self", "number"] (spRInit C) ∧ Binds K fd ["self", "number"] []
def tRefuse (C : Addr) (ta : TA) (E : XK) : TS := fun _ σ H => tMkO C (spRInit C) [] ta σ H fun cls d H' => E cls d H'
theorem ps_refuse {E : XK} (h : HasR X.prog X.w X.K X.mg X.base C) (T : CR X.K X.mg C) (hr : Room 2 X.A) (hc : X.calm = true) (tk : Takes X (fun cls d _ H => E cls d H)) (ha : PA X (e :: es) ta) (hg : Gl X "Refused" := by rfl)
    (he : starEach (e :: es) X.env = (false, eval e X.env) :: starEach es X.env := by rfl) (hpl : (backTo pos (starEach es X.env)).any (·.1) = false := by rfl) : PS X (.Raise (some (.Call (.Name "Refused" p) (e :: es) [] pos)) none pos2) (tRefuse C ta E) := by
  obtain ⟨fI, fd, iC, tI, F, b⟩ := h
  exact ps_raise hc tk (pmk_oex T.ox iC tI F hr b .nil pass0 hg T.gC ha (by decide) he hpl)
theorem s_refuse {E : XK} {D : Ends} {σ : L2.St} {H : Hp} {n : Int} (ha : EvA ta σ H [.int n]) (k : RaiseE C n H E) : tRefuse C ta E D σ H :=
  ha H (Ex.refl H) _ fun H1 e1 => ⟨by show 1 ≤ 1000; decide, fun a na => ⟨a, n, rfl, upd_same, fun dx hdx hne => ⟨rfl, dx, xF n, upd_same, by rw [upd_ne hne, upd_same], by rw [upd_ne hne] at hdx; exact hdx,
    k dx _ (fun b o hb => by
      have h1 := e1 b o hb
      rw [upd_ne hne] at hdx
      have nb : b ≠ dx := ne_of_none h1 hdx
      have na' : b ≠ a := ne_of_none h1 na
      rw [upd_ne nb, del_ne na', upd_ne na', upd_ne nb, upd_ne na']
      exact h1) upd_same⟩⟩⟩
end
section
variable {P : Program} {w : World} {K : PySem.W.Frag} {mg : Str → Option Value} {base : Heap} {CR' : Addr}
abbrev s_rinit : Stmt := inClass (top 7) 0
theorem sc_rinit : FnScope ["self", "number"] ["self", "number"] (defScope s_rinit) := ⟨rfl, rfl, rfl, by decide +kernel, rfl, by decide +kernel, by decide +kernel⟩
theorem ok_rinit {f : Addr} {fd : FuncData} (F : Fun K "__init__" "Refused.__init__" s_rinit f fd) (T : CR K mg CR') : FnOk P w K mg base CX0 1 f fd ["self", "number"] (spRInit CR') := by
  refine F.ok sc_rinit (fun vs H Q E h => ?_) (fun cdv A outer s H vs Q E hr h => ?_)
  · obtain ⟨a, n, rfl, _⟩ := h
    rfl
  · obtain ⟨a, n, rfl, ha, k⟩ := h
    refine ⟨_, pss_one (ps_ost (pv 0) (pv 1)), ?_⟩
    exact ⟨_, rfl, _, rfl, a, CR', rfl, T.ox, T.no, .inl ⟨ha, fun dx h1 h2 => k dx h1 h2⟩⟩
/-! ### ask -/
def spAsk (C : Addr) : Sp := fun vs H Q E => ∃ (b : Bool) (n : Int), vs = [.bl b, .int n] ∧ (b = true → RetV .non H Q) ∧ (b = false → RaiseE C n H E)
abbrev s_ask : Stmt := top 8
theorem b_ask : Bn "ask" s_ask ["holds", "number"] := fun _ _ _ _ _ _ us hl => match us, hl with | [_, _], _ => rfl
theorem sc_ask : FnScope ["holds", "number"] ["holds", "number"] (defScope s_ask) := ⟨rfl, rfl, rfl, by decide +kernel, rfl, by decide +kernel, by decide +kernel⟩
theorem ok_ask (D : Df K mg "ask" s_ask ["holds", "number"]) (T : CR K mg CR') (hR : HasR P w K mg base CR') : Has P w K mg base (L2.CX P w) 3 "ask" ["holds", "number"] (spAsk CR') := Has.of D fun f fd F => by
  refine F.okX sc_ask (fun vs H Q E h => ?_) (fun cdv A outer s H vs Q E hr h => ?_)
  · obtain ⟨b, n, rfl, _⟩ := h
    rfl
  · obtain ⟨b, n, rfl, k1, k2⟩ := h
    refine ⟨_, pss_one (ps_if (pt_not (pt_val (pv 0))) (pss_one (ps_refuse hR T hr rfl (takes_of rfl rfl rfl rfl) (by exact (pa_cons (pv 1) pa_nil)))) pss_nil), ?_⟩
    refine s_when (et_not (et_B (ev_var rfl))) (fun hb H1 e1 => ?_) (fun hb H1 e1 => ?_)
    · exact s_refuse (ea_cons (ev_var rfl) ea_nil) ((k2 (by simpa using hb)).mono e1)
    · exact (k1 (by simpa using hb)).go e1
end
end NH

namespace NH
open PySem PySem.Spec PyProof.Rows L2 Evl
section
variable {K : PySem.W.Frag} {σ : L2.St} {H H' : Hp} {ta tb te tl : TE} {C : Addr} {D : Ends} {tz : TS} {E : XK}
theorem q_askA {ta : TA} {b : Bool} {n : Int} (h : EvA ta σ H [.bl b, .int n]) (k1 : b = true → ∀ H1, Ex H H1 → tz D σ H1) (k2 : b = false → RaiseE C n H E) : tSeq (tDrop (tCall (spAsk C) [] E ta)) tz D σ H :=
  h H (Ex.refl H) _ fun H1 e1 => ⟨b, n, rfl, fun hb H2 e2 => k1 hb H2 (e1.trans e2), fun hb => (k2 hb).mono e1⟩
theorem s_askA {ta : TA} {b : Bool} {n : Int} (h : EvA ta σ H [.bl b, .int n]) (k1 : b = true → ∀ H1, Ex H H1 → D.nx σ H1) (k2 : b = false → RaiseE C n H E) : tDrop (tCall (spAsk C) [] E ta) D σ H :=
  h H (Ex.refl H) _ fun H1 e1 => ⟨b, n, rfl, fun hb H2 e2 => k1 hb H2 (e1.trans e2), fun hb => (k2 hb).mono e1⟩
theorem q_ask {b : Bool} {n : Int} (ha : Ev ta σ H (.bl b)) (hb : Ev tb σ H (.int n)) (k1 : b = true → ∀ H1, Ex H H1 → tz D σ H1) (k2 : b = false → RaiseE C n H E) : tSeq (tDrop (tCall (spAsk C) [] E (tCons ta (tCons tb tNil)))) tz D σ H := q_askA (ea_cons ha (ea_cons hb ea_nil)) k1 k2
theorem s_ask' {b : Bool} {n : Int} (ha : Ev ta σ H (.bl b)) (hb : Ev tb σ H (.int n)) (k1 : b = true → ∀ H1, Ex H H1 → D.nx σ H1) (k2 : b = false → RaiseE C n H E) : tDrop (tCall (spAsk C) [] E (tCons ta (tCons tb tNil))) D σ H := s_askA (ea_cons ha (ea_cons hb ea_nil)) k1 k2
end
end NH

namespace NH
open PySem PySem.Spec PyProof.Rows L2 Evl
section
variable {P : Program} {w : World} {K : PySem.W.Frag} {mg : Str → Option Value} {base : Heap}
/-! ### signed -/
def spSigned : Sp := fun vs H Q _ => ∃ (n : Nat), vs = [vN n] ∧ RetV (.int (Sh72.signed32 n)) H Q
theorem sv_signed {n : Nat} {H : Hp} : SpV spSigned [vN n] H (.int (Sh72.signed32 n)) := fun _ _ _ k _ => ⟨n, rfl, k⟩
abbrev s_signed : Stmt := top 9
theorem b_signed : Bn "signed" s_signed ["word"] := fun _ _ _ _ _ _ us hl => match us, hl with | [_], _ => rfl
theorem sc_signed : FnScope ["word"] ["word"] (defScope s_signed) := ⟨rfl, rfl, rfl, by decide +kernel, rfl, by decide +kernel, by decide +kernel⟩
theorem ok_signed (D : Df K mg "signed" s_signed ["word"]) (g1 : GI mg "HALF_WORD" 2147483648) (g2 : GI mg "WORD" 4294967296) : Has P w K mg base CX0 1 "signed" ["word"] spSigned := Has.of D fun f fd F => by
  refine F.ok sc_signed (fun vs H Q E h => ?_) (fun cdv A outer s H vs Q E hr h => ?_)
  · obtain ⟨n, rfl, _⟩ := h
    rfl
  · obtain ⟨n, rfl, k⟩ := h
    refine ⟨_, pss_cons (ps_if (pt_cmpR op_ge (pv 0) (pe_gi g1) (nomark _)) (pss_one (ps_ret (pe_op op_sub (pv 0) (pe_gi g2)))) pss_nil) (pss_one (ps_ret (pv 0))), ?_⟩
    refine q_when (et_test (ev_I0 (ev_v rfl) ev_c)) (fun hb H1 e1 => ?_) (fun hb H1 e1 => ?_)
    · have hn : ¬ n < 2147483648 := by
        have := of_decide_eq_true hb
        omega
      have e : Sh72.signed32 n = (n : Int) - 4294967296 := by
        unfold Sh72.signed32
        rw [if_neg hn]
      refine s_ret (ev_I0 (ev_v rfl) ev_c) fun H2 e2 => ?_
      have q := k.go (e1.trans e2)
      rw [e] at q
      exact q
    · have hn : n < 2147483648 := by
        have := of_decide_eq_false hb
        omega
      have e : Sh72.signed32 n = (n : Int) := by
        unfold Sh72.signed32
        rw [if_pos hn]
      refine s_ret (ev_var rfl) fun H2 e2 => ?_
      have q := k.go (e1.trans e2)
      rw [e] at q
      exact q
end
end NH

namespace NH
open PySem PySem.Spec PyProof.Rows L2 Evl
section
variable {P : Program} {w : World} {K : PySem.W.Frag} {mg : Str → Option Value} {base : Heap} {C : Addr}
/-! ### Point -/
def spPInit (C : Addr) : Sp := fun vs H Q _ => ∃ (x dx : Addr) (p : Sh72.Point), vs = [.ref x, .int p.t, .int p.x, .int p.y, .int p.mag] ∧ H x = some (.ins C dx []) ∧ ∀ H' : Hp, H' x = some (.ins C dx (ptF p)) → (∀ b o, H b = some o → b ≠ x → H' b = some o) → Q .non H'
abbrev s_pinit : Stmt := inClass (top 18) 0
theorem sc_pinit : FnScope ["self", "t", "x", "y", "light"] ["self", "t", "x", "y", "light"] (defScope s_pinit) := ⟨rfl, rfl, rfl, by decide +kernel, rfl, by decide +kernel, by decide +kernel⟩
theorem ok_pinit {f : Addr} {fd : FuncData} (F : Fun K "__init__" "Point.__init__" s_pinit f fd) (T : CP K C) : FnOk P w K mg base CX0 1 f fd ["self", "t", "x", "y", "light"] (spPInit C) := by
  refine F.ok sc_pinit (fun vs H Q E h => ?_) (fun cdv A outer s H vs Q E hr h => ?_)
  · obtain ⟨x, dx, p, rfl, _⟩ := h
    rfl
  · obtain ⟨x, dx, p, rfl, hx, k⟩ := h
    refine ⟨_, pss_cons (ps_fld (pv 0) (pv 1) rfl) (pss_cons (ps_fld (pv 0) (pv 2) rfl) (pss_cons (ps_fld (pv 0) (pv 3) rfl) (pss_one (ps_fld (pv 0) (pv 4) rfl)))), ?_⟩
    refine ⟨_, rfl, _, rfl, x, C, dx, [], rfl, hx, T.cl, T.t, (by show 0 < 1000; decide), ?_⟩
    refine ⟨_, rfl, _, rfl, x, C, dx, _, rfl, upd_same, T.cl, T.x, (by show 1 < 1000; decide), ?_⟩
    refine ⟨_, rfl, _, rfl, x, C, dx, _, rfl, upd_same, T.cl, T.y, (by have := length_putF "x" (V.int p.x) (putF "t" (V.int p.t) []); have := length_putF "t" (V.int p.t) []; have e0 : ([] : List (Str × V)).length = 0 := rfl; omega), ?_⟩
    refine ⟨_, rfl, _, rfl, x, C, dx, _, rfl, upd_same, T.cl, T.l, (by have := length_putF "y" (V.int p.y) (putF "x" (V.int p.x) (putF "t" (V.int p.t) [])); have := length_putF "x" (V.int p.x) (putF "t" (V.int p.t) []); have := length_putF "t" (V.int p.t) []; have e0 : ([] : List (Str × V)).length = 0 := rfl; omega), ?_⟩
    exact k _ (Eq.trans upd_same (congrArg (fun q => some (HO.ins C dx q)) (ptF_new p))) fun b o e hb => by
      rw [upd_ne hb, upd_ne hb, upd_ne hb, upd_ne hb]
      exact e
theorem ex_point {σ : L2.St} {H : Hp} {ta : TA} {p : Sh72.Point} (h : EvA ta σ H [.int p.t, .int p.x, .int p.y, .int p.mag]) : EvX (tMake C (spPInit C) [] E0 ta) σ H (fun v H2 => ∃ a, v = .ref a ∧ PtAt C H2 a p) := fun H1 e Q q =>
  h H1 e _ fun H2 e2 x dx nx nd ne => ⟨x, dx, p, rfl, upd_same, fun H3 h3 keep => ⟨rfl, q (.ref x) H3 (fun b o hb => by
    have h2 := e2 b o hb
    have nb : b ≠ x := ne_of_none h2 nx
    exact keep b o (by rw [upd_ne nb, upd_ne (ne_of_none h2 nd)]; exact h2) nb) ⟨x, rfl, dx, h3⟩⟩⟩
end
end NH

namespace NH
open PySem PySem.Spec PyProof.Rows L2 Evl
section
variable {P : Program} {w : World} {K : PySem.W.Frag} {mg : Str → Option Value} {base : Heap} {C CR' : Addr}
/-! ### point_at -/
def spPointAt (K : PySem.W.Frag) (C : Addr) : Sp := fun vs H Q _ => ∃ (a : Addr) (ns : List Nat) (i : Nat), vs = [.ref a, .int (4 * (i : Int))] ∧ WordsAt K H a ns ∧ i < ns.length / 4 ∧ ∀ v H2, Ex H H2 → (∃ x, v = .ref x ∧ PtAt C H2 x (Sh72.at_ (Sh72.points ns) i)) → Q v H2
theorem sx_pointAt {H : Hp} {a : Addr} {ns : List Nat} {i : Nat} (h : WordsAt K H a ns) (hi : i < ns.length / 4) : SpX (spPointAt K C) [.ref a, .int (4 * (i : Int))] H (fun v H2 => ∃ x, v = .ref x ∧ PtAt C H2 x (Sh72.at_ (Sh72.points ns) i)) :=
  fun _ e _ k _ => ⟨a, ns, i, rfl, h.mono e, hi, k⟩
abbrev s_point_at : Stmt := top 20
theorem b_point_at : Bn "point_at" s_point_at ["words", "at"] := fun _ _ _ _ _ _ us hl => match us, hl with | [_, _], _ => rfl
theorem sc_point_at : FnScope ["words", "at"] ["words", "at"] (defScope s_point_at) := ⟨rfl, rfl, rfl, by decide +kernel, rfl, by decide +kernel, by decide +kernel⟩
theorem ok_point_at (D : Df K mg "point_at" s_point_at ["words", "at"]) (hS : Has P w K mg base CX0 1 "signed" ["word"] spSigned) (hP : HasMk P w K mg base 1 "Point" C ["self", "t", "x", "y", "light"] (spPInit C)) :
    Has P w K mg base CX0 3 "point_at" ["words", "at"] (spPointAt K C) := Has.of D fun f fd F => by
  refine F.ok sc_point_at (fun vs H Q E h => ?_) (fun cdv A outer s H vs Q E hr h => ?_)
  · obtain ⟨a, ns, i, rfl, _⟩ := h
    rfl
  · obtain ⟨a, ns, i, rfl, hW, hi, k⟩ := h
    have hr1 : Room 1 _ := hr.mono (by decide)
    refine ⟨_, pss_one (ps_ret (pe_mk hP hr (pa_cons (pe_has hS hr1 pass0 (pa_cons (pe_ix ix_list (pv 0) (pv 1) (fun _ _ => rfl)) pa_nil))
      (pa_cons (pe_has hS hr1 pass0 (pa_cons (pe_ix ix_list (pv 0) (pe_op op_add (pv 1) pe_int) (fun _ _ => rfl)) pa_nil))
      (pa_cons (pe_has hS hr1 pass0 (pa_cons (pe_ix ix_list (pv 0) (pe_op op_add (pv 1) pe_int) (fun _ _ => rfl)) pa_nil))
      (pa_cons (pe_has hS hr1 pass0 (pa_cons (pe_ix ix_list (pv 0) (pe_op op_add (pv 1) pe_int) (fun _ _ => rfl)) pa_nil)) pa_nil)))))), ?_⟩
    have l0 : 4 * i < ns.length := by omega
    have l1 : 4 * i + 1 < ns.length := by omega
    have l2 : 4 * i + 2 < ns.length := by omega
    have l3 : 4 * i + 3 < ns.length := by omega
    have c0 : (4 * (i : Int)) = ((4 * i : Nat) : Int) := by omega
    have c1 : (4 * (i : Int)) + 1 = ((4 * i + 1 : Nat) : Int) := by omega
    have c2 : (4 * (i : Int)) + 2 = ((4 * i + 2 : Nat) : Int) := by omega
    have c3 : (4 * (i : Int)) + 3 = ((4 * i + 3 : Nat) : Int) := by omega
    have ep := NM.at_points hi
    refine s_retX (ex_point (p := Sh72.at_ (Sh72.points ns) i) ?_) k
    rw [ep]
    refine ea_cons (ev_call (ea_cons (ev_word hW (ev_var rfl) ?_ l0) ea_nil) sv_signed) (ea_cons (ev_call (ea_cons (ev_word hW (ev_var rfl) ?_ l1) ea_nil) sv_signed) (ea_cons (ev_call (ea_cons (ev_word hW (ev_var rfl) ?_ l2) ea_nil) sv_signed) (ea_cons (ev_call (ea_cons (ev_word hW (ev_var rfl) ?_ l3) ea_nil) sv_signed) ea_nil)))
    · rw [← c0]
      exact ev_v rfl
    · rw [← c1]
      exact ev_I0 (g := fun i j => .int (i + j)) (ev_v rfl) ev_c
    · rw [← c2]
      exact ev_I0 (g := fun i j => .int (i + j)) (ev_v rfl) ev_c
    · rw [← c3]
      exact ev_I0 (g := fun i j => .int (i + j)) (ev_v rfl) ev_c
/-! ### is_point -/
def spIsPoint (C : Addr) : Sp := fun vs H Q _ => ∃ (a : Addr) (p : Sh72.Point), vs = [.ref a] ∧ PtAt C H a p ∧ RetV (.bl (Sh72.fine p)) H Q
theorem sv_isPoint {H : Hp} {a : Addr} {p : Sh72.Point} (h : PtAt C H a p) : SpV (spIsPoint C) [.ref a] H (.bl (Sh72.fine p)) := fun _ e _ k _ => ⟨a, p, rfl, h.mono e, k⟩
abbrev s_is_point : Stmt := top 21
theorem b_is_point : Bn "is_point" s_is_point ["point"] := fun _ _ _ _ _ _ us hl => match us, hl with | [_], _ => rfl
theorem sc_is_point : FnScope ["point"] ["point"] (defScope s_is_point) := ⟨rfl, rfl, rfl, by decide +kernel, rfl, by decide +kernel, by decide +kernel⟩
theorem fine_no {p : Sh72.Point} (h : ¬ NM.Bd p) : Sh72.fine p = false := by
  cases q : Sh72.fine p with
  | false => rfl
  | true => exact absurd ((NM.fine_iff p).mp q) h
theorem ok_is_point (D : Df K mg "is_point" s_is_point ["point"]) (T : CP K C) (g1 : GI mg "LAST_TIME" 65535) (g2 : GI mg "EDGE" 32768) (g3 : GI mg "MOST_LIGHT" 65536) (za : mg "abs" = none) : Has P w K mg base CX0 1 "is_point" ["point"] (spIsPoint C) := Has.of D fun f fd F => by
  refine F.ok sc_is_point (fun vs H Q E h => ?_) (fun cdv A outer s H vs Q E hr h => ?_)
  · obtain ⟨a, p, rfl, _⟩ := h
    rfl
  · obtain ⟨a, p, rfl, hp, k⟩ := h
    refine ⟨_, pss_cons (ps_if (PW.pt (pw_or (pt_cmpR op_lt (pe_fld (pv 0) rfl) pe_int (nomark _)) (pw_or1 (pt_cmpR op_gt (pe_fld (pv 0) rfl) (pe_gi g1) (nomark _))))) (pss_one (ps_ret pe_bl)) pss_nil)
      (pss_cons (ps_if (PW.pt (pw_or (pt_cmpR op_gt (pe_callB call_abs (by rfl) za (by decide +kernel) (pa_cons (pe_fld (pv 0) rfl) pa_nil)) (pe_gi g2) (nomark _)) (pw_or1 (pt_cmpR op_gt (pe_callB call_abs (by rfl) za (by decide +kernel) (pa_cons (pe_fld (pv 0) rfl) pa_nil)) (pe_gi g2) (nomark _))))) (pss_one (ps_ret pe_bl)) pss_nil)
      (pss_one (ps_ret (pe_cmpR op_le (pe_callB call_abs (by rfl) za (by decide +kernel) (pa_cons (pe_fld (pv 0) rfl) pa_nil)) (pe_gi g3) (nomark _))))), ?_⟩
    refine q_when (et_or (et_test (ev_I0 (ev_t T hp (ev_var rfl)) ev_c)) fun _ => et_test (ev_I0 (ev_t T hp (ev_var rfl)) ev_c)) (fun hb H1 e1 => ?_) (fun hb H1 e1 => ?_)
    · simp only [Bool.or_eq_true, decide_eq_true_eq] at hb
      refine s_ret ev_c fun H2 e2 => ?_
      have q := k.go (e1.trans e2)
      rw [fine_no (fun b => by have := b.t0; have := b.t1; omega)] at q
      exact q
    · simp only [Bool.or_eq_false_iff, decide_eq_false_iff_not] at hb
      have hp1 := hp.mono e1
      refine q_when (et_or (et_test (ev_I0 (ev_abs (ev_x T hp1 (ev_var rfl))) ev_c)) fun _ => et_test (ev_I0 (ev_abs (ev_y T hp1 (ev_var rfl))) ev_c)) (fun hc H2 e2 => ?_) (fun hc H2 e2 => ?_)
      · simp only [Bool.or_eq_true, decide_eq_true_eq] at hc
        refine s_ret ev_c fun H3 e3 => ?_
        have q := k.go ((e1.trans e2).trans e3)
        rw [fine_no (fun b => by have := b.x0; have := b.x1; have := b.y0; have := b.y1; omega)] at q
        exact q
      · simp only [Bool.or_eq_false_iff, decide_eq_false_iff_not] at hc
        refine s_ret (ev_I0 (ev_abs (ev_l T (hp1.mono e2) (ev_var rfl))) ev_c) fun H3 e3 => ?_
        have q := k.go ((e1.trans e2).trans e3)
        have e : Sh72.fine p = decide (((p.mag.natAbs : Nat) : Int) ≤ 65536) := by
          by_cases c : ((p.mag.natAbs : Nat) : Int) ≤ 65536
          · rw [decide_eq_true c]
            exact (NM.fine_iff p).mpr ⟨by omega, by omega, by omega, by omega, by omega, by omega, by omega, by omega⟩
          · rw [decide_eq_false c]
            exact fine_no (fun b => by have := b.m0; have := b.m1; omega)
        rw [e] at q
        exact q
/-! ### read_points -/
def spRead (K : PySem.W.Frag) (C CR' : Addr) : Sp := fun vs H Q E => ∃ (a : Addr) (ns : List Nat), vs = [.ref a] ∧ WordsAt K H a ns ∧ ns.length ≤ 1100 ∧
  (Sh72.fines (Sh72.points ns) = true → ∀ v H2, Ex H H2 → (∃ p, v = .ref p ∧ PtsAt C H2 p (Sh72.points ns)) → Q v H2) ∧ (Sh72.fines (Sh72.points ns) = false → RaiseE CR' (-3) H E)
abbrev s_read : Stmt := top 22
abbrev n_read : List Str := ["words", "found", "k", "point"]
theorem b_read : Bn "read_points" s_read ["words"] := fun _ _ _ _ _ _ us hl => match us, hl with | [_], _ => rfl
theorem sc_read : FnScope n_read ["words"] (defScope s_read) := ⟨rfl, rfl, rfl, by decide +kernel, rfl, by decide +kernel, by decide +kernel⟩
theorem ok_read (D : Df K mg "read_points" s_read ["words"]) (hPA : Has P w K mg base CX0 3 "point_at" ["words", "at"] (spPointAt K C)) (hIP : Has P w K mg base CX0 1 "is_point" ["point"] (spIsPoint C)) (hA : Has P w K mg base (L2.CX P w) 3 "ask" ["holds", "number"] (spAsk CR'))
    (g1 : GI mg "POINT_WORDS" 4) (g2 : GI mg "NOT_AS_TOLD" (-3)) (zl : mg "len" = none) (zr : mg "range" = none) (za : mg "all" = none) : Has P w K mg base (L2.CX P w) 4 "read_points" ["words"] (spRead K C CR') := Has.of D fun f fd F => by
  refine F.okX sc_read (fun vs H Q E h => ?_) (fun cdv A outer s H vs Q E hr h => ?_)
  · obtain ⟨a, ns, rfl, _⟩ := h
    rfl
  · obtain ⟨a, ns, rfl, hW, hn, k1, k2⟩ := h
    have hr1 : Room 1 _ := hr.mono (by decide)
    refine ⟨_, pss_cons (ps_setLc (i := 1) (own := [("k", 2)]) (g := gName 2) (tt := tYes) rfl sc_read.nd rfl rfl (sw_true rfl rfl rfl (by decide +kernel))
        (pi_range1 rfl zr (pa_cons (pe_op op_fdiv (pe_callB call_len_seq (by rfl) zl PySem.boot_len (pa_cons (pv 0) pa_nil)) (pe_gi g1)) pa_nil))
        (blkOk_by (N := n_read) (sc := defScope s_read) (by decide +kernel)) (fun _ _ _ _ _ => pg_name (i := 2) sc_read.nd rfl (Or.inl rfl)) (fun _ _ _ _ _ => pts_nil)
        (fun _ _ _ _ _ => by exact (pe_has hPA hr pass0 (pa_cons (pv 0) (pa_cons (pe_op op_mul (pe_gi g1) (pv 2)) pa_nil)))))
      (pss_cons (ps_expr (pe_has hA hr (passes_call (takes_of rfl rfl rfl rfl) fun _ _ _ _ h => h)
        (pa_cons (pe_callB (cr_all rfl) (by rfl) za (by decide +kernel) (pa_cons
          (pe_lc (own := [("point", 3)]) (g := gName 3) (tt := tYes) rfl sc_read.nd (pi_list (pv 1)) (blkOk_by (N := n_read) (sc := defScope s_read) (by decide +kernel)) (fun _ _ _ _ _ => pg_name (i := 3) sc_read.nd rfl (Or.inl rfl)) (fun _ _ _ _ _ => pts_nil)
            (fun _ _ _ _ _ => by exact (pe_has hIP hr1 pass0 (pa_cons (pv 3) pa_nil)))) pa_nil)) (pa_cons (pe_gi g2) pa_nil))))
      (pss_one (ps_ret (pv 1)))), ?_⟩
    have epl : (Sh72.points ns).length = ns.length / 4 := NM.points_length ns
    have hlen : ((ns.length : Nat) : Int) / 4 = (((Sh72.points ns).length : Nat) : Int) := by omega
    refine q_asgX (ex_lcP (C := C) (ps := Sh72.points ns) (ea_cons ?_ ea_nil) (by omega) (fun x => rfl) (fun i H1 e1 hi => ?_)) (fun v H1 e1 hv => ?_)
    · rw [← hlen]
      exact ev_I (g := fun i j => .int (i / j)) ⟨by decide, by decide⟩ (ev_wlen hW (ev_var rfl)) ev_c
    · exact ex_call (ea_cons (ev_var rfl) (ea_cons (ev_I (g := fun i j => .int (i * j)) (.inl ⟨by decide, by decide⟩) ev_c (ev_v rfl)) ea_nil)) (sx_pointAt (hW.mono e1) (by omega))
    · obtain ⟨l, rfl, hl⟩ := hv
      refine q_ask (ev_all (bs := (Sh72.points ns).map Sh72.fine) ?_) ev_c (fun hb H2 e2 => ?_) (fun hb => ?_)
      · rw [List.map_map]
        exact el_lcPts (fun p => .bl (Sh72.fine p)) hl (ev_var rfl) (by omega) (fun x => rfl) (fun i a H2 e2 hi hp => ev_call (ea_cons (ev_var rfl) ea_nil) (sv_isPoint hp))
      · refine s_ret (ev_var rfl) fun H3 e3 => k1 ?_ _ H3 ((e1.trans e2).trans e3) ⟨l, rfl, (hl.mono e2).mono e3⟩
        rw [List.all_map] at hb
        exact hb
      · refine (k2 ?_).mono e1
        rw [List.all_map] at hb
        exact hb
end
end NH

namespace NH
open PySem PySem.Spec PyProof.Rows L2 Evl
section
variable {P : Program} {w : World} {K : PySem.W.Frag} {mg : Str → Option Value} {base : Heap} {C CR' : Addr}
/-! ### ask_many -/
def spAskMany (K : PySem.W.Frag) (CR' : Addr) : Sp := fun vs H Q E => ∃ (a : Addr) (ns : List Nat) (m : Nat), vs = [.ref a, vN m] ∧ WordsAt K H a ns ∧ (ns.length / 4 ≤ m → RetV .non H Q) ∧ (¬ ns.length / 4 ≤ m → RaiseE CR' (-2) H E)
abbrev s_ask_many : Stmt := top 19
theorem b_ask_many : Bn "ask_many" s_ask_many ["words", "most"] := fun _ _ _ _ _ _ us hl => match us, hl with | [_, _], _ => rfl
theorem sc_ask_many : FnScope ["words", "most"] ["words", "most"] (defScope s_ask_many) := ⟨rfl, rfl, rfl, by decide +kernel, rfl, by decide +kernel, by decide +kernel⟩
theorem ok_ask_many (D : Df K mg "ask_many" s_ask_many ["words", "most"]) (hA : Has P w K mg base (L2.CX P w) 3 "ask" ["holds", "number"] (spAsk CR')) (g1 : GI mg "POINT_WORDS" 4) (g2 : GI mg "OUT_OF_RANGE" (-2)) (zl : mg "len" = none) : Has P w K mg base (L2.CX P w) 4 "ask_many" ["words", "most"] (spAskMany K CR') := Has.of D fun f fd F => by
  refine F.okX sc_ask_many (fun vs H Q E h => ?_) (fun cdv A outer s H vs Q E hr h => ?_)
  · obtain ⟨a, ns, m, rfl, _⟩ := h
    rfl
  · obtain ⟨a, ns, m, rfl, hW, k1, k2⟩ := h
    refine ⟨_, pss_one (ps_expr (pe_has hA hr (passes_call (takes_of rfl rfl rfl rfl) fun _ _ _ _ h => h)
      (pa_cons (pe_cmpR op_le (pe_op op_fdiv (pe_callB call_len_seq (by rfl) zl PySem.boot_len (pa_cons (pv 0) pa_nil)) (pe_gi g1)) (pv 1) (nomark _)) (pa_cons (pe_gi g2) pa_nil)))), ?_⟩
    refine s_ask' (ev_I0 (g := fun i j => .bl (decide (i ≤ j))) (ev_I (g := fun i j => .int (i / j)) ⟨by decide, by decide⟩ (ev_wlen hW (ev_var rfl)) ev_c) (ev_v rfl)) ev_c (fun hb H1 e1 => ?_) (fun hb => ?_)
    · have := of_decide_eq_true hb
      exact (k1 (by omega)).go e1
    · have := of_decide_eq_false hb
      exact k2 (by omega)
section
variable {σ : L2.St} {H H' : Hp} {ta tb te tl : TE} {D : Ends} {tz : TS} {E : XK}
theorem q_askMany {ta : TA} {a : Addr} {ns : List Nat} {m : Nat} (h : EvA ta σ H [.ref a, vN m]) (hW : WordsAt K H a ns) (k1 : ns.length / 4 ≤ m → ∀ H1, Ex H H1 → tz D σ H1) (k2 : ¬ ns.length / 4 ≤ m → RaiseE CR' (-2) H E) : tSeq (tDrop (tCall (spAskMany K CR') [] E ta)) tz D σ H :=
  h H (Ex.refl H) _ fun H1 e1 => ⟨a, ns, m, rfl, hW.mono e1, fun hb H2 e2 => k1 hb H2 (e1.trans e2), fun hb => (k2 hb).mono e1⟩
end
end
end NH

namespace NH
open PySem PySem.Spec PyProof.Rows L2 Evl
section
variable {P : Program} {w : World} {K : PySem.W.Frag} {mg : Str → Option Value} {base : Heap}
/-! ### squared, mo_chance1 -/
def spSquared : Sp := fun vs H Q _ => ∃ (z : Int), vs = [.int z] ∧ z.natAbs < 2 ^ 200 ∧ RetV (.int (z * z)) H Q
theorem sv_squared {z : Int} {H : Hp} (h : z.natAbs < 2 ^ 200) : SpV spSquared [.int z] H (.int (z * z)) := fun _ _ _ k _ => ⟨z, rfl, h, k⟩
abbrev s_squared : Stmt := top 23
theorem b_squared : Bn "squared" s_squared ["number"] := fun _ _ _ _ _ _ us hl => match us, hl with | [_], _ => rfl
theorem sc_squared : FnScope ["number"] ["number"] (defScope s_squared) := ⟨rfl, rfl, rfl, by decide +kernel, rfl, by decide +kernel, by decide +kernel⟩
theorem ok_squared (D : Df K mg "squared" s_squared ["number"]) : Has P w K mg base CX0 1 "squared" ["number"] spSquared := Has.of D fun f fd F => by
  refine F.ok sc_squared (fun vs H Q E h => ?_) (fun cdv A outer s H vs Q E hr h => ?_)
  · obtain ⟨z, rfl, _⟩ := h
    rfl
  · obtain ⟨z, rfl, hz, k⟩ := h
    refine ⟨_, pss_one (ps_ret (pe_op op_mulW (pv 0) (pv 0))), ?_⟩
    exact s_ret (ev_I (g := fun i j => .int (i * j)) (wide_mul hz hz (by decide) (by decide) (by decide)) (ev_v rfl) (ev_v rfl)) fun H1 e1 => k.go e1
end
end NH

namespace NH
open PySem PySem.Spec PyProof.Rows L2 Evl
section
variable {P : Program} {w : World} {K : PySem.W.Frag} {mg : Str → Option Value} {base : Heap}
/-! ### rounded -/
def spRounded : Sp := fun vs H Q _ => ∃ (a b : Int), vs = [.int a, .int b] ∧ 0 < b ∧ a.natAbs < 2 ^ 200 ∧ b.natAbs < 2 ^ 200 ∧ RetV (.int (Sh72.near a b)) H Q
theorem sv_rounded {a b : Int} {H : Hp} (hb : 0 < b) (h1 : a.natAbs < 2 ^ 200) (h2 : b.natAbs < 2 ^ 200) : SpV spRounded [.int a, .int b] H (.int (Sh72.near a b)) := fun _ _ _ k _ => ⟨a, b, rfl, hb, h1, h2, k⟩
abbrev s_rounded : Stmt := top 11
theorem b_rounded : Bn "rounded" s_rounded ["above", "below"] := fun _ _ _ _ _ _ us hl => match us, hl with | [_, _], _ => rfl
theorem sc_rounded : FnScope ["above", "below"] ["above", "below"] (defScope s_rounded) := ⟨rfl, rfl, rfl, by decide +kernel, rfl, by decide +kernel, by decide +kernel⟩
theorem ok_rounded (D : Df K mg "rounded" s_rounded ["above", "below"]) : Has P w K mg base CX0 1 "rounded" ["above", "below"] spRounded := Has.of D fun f fd F => by
  refine F.ok sc_rounded (fun vs H Q E h => ?_) (fun cdv A outer s H vs Q E hr h => ?_)
  · obtain ⟨a, b, rfl, _⟩ := h
    rfl
  · obtain ⟨a, b, rfl, hb, h1, h2, k⟩ := h
    refine ⟨_, pss_one (ps_ret (pe_op op_fdivW (pe_op op_add (pe_op op_mul pe_int (pv 0)) (pv 1)) (pe_op op_mul pe_int (pv 1)))), ?_⟩
    have two : CMul 2 a := .inl ⟨by decide, by decide⟩
    have two' : CMul 2 b := .inl ⟨by decide, by decide⟩
    refine s_ret (ev_I (g := fun i j => .int (i / j)) (wide_div (b := 202) (by omega) (NM.bd_mul (i := 2) (by decide) h2) (by decide) (by decide)) (ev_I0 (g := fun i j => .int (i + j)) (ev_I (g := fun i j => .int (i * j)) two ev_c (ev_v rfl)) (ev_v rfl)) (ev_I (g := fun i j => .int (i * j)) two' ev_c (ev_v rfl))) fun H1 e1 => k.go e1
end
end NH

namespace NH
open PySem PySem.Spec PyProof.Rows L2 Evl
section
variable {P : Program} {w : World} {K : PySem.W.Frag} {mg : Str → Option Value} {base : Heap}
/-! ### long_word -/
def spLong : Sp := fun vs H Q _ => ∃ (z : Int), vs = [.int z] ∧ RetV (vN (Sh72.longOf z)) H Q
theorem sv_long {z : Int} {H : Hp} : SpV spLong [.int z] H (vN (Sh72.longOf z)) := fun _ _ _ k _ => ⟨z, rfl, k⟩
abbrev s_long_word : Stmt := top 10
theorem b_long_word : Bn "long_word" s_long_word ["number"] := fun _ _ _ _ _ _ us hl => match us, hl with | [_], _ => rfl
theorem sc_long_word : FnScope ["number"] ["number"] (defScope s_long_word) := ⟨rfl, rfl, rfl, by decide +kernel, rfl, by decide +kernel, by decide +kernel⟩
theorem ok_long_word (D : Df K mg "long_word" s_long_word ["number"]) (g : GI mg "LONG_WORD" 18446744073709551616) : Has P w K mg base CX0 1 "long_word" ["number"] spLong := Has.of D fun f fd F => by
  refine F.ok sc_long_word (fun vs H Q E h => ?_) (fun cdv A outer s H vs Q E hr h => ?_)
  · obtain ⟨z, rfl, _⟩ := h
    rfl
  · obtain ⟨z, rfl, k⟩ := h
    refine ⟨_, pss_one (ps_ret (pe_op op_mod (pv 0) (pe_gi g))), ?_⟩
    refine s_ret (ev_I (g := fun i j => .int (i % j)) (by decide) (ev_v rfl) ev_c) fun H1 e1 => ?_
    have q := k.go e1
    have e : ((Sh72.longOf z : Nat) : Int) = z % 18446744073709551616 := by
      unfold Sh72.longOf
      omega
    rw [show vN (Sh72.longOf z) = V.int (z % 18446744073709551616) from congrArg V.int e] at q
    exact q
end
end NH

namespace NH
open PySem PySem.Spec PyProof.Rows L2 Evl
section
variable {P : Program} {w : World} {K : PySem.W.Frag} {mg : Str → Option Value} {base : Heap} {C CR' : Addr}
/-! ### off -/
def spOff (K : PySem.W.Frag) (C : Addr) : Sp := fun vs H Q _ => ∃ (a b : Addr) (u v : Int) (p : Sh72.Point), vs = [.ref a, .ref b] ∧ SqT K H a [.int u, .int v] ∧ PtAt C H b p ∧ NM.Bd p ∧ u.natAbs < 2 ^ 100 ∧ v.natAbs < 2 ^ 100 ∧ RetV (vN (Sh72.miss2 (u, v) p)) H Q
theorem sv_off {H : Hp} {a b : Addr} {u v : Int} {p : Sh72.Point} (h1 : SqT K H a [.int u, .int v]) (h2 : PtAt C H b p) (h3 : NM.Bd p) (h4 : u.natAbs < 2 ^ 100) (h5 : v.natAbs < 2 ^ 100) : SpV (spOff K C) [.ref a, .ref b] H (vN (Sh72.miss2 (u, v) p)) := fun _ e _ k _ => ⟨a, b, u, v, p, rfl, ex_t e h1, h2.mono e, h3, h4, h5, k⟩
abbrev s_off : Stmt := top 24
theorem b_off : Bn "off" s_off ["place", "point"] := fun _ _ _ _ _ _ us hl => match us, hl with | [_, _], _ => rfl
theorem sc_off : FnScope ["place", "point"] ["place", "point"] (defScope s_off) := ⟨rfl, rfl, rfl, by decide +kernel, rfl, by decide +kernel, by decide +kernel⟩
theorem ok_off (D : Df K mg "off" s_off ["place", "point"]) (T : CP K C) (hS : Has P w K mg base CX0 1 "squared" ["number"] spSquared) (g : GI mg "PARTS" 256) : Has P w K mg base CX0 2 "off" ["place", "point"] (spOff K C) := Has.of D fun f fd F => by
  refine F.ok sc_off (fun vs H Q E h => ?_) (fun cdv A outer s H vs Q E hr h => ?_)
  · obtain ⟨a, b, u, v, p, rfl, _⟩ := h
    rfl
  · obtain ⟨a, b, u, v, p, rfl, ht, hp, bp, hu, hv, k⟩ := h
    refine ⟨_, pss_one (ps_ret (pe_op op_add (pe_has hS hr pass0 (pa_cons (pe_op op_sub (pe_ix ix_tup (pv 0) pe_int (fun _ _ => rfl)) (pe_op op_mul (pe_gi g) (pe_fld (pv 1) rfl))) pa_nil)) (pe_has hS hr pass0 (pa_cons (pe_op op_sub (pe_ix ix_tup (pv 0) pe_int (fun _ _ => rfl)) (pe_op op_mul (pe_gi g) (pe_fld (pv 1) rfl))) pa_nil)))), ?_⟩
    have cx : CMul 256 p.x := .inl ⟨by decide, by decide⟩
    have cy : CMul 256 p.y := .inl ⟨by decide, by decide⟩
    have bx : (u - 256 * p.x).natAbs < 2 ^ 200 := NM.bd_up (NM.bd_sub hu (NM.bd_up (i := 30) (by have := bp.x0; have := bp.x1; omega) (by decide))) (by decide)
    have by' : (v - 256 * p.y).natAbs < 2 ^ 200 := NM.bd_up (NM.bd_sub hv (NM.bd_up (i := 30) (by have := bp.y0; have := bp.y1; omega) (by decide))) (by decide)
    refine s_ret (ev_I0 (g := fun i j => .int (i + j)) (ev_call (ea_cons (ev_I0 (g := fun i j => .int (i - j)) (ev_tup (i := 0) (ev_var rfl) ev_c ht rfl) (ev_I (g := fun i j => .int (i * j)) cx ev_c (ev_x T hp (ev_var rfl)))) ea_nil) (sv_squared bx)) (ev_call (ea_cons (ev_I0 (g := fun i j => .int (i - j)) (ev_tup (i := 1) (ev_var rfl) ev_c ht rfl) (ev_I (g := fun i j => .int (i * j)) cy ev_c (ev_y T hp (ev_var rfl)))) ea_nil) (sv_squared by'))) fun H1 e1 => ?_
    have z := k.go e1
    rw [show vN (Sh72.miss2 (u, v) p) = V.int _ from congrArg V.int (NM.miss2_cast (u, v) p)] at z
    exact z
end
end NH

namespace NH
open PySem PySem.Spec PyProof.Rows L2 Evl
section
variable {K : PySem.W.Frag} {mg : Str → Option Value} {σ : L2.St} {H H' : Hp} {ta tb te tl : TE} {C CR' : Addr} {D : Ends} {tz : TS} {E : XK}
/-! ### reading points, a refusal told -/
theorem q_readA {ta : TA} {a : Addr} {ns : List Nat} {i : Nat} (h : EvA ta σ H [.ref a]) (hW : WordsAt K H a ns) (hn : ns.length ≤ 1100) (k1 : Sh72.fines (Sh72.points ns) = true → ∀ l H1, Ex H H1 → PtsAt C H1 l (Sh72.points ns) → tz D (σ.set i (some (.ref l))) H1)
    (k2 : Sh72.fines (Sh72.points ns) = false → RaiseE CR' (-3) H E) : tSeq (tAsg (tCall (spRead K C CR') [] E ta) (gName i)) tz D σ H :=
  h H (Ex.refl H) _ fun H1 e1 => ⟨a, ns, rfl, hW.mono e1, hn, fun hf v H2 e2 hv => by
    obtain ⟨l, rfl, hl⟩ := hv
    exact k1 hf l H2 (e1.trans e2) hl, fun hf => (k2 hf).mono e1⟩
def tSuite (C : Addr) (i : Nat) : Addr → Value → Option Addr → TS := fun a cls d => tRet (tLst (tCons (tXf a cls d C "number" (tVar i)) tNil))
def WEx (K : PySem.W.Frag) (C : Addr) (i : Nat) (D : Ends) (σ : L2.St) : XK := WE (wAs K (.ref C) i (tSuite C i) (fun _ _ _ _ => False) D) σ
theorem w_refuse {n : Int} {i : Nat} (T : CR K mg C) (hi : i < σ.length) (k : ∀ p H2, Ex H H2 → H2 p = some (.lst [.int n]) → D.rt (.ref p) H2) : RaiseE C n H (WEx K C i D σ) := fun d H2 e hd =>
  ⟨true, T.te, fun _ a _ => ⟨.ref a, by rw [List.getElem?_set_self hi], rfl, rfl, d, xF n, .int n, rfl, hd, lk_here, (by show 1 ≤ sizeLine; decide), fun p hp => k p _ (e.trans (Ex.new hp)) upd_same⟩, fun q => Bool.noConfusion q⟩
/-- what a call told is what the outer def gives back -/
theorem told_ok {ans : List Int} {i : Nat} (T : CR K mg C) (hi : i < σ.length) (k : ∀ p H2, Ex H H2 → H2 p = some (.lst (ans.map V.int)) → D.rt (.ref p) H2) : Told C ans H D.rt (WEx K C i D σ) :=
  ⟨k, fun n e => w_refuse T hi fun p H2 e2 h2 => k p H2 e2 (by rw [e]; exact h2)⟩
end
end NH

namespace NH
open PySem PySem.Spec PyProof.Rows L2 Evl
/-! ### a fit -/
def fF (f : Sh72.Fit) : List (Str × V) := [("x0", .int f.x0), ("vx", .int f.vx), ("y0", .int f.y0), ("vy", .int f.vy), ("g", .int f.over)]
def FitAt (C : Addr) (H : Hp) (a : Addr) (f : Sh72.Fit) : Prop := ∃ dx, H a = some (.ins C dx (fF f))
theorem FitAt.mono {C : Addr} {H H' : Hp} {a : Addr} {f : Sh72.Fit} (e : Ex H H') (h : FitAt C H a f) : FitAt C H' a f := by
  obtain ⟨dx, h⟩ := h
  exact ⟨dx, e _ _ h⟩
theorem fF_x0 (f : Sh72.Fit) : (fF f).lookup ("x0" : Str) = some (.int f.x0) := lk_here
theorem fF_vx (f : Sh72.Fit) : (fF f).lookup ("vx" : Str) = some (.int f.vx) := (lk_past (by decide +kernel)).trans lk_here
theorem fF_y0 (f : Sh72.Fit) : (fF f).lookup ("y0" : Str) = some (.int f.y0) := (lk_past (by decide +kernel)).trans ((lk_past (by decide +kernel)).trans lk_here)
theorem fF_vy (f : Sh72.Fit) : (fF f).lookup ("vy" : Str) = some (.int f.vy) := (lk_past (by decide +kernel)).trans ((lk_past (by decide +kernel)).trans ((lk_past (by decide +kernel)).trans lk_here))
theorem fF_g (f : Sh72.Fit) : (fF f).lookup ("g" : Str) = some (.int f.over) := (lk_past (by decide +kernel)).trans ((lk_past (by decide +kernel)).trans ((lk_past (by decide +kernel)).trans ((lk_past (by decide +kernel)).trans lk_here)))
theorem fF_1 (a b : Int) : putF "vx" (V.int b) ([("x0", .int a)] : List (Str × V)) = ([("x0", .int a), ("vx", .int b)] : List (Str × V)) := (put_past (by decide +kernel)).trans rfl
theorem fF_2 (a b c : Int) : putF "y0" (V.int c) ([("x0", .int a), ("vx", .int b)] : List (Str × V)) = ([("x0", .int a), ("vx", .int b), ("y0", .int c)] : List (Str × V)) := (put_past (by decide +kernel)).trans (congrArg _ ((put_past (by decide +kernel)).trans rfl))
theorem fF_3 (a b c d : Int) : putF "vy" (V.int d) ([("x0", .int a), ("vx", .int b), ("y0", .int c)] : List (Str × V)) = ([("x0", .int a), ("vx", .int b), ("y0", .int c), ("vy", .int d)] : List (Str × V)) := (put_past (by decide +kernel)).trans (congrArg _ ((put_past (by decide +kernel)).trans (congrArg _ ((put_past (by decide +kernel)).trans rfl))))
theorem fF_new (f : Sh72.Fit) : putF "g" (.int f.over) (putF "vy" (.int f.vy) (putF "y0" (.int f.y0) (putF "vx" (.int f.vx) (putF "x0" (.int f.x0) [])))) = fF f := by
  have e1 : putF "x0" (V.int f.x0) [] = ([("x0", .int f.x0)] : List (Str × V)) := rfl
  rw [e1, fF_1, fF_2, fF_3]
  exact (put_past (by decide +kernel)).trans (congrArg _ ((put_past (by decide +kernel)).trans (congrArg _ ((put_past (by decide +kernel)).trans (congrArg _ ((put_past (by decide +kernel)).trans rfl))))))
structure CF (K : PySem.W.Frag) (C : Addr) : Prop where
  cl : Cls K C
  x0 : NoAttr K C "x0"
  vx : NoAttr K C "vx"
  y0 : NoAttr K C "y0"
  vy : NoAttr K C "vy"
  g : NoAttr K C "g"
section
variable {K : PySem.W.Frag} {σ : L2.St} {H : Hp} {ta : TE} {C a : Addr} {f : Sh72.Fit}
theorem ev_fx0 (T : CF K C) (h : FitAt C H a f) (ha : Ev ta σ H (.ref a)) : Ev (tFld K ta "x0") σ H (.int f.x0) := by
  obtain ⟨dx, h⟩ := h
  exact ev_fld ha h T.cl T.x0 (fF_x0 f)
theorem ev_fvx (T : CF K C) (h : FitAt C H a f) (ha : Ev ta σ H (.ref a)) : Ev (tFld K ta "vx") σ H (.int f.vx) := by
  obtain ⟨dx, h⟩ := h
  exact ev_fld ha h T.cl T.vx (fF_vx f)
theorem ev_fy0 (T : CF K C) (h : FitAt C H a f) (ha : Ev ta σ H (.ref a)) : Ev (tFld K ta "y0") σ H (.int f.y0) := by
  obtain ⟨dx, h⟩ := h
  exact ev_fld ha h T.cl T.y0 (fF_y0 f)
theorem ev_fvy (T : CF K C) (h : FitAt C H a f) (ha : Ev ta σ H (.ref a)) : Ev (tFld K ta "vy") σ H (.int f.vy) := by
  obtain ⟨dx, h⟩ := h
  exact ev_fld ha h T.cl T.vy (fF_vy f)
theorem ev_fg (T : CF K C) (h : FitAt C H a f) (ha : Ev ta σ H (.ref a)) : Ev (tFld K ta "g") σ H (.int f.over) := by
  obtain ⟨dx, h⟩ := h
  exact ev_fld ha h T.cl T.g (fF_g f)
end
section
variable {P : Program} {w : World} {K : PySem.W.Frag} {mg : Str → Option Value} {base : Heap} {C C2 CR' : Addr}
def spFInit (C : Addr) : Sp := fun vs H Q _ => ∃ (x dx : Addr) (f : Sh72.Fit), vs = [.ref x, .int f.x0, .int f.vx, .int f.y0, .int f.vy, .int f.over] ∧ H x = some (.ins C dx []) ∧ ∀ H' : Hp, H' x = some (.ins C dx (fF f)) → (∀ b o, H b = some o → b ≠ x → H' b = some o) → Q .non H'
abbrev s_finit : Stmt := inClass (top 26) 0
abbrev n_finit : List Str := ["self", "x0", "vx", "y0", "vy", "g"]
theorem sc_finit : FnScope n_finit n_finit (defScope s_finit) := ⟨rfl, rfl, rfl, by decide +kernel, rfl, by decide +kernel, by decide +kernel⟩
theorem ok_finit {f : Addr} {fd : FuncData} (F : Fun K "__init__" "Fit.__init__" s_finit f fd) (T : CF K C) : FnOk P w K mg base CX0 1 f fd n_finit (spFInit C) := by
  refine F.ok sc_finit (fun vs H Q E h => ?_) (fun cdv A outer s H vs Q E hr h => ?_)
  · obtain ⟨x, dx, p, rfl, _⟩ := h
    rfl
  · obtain ⟨x, dx, p, rfl, hx, k⟩ := h
    refine ⟨_, pss_cons (ps_fld (pv 0) (pv 1) rfl) (pss_cons (ps_fld (pv 0) (pv 2) rfl) (pss_cons (ps_fld (pv 0) (pv 3) rfl) (pss_cons (ps_fld (pv 0) (pv 4) rfl) (pss_one (ps_fld (pv 0) (pv 5) rfl))))), ?_⟩
    have e1 : putF "x0" (V.int p.x0) [] = ([("x0", .int p.x0)] : List (Str × V)) := rfl
    refine ⟨_, rfl, _, rfl, x, C, dx, [], rfl, hx, T.cl, T.x0, (by show 0 < 1000; decide), ?_⟩
    refine ⟨_, rfl, _, rfl, x, C, dx, _, rfl, upd_same, T.cl, T.vx, (by show 1 < 1000; decide), ?_⟩
    refine ⟨_, rfl, _, rfl, x, C, dx, _, rfl, upd_same, T.cl, T.y0, (by rw [e1, fF_1]; show 2 < 1000; decide), ?_⟩
    refine ⟨_, rfl, _, rfl, x, C, dx, _, rfl, upd_same, T.cl, T.vy, (by rw [e1, fF_1, fF_2]; show 3 < 1000; decide), ?_⟩
    refine ⟨_, rfl, _, rfl, x, C, dx, _, rfl, upd_same, T.cl, T.g, (by rw [e1, fF_1, fF_2, fF_3]; show 4 < 1000; decide), ?_⟩
    exact k _ (Eq.trans upd_same (congrArg (fun q => some (HO.ins C dx q)) (fF_new p))) fun b o e hb => by
      rw [upd_ne hb, upd_ne hb, upd_ne hb, upd_ne hb, upd_ne hb]
      exact e
theorem ex_fit {σ : L2.St} {H : Hp} {ta : TA} {p : Sh72.Fit} (h : EvA ta σ H [.int p.x0, .int p.vx, .int p.y0, .int p.vy, .int p.over]) : EvX (tMake C (spFInit C) [] E0 ta) σ H (fun v H2 => ∃ a, v = .ref a ∧ FitAt C H2 a p) := fun H1 e Q q =>
  h H1 e _ fun H2 e2 x dx nx nd ne => ⟨x, dx, p, rfl, upd_same, fun H3 h3 keep => ⟨rfl, q (.ref x) H3 (fun b o hb => by
    have h2 := e2 b o hb
    have nb : b ≠ x := ne_of_none h2 nx
    exact keep b o (by rw [upd_ne nb, upd_ne (ne_of_none h2 nd)]; exact h2) nb) ⟨x, rfl, dx, h3⟩⟩⟩
/-! ### fit_of -/
def FitRes (C2 : Addr) (ps : List Sh72.Point) (v : V) (H : Hp) : Prop := (Sh72.fit ps = none ∧ v = .non) ∨ ∃ f a, Sh72.fit ps = some f ∧ NM.FBd f ∧ v = .ref a ∧ FitAt C2 H a f
def spFitOf (C C2 : Addr) : Sp := fun vs H Q _ => ∃ (l : Addr) (ps : List Sh72.Point), vs = [.ref l] ∧ PtsAt C H l ps ∧ NM.AllBd ps ∧ ps.length ≤ 127 ∧ ∀ v H2, Ex H H2 → FitRes C2 ps v H2 → Q v H2
theorem sx_fitOf {H : Hp} {l : Addr} {ps : List Sh72.Point} (h1 : PtsAt C H l ps) (h2 : NM.AllBd ps) (h3 : ps.length ≤ 127) : SpX (spFitOf C C2) [.ref l] H (FitRes C2 ps) := fun _ e _ k _ => ⟨l, ps, rfl, h1.mono e, h2, h3, k⟩
abbrev s_fit_of : Stmt := top 27
abbrev n_fit_of : List Str := ["points", "many", "t", "tt", "x", "tx", "y", "ty", "g", "point"]
theorem b_fit_of : Bn "fit_of" s_fit_of ["points"] := fun _ _ _ _ _ _ us hl => match us, hl with | [_], _ => rfl
theorem sc_fit_of : FnScope n_fit_of ["points"] (defScope s_fit_of) := ⟨rfl, rfl, rfl, by decide +kernel, rfl, by decide +kernel, by decide +kernel⟩
theorem pe_comp1 {X : Cx} {elt iter : Expr} {scope : Scope} {p2 pos : Pos} {te tl : TE} (hN : X.N = n_fit_of) (hc : X.calm = true) (ok : BlkOk X.N X.env.scope scope [("point", 9)]) (hi : PE X iter tl)
    (he : ∀ (s : Shared) (H : Hp) (D : Addr) (cl : List (Str × Addr)) (fp : List Addr), PE (X.blk s H scope (compEnvC scope cl D X.env) fp) elt te)
    (hl : ∀ (s : Shared) (H : Hp) (D : Addr) (cl : List (Str × Addr)) (fp : List Addr), PG (X.blk s H scope (compEnvC scope cl D X.env) fp) (.Name "point" p2) (gName 9)) (hs : ∀ x, foldedSetIterable iter X.env x = pure x := by intro _; rfl) :
    PE X (.ListComp elt [⟨.Name "point" p2, iter, [], 0⟩] scope pos) (tLc (iList X.K tl) (gName 9) tYes te [9]) :=
  pe_lc (own := [("point", 9)]) (g := gName 9) (tt := tYes) hc (by rw [hN]; exact sc_fit_of.nd) (pi_list hi) ok hl (fun _ _ _ _ _ => pts_nil) he hs
theorem ok_fit_of (D : Df K mg "fit_of" s_fit_of ["points"]) (T : CP K C) (hF : HasMk P w K mg base 1 "Fit" C2 n_finit (spFInit C2)) (zl : mg "len" = none) (zs : mg "sum" = none) : Has P w K mg base CX0 3 "fit_of" ["points"] (spFitOf C C2) := Has.of D fun f fd F => by
  refine F.ok sc_fit_of (fun vs H Q E h => ?_) (fun cdv A outer s H vs Q E hr h => ?_)
  · obtain ⟨l, ps, rfl, _⟩ := h
    rfl
  · obtain ⟨l, ps, rfl, hl, bp, hz, k⟩ := h
    refine ⟨_, pss_cons (ps_set (i := 1) sc_fit_of.nd rfl (.inl rfl) (pe_callB call_len_seq (by rfl) zl PySem.boot_len (pa_cons (pv 0) pa_nil)))
      (pss_cons (ps_set (i := 2) sc_fit_of.nd rfl (.inl rfl) (pe_callB (cr_sum rfl) (by rfl) zs (by decide +kernel) (pa_cons (pe_comp1 (te := tFld K (tVar 9) "t") rfl rfl (blkOk_by (N := n_fit_of) (sc := defScope s_fit_of) (by decide +kernel)) (pv 0) (fun _ _ _ _ _ => by exact (pe_fld (pv 9) rfl)) (fun _ _ _ _ _ => pg_name (i := 9) sc_fit_of.nd rfl (Or.inl rfl))) pa_nil)))
      (pss_cons (ps_set (i := 3) sc_fit_of.nd rfl (.inl rfl) (pe_callB (cr_sum rfl) (by rfl) zs (by decide +kernel) (pa_cons (pe_comp1 (te := tOp (rI CMul fun i j => .int (i * j)) (tFld K (tVar 9) "t") (tFld K (tVar 9) "t")) rfl rfl (blkOk_by (N := n_fit_of) (sc := defScope s_fit_of) (by decide +kernel)) (pv 0) (fun _ _ _ _ _ => by exact (pe_op op_mul (pe_fld (pv 9) rfl) (pe_fld (pv 9) rfl))) (fun _ _ _ _ _ => pg_name (i := 9) sc_fit_of.nd rfl (Or.inl rfl))) pa_nil)))
      (pss_cons (ps_set (i := 4) sc_fit_of.nd rfl (.inl rfl) (pe_callB (cr_sum rfl) (by rfl) zs (by decide +kernel) (pa_cons (pe_comp1 (te := tFld K (tVar 9) "x") rfl rfl (blkOk_by (N := n_fit_of) (sc := defScope s_fit_of) (by decide +kernel)) (pv 0) (fun _ _ _ _ _ => by exact (pe_fld (pv 9) rfl)) (fun _ _ _ _ _ => pg_name (i := 9) sc_fit_of.nd rfl (Or.inl rfl))) pa_nil)))
      (pss_cons (ps_set (i := 5) sc_fit_of.nd rfl (.inl rfl) (pe_callB (cr_sum rfl) (by rfl) zs (by decide +kernel) (pa_cons (pe_comp1 (te := tOp (rI CMul fun i j => .int (i * j)) (tFld K (tVar 9) "t") (tFld K (tVar 9) "x")) rfl rfl (blkOk_by (N := n_fit_of) (sc := defScope s_fit_of) (by decide +kernel)) (pv 0) (fun _ _ _ _ _ => by exact (pe_op op_mul (pe_fld (pv 9) rfl) (pe_fld (pv 9) rfl))) (fun _ _ _ _ _ => pg_name (i := 9) sc_fit_of.nd rfl (Or.inl rfl))) pa_nil)))
      (pss_cons (ps_set (i := 6) sc_fit_of.nd rfl (.inl rfl) (pe_callB (cr_sum rfl) (by rfl) zs (by decide +kernel) (pa_cons (pe_comp1 (te := tFld K (tVar 9) "y") rfl rfl (blkOk_by (N := n_fit_of) (sc := defScope s_fit_of) (by decide +kernel)) (pv 0) (fun _ _ _ _ _ => by exact (pe_fld (pv 9) rfl)) (fun _ _ _ _ _ => pg_name (i := 9) sc_fit_of.nd rfl (Or.inl rfl))) pa_nil)))
      (pss_cons (ps_set (i := 7) sc_fit_of.nd rfl (.inl rfl) (pe_callB (cr_sum rfl) (by rfl) zs (by decide +kernel) (pa_cons (pe_comp1 (te := tOp (rI CMul fun i j => .int (i * j)) (tFld K (tVar 9) "t") (tFld K (tVar 9) "y")) rfl rfl (blkOk_by (N := n_fit_of) (sc := defScope s_fit_of) (by decide +kernel)) (pv 0) (fun _ _ _ _ _ => by exact (pe_op op_mul (pe_fld (pv 9) rfl) (pe_fld (pv 9) rfl))) (fun _ _ _ _ _ => pg_name (i := 9) sc_fit_of.nd rfl (Or.inl rfl))) pa_nil)))
      (pss_cons (ps_set (i := 8) sc_fit_of.nd rfl (.inl rfl) (pe_op op_sub (pe_op op_mulW (pv 1) (pv 3)) (pe_op op_mulW (pv 2) (pv 2))))
      (pss_cons (ps_if (pt_cmpR op_le (pv 8) pe_int (nomark _)) (pss_one (ps_ret pe_non)) pss_nil)
      (pss_one (ps_ret (pe_mk hF hr (pa_cons (pe_op op_sub (pe_op op_mulW (pv 3) (pv 4)) (pe_op op_mulW (pv 2) (pv 5)))
        (pa_cons (pe_op op_sub (pe_op op_mulW (pv 1) (pv 5)) (pe_op op_mulW (pv 2) (pv 4)))
        (pa_cons (pe_op op_sub (pe_op op_mulW (pv 3) (pv 6)) (pe_op op_mulW (pv 2) (pv 7)))
        (pa_cons (pe_op op_sub (pe_op op_mulW (pv 1) (pv 7)) (pe_op op_mulW (pv 2) (pv 6))) (pa_cons (pv 8) pa_nil)))))))))))))))), ?_⟩
    have hz2 : ps.length ≤ 128 := by omega
    have hz3 : ps.length ≤ 40000 := by omega
    have sm : ∀ (f : Sh72.Point → Int), (ps.map fun p => V.int (f p)) = (ps.map f).map V.int := fun f => by rw [List.map_map]; rfl
    have mt : ∀ (i : Nat), i < ps.length → ∀ z : Int, CMul (Sh72.at_ ps i).t z := fun i hi z => .inl ⟨by have := (bp i hi).t0; omega, by have := (bp i hi).t1; omega⟩
    have tB := NM.St_bd hz2 bp
    have ttB := NM.Stt_bd hz2 bp
    have xB := NM.Sx_bd hz2 bp
    have txB := NM.Stx_bd hz2 bp
    have yB := NM.Sy_bd hz2 bp
    have tyB := NM.Sty_bd hz2 bp
    have nB := NM.n_bd hz
    refine q_asg (ev_plen hl (ev_var rfl)) (fun H1 e1 => ?_)
    refine q_asg (ev_sum (ns := ps.map fun p => p.t) (by rw [← sm]; exact el_lcPts (C := C) (fun p => .int p.t) (hl.mono e1) (ev_var rfl) hz3 (fun x => rfl) (fun i a H2 e2 hi ha => ev_t T ha (ev_var rfl)))) (fun H2 e2 => ?_)
    have e12 := e1.trans e2
    refine q_asg (ev_sum (ns := ps.map fun p => p.t * p.t) (by rw [← sm]; exact el_lcPts (C := C) (fun p => .int (p.t * p.t)) (hl.mono e12) (ev_var rfl) hz3 (fun x => rfl) (fun i a H2 e2 hi ha => ev_I (g := fun i j => .int (i * j)) (mt i hi _) (ev_t T ha (ev_var rfl)) (ev_t T ha (ev_var rfl))))) (fun H3 e3 => ?_)
    have e13 := e12.trans e3
    refine q_asg (ev_sum (ns := ps.map fun p => p.x) (by rw [← sm]; exact el_lcPts (C := C) (fun p => .int p.x) (hl.mono e13) (ev_var rfl) hz3 (fun x => rfl) (fun i a H2 e2 hi ha => ev_x T ha (ev_var rfl)))) (fun H4 e4 => ?_)
    have e14 := e13.trans e4
    refine q_asg (ev_sum (ns := ps.map fun p => p.t * p.x) (by rw [← sm]; exact el_lcPts (C := C) (fun p => .int (p.t * p.x)) (hl.mono e14) (ev_var rfl) hz3 (fun x => rfl) (fun i a H2 e2 hi ha => ev_I (g := fun i j => .int (i * j)) (mt i hi _) (ev_t T ha (ev_var rfl)) (ev_x T ha (ev_var rfl))))) (fun H5 e5 => ?_)
    have e15 := e14.trans e5
    refine q_asg (ev_sum (ns := ps.map fun p => p.y) (by rw [← sm]; exact el_lcPts (C := C) (fun p => .int p.y) (hl.mono e15) (ev_var rfl) hz3 (fun x => rfl) (fun i a H2 e2 hi ha => ev_y T ha (ev_var rfl)))) (fun H6 e6 => ?_)
    have e16 := e15.trans e6
    refine q_asg (ev_sum (ns := ps.map fun p => p.t * p.y) (by rw [← sm]; exact el_lcPts (C := C) (fun p => .int (p.t * p.y)) (hl.mono e16) (ev_var rfl) hz3 (fun x => rfl) (fun i a H2 e2 hi ha => ev_I (g := fun i j => .int (i * j)) (mt i hi _) (ev_t T ha (ev_var rfl)) (ev_y T ha (ev_var rfl))))) (fun H7 e7 => ?_)
    have e17 := e16.trans e7
    have m : ∀ {a b : Int} {i j : Nat}, a.natAbs < 2 ^ i → b.natAbs < 2 ^ j → 0 < i → 0 < j → i + j ≤ 1000000 → CMulW a b := fun h1 h2 h3 h4 h5 => wide_mul h1 h2 h3 h4 h5
    refine q_asg (v := .int (NM.gOf ps)) (ev_I0 (g := fun i j => .int (i - j)) (ev_I (g := fun i j => .int (i * j)) (m nB ttB (by decide) (by decide) (by decide)) (ev_v rfl) (ev_v rfl)) (ev_I (g := fun i j => .int (i * j)) (m tB tB (by decide) (by decide) (by decide)) (ev_v rfl) (ev_v rfl))) (fun H8 e8 => ?_)
    have e18 := e17.trans e8
    refine q_when (et_test (ev_I0 (g := fun i j => .bl (decide (i ≤ j))) (ev_v rfl) ev_c)) (fun hb H9 e9 => ?_) (fun hb H9 e9 => ?_)
    · exact s_ret ev_c fun H10 e10 => k _ _ ((e18.trans e9).trans e10) (.inl ⟨NM.fit_nope (of_decide_eq_true hb), rfl⟩)
    · have hg := of_decide_eq_false hb
      refine s_retX (ex_fit (C := C2) (p := NM.fitOf ps) (ea_cons ?_ (ea_cons ?_ (ea_cons ?_ (ea_cons ?_ (ea_cons (ev_v rfl) ea_nil)))))) (fun v H10 e10 hv => ?_)
      · exact ev_I0 (g := fun i j => .int (i - j)) (ev_I (g := fun i j => .int (i * j)) (m ttB xB (by decide) (by decide) (by decide)) (ev_v rfl) (ev_v rfl)) (ev_I (g := fun i j => .int (i * j)) (m tB txB (by decide) (by decide) (by decide)) (ev_v rfl) (ev_v rfl))
      · exact ev_I0 (g := fun i j => .int (i - j)) (ev_I (g := fun i j => .int (i * j)) (m nB txB (by decide) (by decide) (by decide)) (ev_v rfl) (ev_v rfl)) (ev_I (g := fun i j => .int (i * j)) (m tB xB (by decide) (by decide) (by decide)) (ev_v rfl) (ev_v rfl))
      · exact ev_I0 (g := fun i j => .int (i - j)) (ev_I (g := fun i j => .int (i * j)) (m ttB yB (by decide) (by decide) (by decide)) (ev_v rfl) (ev_v rfl)) (ev_I (g := fun i j => .int (i * j)) (m tB tyB (by decide) (by decide) (by decide)) (ev_v rfl) (ev_v rfl))
      · exact ev_I0 (g := fun i j => .int (i - j)) (ev_I (g := fun i j => .int (i * j)) (m nB tyB (by decide) (by decide) (by decide)) (ev_v rfl) (ev_v rfl)) (ev_I (g := fun i j => .int (i * j)) (m tB yB (by decide) (by decide) (by decide)) (ev_v rfl) (ev_v rfl))
      · obtain ⟨a, rfl, ha⟩ := hv
        exact k _ _ ((e18.trans e9).trans e10) (.inr ⟨_, a, NM.fit_yes hg, NM.fitOf_bd hz bp hg, rfl, ha⟩)
/-! ### place_at -/
def RetT (xs : List V) (H : Hp) (Q : VK) : Prop := ∀ p H2, H p = none → Ex H H2 → H2 p = some (.tup xs) → Q (.ref p) H2
def spPlace (C2 : Addr) : Sp := fun vs H Q _ => ∃ (a : Addr) (f : Sh72.Fit) (t : Int), vs = [.ref a, .int t] ∧ FitAt C2 H a f ∧ NM.FBd f ∧ t.natAbs < 2 ^ 17 ∧ RetT [.int (f.place t).1, .int (f.place t).2] H Q
theorem su_place {H : Hp} {a : Addr} {f : Sh72.Fit} {t : Int} (h1 : FitAt C2 H a f) (h2 : NM.FBd f) (h3 : t.natAbs < 2 ^ 17) : SpU (spPlace C2) [.ref a, .int t] H [.int (f.place t).1, .int (f.place t).2] := fun _ e _ k _ => ⟨a, f, t, rfl, h1.mono e, h2, h3, k⟩
abbrev s_place_at : Stmt := top 29
theorem b_place_at : Bn "place_at" s_place_at ["fit", "t"] := fun _ _ _ _ _ _ us hl => match us, hl with | [_, _], _ => rfl
theorem sc_place_at : FnScope ["fit", "t", "across"] ["fit", "t"] (defScope s_place_at) := ⟨rfl, rfl, rfl, by decide +kernel, rfl, by decide +kernel, by decide +kernel⟩
theorem ok_place_at (D : Df K mg "place_at" s_place_at ["fit", "t"]) (T : CF K C2) (hR : Has P w K mg base CX0 1 "rounded" ["above", "below"] spRounded) (g : GI mg "PARTS" 256) : Has P w K mg base CX0 2 "place_at" ["fit", "t"] (spPlace C2) := Has.of D fun f fd F => by
  refine F.ok sc_place_at (fun vs H Q E h => ?_) (fun cdv A outer s H vs Q E hr h => ?_)
  · obtain ⟨a, f, t, rfl, _⟩ := h
    rfl
  · obtain ⟨a, f, t, rfl, ha, bf, ht, k⟩ := h
    refine ⟨_, pss_cons (ps_set (i := 2) sc_place_at.nd rfl (.inl rfl) (pe_has hR hr pass0 (pa_cons (pe_op op_mul (pe_gi g) (pe_op op_add (pe_fld (pv 0) rfl) (pe_op op_mulW (pe_fld (pv 0) rfl) (pv 1)))) (pa_cons (pe_fld (pv 0) rfl) pa_nil))))
      (pss_one (ps_ret (pe_tup (pa_cons (pv 2) (pa_cons (pe_has hR hr pass0 (pa_cons (pe_op op_mul (pe_gi g) (pe_op op_add (pe_fld (pv 0) rfl) (pe_op op_mulW (pe_fld (pv 0) rfl) (pv 1)))) (pa_cons (pe_fld (pv 0) rfl) pa_nil))) pa_nil))))), ?_⟩
    have c : ∀ z : Int, CMul 256 z := fun z => .inl ⟨by decide, by decide⟩
    refine q_asg (ev_call (ea_cons (ev_I (g := fun i j => .int (i * j)) (c _) ev_c (ev_I0 (g := fun i j => .int (i + j)) (ev_fx0 T ha (ev_var rfl)) (ev_I (g := fun i j => .int (i * j)) (wide_mul bf.vx ht (by decide) (by decide) (by decide)) (ev_fvx T ha (ev_var rfl)) (ev_v rfl)))) (ea_cons (ev_fg T ha (ev_var rfl)) ea_nil)) (sv_rounded bf.g0 (NM.bd_up (NM.place1_bd (g := 0) bf.x0 bf.vx ht) (by decide)) (NM.bd_up bf.g (by decide)))) (fun H1 e1 => ?_)
    have ha1 := ha.mono e1
    refine s_retU (eu_tup (ea_cons (ev_v rfl) (ea_cons (ev_call (ea_cons (ev_I (g := fun i j => .int (i * j)) (c _) ev_c (ev_I0 (g := fun i j => .int (i + j)) (ev_fy0 T ha1 (ev_var rfl)) (ev_I (g := fun i j => .int (i * j)) (wide_mul bf.vy ht (by decide) (by decide) (by decide)) (ev_fvy T ha1 (ev_var rfl)) (ev_v rfl)))) (ea_cons (ev_fg T ha1 (ev_var rfl)) ea_nil)) (sv_rounded bf.g0 (NM.bd_up (NM.place1_bd (g := 0) bf.y0 bf.vy ht) (by decide)) (NM.bd_up bf.g (by decide)))) ea_nil)) (by show 2 ≤ 100000; decide)) (fun x H2 hx e2 h2 => k x H2 (fresh_back e1 hx) (e1.trans e2) h2)
end
end NH

namespace NH
open PySem PySem.Spec PyProof.Rows L2 Evl
section
variable {P : Program} {w : World} {K : PySem.W.Frag} {mg : Str → Option Value} {base : Heap} {C C2 CR' : Addr}
/-! ### asked_fit -/
def spAsked (C C2 CR' : Addr) : Sp := fun vs H Q E => ∃ (l : Addr) (ps : List Sh72.Point), vs = [.ref l] ∧ PtsAt C H l ps ∧ NM.AllBd ps ∧ ps.length ≤ 127 ∧ (∀ f a H2, Sh72.fit ps = some f → NM.FBd f → Ex H H2 → FitAt C2 H2 a f → Q (.ref a) H2) ∧ (Sh72.fit ps = none → RaiseE CR' (-4) H E)
abbrev s_asked_fit : Stmt := top 28
theorem b_asked_fit : Bn "asked_fit" s_asked_fit ["points"] := fun _ _ _ _ _ _ us hl => match us, hl with | [_], _ => rfl
theorem sc_asked_fit : FnScope ["points", "fit"] ["points"] (defScope s_asked_fit) := ⟨rfl, rfl, rfl, by decide +kernel, rfl, by decide +kernel, by decide +kernel⟩
theorem ok_asked_fit (D : Df K mg "asked_fit" s_asked_fit ["points"]) (T : CR K mg CR') (hR : HasR P w K mg base CR') (hF : Has P w K mg base CX0 3 "fit_of" ["points"] (spFitOf C C2)) (g : GI mg "NO_FIT" (-4)) : Has P w K mg base (L2.CX P w) 4 "asked_fit" ["points"] (spAsked C C2 CR') := Has.of D fun f fd F => by
  refine F.okX sc_asked_fit (fun vs H Q E h => ?_) (fun cdv A outer s H vs Q E hr h => ?_)
  · obtain ⟨l, ps, rfl, _⟩ := h
    rfl
  · obtain ⟨l, ps, rfl, hl, bp, hz, k1, k2⟩ := h
    have hr2 : Room 2 _ := hr.mono (by decide)
    refine ⟨_, pss_cons (ps_set (i := 1) sc_asked_fit.nd rfl (.inl rfl) (pe_has hF hr pass0 (pa_cons (pv 0) pa_nil)))
      (pss_cons (ps_if (pt_cmpR op_isN (pv 1) pe_non (nomark _)) (pss_one (ps_refuse hR T hr2 rfl (takes_of rfl rfl rfl rfl) (by exact (pa_cons (pe_gi g) pa_nil)))) pss_nil)
      (pss_one (ps_ret (pv 1)))), ?_⟩
    refine q_asgX (ex_call (ea_cons (ev_var rfl) ea_nil) (sx_fitOf (C2 := C2) hl bp hz)) (fun v H1 e1 hv => ?_)
    rcases hv with ⟨hn, rfl⟩ | ⟨f, a, hs, bf, rfl, hfa⟩
    · refine q_when (b := true) (et_test (ev_op (ev_var rfl) ev_c rv_isN)) (fun _ H2 e2 => ?_) (fun q => by cases q)
      exact s_refuse (ea_cons ev_c ea_nil) ((k2 hn).mono (e1.trans e2))
    · refine q_when (b := false) (et_test (ev_op (ev_var rfl) ev_c rv_isN)) (fun q => by cases q) (fun _ H2 e2 => ?_)
      exact s_ret (ev_var rfl) fun H3 e3 => k1 f a H3 hs bf ((e1.trans e2).trans e3) ((hfa.mono e2).mono e3)
section
variable {σ : L2.St} {H H' : Hp} {ta tb te tl : TE} {D : Ends} {tz : TS} {E : XK}
theorem q_askedA {ta : TA} {l : Addr} {ps : List Sh72.Point} {i : Nat} (h : EvA ta σ H [.ref l]) (hl : PtsAt C H l ps) (bp : NM.AllBd ps) (hz : ps.length ≤ 127) (k1 : ∀ f a H1, Sh72.fit ps = some f → NM.FBd f → Ex H H1 → FitAt C2 H1 a f → tz D (σ.set i (some (.ref a))) H1)
    (k2 : Sh72.fit ps = none → RaiseE CR' (-4) H E) : tSeq (tAsg (tCall (spAsked C C2 CR') [] E ta) (gName i)) tz D σ H :=
  h H (Ex.refl H) _ fun H1 e1 => ⟨l, ps, rfl, hl.mono e1, bp, hz, fun f a H2 hs bf e2 ha => k1 f a H2 hs bf (e1.trans e2) ha, fun hn => (k2 hn).mono e1⟩
end
end
end NH

namespace NH
open PySem PySem.Spec PyProof.Rows L2 Evl
section
variable {P : Program} {w : World} {K : PySem.W.Frag} {mg : Str → Option Value} {base : Heap} {C C2 CR' : Addr}
/-! ### worst -/
def spWorst (C C2 : Addr) : Sp := fun vs H Q _ => ∃ (a l : Addr) (f : Sh72.Fit) (ps : List Sh72.Point), vs = [.ref a, .ref l] ∧ FitAt C2 H a f ∧ PtsAt C H l ps ∧ NM.FBd f ∧ NM.AllBd ps ∧ 0 < ps.length ∧ ps.length ≤ 40000 ∧ RetV (vN (f.worst ps)) H Q
theorem sv_worst {H : Hp} {a l : Addr} {f : Sh72.Fit} {ps : List Sh72.Point} (h1 : FitAt C2 H a f) (h2 : PtsAt C H l ps) (h3 : NM.FBd f) (h4 : NM.AllBd ps) (h5 : 0 < ps.length) (h6 : ps.length ≤ 40000) : SpV (spWorst C C2) [.ref a, .ref l] H (vN (f.worst ps)) := fun _ e _ k _ => ⟨a, l, f, ps, rfl, h1.mono e, h2.mono e, h3, h4, h5, h6, k⟩
abbrev s_worst : Stmt := top 30
abbrev n_worst : List Str := ["fit", "points", "point"]
theorem b_worst : Bn "worst" s_worst ["fit", "points"] := fun _ _ _ _ _ _ us hl => match us, hl with | [_, _], _ => rfl
theorem sc_worst : FnScope n_worst ["fit", "points"] (defScope s_worst) := ⟨rfl, rfl, rfl, by decide +kernel, rfl, by decide +kernel, by decide +kernel⟩
theorem ok_worst (D : Df K mg "worst" s_worst ["fit", "points"]) (T : CP K C) (hO : Has P w K mg base CX0 2 "off" ["place", "point"] (spOff K C)) (hPl : Has P w K mg base CX0 2 "place_at" ["fit", "t"] (spPlace C2)) (zm : mg "max" = none) : Has P w K mg base CX0 3 "worst" ["fit", "points"] (spWorst C C2) := Has.of D fun f fd F => by
  refine F.ok sc_worst (fun vs H Q E h => ?_) (fun cdv A outer s H vs Q E hr h => ?_)
  · obtain ⟨a, l, f, ps, rfl, _⟩ := h
    rfl
  · obtain ⟨a, l, f, ps, rfl, ha, hl, bf, bp, h0, hz, k⟩ := h
    refine ⟨_, pss_one (ps_ret (pe_callB (cr_max rfl) (by rfl) zm (by decide +kernel) (pa_cons
      (pe_lc (own := [("point", 2)]) (g := gName 2) (tt := tYes) (te := tCall (spOff K C) [] E0 (tCons (tCall (spPlace C2) [] E0 (tCons (tVar 0) (tCons (tFld K (tVar 2) "t") tNil))) (tCons (tVar 2) tNil))) rfl sc_worst.nd (pi_list (pv 1)) (blkOk_by (N := n_worst) (sc := defScope s_worst) (by decide +kernel)) (fun _ _ _ _ _ => pg_name (i := 2) sc_worst.nd rfl (Or.inl rfl)) (fun _ _ _ _ _ => pts_nil)
        (fun _ _ _ _ _ => by exact (pe_has hO hr pass0 (pa_cons (pe_has hPl hr pass0 (pa_cons (pv 0) (pa_cons (pe_fld (pv 2) rfl) pa_nil))) (pa_cons (pv 2) pa_nil))))) pa_nil))), ?_⟩
    have hw := fun (m : Int) h1 h2 => NM.worst_of (f := f) (l := ps) (m := m) h1 h2
    have hl0 : 0 < (ps.map fun p => ((Sh72.miss2 (f.place p.t) p : Nat) : Int)).length := by
      rw [List.length_map]
      exact h0
    have em : (ps.map fun p => vN (Sh72.miss2 (f.place p.t) p)) = (ps.map fun p => ((Sh72.miss2 (f.place p.t) p : Nat) : Int)).map V.int := by
      rw [List.map_map]
      rfl
    generalize (ps.map fun p => ((Sh72.miss2 (f.place p.t) p : Nat) : Int)) = ns at hw hl0 em
    refine s_ret (ev_maxL (ns := ns) ?_ hl0 hw) fun H1 e1 => k.go e1
    rw [← em]
    refine el_lcPts (C := C) (fun p => vN (Sh72.miss2 (f.place p.t) p)) hl (ev_var rfl) hz (fun x => rfl) (fun i b H2 e2 hi hb => ?_)
    have ht : (Sh72.at_ ps i).t.natAbs < 2 ^ 17 := NM.bd_up (bp i hi).t16 (by decide)
    obtain ⟨b1, b2⟩ := NM.place_bd' bf ht
    refine ev_callU (eu_call (ea_cons (ev_var rfl) (ea_cons (ev_t T hb (ev_var rfl)) ea_nil)) (su_place (ha.mono e2) bf ht)) (ev_var rfl) (fun x H3 e3 h3 => ?_)
    exact sv_off (SqT.of h3) (hb.mono e3) (bp i hi) (NM.bd_up b1 (by decide)) (NM.bd_up b2 (by decide))
end
end NH

namespace NH
open PySem PySem.Spec PyProof.Rows L2 Evl
section
variable {P : Program} {w : World} {K : PySem.W.Frag} {mg : Str → Option Value} {base : Heap} {C C2 CR' : Addr}
/-! ### told_fit, mo_fit -/
def spToldFit (K : PySem.W.Frag) (CR' : Addr) : Sp := fun vs H Q E => ∃ (a : Addr) (ln : List Nat), vs = [.ref a] ∧ WordsAt K H a ln ∧ ln.length ≤ 240 ∧ Told CR' (PySh72.mo_fit (NM.intsN ln)) H Q E
abbrev s_told_fit : Stmt := top 33
abbrev n_told_fit : List Str := ["l", "points", "fit", "told", "number"]
theorem b_told_fit : Bn "told_fit" s_told_fit ["l"] := fun _ _ _ _ _ _ us hl => match us, hl with | [_], _ => rfl
theorem sc_told_fit : FnScope n_told_fit ["l"] (defScope s_told_fit) := ⟨rfl, rfl, rfl, by decide +kernel, rfl, by decide +kernel, by decide +kernel⟩
theorem fit_of_some {l : List Sh72.Point} {f : Sh72.Fit} (h : Sh72.fit l = some f) : f = NM.fitOf l ∧ ¬ NM.gOf l ≤ 0 := by
  by_cases c : NM.gOf l ≤ 0
  · rw [NM.fit_nope c] at h
    cases h
  · rw [NM.fit_yes c] at h
    exact ⟨(Option.some.inj h).symm, c⟩
theorem gOf_pos' {l : List Sh72.Point} (h : ¬ NM.gOf l ≤ 0) : 0 < l.length := by
  rcases Nat.eq_zero_or_pos l.length with c | c
  · have e := List.eq_nil_of_length_eq_zero c
    subst e
    exact absurd (by decide) h
  · exact c
theorem ok_told_fit (D : Df K mg "told_fit" s_told_fit ["l"]) (hM : Has P w K mg base (L2.CX P w) 4 "ask_many" ["words", "most"] (spAskMany K CR')) (hRd : Has P w K mg base (L2.CX P w) 4 "read_points" ["words"] (spRead K C CR'))
    (hAF : Has P w K mg base (L2.CX P w) 4 "asked_fit" ["points"] (spAsked C C2 CR')) (hLW : Has P w K mg base CX0 1 "long_word" ["number"] spLong) (hW : Has P w K mg base CX0 3 "worst" ["fit", "points"] (spWorst C C2)) (TF : CF K C2)
    (g3 : GI mg "MOST_POINTS" 48) (zl : mg "len" = none) : Has P w K mg base (L2.CX P w) 5 "told_fit" ["l"] (spToldFit K CR') := Has.of D fun f fd F => by
  refine F.okX sc_told_fit (fun vs H Q E h => ?_) (fun cdv A outer s H vs Q E hr h => ?_)
  · obtain ⟨a, ln, rfl, _⟩ := h
    rfl
  · obtain ⟨a, ln, rfl, hL, hln, k1, k2⟩ := h
    have hr3 : Room 3 _ := hr.mono (by decide)
    have hr1 : Room 1 _ := hr.mono (by decide)
    refine ⟨_, pss_cons (ps_expr (pe_has hM hr (passes_call (takes_of rfl rfl rfl rfl) fun _ _ _ _ h => h) (pa_cons (pv 0) (pa_cons (pe_gi g3) pa_nil))))
      (pss_cons (ps_set (i := 1) sc_told_fit.nd rfl (.inl rfl) (pe_has hRd hr (passes_call (takes_of rfl rfl rfl rfl) fun _ _ _ _ h => h) (pa_cons (pv 0) pa_nil)))
      (pss_cons (ps_set (i := 2) sc_told_fit.nd rfl (.inl rfl) (pe_has hAF hr (passes_call (takes_of rfl rfl rfl rfl) fun _ _ _ _ h => h) (pa_cons (pv 1) pa_nil)))
      (pss_cons (ps_setLc (i := 3) (own := [("number", 4)]) (g := gName 4) (tt := tYes) rfl sc_told_fit.nd rfl rfl (sw_true rfl rfl rfl (by decide +kernel)) (pi_list (pe_lst (pa_cons (pe_fld (pv 2) rfl) (pa_cons (pe_fld (pv 2) rfl) (pa_cons (pe_fld (pv 2) rfl) (pa_cons (pe_fld (pv 2) rfl) (pa_cons (pe_fld (pv 2) rfl) pa_nil))))))) (blkOk_by (N := n_told_fit) (sc := defScope s_told_fit) (by decide +kernel)) (fun _ _ _ _ _ => pg_name (i := 4) sc_told_fit.nd rfl (Or.inl rfl)) (fun _ _ _ _ _ => pts_nil)
        (fun _ _ _ _ _ => by exact (pe_has hLW hr1 pass0 (pa_cons (pv 4) pa_nil))))
      (pss_one (ps_ret (pe_op op_cat (pe_op op_cat (pe_lst (pa_cons pe_int (pa_cons (pe_callB call_len_seq (by rfl) zl PySem.boot_len (pa_cons (pv 3) pa_nil)) pa_nil))) (pv 3)) (pe_lst (pa_cons pe_int (pa_cons (pe_has hW hr3 pass0 (pa_cons (pv 2) (pa_cons (pv 1) pa_nil))) pa_nil))))))))), ?_⟩
    refine q_askMany (ea_cons (ev_var rfl) (ea_cons ev_c ea_nil)) hL (fun hk H1 e1 => ?_) (fun hk => k2 (-2) (NM.fit_bad hk))
    have ll : (Sh72.points ln).length ≤ 48 := by rw [NM.points_length]; omega
    refine q_readA (ea_cons (ev_var rfl) ea_nil) (hL.mono e1) (by omega) (fun hf l H2 e2 hl => ?_) (fun hf => (k2 (-3) (NM.fit_not hk hf)).mono e1)
    have e12 := e1.trans e2
    have bd := NM.fines_bd hf
    refine q_askedA (C2 := C2) (ea_cons (ev_var rfl) ea_nil) hl bd (by omega) (fun fi fa H3 hs bf e3 hfa => ?_) (fun hn => (k2 (-4) (NM.fit_none hk hf hn)).mono e12)
    have e13 := e12.trans e3
    have nums : EvL (tLst (tCons (tFld K (tVar 2) "x0") (tCons (tFld K (tVar 2) "vx") (tCons (tFld K (tVar 2) "y0") (tCons (tFld K (tVar 2) "vy") (tCons (tFld K (tVar 2) "g") tNil)))))) [some (.ref a), some (.ref l), some (.ref fa), none, none] H3 ([fi.x0, fi.vx, fi.y0, fi.vy, fi.over].map V.int) :=
      el_lst (ea_cons (ev_fx0 TF hfa (ev_var rfl)) (ea_cons (ev_fvx TF hfa (ev_var rfl)) (ea_cons (ev_fy0 TF hfa (ev_var rfl)) (ea_cons (ev_fvy TF hfa (ev_var rfl)) (ea_cons (ev_fg TF hfa (ev_var rfl)) ea_nil))))) (by show 5 ≤ 100000; decide)
    refine q_asgL (el_lcNM [fi.x0, fi.vx, fi.y0, fi.vy, fi.over] V.int (fun z => vN (Sh72.longOf z)) nums (by show 5 ≤ 40000; decide) (fun x => rfl) (fun z _ H4 e4 => ev_call (ea_cons (ev_v rfl) ea_nil) sv_long)) (fun tl H4 htl e4 h4 => ?_)
    obtain ⟨ef, hg⟩ := fit_of_some hs
    have wor : fi.worst (Sh72.points ln) < 18446744073709551616 := by
      rw [ef]
      exact NM.worst_small ll bd hg
    have v1 := ev_len (K := K) (σ := [some (.ref a), some (.ref l), some (.ref fa), some (.ref tl), none]) (H := H4) (ta := tVar 3) (ev_var rfl) (SqL.of h4)
    have v2 := ev_call (E := E0) (dvs := []) (ea_cons (ev_var (σ := [some (.ref a), some (.ref l), some (.ref fa), some (.ref tl), none]) (i := 2) rfl) (ea_cons (ev_var (i := 1) rfl) ea_nil)) (sv_worst (hfa.mono e4) ((hl.mono e3).mono e4) bf bd (gOf_pos' hg) (by omega))
    refine s_retL (el_cat (el_catR (el_lst (ea_cons ev_c (ea_cons v1 ea_nil)) (by show 2 ≤ 100000; decide)) (ev_var rfl) h4 (by show 2 + 5 ≤ 100000; decide)) (el_lst (ea_cons ev_c (ea_cons v2 ea_nil)) (by show 2 ≤ 100000; decide)) (by show 7 + 2 ≤ 100000; decide)) (fun y H5 hy e5 h5 => k1 y H5 ((e13.trans e4).trans e5) ?_)
    rw [NM.fit_ok hk hf hs, Nat.mod_eq_of_lt wor, h5]
    rfl
def spFitMo (K : PySem.W.Frag) : Sp := fun vs H Q _ => ∃ (a : Addr) (ln : List Nat), vs = [.ref a] ∧ WordsAt K H a ln ∧ ln.length ≤ 240 ∧ ∀ (H' : Hp) (p : Addr), H' p = some (.lst ((PySh72.mo_fit (NM.intsN ln)).map V.int)) → Q (.ref p) H'
abbrev s_mo : Stmt := top 34
abbrev n_mo : List Str := ["l", "refusal"]
theorem b_mo : Bn "mo_fit" s_mo ["l"] := fun _ _ _ _ _ _ us hl => match us, hl with | [_], _ => rfl
theorem sc_mo : FnScope n_mo ["l"] (defScope s_mo) := ⟨rfl, rfl, rfl, by decide +kernel, rfl, by decide +kernel, by decide +kernel⟩
theorem ok_mo {f : Addr} {fd : FuncData} (F : Fun K "mo_fit" "mo_fit" s_mo f fd) (T : CR K mg CR') (hT : Has P w K mg base (L2.CX P w) 5 "told_fit" ["l"] (spToldFit K CR')) : FnOk P w K mg base CX0 6 f fd ["l"] (spFitMo K) := by
  refine F.ok sc_mo (fun vs H Q E h => ?_) (fun cdv A outer s H vs Q E hr h => ?_)
  · obtain ⟨a, ln, rfl, _⟩ := h
    rfl
  · obtain ⟨a, ln, rfl, hL, hln, k⟩ := h
    refine ⟨_, pss_one (ps_try_as (i := 1) (tb := fun W => tRet (tCallS (spToldFit K CR') (WE W) (tCons (tVar 0) tNil))) (ts := tSuite CR' 1) (Wout := fun _ _ _ _ => False) rfl rfl sc_mo.nd rfl rfl ⟨rfl, by decide, .inl T.gC⟩ takes0
      (fun W pn xe tk _ => pss_one (ps_ret (by exact (pe_hasS hT hr (fun σ => passAt tk σ) (by exact (pa_cons (pv 0) pa_nil))))))
      (fun a oe cls d pn hz hf => pss_one (ps_ret (pe_lst (pa_cons (by exact (pe_xf T.xf T.no hz hf (pv 1))) pa_nil))))), ?_⟩
    exact ⟨_, rfl, a, ln, rfl, hL, hln, told_ok T (by show 1 < 2; decide) fun p H2 _ h2 => k H2 p h2⟩
end
end NH

namespace NH
open PySem PySem.Spec PyProof.Rows L2 Evl
open PySem.W (Codec)
/-! ### the request -/
section
variable {K : PySem.W.Frag} {H : Hp}
theorem dw_int {v : V} {z : Int} (h : Dw K H v (.int z)) : v = .int z := by
  cases h
  rfl
theorem dw_list {v : V} {l : List Int} (h : Dw K H v (.list (l.map PySem.W.WData.int))) : ∃ a, v = .ref a ∧ SqL K H a (l.map V.int) := by
  cases h with
  | lst hs ha =>
    have e := ints_dw l _ ha
    subst e
    exact ⟨_, rfl, hs⟩
theorem dwall_cons {xs : List V} {d : PySem.W.WData} {ds : List PySem.W.WData} (h : DwAll K H xs (d :: ds)) : ∃ v vs, xs = v :: vs ∧ Dw K H v d ∧ DwAll K H vs ds := by
  cases h with
  | cons h1 h2 => exact ⟨_, _, rfl, h1, h2⟩
theorem dwall_nil {xs : List V} (h : DwAll K H xs []) : xs = [] := by
  cases h
  rfl
theorem nat_of {m : Int} {z : Int} (h : Codec.inInt 0 m z = true) : ∃ n : Nat, z = (n : Int) ∧ (n : Int) ≤ m := by
  have q := Codec.inInt_iff.mp h
  exact ⟨z.toNat, by omega, by omega⟩
theorem words_of {m : Int} {l : List Int} (h : l.all (Codec.inInt 0 m) = true) : ∃ ns : List Nat, l = NM.intsN ns ∧ l.length = ns.length ∧ ∀ n ∈ ns, (n : Int) ≤ m := by
  have e := NM.ints_nats (l := l) fun x hx => (Codec.inInt_iff.mp (List.all_eq_true.mp h x hx)).1
  refine ⟨Sh72Neutral.nats l, e.symm, by unfold Sh72Neutral.nats; rw [List.length_map], fun n hn => ?_⟩
  obtain ⟨x, hx, e2⟩ := List.mem_map.mp hn
  have q := Codec.inInt_iff.mp (List.all_eq_true.mp h x hx)
  have e2 : x.toNat = n := e2
  omega
theorem words_at {a : Addr} {ns : List Nat} (h : SqL K H a ((NM.intsN ns).map V.int)) : WordsAt K H a ns := by
  unfold WordsAt
  unfold NM.intsN Sh72Neutral.ints at h
  rw [List.map_map] at h
  exact h
end
section
variable {P : Program} {w : World} {K : PySem.W.Frag} {mg : Str → Option Value} {h : Heap} {k : Nat} {x : Str} {ps : List Str} {sp : Sp} {st : Stmt} {fa : Addr}
/-- the row's def, from its promise -/
theorem fin (D : Df K mg x st ps) (hfa : mg x = some (.ref fa)) (all : ∀ (base : Heap) (fd : FuncData), Fun K x x st fa fd → FnOk P w K mg base CX0 k fa fd ps sp) :
    ∃ fd : FuncData, (∀ (s : Shared) (us : List Value), us.length = ps.length → BindsTo s fd ⟨us, []⟩ (ps.zip us)) ∧ ∀ base : Heap, K.In base → base.Ns mainGlobals mg → FnOk P w K mg base CX0 k fa fd ps sp := by
  obtain ⟨f, fd, F, m, b⟩ := D
  rw [m] at hfa
  cases hfa
  exact ⟨fd, fun s us hu => .of_eq (b us hu), fun base _ _ => all base fd F⟩
end
end NH

namespace NH
open PySem PySem.Spec PyProof.Rows L2 Evl
section
variable {K : PySem.W.Frag} {mg : Str → Option Value} {h : Heap}
abbrev Has_refused (K : PySem.W.Frag) (mg : Str → Option Value) : Prop := ∃ C, CR K mg C ∧ ∀ (P : Program) (w : World) (base : Heap), HasR P w K mg base C
theorem cls_refused {C f1 : Addr} (X : K.In h) (G : h.Ns mainGlobals mg) {nm q : Str} {N : Addr} {bs : List Value} {sn : List Str} {sub : List Value} {ab : Bool} {col : Option Bool} {dd : Option Addr} {m0 m1 m2 m3 m5 : Option Value}
    {od1 an1 : Option Addr} {sl1 : Array (Option Value)} {oc1 kV1 dc1 pm1 cd1 ct1 : Value}
    (aC : PySem.W.nsIn K mainGlobals "Refused" = some (some (.ref C)))
    (xL : K.lookup C = some (excClassObj nm q C N bs [.type "ValueError", .type "Exception", .type "BaseException", .type "object"] true sn sub ab col dd m0 m1 m2 m3 m5 "ValueError.__new__"))
    (sa : PySem.W.findIn K (.ref C) "__setattr__" = some (some (.builtin "object.__setattr__"))) (ga : PySem.W.findIn K (.ref C) "__getattribute__" = some (some (.builtin "BaseException.__getattribute__"))) (gg : PySem.W.findIn K (.ref C) "__getattr__" = some none) (nb : PySem.W.findIn K (.ref C) "number" = some none)
    (a1 : PySem.W.findIn K (.ref C) "__init__" = some (some (.ref f1))) (t1 : PySem.W.typeIn K (.ref f1) = some (.type "function"))
    (l1 : K.lookup f1 = some ⟨oc1, od1, .func (PySem.W.fnOf "__init__" "Refused.__init__" (defArgs s_rinit) (defBody s_rinit) (defScope s_rinit) .none kV1 dc1 pm1 an1 cd1 ct1), sl1⟩) (c1 : PySem.W.codeIn K cd1 "Refused.__init__" = true) (k1 : PySem.W.keepIn K (.ref f1) = true)
    (kC : PySem.W.keepIn K (.ref C) = true) (eC : PySem.W.subIn K (.ref C) (.type "BaseException") = some true) (tC : PySem.W.typeIn K (.ref C) = some (.type "type")) (hC : PySem.W.hasDictIn K C = true) (iC : PySem.W.isClsIn K C = true) (sC : PySem.W.subIn K (.ref C) (.ref C) = some true) :
    Has_refused K mg := by
  have T : CR K mg C := ⟨PySem.W.mg_of X G aC, ⟨⟨nm, q, N, bs, _, sn, sub, ab, col, dd, m0, m1, m2, m3, m5, xL, by decide +kernel⟩, sa, eC, tC, kC⟩, ⟨ga, gg, eC, hC⟩, nb, exm_self eC iC tC sC⟩
  have F1 := fun_mk (st := s_rinit) l1 c1 k1
  have b1 := F1.binds (ps := ["self", "number"]) fun _ _ _ _ _ _ us hl => match us, hl with | [_, _], _ => rfl
  exact ⟨C, T, fun P w base => ⟨f1, _, a1, t1, ok_rinit F1 T, b1⟩⟩
end
end NH

namespace NH
open PySem PySem.Spec PyProof.Rows L2 Evl
section
variable {K : PySem.W.Frag} {mg : Str → Option Value} {h : Heap}
abbrev Has_point (K : PySem.W.Frag) (mg : Str → Option Value) : Prop := ∃ C, CP K C ∧ ∀ (P : Program) (w : World) (base : Heap), HasMk P w K mg base 1 "Point" C ["self", "t", "x", "y", "light"] (spPInit C)
theorem cls_point {C f1 : Addr} (X : K.In h) (G : h.Ns mainGlobals mg) {od1 an1 : Option Addr} {sl1 : Array (Option Value)} {oc1 kV1 dc1 pm1 cd1 ct1 : Value}
    (aC : PySem.W.nsIn K mainGlobals "Point" = some (some (.ref C)))
    (a1 : PySem.W.findIn K (.ref C) "__init__" = some (some (.ref f1))) (i1 : PySem.W.isFn K (.ref f1) = true)
    (l1 : K.lookup f1 = some ⟨oc1, od1, .func (PySem.W.fnOf "__init__" "Point.__init__" (defArgs s_pinit) (defBody s_pinit) (defScope s_pinit) .none kV1 dc1 pm1 an1 cd1 ct1), sl1⟩) (c1 : PySem.W.codeIn K cd1 "Point.__init__" = true) (k1 : PySem.W.keepIn K (.ref f1) = true)
    (pg : PySem.W.plainGet K C Str.empty = true) (hd : PySem.W.hasDictIn K C = true) (po : PySem.W.plainOver K C = true) (sa : PySem.W.findIn K (.ref C) "__setattr__" = some (some (.builtin "object.__setattr__"))) (mk : PySem.W.makesIn K C = true) (kc : PySem.W.keepIn K (.ref C) = true)
    (nT : PySem.W.findIn K (.ref C) "t" = some none) (nX : PySem.W.findIn K (.ref C) "x" = some none) (nY : PySem.W.findIn K (.ref C) "y" = some none) (nL : PySem.W.findIn K (.ref C) "light" = some none) :
    Has_point K mg := by
  have T : CP K C := ⟨⟨pg, hd, po, sa⟩, nT, nX, nY, nL⟩
  have F1 := fun_mk (st := s_pinit) l1 c1 k1
  have b1 := F1.binds (ps := ["self", "t", "x", "y", "light"]) fun _ _ _ _ _ _ us hl => match us, hl with | [_, _, _, _, _], _ => rfl
  exact ⟨C, T, fun P w base => ⟨f1, _, ⟨mk, a1, i1, kc⟩, ok_pinit F1 T, PySem.W.mg_of X G aC, b1⟩⟩
end
end NH

namespace NH
open PySem PySem.Spec PyProof.Rows L2 Evl
section
variable {K : PySem.W.Frag} {mg : Str → Option Value} {h : Heap}
abbrev Has_fit (K : PySem.W.Frag) (mg : Str → Option Value) : Prop := ∃ C, CF K C ∧ ∀ (P : Program) (w : World) (base : Heap), HasMk P w K mg base 1 "Fit" C n_finit (spFInit C)
theorem cls_fit {C f1 : Addr} (X : K.In h) (G : h.Ns mainGlobals mg) {od1 an1 : Option Addr} {sl1 : Array (Option Value)} {oc1 kV1 dc1 pm1 cd1 ct1 : Value}
    (aC : PySem.W.nsIn K mainGlobals "Fit" = some (some (.ref C)))
    (a1 : PySem.W.findIn K (.ref C) "__init__" = some (some (.ref f1))) (i1 : PySem.W.isFn K (.ref f1) = true)
    (l1 : K.lookup f1 = some ⟨oc1, od1, .func (PySem.W.fnOf "__init__" "Fit.__init__" (defArgs s_finit) (defBody s_finit) (defScope s_finit) .none kV1 dc1 pm1 an1 cd1 ct1), sl1⟩) (c1 : PySem.W.codeIn K cd1 "Fit.__init__" = true) (k1 : PySem.W.keepIn K (.ref f1) = true)
    (pg : PySem.W.plainGet K C Str.empty = true) (hd : PySem.W.hasDictIn K C = true) (po : PySem.W.plainOver K C = true) (sa : PySem.W.findIn K (.ref C) "__setattr__" = some (some (.builtin "object.__setattr__"))) (mk : PySem.W.makesIn K C = true) (kc : PySem.W.keepIn K (.ref C) = true)
    (nX : PySem.W.findIn K (.ref C) "x0" = some none) (nV : PySem.W.findIn K (.ref C) "vx" = some none) (nY : PySem.W.findIn K (.ref C) "y0" = some none) (nW : PySem.W.findIn K (.ref C) "vy" = some none) (nG : PySem.W.findIn K (.ref C) "g" = some none) :
    Has_fit K mg := by
  have T : CF K C := ⟨⟨pg, hd, po, sa⟩, nX, nV, nY, nW, nG⟩
  have F1 := fun_mk (st := s_finit) l1 c1 k1
  have b1 := F1.binds (ps := n_finit) fun _ _ _ _ _ _ us hl => match us, hl with | [_, _, _, _, _, _], _ => rfl
  exact ⟨C, T, fun P w base => ⟨f1, _, ⟨mk, a1, i1, kc⟩, ok_finit F1 T, PySem.W.mg_of X G aC, b1⟩⟩
end
end NH

open PySem PySem.W PyProof.Rows
set_option maxRecDepth 100000 in
set_option maxHeartbeats 8000000 in
theorem PySem.Challenge.cw_newandmoving_s06_mo_fit_holds : PySem.Challenge.rw_newandmoving_s06_mo_fit.Holds := by
  w_on; k_headS; (case hw => exact ⟨[.list []], by decide +kernel, by decide +kernel⟩)
  k_fillS
  refine L2.walk_specK (r := PySem.Challenge.rw_newandmoving_s06_mo_fit) (k := 6) (CX := L2.CX0) (ps := ["l"]) (sp := NH.spFitMo) (by decide +kernel) rfl rfl ⟨rfl, by decide, by decide⟩ (fun w h Y => PySem.W.kIn_of Y) ?F ?S (fun _ _ _ _ z => z)
  case F =>
    intro w mg fa h Y KX G hmg
    have g_NOT_AS_TOLD : NH.GI mg "NOT_AS_TOLD" (-3) := by
      refine' NH.gi_mk KX G ?a
      (case a => k_is)
    have g_WORD : NH.GI mg "WORD" 4294967296 := by
      refine' NH.gi_mk KX G ?a
      (case a => k_is)
    have g_HALF_WORD : NH.GI mg "HALF_WORD" 2147483648 := by
      refine' NH.gi_mk KX G ?a
      (case a => k_is)
    have g_POINT_WORDS : NH.GI mg "POINT_WORDS" 4 := by
      refine' NH.gi_mk KX G ?a
      (case a => k_is)
    have g_LAST_TIME : NH.GI mg "LAST_TIME" 65535 := by
      refine' NH.gi_mk KX G ?a
      (case a => k_is)
    have g_EDGE : NH.GI mg "EDGE" 32768 := by
      refine' NH.gi_mk KX G ?a
      (case a => k_is)
    have g_MOST_LIGHT : NH.GI mg "MOST_LIGHT" 65536 := by
      refine' NH.gi_mk KX G ?a
      (case a => k_is)
    have g_OUT_OF_RANGE : NH.GI mg "OUT_OF_RANGE" (-2) := by
      refine' NH.gi_mk KX G ?a
      (case a => k_is)
    have g_PARTS : NH.GI mg "PARTS" 256 := by
      refine' NH.gi_mk KX G ?a
      (case a => k_is)
    have g_MOST_POINTS : NH.GI mg "MOST_POINTS" 48 := by
      refine' NH.gi_mk KX G ?a
      (case a => k_is)
    have g_NO_FIT : NH.GI mg "NO_FIT" (-4) := by
      refine' NH.gi_mk KX G ?a
      (case a => k_is)
    have g_LONG_WORD : NH.GI mg "LONG_WORD" 18446744073709551616 := by
      refine' NH.gi_mk KX G ?a
      (case a => k_is)
    have z_abs : mg "abs" = none := by
      refine' PySem.W.mg_none_of KX G ?a
      (case a => k_is)
    have z_len : mg "len" = none := by
      refine' PySem.W.mg_none_of KX G ?a
      (case a => k_is)
    have z_range : mg "range" = none := by
      refine' PySem.W.mg_none_of KX G ?a
      (case a => k_is)
    have z_all : mg "all" = none := by
      refine' PySem.W.mg_none_of KX G ?a
      (case a => k_is)
    have z_sum : mg "sum" = none := by
      refine' PySem.W.mg_none_of KX G ?a
      (case a => k_is)
    have z_max : mg "max" = none := by
      refine' PySem.W.mg_none_of KX G ?a
      (case a => k_is)
    have d_ask := (by
      refine' NH.df_mk KX G NH.b_ask ?a ?l ?c ?k
      (case a => k_is)
      (case l => k_is)
      (case c => k_is)
      (case k => k_is) : NH.Df _ mg "ask" NH.s_ask ["holds", "number"])
    have d_signed := (by
      refine' NH.df_mk KX G NH.b_signed ?a ?l ?c ?k
      (case a => k_is)
      (case l => k_is)
      (case c => k_is)
      (case k => k_is) : NH.Df _ mg "signed" NH.s_signed ["word"])
    have d_point_at := (by
      refine' NH.df_mk KX G NH.b_point_at ?a ?l ?c ?k
      (case a => k_is)
      (case l => k_is)
      (case c => k_is)
      (case k => k_is) : NH.Df _ mg "point_at" NH.s_point_at ["words", "at"])
    have d_is_point := (by
      refine' NH.df_mk KX G NH.b_is_point ?a ?l ?c ?k
      (case a => k_is)
      (case l => k_is)
      (case c => k_is)
      (case k => k_is) : NH.Df _ mg "is_point" NH.s_is_point ["point"])
    have d_read := (by
      refine' NH.df_mk KX G NH.b_read ?a ?l ?c ?k
      (case a => k_is)
      (case l => k_is)
      (case c => k_is)
      (case k => k_is) : NH.Df _ mg "read_points" NH.s_read ["words"])
    have d_ask_many := (by
      refine' NH.df_mk KX G NH.b_ask_many ?a ?l ?c ?k
      (case a => k_is)
      (case l => k_is)
      (case c => k_is)
      (case k => k_is) : NH.Df _ mg "ask_many" NH.s_ask_many ["words", "most"])
    have d_squared := (by
      refine' NH.df_mk KX G NH.b_squared ?a ?l ?c ?k
      (case a => k_is)
      (case l => k_is)
      (case c => k_is)
      (case k => k_is) : NH.Df _ mg "squared" NH.s_squared ["number"])
    have d_off := (by
      refine' NH.df_mk KX G NH.b_off ?a ?l ?c ?k
      (case a => k_is)
      (case l => k_is)
      (case c => k_is)
      (case k => k_is) : NH.Df _ mg "off" NH.s_off ["place", "point"])
    have d_rounded := (by
      refine' NH.df_mk KX G NH.b_rounded ?a ?l ?c ?k
      (case a => k_is)
      (case l => k_is)
      (case c => k_is)
      (case k => k_is) : NH.Df _ mg "rounded" NH.s_rounded ["above", "below"])
    have d_long_word := (by
      refine' NH.df_mk KX G NH.b_long_word ?a ?l ?c ?k
      (case a => k_is)
      (case l => k_is)
      (case c => k_is)
      (case k => k_is) : NH.Df _ mg "long_word" NH.s_long_word ["number"])
    have d_fit_of := (by
      refine' NH.df_mk KX G NH.b_fit_of ?a ?l ?c ?k
      (case a => k_is)
      (case l => k_is)
      (case c => k_is)
      (case k => k_is) : NH.Df _ mg "fit_of" NH.s_fit_of ["points"])
    have d_asked_fit := (by
      refine' NH.df_mk KX G NH.b_asked_fit ?a ?l ?c ?k
      (case a => k_is)
      (case l => k_is)
      (case c => k_is)
      (case k => k_is) : NH.Df _ mg "asked_fit" NH.s_asked_fit ["points"])
    have d_place_at := (by
      refine' NH.df_mk KX G NH.b_place_at ?a ?l ?c ?k
      (case a => k_is)
      (case l => k_is)
      (case c => k_is)
      (case k => k_is) : NH.Df _ mg "place_at" NH.s_place_at ["fit", "t"])
    have d_worst := (by
      refine' NH.df_mk KX G NH.b_worst ?a ?l ?c ?k
      (case a => k_is)
      (case l => k_is)
      (case c => k_is)
      (case k => k_is) : NH.Df _ mg "worst" NH.s_worst ["fit", "points"])
    have d_told_fit := (by
      refine' NH.df_mk KX G NH.b_told_fit ?a ?l ?c ?k
      (case a => k_is)
      (case l => k_is)
      (case c => k_is)
      (case k => k_is) : NH.Df _ mg "told_fit" NH.s_told_fit ["l"])
    have d_mo := (by
      refine' NH.df_mk KX G NH.b_mo ?a ?l ?c ?k
      (case a => k_is)
      (case l => k_is)
      (case c => k_is)
      (case k => k_is) : NH.Df _ mg "mo_fit" NH.s_mo ["l"])
    have c_refused := (by
      refine' NH.cls_refused KX G ?aC ?xL ?sa ?ga ?gg ?nb ?a1 ?t1 ?l1 ?c1 ?k1 ?kC ?eC ?tC ?hC ?iC ?sC
      (case aC => k_is)
      (case xL => k_is)
      (case sa => k_is)
      (case ga => k_is)
      (case gg => k_is)
      (case nb => k_is)
      (case a1 => k_is)
      (case t1 => k_is)
      (case l1 => k_is)
      (case c1 => k_is)
      (case k1 => k_is)
      (case kC => k_is)
      (case eC => k_is)
      (case tC => k_is)
      (case hC => k_is)
      (case iC => k_is)
      (case sC => first | rfl | k_is) : NH.Has_refused _ mg)
    have c_point := (by
      refine' NH.cls_point KX G ?aC ?a1 ?i1 ?l1 ?c1 ?k1 ?pg ?hd ?po ?sa ?mk ?kc ?nT ?nX ?nY ?nL
      (case aC => k_is)
      (case a1 => k_is)
      (case i1 => k_is)
      (case l1 => k_is)
      (case c1 => k_is)
      (case k1 => k_is)
      (case pg => k_is)
      (case hd => k_is)
      (case po => k_is)
      (case sa => k_is)
      (case mk => k_is)
      (case kc => k_is)
      (case nT => k_is)
      (case nX => k_is)
      (case nY => k_is)
      (case nL => k_is) : NH.Has_point _ mg)
    have c_fit := (by
      refine' NH.cls_fit KX G ?aC ?a1 ?i1 ?l1 ?c1 ?k1 ?pg ?hd ?po ?sa ?mk ?kc ?nX ?nV ?nY ?nW ?nG
      (case aC => k_is)
      (case a1 => k_is)
      (case i1 => k_is)
      (case l1 => k_is)
      (case c1 => k_is)
      (case k1 => k_is)
      (case pg => k_is)
      (case hd => k_is)
      (case po => k_is)
      (case sa => k_is)
      (case mk => k_is)
      (case kc => k_is)
      (case nX => k_is)
      (case nV => k_is)
      (case nY => k_is)
      (case nW => k_is)
      (case nG => k_is) : NH.Has_fit _ mg)
    obtain ⟨CR', TR, hR⟩ := c_refused
    obtain ⟨C, TP, hP⟩ := c_point
    refine NH.fin d_mo hmg fun base fd F => ?_
    have h_ask := NH.ok_ask (P := PySem.Challenge.pw_newandmoving_s06_mo_fit) (w := w) (base := base) d_ask TR (hR _ _ _)
    have h_signed := NH.ok_signed (P := PySem.Challenge.pw_newandmoving_s06_mo_fit) (w := w) (base := base) d_signed g_HALF_WORD g_WORD
    have h_point_at := NH.ok_point_at d_point_at h_signed (hP _ _ _)
    have h_is_point := NH.ok_is_point (P := PySem.Challenge.pw_newandmoving_s06_mo_fit) (w := w) (base := base) d_is_point TP g_LAST_TIME g_EDGE g_MOST_LIGHT z_abs
    have h_read := NH.ok_read d_read h_point_at h_is_point h_ask g_POINT_WORDS g_NOT_AS_TOLD z_len z_range z_all
    have h_ask_many := NH.ok_ask_many (P := PySem.Challenge.pw_newandmoving_s06_mo_fit) (w := w) (base := base) d_ask_many h_ask g_POINT_WORDS g_OUT_OF_RANGE z_len
    obtain ⟨C2, TF, hFt⟩ := c_fit
    have h_rounded := NH.ok_rounded (P := PySem.Challenge.pw_newandmoving_s06_mo_fit) (w := w) (base := base) d_rounded
    have h_fit_of := NH.ok_fit_of d_fit_of TP (hFt PySem.Challenge.pw_newandmoving_s06_mo_fit w base) z_len z_sum
    have h_place_at := NH.ok_place_at d_place_at TF h_rounded g_PARTS
    have h_sq := NH.ok_squared (P := PySem.Challenge.pw_newandmoving_s06_mo_fit) (w := w) (base := base) d_squared
    have h_off := NH.ok_off d_off TP h_sq g_PARTS
    have h_worst := NH.ok_worst d_worst TP h_off h_place_at z_max
    have h_asked := NH.ok_asked_fit d_asked_fit TR (hR _ _ _) h_fit_of g_NO_FIT
    have h_long := NH.ok_long_word (P := PySem.Challenge.pw_newandmoving_s06_mo_fit) (w := w) (base := base) d_long_word g_LONG_WORD
    exact NH.ok_mo F TR (NH.ok_told_fit d_told_fit h_ask_many h_read h_asked h_long h_worst TF g_MOST_POINTS z_len)
  case S =>
    intro K H xs a hO hwi hask hx
    obtain ⟨z0, u⟩ := a
    have q : ((Codec.inLen 0 240 z0 && z0.all (Codec.inInt 0 4294967295)) && true) = true := hwi
    simp only [Bool.and_eq_true] at q
    obtain ⟨⟨q0, p0⟩, _⟩ := q
    obtain ⟨ln, rfl, lln, mln⟩ := NH.words_of p0
    have bln := Codec.inNat_iff.mp q0
    obtain ⟨v0, r0, rfl, e0, hx⟩ := NH.dwall_cons (d := .list ((NM.intsN ln).map WData.int)) (ds := []) hx
    obtain rfl := NH.dwall_nil hx
    obtain ⟨aln, rfl, wln⟩ := NH.dw_list e0
    exact ⟨aln, ln, rfl, NH.words_at wln, by omega, fun H' p hp => .lst (L2.SqL.of hp) (L2.dw_ints _)⟩
#print axioms PySem.Challenge.cw_newandmoving_s06_mo_fit_holds
