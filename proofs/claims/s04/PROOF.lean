import PyProof.Rows.All
import Wide.All
import OpenK.AllK
import Wide.FinOn
import Open.SpecLaws
import KE.OsGo
import HandS.ForSpec
import HandS.Comp
import HandS.Iter
import HandS.Zip
import HandS.Wide
import HandS.WideBits
import HandS.SortRule
import PySem.Challenge.RW_fadinglots_s04_retention
set_option Elab.async false
set_option linter.all false
set_option maxRecDepth 100000
set_option maxHeartbeats 4000000
namespace Fl
open Ks604
/-! ### rational numbers -/
/-- p / q in lowest terms -/
def mk (p q : Nat) : Rational := Rational.make (p : Int) q
theorem mk_eq {p q : Nat} (h : 0 < q) : mk p q = ⟨((p / Nat.gcd p q : Nat) : Int), q / Nat.gcd p q⟩ := by
  unfold mk Rational.make
  rw [if_neg (by omega : ¬ q = 0), Int.natAbs_natCast, ← Int.natCast_ediv]
theorem mk_mul {k p q : Nat} (hk : 0 < k) (h : 0 < q) : mk (k * p) (k * q) = mk p q := by
  rw [mk_eq h, mk_eq (Nat.mul_pos hk h), Nat.gcd_mul_left, Nat.mul_div_mul_left _ _ hk, Nat.mul_div_mul_left _ _ hk]
theorem mk_cross {p q p' q' : Nat} (h : 0 < q) (h' : 0 < q') (e : p * q' = p' * q) : mk p q = mk p' q' := by
  rw [← mk_mul h' h, ← mk_mul (k := q) h h', Nat.mul_comm q' p, e, Nat.mul_comm p' q, Nat.mul_comm q' q]
theorem mk_num {p q : Nat} (h : 0 < q) : (mk p q).num = ((p / Nat.gcd p q : Nat) : Int) := by rw [mk_eq h]
theorem mk_den {p q : Nat} (h : 0 < q) : (mk p q).den = q / Nat.gcd p q := by rw [mk_eq h]
theorem gcd_pos {p q : Nat} (h : 0 < q) : 0 < Nat.gcd p q := Nat.gcd_pos_of_pos_right p h
theorem den_pos {p q : Nat} (h : 0 < q) : 0 < q / Nat.gcd p q := Nat.div_pos (Nat.le_of_dvd h (Nat.gcd_dvd_right p q)) (gcd_pos h)
theorem num_back {p q : Nat} : Nat.gcd p q * (p / Nat.gcd p q) = p := Nat.mul_div_cancel' (Nat.gcd_dvd_left p q)
theorem den_back {p q : Nat} : Nat.gcd p q * (q / Nat.gcd p q) = q := Nat.mul_div_cancel' (Nat.gcd_dvd_right p q)
/-- the reduced pair stands for the same number -/
theorem low_cross {p q : Nat} : (p / Nat.gcd p q) * q = p * (q / Nat.gcd p q) := by
  have a := @num_back p q
  have b := @den_back p q
  generalize p / Nat.gcd p q = x at *
  generalize q / Nat.gcd p q = y at *
  generalize Nat.gcd p q = g at *
  subst a b
  ac_rfl
theorem mul_mk {p q p' q' : Nat} (h : 0 < q) (h' : 0 < q') : mk p q * mk p' q' = mk (p * p') (q * q') := by
  show Rational.make ((mk p q).num * (mk p' q').num) ((mk p q).den * (mk p' q').den) = _
  rw [mk_num h, mk_num h', mk_den h, mk_den h', ← Int.natCast_mul]
  show mk _ _ = _
  refine mk_cross (Nat.mul_pos (den_pos h) (den_pos h')) (Nat.mul_pos h h') ?_
  have a := @low_cross p q
  have b := @low_cross p' q'
  calc p / Nat.gcd p q * (p' / Nat.gcd p' q') * (q * q') = (p / Nat.gcd p q * q) * (p' / Nat.gcd p' q' * q') := by ac_rfl
    _ = (p * (q / Nat.gcd p q)) * (p' * (q' / Nat.gcd p' q')) := by rw [a, b]
    _ = _ := by ac_rfl
theorem add_mk {p q p' q' : Nat} (h : 0 < q) (h' : 0 < q') : mk p q + mk p' q' = mk (p * q' + p' * q) (q * q') := by
  show Rational.make ((mk p q).num * ((mk p' q').den : Int) + (mk p' q').num * ((mk p q).den : Int)) ((mk p q).den * (mk p' q').den) = _
  rw [mk_num h, mk_num h', mk_den h, mk_den h', ← Int.natCast_mul, ← Int.natCast_mul, ← Int.natCast_add]
  show mk _ _ = _
  refine mk_cross (Nat.mul_pos (den_pos h) (den_pos h')) (Nat.mul_pos h h') ?_
  have a := @low_cross p q
  have b := @low_cross p' q'
  rw [Nat.add_mul, Nat.add_mul]
  generalize p / Nat.gcd p q = x at *
  generalize q / Nat.gcd p q = y at *
  generalize p' / Nat.gcd p' q' = x' at *
  generalize q' / Nat.gcd p' q' = y' at *
  have c1 : x * y' * (q * q') = p * q' * (y * y') := by
    calc x * y' * (q * q') = (x * q) * (y' * q') := by ac_rfl
      _ = (p * y) * (y' * q') := by rw [a]
      _ = _ := by ac_rfl
  have c2 : x' * y * (q * q') = p' * q * (y * y') := by
    calc x' * y * (q * q') = (x' * q') * (y * q) := by ac_rfl
      _ = (p' * y') * (y * q) := by rw [b]
      _ = _ := by ac_rfl
  rw [c1, c2]
theorem inv_mk {p q : Nat} (hp : 0 < p) (h : 0 < q) : (mk p q).inverse = mk q p := by
  unfold Rational.inverse
  have hg := gcd_pos (p := p) h
  have hn : 0 < p / Nat.gcd p q := Nat.div_pos (Nat.le_of_dvd hp (Nat.gcd_dvd_left p q)) hg
  rw [mk_num h, mk_den h, if_neg (by omega), if_neg (by omega), Int.natAbs_natCast]
  show mk _ _ = _
  exact mk_cross hn hp (by rw [Nat.mul_comm, ← low_cross, Nat.mul_comm])
theorem div_mk {p q p' q' : Nat} (h : 0 < q) (hp' : 0 < p') (h' : 0 < q') : mk p q / mk p' q' = mk (p * q') (q * p') := by
  show mk p q * (mk p' q').inverse = _
  rw [inv_mk hp' h', mul_mk h hp']
theorem le_mk {p q p' q' : Nat} (h : 0 < q) (h' : 0 < q') : Rational.le (mk p q) (mk p' q') = decide (p * q' ≤ p' * q) := by
  unfold Rational.le
  rw [mk_num h, mk_num h', mk_den h, mk_den h', ← Int.natCast_mul, ← Int.natCast_mul]
  refine decide_eq_decide.mpr (Iff.trans Int.ofNat_le ?_)
  have g := gcd_pos (p := p) h
  have g' := gcd_pos (p := p') h'
  have a := @num_back p q
  have b := @den_back p q
  have a' := @num_back p' q'
  have b' := @den_back p' q'
  generalize p / Nat.gcd p q = x at *
  generalize q / Nat.gcd p q = y at *
  generalize p' / Nat.gcd p' q' = x' at *
  generalize q' / Nat.gcd p' q' = y' at *
  generalize Nat.gcd p q = d at *
  generalize Nat.gcd p' q' = d' at *
  subst a b a' b'
  have e1 : d * x * (d' * y') = (d * d') * (x * y') := by ac_rfl
  have e2 : d' * x' * (d * y) = (d * d') * (x' * y) := by ac_rfl
  rw [e1, e2]
  exact ⟨fun z => Nat.mul_le_mul_left _ z, fun z => Nat.le_of_mul_le_mul_left z (Nat.mul_pos g g')⟩
theorem lt_mk {p q p' q' : Nat} (h : 0 < q) (h' : 0 < q') : Rational.lt (mk p q) (mk p' q') = decide (p * q' < p' * q) := by
  have a := le_mk (p := p') (q := q') (p' := p) (q' := q) h' h
  have e : Rational.lt (mk p q) (mk p' q') = !(Rational.le (mk p' q') (mk p q)) := by
    unfold Rational.lt Rational.le
    by_cases c : (mk p' q').num * ((mk p q).den : Int) ≤ (mk p q).num * ((mk p' q').den : Int)
    · rw [decide_eq_true c, decide_eq_false (by omega)]
      rfl
    · rw [decide_eq_false c, decide_eq_true (by omega)]
      rfl
  rw [e, a]
  by_cases c : p' * q ≤ p * q'
  · rw [decide_eq_true c, decide_eq_false (by omega)]
    rfl
  · rw [decide_eq_false c, decide_eq_true (by omega)]
    rfl
theorem eq_mk {p q p' q' : Nat} (h : 0 < q) (h' : 0 < q') : mk p q = mk p' q' ↔ p * q' = p' * q := by
  refine ⟨fun e => ?_, mk_cross h h'⟩
  have a := le_mk (p := p) (p' := p') h h'
  have b := le_mk (p := p') (p' := p) h' h
  have r : ∀ x : Rational, Rational.le x x = true := fun x => by
    unfold Rational.le
    exact decide_eq_true (Int.le_refl _)
  rw [e, r] at a
  rw [e, r] at b
  exact Nat.le_antisymm (of_decide_eq_true a.symm) (of_decide_eq_true b.symm)
theorem zero_mk : Rational.zero = mk 0 1 := by decide
theorem one_mk : Rational.one = mk 1 1 := by decide
theorem ofNat_mk (n : Nat) : Rational.ofNat n = mk n 1 := by
  rw [mk_eq (by decide), Nat.gcd_one_right, Nat.div_one]
  rfl
theorem power_mk {p q : Nat} (h : 0 < q) : ∀ m, Ks604.power (mk p q) m = mk (p ^ m) (q ^ m)
  | 0 => one_mk
  | m + 1 => by
    show Ks604.power (mk p q) m * mk p q = _
    rw [power_mk h m, mul_mk (Nat.pow_pos h) h]
    rfl
/-! ### lots -/
def rowsOf : List Nat → List Lot
  | a :: b :: c :: d :: r => ⟨a, b, c, d⟩ :: rowsOf r
  | _ => []
def okLot (l : Lot) : Bool := isValidLot l.weight l.strength l.retainedNum l.retainedDen
def lotsOk (ks : List Nat) : Bool := decide (ks.length % 4 = 0) && decide (ks.length ≤ 24) && (rowsOf ks).all okLot
theorem rows_len : ∀ ks : List Nat, (rowsOf ks).length = ks.length / 4
  | [] => rfl
  | [_] => by
    show 0 = 1 / 4
    omega
  | [_, _] => by
    show 0 = 2 / 4
    omega
  | [_, _, _] => by
    show 0 = 3 / 4
    omega
  | a :: b :: c :: d :: r => by
    show (rowsOf r).length + 1 = (r.length + 1 + 1 + 1 + 1) / 4
    rw [rows_len r]
    omega
theorem parse_eq : ∀ ks : List Nat, parseLots ks = if (decide (ks.length % 4 = 0) && (rowsOf ks).all okLot) = true then some (rowsOf ks) else none
  | [] => rfl
  | [_] => rfl
  | [_, _] => rfl
  | [_, _, _] => rfl
  | a :: b :: c :: d :: r => by
    have ih := parse_eq r
    have e : (r.length + 1 + 1 + 1 + 1) % 4 = r.length % 4 := by omega
    show (if isValidLot a b c d = true then (parseLots r).map fun lots => ⟨a, b, c, d⟩ :: lots else none) =
      if (decide ((r.length + 1 + 1 + 1 + 1) % 4 = 0) && (isValidLot a b c d && (rowsOf r).all okLot)) = true then some (⟨a, b, c, d⟩ :: rowsOf r) else none
    rw [ih, e]
    by_cases c1 : isValidLot a b c d = true
    · rw [if_pos c1, c1, Bool.true_and]
      by_cases c2 : (decide (r.length % 4 = 0) && (rowsOf r).all okLot) = true
      · rw [if_pos c2, if_pos c2]
        rfl
      · rw [if_neg c2, if_neg c2]
        rfl
    · have c1' : isValidLot a b c d = false := by simpa using c1
      rw [if_neg c1, c1', Bool.false_and, Bool.and_false, if_neg (by decide)]
theorem withLots_eq (ks : List Nat) (f : Lots → Result) : withLots ks f = if lotsOk ks = true then f (rowsOf ks) else number (-22) := by
  unfold withLots
  rw [parse_eq]
  unfold lotsOk
  by_cases h4 : ks.length % 4 = 0
  · rw [decide_eq_true h4, Bool.true_and]
    by_cases ha : (rowsOf ks).all okLot = true
    · rw [if_pos ha, ha, Bool.and_true]
      show (if maxLots < (rowsOf ks).length then number (-22) else f (rowsOf ks)) = _
      rw [rows_len]
      by_cases hl : ks.length ≤ 24
      · have c : ¬ maxLots < ks.length / 4 := by
          unfold maxLots
          omega
        rw [if_neg c, decide_eq_true hl]
        rfl
      · have c : maxLots < ks.length / 4 := by
          unfold maxLots
          omega
        rw [if_pos c, decide_eq_false hl]
        rfl
    · have ha' : (rowsOf ks).all okLot = false := by simpa using ha
      rw [if_neg ha, ha', Bool.and_false]
      rfl
  · rw [decide_eq_false h4, Bool.false_and, Bool.false_and, Bool.false_and]
    rfl
/-- the lots of a mask -/
def sel (lots : List Lot) (mask : Nat) : List Lot := ((List.range lots.length).filter fun i => mask.testBit i).map (lotAt lots)
def wsum (ls : List Lot) : Nat := (ls.map (·.weight)).sum
theorem weight_sel (lots : List Lot) (mask : Nat) : totalWeight lots (members lots.length mask) = wsum (sel lots mask) := by
  unfold totalWeight wsum sel members
  rw [List.map_map]
  rfl
/-- the mixture's strength, of the lots themselves -/
def tStr (ls : List Lot) (month : Nat) : Rational := ls.foldl (fun t l => t + Rational.ofNat l.weight * strengthIn l month) Rational.zero
theorem total_sel (lots : List Lot) (mask month : Nat) : totalStrength lots (members lots.length mask) month = tStr (sel lots mask) month := by
  unfold totalStrength tStr sel members
  rw [List.foldl_map]
/-! ### what the program reckons -/
def scaleN (ls : List Lot) (m : Nat) : Nat := ls.foldl (fun a l => a * l.retainedDen ^ m) 1
def scaledN (l : Lot) (m D : Nat) : Nat := l.strength * l.retainedNum ^ m * (D / l.retainedDen ^ m)
def totalN (ls : List Lot) (m : Nat) : Nat := ls.foldl (fun t l => t + l.weight * scaledN l m (scaleN ls m)) 0
def meanP (ls : List Lot) (m : Nat) : Nat := totalN ls m
def meanQ (ls : List Lot) (m : Nat) : Nat := scaleN ls m * wsum ls
def lowP (p q : Nat) : Nat := p / Nat.gcd p q
def lowQ (p q : Nat) : Nat := q / Nat.gcd p q
/-- every lot has a den above 0 -/
def Good (ls : List Lot) : Prop := ∀ l ∈ ls, okLot l = true
theorem ok_parts {l : Lot} (h : okLot l = true) : l.weight ≤ 99 ∧ l.strength ≤ 999 ∧ 1 ≤ l.retainedNum ∧ l.retainedNum ≤ l.retainedDen ∧ l.retainedDen ≤ 20 := by
  unfold okLot isValidLot at h
  simp only [Bool.and_eq_true, decide_eq_true_eq] at h
  omega
theorem Good.den {ls : List Lot} (G : Good ls) {l : Lot} (h : l ∈ ls) : 0 < l.retainedDen := by
  have := ok_parts (G l h)
  omega
theorem scale_from (m : Nat) : ∀ (ls : List Lot) (a : Nat), ls.foldl (fun a l => a * l.retainedDen ^ m) a = a * ls.foldl (fun a l => a * l.retainedDen ^ m) 1
  | [], a => by
    show a = a * 1
    omega
  | l :: r, a => by
    show r.foldl _ (a * l.retainedDen ^ m) = a * r.foldl _ (1 * l.retainedDen ^ m)
    rw [scale_from m r, scale_from m r (1 * l.retainedDen ^ m), Nat.one_mul, Nat.mul_assoc]
theorem scale_cons (l : Lot) (r : List Lot) (m : Nat) : scaleN (l :: r) m = l.retainedDen ^ m * scaleN r m := by
  show r.foldl _ (1 * l.retainedDen ^ m) = _
  rw [scale_from m r, Nat.one_mul]
  rfl
theorem scale_pos {m : Nat} : ∀ {ls : List Lot}, (∀ l ∈ ls, 0 < l.retainedDen) → 0 < scaleN ls m
  | [], _ => Nat.one_pos
  | l :: r, h => by
    rw [scale_cons]
    exact Nat.mul_pos (Nat.pow_pos (h l List.mem_cons_self)) (scale_pos fun x hx => h x (List.mem_cons_of_mem _ hx))
theorem scale_dvd {m : Nat} : ∀ {ls : List Lot} {l : Lot}, l ∈ ls → l.retainedDen ^ m ∣ scaleN ls m
  | x :: r, l, h => by
    rw [scale_cons]
    rcases List.mem_cons.mp h with e | h
    · subst e
      exact Nat.dvd_mul_right _ _
    · exact Nat.dvd_trans (scale_dvd h) (Nat.dvd_mul_left _ _)
theorem strength_mk {l : Lot} (h : 0 < l.retainedDen) (m : Nat) : strengthIn l m = mk (l.strength * l.retainedNum ^ m) (l.retainedDen ^ m) := by
  unfold strengthIn
  show Rational.ofNat l.strength * Ks604.power (mk l.retainedNum l.retainedDen) m = _
  rw [ofNat_mk, power_mk h, mul_mk Nat.one_pos (Nat.pow_pos h), Nat.one_mul]
/-- over any common denominator -/
theorem strength_over {l : Lot} (h : 0 < l.retainedDen) {m D : Nat} (hD : 0 < D) (hd : l.retainedDen ^ m ∣ D) : strengthIn l m = mk (scaledN l m D) D := by
  rw [strength_mk h]
  obtain ⟨k, rfl⟩ := hd
  have hp : 0 < l.retainedDen ^ m := Nat.pow_pos h
  refine mk_cross hp hD ?_
  unfold scaledN
  rw [Nat.mul_div_cancel_left _ hp]
  ac_rfl
theorem total_over {m D : Nat} (hD : 0 < D) : ∀ (ls : List Lot) (t : Nat), (∀ l ∈ ls, 0 < l.retainedDen ∧ l.retainedDen ^ m ∣ D) →
    ls.foldl (fun t l => t + Rational.ofNat l.weight * strengthIn l m) (mk t D) = mk (ls.foldl (fun t l => t + l.weight * scaledN l m D) t) D
  | [], _, _ => rfl
  | l :: r, t, h => by
    obtain ⟨h1, h2⟩ := h l List.mem_cons_self
    show r.foldl _ (mk t D + Rational.ofNat l.weight * strengthIn l m) = mk (r.foldl _ (t + l.weight * scaledN l m D)) D
    have e : mk t D + Rational.ofNat l.weight * strengthIn l m = mk (t + l.weight * scaledN l m D) D := by
      rw [strength_over h1 hD h2, ofNat_mk, mul_mk Nat.one_pos hD, Nat.one_mul, add_mk hD hD, ← Nat.add_mul, Nat.mul_comm _ D, mk_mul hD hD]
    rw [e]
    exact total_over hD r _ fun x hx => h x (List.mem_cons_of_mem _ hx)
theorem tStr_mk {ls : List Lot} (G : ∀ l ∈ ls, 0 < l.retainedDen) (m : Nat) : tStr ls m = mk (totalN ls m) (scaleN ls m) := by
  have hD : 0 < scaleN ls m := scale_pos G
  unfold tStr totalN
  have z : Rational.zero = mk 0 (scaleN ls m) := by
    rw [zero_mk]
    exact mk_cross Nat.one_pos hD (by omega)
  rw [z]
  exact total_over hD ls 0 fun l hl => ⟨G l hl, scale_dvd hl⟩
theorem mean_mk {lots : List Lot} {mask : Nat} (G : ∀ l ∈ sel lots mask, 0 < l.retainedDen) (hW : 0 < wsum (sel lots mask)) (m : Nat) :
    meanStrength lots (members lots.length mask) m = mk (meanP (sel lots mask) m) (meanQ (sel lots mask) m) := by
  have hD : 0 < scaleN (sel lots mask) m := scale_pos G
  unfold meanStrength
  rw [weight_sel, if_neg (by omega), total_sel, tStr_mk G]
  show mk _ _ * mk 1 _ = _
  rw [mul_mk hD hW, Nat.mul_one]
  rfl
theorem meanQ_pos {ls : List Lot} (G : ∀ l ∈ ls, 0 < l.retainedDen) (hW : 0 < wsum ls) (m : Nat) : 0 < meanQ ls m := Nat.mul_pos (scale_pos G) hW
theorem mem_sel {lots : List Lot} {mask : Nat} {l : Lot} (h : l ∈ sel lots mask) : l ∈ lots := by
  unfold sel at h
  obtain ⟨i, hi, rfl⟩ := List.mem_map.mp h
  have hl : i < lots.length := List.mem_range.mp (List.mem_filter.mp hi).1
  unfold lotAt
  rw [List.getD_eq_getElem?_getD, List.getElem?_eq_getElem hl]
  exact List.getElem_mem hl
theorem good_rows {ks : List Nat} (h : lotsOk ks = true) : Good (rowsOf ks) := by
  unfold lotsOk at h
  rw [Bool.and_eq_true] at h
  exact fun l hl => List.all_eq_true.mp h.2 l hl
theorem len_rows {ks : List Nat} (h : lotsOk ks = true) : (rowsOf ks).length ≤ 6 := by
  unfold lotsOk at h
  rw [Bool.and_eq_true, Bool.and_eq_true] at h
  have a := of_decide_eq_true h.1.2
  rw [rows_len]
  omega
theorem Good.sel {lots : List Lot} (G : Good lots) (mask : Nat) : Good (sel lots mask) := fun l hl => G l (mem_sel hl)
theorem Good.dens {lots : List Lot} (G : Good lots) : ∀ l ∈ lots, 0 < l.retainedDen := fun _ h => G.den h
end Fl
namespace Fl
open Ks604
/-! ### the errors -/
def argErr (ks : List Nat) (value low high : Nat) : Int := if lotsOk ks = true then (if low ≤ value ∧ value ≤ high then 0 else -22) else -22
def setErr (ks : List Nat) (mask : Nat) : Int := if 2 ^ (rowsOf ks).length ≤ mask then -22 else if 0 < wsum (sel (rowsOf ks) mask) then 0 else -6
def mixErr (ks : List Nat) (value low high mask : Nat) : Int := if argErr ks value low high < 0 then argErr ks value low high else setErr ks mask
theorem arg_ok {ks : List Nat} {value low high : Nat} (h : ¬ argErr ks value low high < 0) : lotsOk ks = true ∧ low ≤ value ∧ value ≤ high := by
  unfold argErr at h
  by_cases c : lotsOk ks = true
  · rw [if_pos c] at h
    by_cases d : low ≤ value ∧ value ≤ high
    · exact ⟨c, d⟩
    · rw [if_neg d] at h
      omega
  · rw [if_neg c] at h
    omega
theorem arg_bad {ks : List Nat} {value low high : Nat} (h : argErr ks value low high < 0) : argErr ks value low high = -22 ∧ (lotsOk ks = true → ¬ (low ≤ value ∧ value ≤ high)) := by
  unfold argErr at h ⊢
  by_cases c : lotsOk ks = true
  · rw [if_pos c] at h ⊢
    by_cases d : low ≤ value ∧ value ≤ high
    · rw [if_pos d] at h
      omega
    · rw [if_neg d]
      exact ⟨rfl, fun _ => d⟩
  · rw [if_neg c]
    exact ⟨rfl, fun z => absurd z c⟩
theorem mix_ok {ks : List Nat} {value low high mask : Nat} (h : ¬ mixErr ks value low high mask < 0) : lotsOk ks = true ∧ low ≤ value ∧ value ≤ high ∧ mask < 2 ^ (rowsOf ks).length ∧ 0 < wsum (sel (rowsOf ks) mask) := by
  unfold mixErr at h
  by_cases c : argErr ks value low high < 0
  · rw [if_pos c] at h
    exact absurd c h
  · rw [if_neg c] at h
    obtain ⟨h1, h2, h3⟩ := arg_ok c
    refine ⟨h1, h2, h3, ?_⟩
    unfold setErr at h
    by_cases d : 2 ^ (rowsOf ks).length ≤ mask
    · rw [if_pos d] at h
      omega
    · rw [if_neg d] at h
      by_cases e : 0 < wsum (sel (rowsOf ks) mask)
      · exact ⟨by omega, e⟩
      · rw [if_neg e] at h
        omega
/-- what the specification's guards come to -/
theorem guard_bad {ks : List Nat} {value low high mask : Nat} {b : Lots → Bool} {f : Lots → List Nat → Result} (hb : ∀ l, b l = decide (¬ (low ≤ value ∧ value ≤ high))) (h : mixErr ks value low high mask < 0) :
    withLots ks (fun lots => if b lots = true then number (-22) else withSet lots mask (f lots)) = number (mixErr ks value low high mask) := by
  rw [withLots_eq]
  unfold mixErr at h ⊢
  by_cases c : argErr ks value low high < 0
  · rw [if_pos c]
    obtain ⟨e, g⟩ := arg_bad c
    rw [e]
    by_cases l : lotsOk ks = true
    · rw [if_pos l, if_pos]
      rw [hb]
      exact decide_eq_true (g l)
    · rw [if_neg l]
  · rw [if_neg c] at h ⊢
    obtain ⟨h1, h2, h3⟩ := arg_ok c
    rw [if_pos h1, if_neg (by rw [hb, decide_eq_false (fun z => z ⟨h2, h3⟩)]; exact Bool.false_ne_true)]
    unfold withSet
    unfold setErr at h ⊢
    by_cases d : 2 ^ (rowsOf ks).length ≤ mask
    · rw [if_pos d, if_pos d]
    · rw [if_neg d] at h ⊢
      rw [if_neg d, weight_sel]
      by_cases e : 0 < wsum (sel (rowsOf ks) mask)
      · rw [if_pos e] at h
        omega
      · rw [if_neg e, if_pos (by omega)]
theorem guard_ok {ks : List Nat} {value low high mask : Nat} {b : Lots → Bool} {f : Lots → List Nat → Result} (hb : ∀ l, b l = decide (¬ (low ≤ value ∧ value ≤ high))) (h : ¬ mixErr ks value low high mask < 0) :
    withLots ks (fun lots => if b lots = true then number (-22) else withSet lots mask (f lots)) = f (rowsOf ks) (members (rowsOf ks).length mask) := by
  obtain ⟨h1, h2, h3, h4, h5⟩ := mix_ok h
  rw [withLots_eq, if_pos h1, if_neg (by rw [hb, decide_eq_false (fun z => z ⟨h2, h3⟩)]; exact Bool.false_ne_true)]
  unfold withSet
  rw [if_neg (by omega), weight_sel, if_neg (by omega)]
/-! ### the mean, reduced -/
def mp (ls : List Lot) (m : Nat) : Nat := lowP (meanP ls m) (meanQ ls m)
def mq (ls : List Lot) (m : Nat) : Nat := lowQ (meanP ls m) (meanQ ls m)
theorem mk_low {p q : Nat} (h : 0 < q) : mk (lowP p q) (lowQ p q) = mk p q := mk_cross (den_pos h) h low_cross
theorem pair_mk {p q : Nat} (h : 0 < q) : pairs [mk p q] = [((lowP p q : Nat) : Int), ((lowQ p q : Nat) : Int)] := by
  show [(mk p q).num, ((mk p q).den : Int)] = _
  rw [mk_num h, mk_den h]
  rfl
theorem back (ks : List Nat) : (ks.map Int.ofNat).map Int.toNat = ks := by
  rw [List.map_map]
  exact (List.map_congr_left fun x _ => rfl).trans (List.map_id ks)
/-! ### s01 -/
theorem s01_bad {ks : List Nat} {mask month : Nat} (h : mixErr ks month 0 40 mask < 0) : PyKs604.mean_strength (mask : Int) (month : Int) (ks.map Int.ofNat) = [mixErr ks month 0 40 mask] := by
  show Ks604Neutral.integers (withLots ((ks.map Int.ofNat).map Int.toNat) fun lots => if 40 < month then number (-22) else withSet lots mask fun set => { value := 0, rest := pairs [meanStrength lots set month] }) = _
  rw [back]
  have e := guard_bad (ks := ks) (value := month) (low := 0) (high := 40) (mask := mask) (b := fun _ => decide (40 < month)) (f := fun lots set => { value := 0, rest := pairs [meanStrength lots set month] })
    (fun l => decide_eq_decide.mpr (by omega)) h
  simp only [decide_eq_true_eq] at e
  rw [e]
  rfl
theorem s01_ok {ks : List Nat} {mask month : Nat} (h : ¬ mixErr ks month 0 40 mask < 0) : PyKs604.mean_strength (mask : Int) (month : Int) (ks.map Int.ofNat) = [0, ((mp (sel (rowsOf ks) mask) month : Nat) : Int), ((mq (sel (rowsOf ks) mask) month : Nat) : Int)] := by
  show Ks604Neutral.integers (withLots ((ks.map Int.ofNat).map Int.toNat) fun lots => if 40 < month then number (-22) else withSet lots mask fun set => { value := 0, rest := pairs [meanStrength lots set month] }) = _
  rw [back]
  have e := guard_ok (ks := ks) (value := month) (low := 0) (high := 40) (mask := mask) (b := fun _ => decide (40 < month)) (f := fun lots set => { value := 0, rest := pairs [meanStrength lots set month] })
    (fun l => decide_eq_decide.mpr (by omega)) h
  simp only [decide_eq_true_eq] at e
  rw [e]
  obtain ⟨h1, h2, h3, h4, h5⟩ := mix_ok h
  have G := ((good_rows h1).sel mask).dens
  rw [mean_mk G h5, pair_mk (meanQ_pos G h5 _)]
  rfl
/-! ### s02 -/
/-- the mean is at least a whole number -/
def least (ls : List Lot) (m thr : Nat) : Bool := decide (thr * mq ls m ≤ mp ls m)
theorem low_le {p q t : Nat} (h : 0 < q) : t * lowQ p q ≤ lowP p q ↔ t * q ≤ p := by
  have g := gcd_pos (p := p) h
  have a := @num_back p q
  have b := @den_back p q
  unfold lowP lowQ
  generalize p / Nat.gcd p q = x at *
  generalize q / Nat.gcd p q = y at *
  generalize Nat.gcd p q = d at *
  subst a b
  rw [show t * (d * y) = d * (t * y) by ac_rfl]
  exact ⟨fun z => Nat.mul_le_mul_left _ z, fun z => Nat.le_of_mul_le_mul_left z g⟩
theorem least_eq {lots : List Lot} {mask : Nat} (G : ∀ l ∈ sel lots mask, 0 < l.retainedDen) (hW : 0 < wsum (sel lots mask)) (m t : Nat) :
    Rational.le (Rational.ofNat t) (meanStrength lots (members lots.length mask) m) = least (sel lots mask) m t := by
  rw [mean_mk G hW, ofNat_mk, le_mk Nat.one_pos (meanQ_pos G hW m)]
  refine decide_eq_decide.mpr (Iff.trans ?_ (low_le (meanQ_pos G hW m)).symm)
  rw [Nat.mul_one]
def lastN (ls : List Lot) (t k : Nat) : Int := (List.range k).foldl (fun f m => if least ls m t = true then (m : Int) else f) (-33)
theorem lastN_succ (ls : List Lot) (t k : Nat) : lastN ls t (k + 1) = if least ls k t = true then (k : Int) else lastN ls t k := by
  unfold lastN
  rw [List.range_succ, List.foldl_append]
  rfl
theorem fold_last (t : Nat → Bool) : ∀ (l : List Nat) (d : Int), l.foldl (fun f m => if t m = true then (m : Int) else f) d = match (l.filter t).getLast? with
    | none => d
    | some m => (m : Int)
  | [], d => rfl
  | x :: r, d => by
    show r.foldl _ (if t x = true then (x : Int) else d) = _
    rw [fold_last t r]
    by_cases c : t x = true
    · rw [if_pos c, List.filter_cons_of_pos c]
      cases e : r.filter t with
      | nil => rfl
      | cons y s =>
        rw [List.getLast?_cons_cons]
        obtain ⟨z, hz⟩ : ∃ z, (y :: s).getLast? = some z := ⟨_, List.getLast?_eq_some_getLast (List.cons_ne_nil _ _)⟩
        rw [hz]
    · rw [if_neg c, List.filter_cons_of_neg c]
theorem s02_bad {ks : List Nat} {mask t : Nat} (h : mixErr ks t 0 999 mask < 0) : PyKs604.last_month_at (mask : Int) (t : Int) (ks.map Int.ofNat) = [mixErr ks t 0 999 mask] := by
  show Ks604Neutral.integers (withLots ((ks.map Int.ofNat).map Int.toNat) fun lots => if 999 < t then number (-22) else withSet lots mask fun set => match lastMonthAt lots set t with
    | none => number (-33)
    | some month => number month) = _
  rw [back]
  have e := guard_bad (ks := ks) (value := t) (low := 0) (high := 999) (mask := mask) (b := fun _ => decide (999 < t)) (f := fun lots set => match lastMonthAt lots set t with
    | none => number (-33)
    | some month => number month)
    (fun l => decide_eq_decide.mpr (by omega)) h
  simp only [decide_eq_true_eq] at e
  rw [e]
  rfl
theorem s02_ok {ks : List Nat} {mask t : Nat} (h : ¬ mixErr ks t 0 999 mask < 0) : PyKs604.last_month_at (mask : Int) (t : Int) (ks.map Int.ofNat) = [lastN (sel (rowsOf ks) mask) t 41] := by
  show Ks604Neutral.integers (withLots ((ks.map Int.ofNat).map Int.toNat) fun lots => if 999 < t then number (-22) else withSet lots mask fun set => match lastMonthAt lots set t with
    | none => number (-33)
    | some month => number month) = _
  rw [back]
  have e := guard_ok (ks := ks) (value := t) (low := 0) (high := 999) (mask := mask) (b := fun _ => decide (999 < t)) (f := fun lots set => match lastMonthAt lots set t with
    | none => number (-33)
    | some month => number month)
    (fun l => decide_eq_decide.mpr (by omega)) h
  simp only [decide_eq_true_eq] at e
  rw [e]
  obtain ⟨h1, h2, h3, h4, h5⟩ := mix_ok h
  have G := ((good_rows h1).sel mask).dens
  unfold lastMonthAt lastN
  rw [fold_last]
  have e2 : (fun month => Rational.le (Rational.ofNat t) (meanStrength (rowsOf ks) (members (rowsOf ks).length mask) month)) = fun m => least (sel (rowsOf ks) mask) m t := by
    funext m
    exact least_eq G h5 m t
  rw [e2]
  show Ks604Neutral.integers (match ((List.range 41).filter fun m => least (sel (rowsOf ks) mask) m t).getLast? with
    | none => number (-33)
    | some month => number month) = _
  cases ((List.range 41).filter fun m => least (sel (rowsOf ks) mask) m t).getLast? with
  | none => rfl
  | some m => rfl
/-! ### s03 -/
def bestStep (lots : List Lot) (t m : Nat) (s : Nat × Nat) (mask : Nat) : Nat × Nat :=
  if (decide (s.1 < wsum (sel lots mask)) && least (sel lots mask) m t) = true then (wsum (sel lots mask), mask) else s
def bestN (lots : List Lot) (t m k : Nat) : Nat × Nat := (List.range k).foldl (bestStep lots t m) (0, 0)
theorem bestN_succ (lots : List Lot) (t m k : Nat) : bestN lots t m (k + 1) = bestStep lots t m (bestN lots t m k) k := by
  unfold bestN
  rw [List.range_succ, List.foldl_append]
  rfl
theorem sel_zero (lots : List Lot) : sel lots 0 = [] := by
  unfold sel
  have e : (List.range lots.length).filter (fun i => Nat.testBit 0 i) = [] := List.filter_eq_nil_iff.mpr fun i _ => by
    rw [Nat.zero_testBit]
    exact Bool.false_ne_true
  rw [e]
  rfl
def specStep (lots : List Lot) (t m best mask : Nat) : Nat :=
  let set := members lots.length mask
  if Rational.le (Rational.ofNat t * Rational.ofNat (totalWeight lots set)) (totalStrength lots set m) && decide (totalWeight lots (members lots.length best) < totalWeight lots set)
  then mask else best
theorem step_eq {lots : List Lot} (G : Good lots) (t m best mask : Nat) : bestStep lots t m (wsum (sel lots best), best) mask = (wsum (sel lots (specStep lots t m best mask)), specStep lots t m best mask) := by
  have Gs := (G.sel mask).dens
  have hD : 0 < scaleN (sel lots mask) m := scale_pos Gs
  unfold specStep bestStep
  dsimp only
  rw [weight_sel, weight_sel, total_sel, tStr_mk Gs, ofNat_mk, ofNat_mk, mul_mk Nat.one_pos Nat.one_pos, le_mk (by decide) hD, Nat.mul_one]
  by_cases c : wsum (sel lots best) < wsum (sel lots mask)
  · have hW : 0 < wsum (sel lots mask) := by omega
    have e : least (sel lots mask) m t = decide (t * wsum (sel lots mask) * scaleN (sel lots mask) m ≤ totalN (sel lots mask) m) := by
      refine decide_eq_decide.mpr (Iff.trans (low_le (meanQ_pos Gs hW m)) ?_)
      unfold meanQ meanP
      rw [show t * (scaleN (sel lots mask) m * wsum (sel lots mask)) = t * wsum (sel lots mask) * scaleN (sel lots mask) m by ac_rfl]
    rw [decide_eq_true c, e, Bool.true_and, Bool.and_true]
    by_cases d : decide (t * wsum (sel lots mask) * scaleN (sel lots mask) m ≤ totalN (sel lots mask) m) = true
    · rw [if_pos d, if_pos d]
    · rw [if_neg d, if_neg d]
  · rw [decide_eq_false c, Bool.false_and, Bool.and_false, if_neg Bool.false_ne_true, if_neg Bool.false_ne_true]
theorem fold_best {lots : List Lot} (G : Good lots) (t m : Nat) : ∀ (l : List Nat) (best : Nat), l.foldl (bestStep lots t m) (wsum (sel lots best), best) = (wsum (sel lots (l.foldl (specStep lots t m) best)), l.foldl (specStep lots t m) best)
  | [], _ => rfl
  | x :: r, best => by
    show r.foldl (bestStep lots t m) (bestStep lots t m (wsum (sel lots best), best) x) = _
    rw [step_eq G, fold_best G t m r]
    rfl
theorem best_eq {lots : List Lot} (G : Good lots) (t m : Nat) : bestN lots t m (2 ^ lots.length) = (wsum (sel lots (heaviestSet lots t m)), heaviestSet lots t m) := by
  have e := fold_best G t m (List.range (2 ^ lots.length)) 0
  rw [sel_zero] at e
  exact e
/-- both numbers' errors: the month's is asked first, both are the same -/
theorem s03_bad {ks : List Nat} {t month : Nat} (h : argErr ks month 0 40 < 0 ∨ argErr ks t 0 999 < 0) : PyKs604.heaviest_set (t : Int) (month : Int) (ks.map Int.ofNat) = [-22] := by
  show Ks604Neutral.integers (withLots ((ks.map Int.ofNat).map Int.toNat) fun lots => if 999 < t ∨ 40 < month then number (-22) else _) = _
  rw [back, withLots_eq]
  by_cases l : lotsOk ks = true
  · rw [if_pos l, if_pos]
    · rfl
    · rcases h with h | h
      · have := (arg_bad h).2 l
        omega
      · have := (arg_bad h).2 l
        omega
  · rw [if_neg l]
    rfl
theorem s03_ok {ks : List Nat} {t month : Nat} (h : ¬ argErr ks month 0 40 < 0) (h' : ¬ argErr ks t 0 999 < 0) :
    PyKs604.heaviest_set (t : Int) (month : Int) (ks.map Int.ofNat) = [(((bestN (rowsOf ks) t month (2 ^ (rowsOf ks).length)).1 : Nat) : Int), (((bestN (rowsOf ks) t month (2 ^ (rowsOf ks).length)).2 : Nat) : Int)] := by
  show Ks604Neutral.integers (withLots ((ks.map Int.ofNat).map Int.toNat) fun lots => if 999 < t ∨ 40 < month then number (-22) else { value := totalWeight lots (members lots.length (heaviestSet lots t month)), rest := Ks604.integers [heaviestSet lots t month] }) = _
  obtain ⟨h1, _, h3⟩ := arg_ok h
  obtain ⟨_, _, h4⟩ := arg_ok h'
  rw [back, withLots_eq, if_pos h1, if_neg (by omega), best_eq (good_rows h1), weight_sel]
  rfl
/-! ### s04 -/
theorem mp_zero {lots : List Lot} {mask : Nat} (G : ∀ l ∈ sel lots mask, 0 < l.retainedDen) (hW : 0 < wsum (sel lots mask)) (m : Nat) : totalStrength lots (members lots.length mask) m = Rational.zero ↔ mp (sel lots mask) m = 0 := by
  have hD : 0 < scaleN (sel lots mask) m := scale_pos G
  have hQ := meanQ_pos G hW m
  rw [total_sel, tStr_mk G, zero_mk, eq_mk hD Nat.one_pos, Nat.zero_mul, Nat.mul_one]
  unfold mp lowP
  have a := @num_back (meanP (sel lots mask) m) (meanQ (sel lots mask) m)
  have g := gcd_pos (p := meanP (sel lots mask) m) hQ
  show meanP (sel lots mask) m = 0 ↔ _
  constructor
  · intro z
    rw [z]
    exact Nat.zero_div _
  · intro z
    rw [z, Nat.mul_zero] at a
    exact a.symm
theorem mp_pos_total {lots : List Lot} {mask m : Nat} (hp : mp (sel lots mask) m ≠ 0) : 0 < totalN (sel lots mask) m := by
  rcases Nat.eq_zero_or_pos (totalN (sel lots mask) m) with z | z
  · exfalso
    apply hp
    unfold mp lowP meanP
    rw [z]
    exact Nat.zero_div _
  · exact z
theorem mq_pos {ls : List Lot} (G : ∀ l ∈ ls, 0 < l.retainedDen) (hW : 0 < wsum ls) (m : Nat) : 0 < mq ls m := den_pos (meanQ_pos G hW m)
theorem ret_mk {lots : List Lot} {mask m : Nat} (G : ∀ l ∈ sel lots mask, 0 < l.retainedDen) (hW : 0 < wsum (sel lots mask)) (hp : mp (sel lots mask) m ≠ 0) :
    retention lots (members lots.length mask) m = mk (mp (sel lots mask) (m + 1) * mq (sel lots mask) m) (mq (sel lots mask) (m + 1) * mp (sel lots mask) m) := by
  have hD : 0 < scaleN (sel lots mask) m := scale_pos G
  have hD1 : 0 < scaleN (sel lots mask) (m + 1) := scale_pos G
  have hT := mp_pos_total hp
  have e : mk (mp (sel lots mask) (m + 1) * mq (sel lots mask) m) (mq (sel lots mask) (m + 1) * mp (sel lots mask) m) = mk (mp (sel lots mask) (m + 1)) (mq (sel lots mask) (m + 1)) / mk (mp (sel lots mask) m) (mq (sel lots mask) m) :=
    (div_mk (mq_pos G hW _) (Nat.pos_of_ne_zero hp) (mq_pos G hW _)).symm
  rw [e]
  unfold mp mq
  have hT' : 0 < meanP (sel lots mask) m := hT
  rw [mk_low (meanQ_pos G hW _), mk_low (meanQ_pos G hW _), div_mk (meanQ_pos G hW _) hT' (meanQ_pos G hW _)]
  unfold retention
  rw [total_sel, total_sel, tStr_mk G, tStr_mk G, div_mk hD1 hT hD]
  refine mk_cross (Nat.mul_pos hD1 hT) (Nat.mul_pos (meanQ_pos G hW _) hT) ?_
  unfold meanQ meanP
  ac_rfl
theorem s04_bad {ks : List Nat} {mask month : Nat} (h : mixErr ks month 0 39 mask < 0) : PyKs604.retention (mask : Int) (month : Int) (ks.map Int.ofNat) = [mixErr ks month 0 39 mask] := by
  show Ks604Neutral.integers (withLots ((ks.map Int.ofNat).map Int.toNat) fun lots => if 40 ≤ month then number (-22) else withSet lots mask fun set => if totalStrength lots set month = Rational.zero then number (-33) else { value := 0, rest := pairs [retention lots set month] }) = _
  rw [back]
  have e := guard_bad (ks := ks) (value := month) (low := 0) (high := 39) (mask := mask) (b := fun _ => decide (40 ≤ month)) (f := fun lots set => if totalStrength lots set month = Rational.zero then number (-33) else { value := 0, rest := pairs [retention lots set month] })
    (fun l => decide_eq_decide.mpr (by omega)) h
  simp only [decide_eq_true_eq] at e
  rw [e]
  rfl
theorem s04_mid {ks : List Nat} {mask month : Nat} (h : ¬ mixErr ks month 0 39 mask < 0) : PyKs604.retention (mask : Int) (month : Int) (ks.map Int.ofNat) = Ks604Neutral.integers (if totalStrength (rowsOf ks) (members (rowsOf ks).length mask) month = Rational.zero then number (-33) else { value := 0, rest := pairs [retention (rowsOf ks) (members (rowsOf ks).length mask) month] }) := by
  show Ks604Neutral.integers (withLots ((ks.map Int.ofNat).map Int.toNat) fun lots => if 40 ≤ month then number (-22) else withSet lots mask fun set => if totalStrength lots set month = Rational.zero then number (-33) else { value := 0, rest := pairs [retention lots set month] }) = _
  rw [back]
  have e := guard_ok (ks := ks) (value := month) (low := 0) (high := 39) (mask := mask) (b := fun _ => decide (40 ≤ month)) (f := fun lots set => if totalStrength lots set month = Rational.zero then number (-33) else { value := 0, rest := pairs [retention lots set month] })
    (fun l => decide_eq_decide.mpr (by omega)) h
  simp only [decide_eq_true_eq] at e
  rw [e]
theorem s04_zero {ks : List Nat} {mask month : Nat} (h : ¬ mixErr ks month 0 39 mask < 0) (z : mp (sel (rowsOf ks) mask) month = 0) : PyKs604.retention (mask : Int) (month : Int) (ks.map Int.ofNat) = [-33] := by
  obtain ⟨h1, h2, h3, h4, h5⟩ := mix_ok h
  have G := ((good_rows h1).sel mask).dens
  rw [s04_mid h, if_pos ((mp_zero G h5 month).mpr z)]
  rfl
theorem s04_ok {ks : List Nat} {mask month : Nat} (h : ¬ mixErr ks month 0 39 mask < 0) (z : mp (sel (rowsOf ks) mask) month ≠ 0) : PyKs604.retention (mask : Int) (month : Int) (ks.map Int.ofNat) =
    [0, ((lowP (mp (sel (rowsOf ks) mask) (month + 1) * mq (sel (rowsOf ks) mask) month) (mq (sel (rowsOf ks) mask) (month + 1) * mp (sel (rowsOf ks) mask) month) : Nat) : Int), ((lowQ (mp (sel (rowsOf ks) mask) (month + 1) * mq (sel (rowsOf ks) mask) month) (mq (sel (rowsOf ks) mask) (month + 1) * mp (sel (rowsOf ks) mask) month) : Nat) : Int)] := by
  obtain ⟨h1, h2, h3, h4, h5⟩ := mix_ok h
  have G := ((good_rows h1).sel mask).dens
  rw [s04_mid h, if_neg (fun q => z ((mp_zero G h5 month).mp q)), ret_mk G h5 z, pair_mk (Nat.mul_pos (mq_pos G h5 _) (Nat.pos_of_ne_zero z))]
  rfl
/-! ### s05 -/
def reduced (ls : List Lot) (factor m : Nat) : Bool := decide (factor * mp ls m * mq ls 0 ≤ mp ls 0 * mq ls m)
theorem mean_low {lots : List Lot} {mask : Nat} (G : ∀ l ∈ sel lots mask, 0 < l.retainedDen) (hW : 0 < wsum (sel lots mask)) (m : Nat) : meanStrength lots (members lots.length mask) m = mk (mp (sel lots mask) m) (mq (sel lots mask) m) := by
  rw [mean_mk G hW]
  exact (mk_low (meanQ_pos G hW m)).symm
theorem reduced_eq {lots : List Lot} {mask : Nat} (G : ∀ l ∈ sel lots mask, 0 < l.retainedDen) (hW : 0 < wsum (sel lots mask)) (f m : Nat) :
    Rational.le (Rational.ofNat f * meanStrength lots (members lots.length mask) m) (meanStrength lots (members lots.length mask) 0) = reduced (sel lots mask) f m := by
  rw [mean_low G hW, mean_low G hW, ofNat_mk, mul_mk Nat.one_pos (mq_pos G hW m), Nat.one_mul, le_mk (mq_pos G hW m) (mq_pos G hW 0)]
  rfl
theorem s05_bad {ks : List Nat} {mask f : Nat} (h : mixErr ks f 1 99 mask < 0) : PyKs604.first_month_reduced (mask : Int) (f : Int) (ks.map Int.ofNat) = [mixErr ks f 1 99 mask] := by
  show Ks604Neutral.integers (withLots ((ks.map Int.ofNat).map Int.toNat) fun lots => if f < 1 ∨ 99 < f then number (-22) else withSet lots mask fun set => match firstMonthReduced lots set f with
    | none => number (-33)
    | some month => number month) = _
  rw [back]
  have e := guard_bad (ks := ks) (value := f) (low := 1) (high := 99) (mask := mask) (b := fun _ => decide (f < 1 ∨ 99 < f)) (f := fun lots set => match firstMonthReduced lots set f with
    | none => number (-33)
    | some month => number month)
    (fun l => decide_eq_decide.mpr (by omega)) h
  simp only [decide_eq_true_eq] at e
  rw [e]
  rfl
theorem s05_mid {ks : List Nat} {mask f : Nat} (h : ¬ mixErr ks f 1 99 mask < 0) : PyKs604.first_month_reduced (mask : Int) (f : Int) (ks.map Int.ofNat) = match (List.range 41).find? (reduced (sel (rowsOf ks) mask) f) with
    | none => [-33]
    | some month => [(month : Int)] := by
  show Ks604Neutral.integers (withLots ((ks.map Int.ofNat).map Int.toNat) fun lots => if f < 1 ∨ 99 < f then number (-22) else withSet lots mask fun set => match firstMonthReduced lots set f with
    | none => number (-33)
    | some month => number month) = _
  rw [back]
  have e := guard_ok (ks := ks) (value := f) (low := 1) (high := 99) (mask := mask) (b := fun _ => decide (f < 1 ∨ 99 < f)) (f := fun lots set => match firstMonthReduced lots set f with
    | none => number (-33)
    | some month => number month)
    (fun l => decide_eq_decide.mpr (by omega)) h
  simp only [decide_eq_true_eq] at e
  rw [e]
  obtain ⟨h1, h2, h3, h4, h5⟩ := mix_ok h
  have G := ((good_rows h1).sel mask).dens
  unfold firstMonthReduced
  have e2 : (fun month => Rational.le (Rational.ofNat f * meanStrength (rowsOf ks) (members (rowsOf ks).length mask) month) (meanStrength (rowsOf ks) (members (rowsOf ks).length mask) 0)) = reduced (sel (rowsOf ks) mask) f := by
    funext m
    exact reduced_eq G h5 f m
  rw [e2]
  show Ks604Neutral.integers (match (List.range 41).find? (reduced (sel (rowsOf ks) mask) f) with
    | none => number (-33)
    | some month => number month) = _
  cases (List.range 41).find? (reduced (sel (rowsOf ks) mask) f) with
  | none => rfl
  | some m => rfl
theorem find_at {p : Nat → Bool} {n i : Nat} (hi : i < n) (h : p i = true) (hn : ∀ j, j < i → p j = false) : (List.range n).find? p = some i := by
  rw [List.find?_range_eq_some]
  exact ⟨h, List.mem_range.mpr hi, fun j hj => by rw [hn j hj]; rfl⟩
theorem find_no {p : Nat → Bool} {n : Nat} (hn : ∀ j, j < n → p j = false) : (List.range n).find? p = none := by
  rw [List.find?_eq_none]
  intro x hx
  rw [hn x (List.mem_range.mp hx)]
  exact Bool.false_ne_true
theorem s05_hit {ks : List Nat} {mask f i : Nat} (h : ¬ mixErr ks f 1 99 mask < 0) (hi : i < 41) (hr : reduced (sel (rowsOf ks) mask) f i = true) (hn : ∀ j, j < i → reduced (sel (rowsOf ks) mask) f j = false) :
    PyKs604.first_month_reduced (mask : Int) (f : Int) (ks.map Int.ofNat) = [(i : Int)] := by
  rw [s05_mid h, find_at hi hr hn]
theorem s05_none {ks : List Nat} {mask f : Nat} (h : ¬ mixErr ks f 1 99 mask < 0) (hn : ∀ j, j < 41 → reduced (sel (rowsOf ks) mask) f j = false) :
    PyKs604.first_month_reduced (mask : Int) (f : Int) (ks.map Int.ofNat) = [-33] := by
  rw [s05_mid h, find_no hn]
end Fl
namespace Fl
open Ks604
/-! ### s06 -/
def str (lots : List Lot) (m i : Nat) : Nat := scaledN (lotAt lots i) m (scaleN lots m)
/-- i may stand ahead of j -/
def Le (lots : List Lot) (m i j : Nat) : Prop := ¬ (str lots m i < str lots m j ∨ (str lots m i = str lots m j ∧ j < i))
theorem Le.tr {lots : List Lot} {m i j k : Nat} (a : Le lots m i j) (b : Le lots m j k) : Le lots m i k := by
  unfold Le at *
  omega
theorem Le.anti {lots : List Lot} {m i j : Nat} (a : Le lots m i j) (b : Le lots m j i) : i = j := by
  unfold Le at *
  omega
theorem at_over {lots : List Lot} (G : ∀ l ∈ lots, 0 < l.retainedDen) (m i : Nat) : strengthIn (lotAt lots i) m = mk (str lots m i) (scaleN lots m) := by
  have hD : 0 < scaleN lots m := scale_pos G
  unfold str
  by_cases h : i < lots.length
  · have hl : lotAt lots i ∈ lots := by
      unfold lotAt
      rw [List.getD_eq_getElem?_getD, List.getElem?_eq_getElem h]
      exact List.getElem_mem h
    exact strength_over (G _ hl) hD (scale_dvd hl)
  · have e : lotAt lots i = ⟨0, 0, 1, 1⟩ := by
      unfold lotAt
      rw [List.getD_eq_getElem?_getD, List.getElem?_eq_none (by omega)]
      rfl
    rw [e]
    exact strength_over (by decide) hD (by show 1 ^ m ∣ _; rw [Nat.one_pow]; exact Nat.one_dvd _)
theorem cond_iff {lots : List Lot} (G : ∀ l ∈ lots, 0 < l.retainedDen) (m i j : Nat) :
    (Rational.lt (strengthIn (lotAt lots j) m) (strengthIn (lotAt lots i) m) = true ∨ (strengthIn (lotAt lots j) m = strengthIn (lotAt lots i) m ∧ i < j)) ↔ ¬ Le lots m j i := by
  have hD : 0 < scaleN lots m := scale_pos G
  rw [at_over G, at_over G, lt_mk hD hD, decide_eq_true_eq, eq_mk hD hD]
  have e1 : str lots m j * scaleN lots m < str lots m i * scaleN lots m ↔ str lots m j < str lots m i := Nat.mul_lt_mul_right hD
  have e2 : str lots m j * scaleN lots m = str lots m i * scaleN lots m ↔ str lots m j = str lots m i := Nat.mul_right_cancel_iff hD
  rw [e1, e2]
  unfold Le
  omega
theorem ins_perm (lots : List Lot) (m i : Nat) : ∀ l : List Nat, (insertByStrength lots m i l).Perm (i :: l)
  | [] => List.Perm.refl _
  | j :: r => by
    unfold insertByStrength
    split
    · exact List.Perm.refl _
    · exact ((ins_perm lots m i r).cons j).trans (List.Perm.swap i j r)
theorem ins_sorted {lots : List Lot} (G : ∀ l ∈ lots, 0 < l.retainedDen) (m i : Nat) : ∀ l : List Nat, l.Pairwise (Le lots m) → (insertByStrength lots m i l).Pairwise (Le lots m)
  | [], _ => List.pairwise_singleton _ _
  | j :: r, h => by
    obtain ⟨h1, h2⟩ := List.pairwise_cons.mp h
    unfold insertByStrength
    by_cases c : ¬ Le lots m j i
    · rw [if_pos ((cond_iff G m i j).mpr c)]
      have e : Le lots m i j := by
        unfold Le at *
        omega
      refine List.pairwise_cons.mpr ⟨fun x hx => ?_, h⟩
      rcases List.mem_cons.mp hx with rfl | hx
      · exact e
      · exact e.tr (h1 x hx)
    · rw [if_neg (fun z => c ((cond_iff G m i j).mp z))]
      refine List.pairwise_cons.mpr ⟨fun x hx => ?_, ins_sorted G m i r h2⟩
      rcases List.mem_cons.mp ((ins_perm lots m i r).mem_iff.mp hx) with rfl | hx
      · exact Classical.not_not.mp c
      · exact h1 x hx
theorem ord_perm (lots : List Lot) (m : Nat) : ∀ l : List Nat, (l.foldr (insertByStrength lots m) []).Perm l
  | [] => List.Perm.refl _
  | i :: r => (ins_perm lots m i _).trans ((ord_perm lots m r).cons i)
theorem ord_sorted {lots : List Lot} (G : ∀ l ∈ lots, 0 < l.retainedDen) (m : Nat) : ∀ l : List Nat, (l.foldr (insertByStrength lots m) []).Pairwise (Le lots m)
  | [] => List.Pairwise.nil
  | i :: r => ins_sorted G m i _ (ord_sorted G m r)
theorem order_eq {lots : List Lot} (G : ∀ l ∈ lots, 0 < l.retainedDen) {m : Nat} {is : List Nat} (hp : is.Perm (List.range lots.length)) (hs : is.Pairwise (Le lots m)) : orderByStrength lots m = is :=
  List.Perm.eq_of_pairwise (le := Le lots m) (fun _ _ _ _ a b => a.anti b) (ord_sorted G m _) hs ((ord_perm lots m _).trans hp.symm)
theorem s06_bad {ks : List Nat} {month : Nat} (h : argErr ks month 0 40 < 0) : PyKs604.order_by_strength (month : Int) (ks.map Int.ofNat) = [argErr ks month 0 40] := by
  show Ks604Neutral.integers (withLots ((ks.map Int.ofNat).map Int.toNat) fun lots => if 40 < month then number (-22) else listResult (orderByStrength lots month)) = _
  rw [back, withLots_eq]
  obtain ⟨e, g⟩ := arg_bad h
  rw [e]
  by_cases l : lotsOk ks = true
  · have := g l
    rw [if_pos l, if_pos (by omega)]
    rfl
  · rw [if_neg l]
    rfl
theorem s06_ok {ks : List Nat} {month : Nat} (h : ¬ argErr ks month 0 40 < 0) {is : List Nat} (hp : is.Perm (List.range (rowsOf ks).length)) (hs : is.Pairwise (Le (rowsOf ks) month)) :
    PyKs604.order_by_strength (month : Int) (ks.map Int.ofNat) = ((rowsOf ks).length : Int) :: is.map Int.ofNat := by
  show Ks604Neutral.integers (withLots ((ks.map Int.ofNat).map Int.toNat) fun lots => if 40 < month then number (-22) else listResult (orderByStrength lots month)) = _
  obtain ⟨h1, h2, h3⟩ := arg_ok h
  rw [back, withLots_eq, if_pos h1, if_neg (by omega), order_eq (good_rows h1).dens hp hs]
  show ((is.length : Nat) : Int) :: Ks604.integers is = _
  rw [hp.length_eq, List.length_range]
  rfl
end Fl
namespace Fl
open PySem PySem.Spec PyProof.Rows L2
open PySem.W (Codec)
/-! ### the text by places -/
def topS (i : Nat) : Stmt := PySem.Challenge.pw_fadinglots_s04_retention.main.body.getD i (.Pass ⟨0, 0, 0, 0⟩)
abbrev sWithin : Stmt := topS 10
abbrev sPower : Stmt := topS 22
abbrev sGcd : Stmt := topS 23
abbrev sLow : Stmt := topS 24
/-! ### heaps -/
theorem same_upd {H : Hp} {p : Addr} {o : HO} (h : H p = none) : Same H (upd H p o) := fun b x e => by
  rw [upd_ne (ne_of_none e h)]
  exact e
/-! ### sizes -/
def B (k n : Nat) : Prop := n < 2 ^ k
theorem B.mono {a b n : Nat} (h : B a n) (l : a ≤ b) : B b n := Nat.lt_of_lt_of_le h (Nat.pow_le_pow_right (by decide) l)
theorem B.le {a n m : Nat} (h : B a n) (l : m ≤ n) : B a m := Nat.lt_of_le_of_lt l h
theorem B.mul {a b n m : Nat} (h : B a n) (h' : B b m) : B (a + b) (n * m) := by
  unfold B at *
  rw [Nat.pow_add]
  exact Nat.mul_lt_mul'' h h'
theorem B.pow {a n : Nat} (h : B a n) (ha : 0 < a) : ∀ i, B (a * i + 1) (n ^ i)
  | 0 => by
    show n ^ 0 < 2 ^ 1
    rw [Nat.pow_zero]
    decide
  | i + 1 => by
    have e : a * (i + 1) + 1 = a * i + 1 + a := by
      rw [Nat.mul_add, Nat.mul_one]
      omega
    rw [e]
    exact (B.pow h ha i).mul h
/-! ### operators over natural numbers -/
section
variable {X : Cx}
theorem op_mulB : OpR X (binaryOp .Mult) (fun x y H Q => ∃ n m : Nat, x = .int (n : Int) ∧ y = .int (m : Int) ∧ (B 5000 n ∧ B 5000 m) ∧ Q (.int ((n * m : Nat) : Int)) H) := by
  intro pins s σ H x y v u Q I rx ry h
  obtain ⟨n, m, rfl, rfl, c, q⟩ := h
  rw [Int.natCast_mul] at q
  exact op_mulW pins s σ H _ _ v u Q I rx ry ⟨_, _, rfl, rfl, wide_mul (i := (n : Int)) (j := (m : Int)) c.1 c.2 (by decide) (by decide) (by decide), q⟩
theorem op_fdivB : OpR X (binaryOp .FloorDiv) (fun x y H Q => ∃ n m : Nat, x = .int (n : Int) ∧ y = .int (m : Int) ∧ (0 < m ∧ B 5000 m) ∧ Q (.int ((n / m : Nat) : Int)) H) := by
  intro pins s σ H x y v u Q I rx ry h
  obtain ⟨n, m, rfl, rfl, c, q⟩ := h
  rw [Int.natCast_ediv] at q
  exact op_fdivW pins s σ H _ _ v u Q I rx ry ⟨_, _, rfl, rfl, wide_div (j := (m : Int)) (by have := c.1; omega) c.2 (by decide) (by decide), q⟩
theorem op_modB : OpR X (binaryOp .Mod) (fun x y H Q => ∃ n m : Nat, x = .int (n : Int) ∧ y = .int (m : Int) ∧ 0 < m ∧ Q (.int ((n % m : Nat) : Int)) H) := by
  intro pins s σ H x y v u Q I rx ry h
  obtain ⟨n, m, rfl, rfl, c, q⟩ := h
  have e : Int.fmod (n : Int) (m : Int) = ((n % m : Nat) : Int) := by
    rw [Int.fmod_eq_emod_of_nonneg _ (by omega), Int.natCast_emod]
  rw [← e] at q
  exact op_modN pins s σ H _ _ v u Q I rx ry ⟨_, _, rfl, rfl, by omega, q⟩
end
section
variable {P : Program} {w : World} {K : PySem.W.Frag} {mg : Str → Option Value} {base : Heap}
/-! ### is_within -/
theorem scWithin : FnScope ["value", "low", "high"] ["value", "low", "high"] (defScope sWithin) := ⟨rfl, rfl, rfl, by decide +kernel, rfl, by decide +kernel, by decide +kernel⟩
def spWithin : Sp := fun vs H Q _ => ∃ v l h : Int, vs = [.int v, .int l, .int h] ∧ Q (.bl (decide (l ≤ v ∧ v ≤ h))) H
theorem ok_within {f : Addr} {fd : FuncData} (F : Fun K "is_within" "is_within" sWithin f fd) : FnOk P w K mg base CX0 1 f fd ["value", "low", "high"] spWithin := by
  refine F.ok scWithin (fun vs H Q E h => ?_) (fun cdv A outer s H vs Q E hr h => ?_)
  · obtain ⟨v, l, h, rfl, _⟩ := h
    rfl
  · obtain ⟨v, l, h, rfl, q⟩ := h
    refine ⟨_, pss_one (ps_ret (pe_chain op_le op_le (pv 1) (pv 0) (pv 2))), ?_⟩
    refine ⟨_, rfl, _, rfl, l, v, rfl, rfl, _, rfl, ite2 (fun c => ?_) (fun c => ?_)⟩
    · have c1 : l ≤ v := of_decide_eq_true c
      refine ⟨_, rfl, v, h, rfl, rfl, ?_⟩
      have e : decide (l ≤ v ∧ v ≤ h) = decide (v ≤ h) := decide_eq_decide.mpr ⟨fun z => z.2, fun z => ⟨c1, z⟩⟩
      rw [e] at q
      exact q
    · have c1 : ¬ l ≤ v := fun z => c (decide_eq_true z)
      have e : decide (l ≤ v ∧ v ≤ h) = false := decide_eq_false fun z => c1 z.1
      rw [e] at q
      exact q
/-! ### power -/
theorem scPower : FnScope ["base", "times", "found", "turn"] ["base", "times"] (defScope sPower) := ⟨rfl, rfl, rfl, by decide +kernel, rfl, by decide +kernel, by decide +kernel⟩
def spPower : Sp := fun vs H Q _ => ∃ b t : Nat, vs = [.int b, .int t] ∧ (b ≤ 20 ∧ t ≤ 41) ∧ Q (.int ((b ^ t : Nat) : Int)) H
theorem pow_B {b i : Nat} (h : b ≤ 20) (hi : i ≤ 41) : B 206 (b ^ i) := by
  have h5 : B 5 b := by
    show b < 2 ^ 5
    omega
  exact (h5.pow (by decide) i).mono (by omega)
theorem ok_power {f : Addr} {fd : FuncData} (F : Fun K "power" "power" sPower f fd) (mr : mg "range" = none) : FnOk P w K mg base CX0 1 f fd ["base", "times"] spPower := by
  refine F.ok scPower (fun vs H Q E h => ?_) (fun cdv A outer s H vs Q E hr h => ?_)
  · obtain ⟨b, t, rfl, _⟩ := h
    rfl
  · obtain ⟨b, t, rfl, ⟨hb, ht⟩, q⟩ := h
    refine ⟨_, pss_cons (ps_set (i := 2) scPower.nd rfl (.inl rfl) pe_int)
      (pss_cons (ps_for PassesOwn.never rfl (pi_range1 (by rfl) mr (pa_cons (pv 1) pa_nil)) (pg_name (i := 3) scPower.nd rfl (.inl rfl))
        (pss_one (ps_set (i := 2) scPower.nd rfl (.inl rfl) (pe_op op_mulB (pv 2) (pv 0)))))
      (pss_one (ps_ret (pv 2)))), ?_⟩
    refine ⟨_, rfl, t, rfl, (by omega), (by omega), for_range (lo := 0) (n := t) (fun i σ H' => H' = H ∧ ∃ v, σ = [some (.int b), some (.int t), some (.int ((b ^ i : Nat) : Int)), v]) ⟨rfl, none, rfl⟩ ?_ ?_⟩
    · rintro i σ H' hi ⟨rfl, v, rfl⟩
      refine ⟨_, rfl, _, rfl, b ^ i, b, rfl, rfl, ⟨(pow_B hb (by omega)).mono (by decide), ?_⟩, rfl, _, rfl⟩
      show b < 2 ^ 5000
      exact Nat.lt_of_le_of_lt hb (by decide +kernel)
    · rintro σ H' ⟨rfl, v, rfl⟩
      exact ⟨_, rfl, q⟩
/-! ### divisor_of, lowest -/
theorem scGcd : FnScope ["one", "other"] ["one", "other"] (defScope sGcd) := ⟨rfl, rfl, rfl, by decide +kernel, rfl, by decide +kernel, by decide +kernel⟩
def spGcd : Sp := fun vs H Q _ => ∃ p q : Nat, vs = [.int p, .int q] ∧ Q (.int ((Nat.gcd p q : Nat) : Int)) H
def muGcd : L2.St → Nat
  | [_, some (.int b)] => b.toNat
  | _ => 0
theorem ok_gcd {f : Addr} {fd : FuncData} (F : Fun K "divisor_of" "divisor_of" sGcd f fd) : FnOk P w K mg base CX0 1 f fd ["one", "other"] spGcd := by
  refine F.ok scGcd (fun vs H Q E h => ?_) (fun cdv A outer s H vs Q E hr h => ?_)
  · obtain ⟨p, q, rfl, _⟩ := h
    rfl
  · obtain ⟨p, q, rfl, k⟩ := h
    refine ⟨_, pss_cons (ps_while PassesOwn.never (pt_cmpR op_gt (pv 1) pe_int (nomark _))
        (pss_one (ps_par (i := 0) (j := 1) rfl scGcd.nd rfl rfl (by decide) rfl rfl (pa_cons (pv 1) (pa_cons (pe_op op_modB (pv 0) (pv 1)) pa_nil)) (by rfl))))
      (pss_one (ps_ret (pv 0))), ?_⟩
    refine while_by (fun σ H' => H' = H ∧ ∃ a b : Nat, σ = [some (.int a), some (.int b)] ∧ Nat.gcd a b = Nat.gcd p q) (fun σ _ => muGcd σ) ⟨rfl, p, q, rfl, rfl⟩ ?_ (fun σ H Q Q' m ⟨v, h1, i, j, h2, h3, k, h4, q⟩ => ⟨v, h1, i, j, h2, h3, k, h4, m _ _ q⟩)
    rintro σ H' ⟨rfl, a, b, rfl, g⟩
    refine ⟨_, rfl, _, _, rfl, rfl, _, rfl, ite2 (fun c => ?_) (fun c => ?_)⟩
    · have hb : (0 : Int) < (b : Int) := of_decide_eq_true c
      have hb0 : 0 < b := by omega
      refine ⟨_, rfl, _, rfl, _, rfl, a, b, rfl, rfl, hb0, _, _, rfl, ⟨rfl, b, a % b, rfl, ?_⟩, ?_⟩
      · rw [Nat.gcd_comm, ← Nat.gcd_rec, Nat.gcd_comm]
        exact g
      · show ((a % b : Nat) : Int).toNat < (b : Int).toNat
        have := Nat.mod_lt a hb0
        omega
    · have hb : ¬ (0 : Int) < (b : Int) := fun z => c (decide_eq_true z)
      have hb0 : b = 0 := by omega
      subst hb0
      rw [Nat.gcd_zero_right] at g
      refine ⟨_, rfl, ?_⟩
      rw [← g] at k
      exact k
theorem scLow : FnScope ["above", "below", "divisor"] ["above", "below"] (defScope sLow) := ⟨rfl, rfl, rfl, by decide +kernel, rfl, by decide +kernel, by decide +kernel⟩
/-- a pair of numbers as a list -/
def pairV (p q : Nat) : List V := [.int (p : Int), .int (q : Int)]
def spLow : Sp := fun vs H Q _ => ∃ p q : Nat, vs = [.int p, .int q] ∧ (0 < q ∧ B 5000 q) ∧ ∀ H' r, Same H H' → H' r = some (.lst (pairV (lowP p q) (lowQ p q))) → Q (.ref r) H'
theorem ok_low {f fG : Addr} {fd fdG : FuncData} (F : Fun K "lowest" "lowest" sLow f fd) (FG : Fun K "divisor_of" "divisor_of" sGcd fG fdG) (bG : Binds K fdG ["one", "other"] []) (gG : mg "divisor_of" = some (.ref fG)) : FnOk P w K mg base CX0 2 f fd ["above", "below"] spLow := by
  have GG : FnOk P w K mg base CX0 1 fG fdG ["one", "other"] spGcd := ok_gcd FG
  refine F.ok scLow (fun vs H Q E h => ?_) (fun cdv A outer s H vs Q E hr h => ?_)
  · obtain ⟨p, q, rfl, _⟩ := h
    rfl
  · obtain ⟨p, q, rfl, ⟨hq, hB⟩, k⟩ := h
    refine ⟨_, pss_cons (ps_set (i := 2) scLow.nd rfl (.inl rfl) (pe_call GG hr (by rfl) gG FG.kp bG .nil pass0 (pa_cons (pv 0) (pa_cons (pv 1) pa_nil))))
      (pss_one (ps_ret (pe_lst (pa_cons (pe_op op_fdivB (pv 0) (pv 2)) (pa_cons (pe_op op_fdivB (pv 1) (pv 2)) pa_nil))))), ?_⟩
    have hg : 0 < Nat.gcd p q := gcd_pos hq
    have hgB : B 5000 (Nat.gcd p q) := hB.le (Nat.le_of_dvd hq (Nat.gcd_dvd_right p q))
    refine ⟨_, rfl, _, rfl, p, q, rfl, ?_⟩
    refine ⟨_, rfl, _, rfl, p, _, rfl, rfl, ⟨hg, hgB⟩, _, rfl, _, rfl, q, _, rfl, rfl, ⟨hg, hgB⟩, (by show 2 ≤ sizeLine; decide), fun r hr => ?_⟩
    exact k _ r (same_upd hr) upd_same
end
end Fl
namespace Fl
open PySem PySem.Spec PyProof.Rows L2
open PySem.W (Codec)
abbrev sRows : Stmt := topS 12
abbrev sIsLot : Stmt := topS 13
abbrev sAreLots : Stmt := topS 14
/-! ### lots in the heap: pairs of a tuple's address and the lot that stands there -/
abbrev Lot := Ks604.Lot
def nV (k : Nat) : V := .int (k : Int)
def lV (l : Lot) : List V := [nV l.weight, nV l.strength, nV l.retainedNum, nV l.retainedDen]
def refs (ps : List (Addr × Lot)) : List V := ps.map fun p => V.ref p.1
def Tups (H : Hp) (ps : List (Addr × Lot)) : Prop := ∀ p ∈ ps, H p.1 = some (.tup (lV p.2))
theorem Tups.same {H H' : Hp} {ps : List (Addr × Lot)} (t : Tups H ps) (s : Same H H') : Tups H' ps := fun p hp => s _ _ (t p hp)
theorem Tups.snoc {H : Hp} {ps : List (Addr × Lot)} {p : Addr × Lot} (t : Tups H ps) (h : H p.1 = some (.tup (lV p.2))) : Tups H (ps ++ [p]) := fun q hq => by
  rcases List.mem_append.mp hq with hq | hq
  · exact t q hq
  · obtain rfl : q = p := by simpa using hq
    exact h
theorem refs_snoc (ps : List (Addr × Lot)) (p : Addr × Lot) : refs (ps ++ [p]) = refs ps ++ [V.ref p.1] := List.map_append
theorem refs_len (ps : List (Addr × Lot)) : (refs ps).length = ps.length := List.length_map _
theorem refs_at {ps : List (Addr × Lot)} {i : Nat} {y : V} (h : (refs ps)[i]? = some y) : ∃ p, ps[i]? = some p ∧ y = V.ref p.1 := by
  unfold refs at h
  rw [List.getElem?_map] at h
  cases e : ps[i]? with
  | none =>
    rw [e] at h
    cases h
  | some p =>
    rw [e] at h
    exact ⟨p, rfl, (Option.some.inj h).symm⟩
theorem take_snoc {α : Type} {l : List α} {i : Nat} {x : α} (h : l[i]? = some x) : l.take (i + 1) = l.take i ++ [x] := by
  rw [List.take_add_one, h]
  rfl
/-- what was free before stands free of what is changed now -/
theorem same_push {H H1 : Hp} {o : Addr} {u : HO} (s : Same H H1) (ho : H o = none) : Same H (upd H1 o u) := fun b x e => by
  rw [upd_ne (ne_of_none e ho)]
  exact s b x e
theorem rows_at : ∀ (ks : List Nat) (i : Nat), 4 * i + 4 ≤ ks.length → ∃ a b c d, ks[4 * i]? = some a ∧ ks[4 * i + 1]? = some b ∧ ks[4 * i + 2]? = some c ∧ ks[4 * i + 3]? = some d ∧ (rowsOf ks)[i]? = some ⟨a, b, c, d⟩
  | [], i, h => by
    simp at h
  | [_], i, h => by simp at h
  | [_, _], i, h => by simp at h
  | [_, _, _], i, h => by simp at h
  | a :: b :: c :: d :: r, 0, _ => ⟨a, b, c, d, rfl, rfl, rfl, rfl, rfl⟩
  | a :: b :: c :: d :: r, i + 1, h => by
    obtain ⟨x, y, z, w, h1, h2, h3, h4, h5⟩ := rows_at r i (by simp only [List.length_cons] at h; omega)
    refine ⟨x, y, z, w, ?_, ?_, ?_, ?_, h5⟩
    · rw [show 4 * (i + 1) = 4 * i + 1 + 1 + 1 + 1 by omega]
      exact h1
    · rw [show 4 * (i + 1) + 1 = 4 * i + 1 + 1 + 1 + 1 + 1 by omega]
      exact h2
    · rw [show 4 * (i + 1) + 2 = 4 * i + 2 + 1 + 1 + 1 + 1 by omega]
      exact h3
    · rw [show 4 * (i + 1) + 3 = 4 * i + 3 + 1 + 1 + 1 + 1 by omega]
      exact h4
theorem nV_at {ks : List Nat} {i a : Nat} (h : ks[i]? = some a) : (ks.map nV)[i]? = some (nV a) := by
  rw [List.getElem?_map, h]
  rfl
theorem rg4 : ∀ n : Nat, n ≤ 6 → RgC 0 ((4 * n : Nat) : Int) 4 n
  | 0, _ => ⟨by decide, by decide, by decide +kernel, by decide +kernel⟩
  | 1, _ => ⟨by decide, by decide, by decide +kernel, by decide +kernel⟩
  | 2, _ => ⟨by decide, by decide, by decide +kernel, by decide +kernel⟩
  | 3, _ => ⟨by decide, by decide, by decide +kernel, by decide +kernel⟩
  | 4, _ => ⟨by decide, by decide, by decide +kernel, by decide +kernel⟩
  | 5, _ => ⟨by decide, by decide, by decide +kernel, by decide +kernel⟩
  | 6, _ => ⟨by decide, by decide, by decide +kernel, by decide +kernel⟩
  | n + 7, h => by omega
section
variable {P : Program} {w : World} {K : PySem.W.Frag} {mg : Str → Option Value} {base : Heap}
theorem pe_gint {X : Cx} {x : Str} {i : Int} {t : Tok} {pos : Pos} (hg : Gl X x) (hm : X.mg x = some (.int i t)) (hd : (x == ("__debug__" : Str)) = false := by decide) : PE X (.Name x pos) (tC (.int i)) := pe_glob hg hm ⟨t, rfl⟩ hd
/-! ### rows_of -/
theorem scRows : FnScope ["numbers", "found", "place"] ["numbers"] (defScope sRows) := ⟨rfl, rfl, rfl, by decide +kernel, rfl, by decide +kernel, by decide +kernel⟩
def spRows (K : PySem.W.Frag) : Sp := fun vs H Q _ => ∃ (a : Addr) (ks : List Nat) (n : Nat), vs = [.ref a] ∧ SqL K H a (ks.map nV) ∧ (ks.length = 4 * n ∧ n ≤ 6) ∧
  ∀ H' p ps, Same H H' → H' p = some (.lst (refs ps)) → Tups H' ps → ps.map (·.2) = rowsOf ks → Q (.ref p) H'
theorem ok_rows {f : Addr} {fd : FuncData} (F : Fun K "rows_of" "rows_of" sRows f fd) (mr : mg "range" = none) (ml : mg "len" = none) (mS : ∃ t, mg "LOT_SIZE" = some (.int 4 t)) : FnOk P w K mg base CX0 1 f fd ["numbers"] (spRows K) := by
  obtain ⟨tS, mS⟩ := mS
  refine F.ok scRows (fun vs H Q E h => ?_) (fun cdv A outer s H vs Q E hr h => ?_)
  · obtain ⟨a, ks, n, rfl, _⟩ := h
    rfl
  · obtain ⟨a, ks, n, rfl, hS, ⟨hk, hn⟩, q⟩ := h
    have hl : ((ks.map nV).length : Int) = ((4 * n : Nat) : Int) := by rw [List.length_map, hk]
    refine ⟨_, pss_cons (ps_set (i := 1) scRows.nd rfl (.inl rfl) (pe_lst pa_nil))
      (pss_cons (ps_for PassesOwn.never rfl (pi_range3 (by rfl) mr (pa_cons pe_int (pa_cons (pe_callB call_len_seq (by rfl) ml PySem.boot_len (pa_cons (pv 0) pa_nil)) (pa_cons (pe_gint rfl mS) pa_nil)))) (pg_name (i := 2) scRows.nd rfl (.inl rfl))
        (pss_one (ps_expr (pe_bm PySem.F.plainAttrs_list PySem.F.slot_list_append PySem.F.type_list_append mt_append (pv 1) (pa_cons (pe_tup (pa_cons (pe_ix ix_list (pv 0) (pv 2) (fun _ _ => rfl))
          (pa_cons (pe_ix ix_list (pv 0) (pe_op op_add (pv 2) pe_int) (fun _ _ => rfl)) (pa_cons (pe_ix ix_list (pv 0) (pe_op op_add (pv 2) pe_int) (fun _ _ => rfl)) (pa_cons (pe_ix ix_list (pv 0) (pe_op op_add (pv 2) pe_int) (fun _ _ => rfl)) pa_nil))))) pa_nil)))))
      (pss_one (ps_ret (pv 1)))), ?_⟩
    -- found = []
    refine ⟨Nat.zero_le _, fun o no => ?_⟩
    have s1 : Same H (upd H o (.lst [])) := same_upd no
    refine ⟨_, rfl, a, _, rfl, .inl (s1.seq hS), 0, _, 4, n, rfl, ?_, for_rangeC (lo := 0) (c := 4) (n := n) (fun i σ H' => ∃ v ps, σ = [some (.ref a), some (.ref o), v] ∧ Same H H' ∧ H' o = some (.lst (refs ps)) ∧ Tups H' ps ∧ ps.map (·.2) = (rowsOf ks).take i)
      ⟨none, [], rfl, s1, upd_same, (fun p hp => by cases hp), rfl⟩ ?_ ?_⟩
    · rw [hl]
      exact rg4 n hn
    · rintro i σ H' hi ⟨v, ps, rfl, s2, ho, ht, e⟩
      obtain ⟨x, y, z, u, h1, h2, h3, h4, h5⟩ := rows_at ks i (by omega)
      have hA : SqL K H' a (ks.map nV) := s2.seq hS
      refine ⟨_, rfl, .inl ⟨rfl, _, SqL.of ho⟩, ?_⟩
      refine ⟨_, rfl, _, rfl, a, _, _, nV x, rfl, rfl, hA, at_of (j := 4 * i) (by omega) (nV_at h1), ?_⟩
      refine ⟨_, rfl, _, rfl, _, _, rfl, rfl, a, _, _, nV y, rfl, rfl, hA, at_of (j := 4 * i + 1) (by omega) (nV_at h2), ?_⟩
      refine ⟨_, rfl, _, rfl, _, _, rfl, rfl, a, _, _, nV z, rfl, rfl, hA, at_of (j := 4 * i + 2) (by omega) (nV_at h3), ?_⟩
      refine ⟨_, rfl, _, rfl, _, _, rfl, rfl, a, _, _, nV u, rfl, rfl, hA, at_of (j := 4 * i + 3) (by omega) (nV_at h4), ?_⟩
      refine ⟨(by show 4 ≤ sizeLine; decide), fun t nt => ?_⟩
      have hto : o ≠ t := ne_of_none ho nt
      have sT : Same H' (upd H' t (.tup (lV ⟨x, y, z, u⟩))) := same_upd nt
      refine ⟨o, refs ps, V.ref t, rfl, rfl, sT _ _ ho, ?_, ?_⟩
      · rw [refs_len]
        have el := congrArg List.length e
        rw [List.length_map, List.length_take] at el
        exact small1000 (by omega)
      · refine ⟨_, ps ++ [(t, ⟨x, y, z, u⟩)], rfl, same_push (s2.trans sT) no, ?_, ?_, ?_⟩
        · rw [upd_same, refs_snoc]
        · have hT : Tups (upd H' t (.tup (lV ⟨x, y, z, u⟩))) (ps ++ [(t, ⟨x, y, z, u⟩)]) := (ht.same sT).snoc upd_same
          intro p hp
          have hpe := hT p hp
          have hpo : p.1 ≠ o := fun z => by
            rw [z, sT _ _ ho] at hpe
            cases hpe
          rw [upd_ne hpo]
          exact hpe
        · rw [List.map_append, e, take_snoc h5]
          rfl
    · rintro σ H' ⟨v, ps, rfl, s2, ho, ht, e⟩
      refine ⟨_, rfl, ?_⟩
      have er : (rowsOf ks).take n = rowsOf ks := List.take_of_length_le (by rw [rows_len]; omega)
      rw [er] at e
      exact q H' o ps s2 ho ht e
/-! ### is_lot -/
theorem scIsLot : FnScope ["lot", "weight", "strength", "num", "den"] ["lot"] (defScope sIsLot) := ⟨rfl, rfl, rfl, by decide +kernel, rfl, by decide +kernel, by decide +kernel⟩
def spIsLot : Sp := fun vs H Q _ => ∃ (t : Addr) (l : Lot), vs = [.ref t] ∧ H t = some (.tup (lV l)) ∧ Q (.bl (okLot l)) H
theorem ok_dec (l : Lot) : okLot l = ((decide ((0 : Int) ≤ (l.weight : Int) ∧ (l.weight : Int) ≤ 99) && decide ((0 : Int) ≤ (l.strength : Int) ∧ (l.strength : Int) ≤ 999)) && (decide ((1 : Int) ≤ (l.retainedDen : Int) ∧ (l.retainedDen : Int) ≤ 20) && decide ((1 : Int) ≤ (l.retainedNum : Int) ∧ (l.retainedNum : Int) ≤ (l.retainedDen : Int)))) := by
  rw [Bool.eq_iff_iff]
  unfold okLot Ks604.isValidLot
  simp only [Bool.and_eq_true, decide_eq_true_eq]
  omega
theorem ok_isLot {f fW : Addr} {fd fdW : FuncData} (F : Fun K "is_lot" "is_lot" sIsLot f fd) (FW : Fun K "is_within" "is_within" sWithin fW fdW) (bW : Binds K fdW ["value", "low", "high"] []) (gW : mg "is_within" = some (.ref fW))
    (mW : ∃ t, mg "MOST_WEIGHT" = some (.int 99 t)) (mS : ∃ t, mg "MOST_STRENGTH" = some (.int 999 t)) (mD : ∃ t, mg "MOST_DEN" = some (.int 20 t)) : FnOk P w K mg base CX0 2 f fd ["lot"] spIsLot := by
  obtain ⟨tW, mW⟩ := mW
  obtain ⟨tS, mS⟩ := mS
  obtain ⟨tD, mD⟩ := mD
  have GW : FnOk P w K mg base CX0 1 fW fdW ["value", "low", "high"] spWithin := ok_within FW
  refine F.ok scIsLot (fun vs H Q E h => ?_) (fun cdv A outer s H vs Q E hr h => ?_)
  · obtain ⟨t, l, rfl, _⟩ := h
    rfl
  · obtain ⟨t, l, rfl, ht, q⟩ := h
    rw [ok_dec] at q
    refine ⟨_, pss_cons (ps_asg (pv 0) (pg_tup rfl (pgs_cons (pg_name (i := 1) scIsLot.nd rfl (.inl rfl)) (pgs_cons (pg_name (i := 2) scIsLot.nd rfl (.inl rfl)) (pgs_cons (pg_name (i := 3) scIsLot.nd rfl (.inl rfl)) (pgs_cons (pg_name (i := 4) scIsLot.nd rfl (.inl rfl)) pgs_nil))))))
      (pss_cons (ps_if (PW.pt (pw_or (pt_not (pt_val (pe_call GW hr (by rfl) gW FW.kp bW .nil pass0 (pa_cons (pv 1) (pa_cons pe_int (pa_cons (pe_gint rfl mW) pa_nil))))))
            (pw_or1 (pt_not (pt_val (pe_call GW hr (by rfl) gW FW.kp bW .nil pass0 (pa_cons (pv 2) (pa_cons pe_int (pa_cons (pe_gint rfl mS) pa_nil)))))))))
          (pss_one (ps_ret pe_bl)) pss_nil)
      (pss_one (ps_ret (pe_and (pe_call GW hr (by rfl) gW FW.kp bW .nil pass0 (pa_cons (pv 4) (pa_cons pe_int (pa_cons (pe_gint rfl mD) pa_nil))))
        (pe_one (pe_call GW hr (by rfl) gW FW.kp bW .nil pass0 (pa_cons (pv 3) (pa_cons pe_int (pa_cons (pv 4) pa_nil))))))))), ?_⟩
    refine ⟨_, rfl, t, _, rfl, SqT.of ht, rfl, _, _, rfl, _, _, rfl, _, _, rfl, _, _, rfl, rfl, ?_⟩
    -- the weight
    refine ⟨_, rfl, _, _, _, rfl, _, rfl, ?_⟩
    generalize e1 : decide ((0 : Int) ≤ (l.weight : Int) ∧ (l.weight : Int) ≤ 99) = b1 at q ⊢
    cases b1 with
    | false => exact iteT (iteT q)
    | true =>
      refine iteF ?_
      -- the strength
      refine ⟨_, rfl, _, _, _, rfl, _, rfl, ?_⟩
      generalize e2 : decide ((0 : Int) ≤ (l.strength : Int) ∧ (l.strength : Int) ≤ 999) = b2 at q ⊢
      cases b2 with
      | false => exact iteT q
      | true =>
        refine iteF ?_
        -- den and num
        refine ⟨_, rfl, _, _, _, rfl, _, rfl, ?_⟩
        generalize e3 : decide ((1 : Int) ≤ (l.retainedDen : Int) ∧ (l.retainedDen : Int) ≤ 20) = b3 at q ⊢
        cases b3 with
        | false => exact iteF q
        | true => exact iteT ⟨_, rfl, _, rfl, _, _, _, rfl, q⟩
/-! ### are_lots -/
theorem scAre : FnScope ["numbers", "lot"] ["numbers"] (defScope sAreLots) := ⟨rfl, rfl, rfl, by decide +kernel, rfl, by decide +kernel, by decide +kernel⟩
def spAre (K : PySem.W.Frag) : Sp := fun vs H Q _ => ∃ (a : Addr) (ks : List Nat), vs = [.ref a] ∧ SqL K H a (ks.map nV) ∧ ∀ H', Same H H' → Q (.bl (lotsOk ks)) H'
def badOf (ps : List (Addr × Lot)) : List (Addr × Lot) := ps.filter fun p => !okLot p.2
theorem bad_snoc (ps : List (Addr × Lot)) (p : Addr × Lot) : badOf (ps ++ [p]) = if (!okLot p.2) = true then badOf ps ++ [p] else badOf ps := by
  unfold badOf
  rw [List.filter_append]
  by_cases c : (!okLot p.2) = true
  · rw [if_pos c, List.filter_cons_of_pos (p := fun p : Addr × Lot => !okLot p.2) c]
    rfl
  · rw [if_neg c, List.filter_cons_of_neg (p := fun p : Addr × Lot => !okLot p.2) c]
    exact List.append_nil _
theorem bad_zero (ps : List (Addr × Lot)) : decide ((badOf ps).length = 0) = (ps.map (·.2)).all okLot := by
  rw [Bool.eq_iff_iff, decide_eq_true_eq, List.length_eq_zero_iff, List.all_eq_true]
  unfold badOf
  rw [List.filter_eq_nil_iff]
  constructor
  · intro h l hl
    obtain ⟨p, hp, rfl⟩ := List.mem_map.mp hl
    have := h p hp
    simpa using this
  · intro h p hp
    have := h p.2 (List.mem_map.mpr ⟨p, hp, rfl⟩)
    simp [this]
theorem bad_len (ps : List (Addr × Lot)) : (badOf ps).length ≤ ps.length := List.length_filter_le _ _
theorem ok_are {f fR fI fW : Addr} {fd fdR fdI fdW : FuncData} (F : Fun K "are_lots" "are_lots" sAreLots f fd) (FR : Fun K "rows_of" "rows_of" sRows fR fdR) (bR : Binds K fdR ["numbers"] []) (gR : mg "rows_of" = some (.ref fR))
    (FI : Fun K "is_lot" "is_lot" sIsLot fI fdI) (bI : Binds K fdI ["lot"] []) (gI : mg "is_lot" = some (.ref fI)) (FW : Fun K "is_within" "is_within" sWithin fW fdW) (bW : Binds K fdW ["value", "low", "high"] []) (gW : mg "is_within" = some (.ref fW))
    (mW : ∃ t, mg "MOST_WEIGHT" = some (.int 99 t)) (mSt : ∃ t, mg "MOST_STRENGTH" = some (.int 999 t)) (mD : ∃ t, mg "MOST_DEN" = some (.int 20 t)) (mL : ∃ t, mg "MOST_LOTS" = some (.int 6 t)) (mS : ∃ t, mg "LOT_SIZE" = some (.int 4 t))
    (mr : mg "range" = none) (ml : mg "len" = none) : FnOk P w K mg base CX0 3 f fd ["numbers"] (spAre K) := by
  have GR : FnOk P w K mg base CX0 1 fR fdR ["numbers"] (spRows K) := ok_rows FR mr ml mS
  have GI : FnOk P w K mg base CX0 2 fI fdI ["lot"] spIsLot := ok_isLot FI FW bW gW mW mSt mD
  obtain ⟨tL, mL⟩ := mL
  obtain ⟨tS, mS⟩ := mS
  refine F.ok scAre (fun vs H Q E h => ?_) (fun cdv A outer s H vs Q E hr h => ?_)
  · obtain ⟨a, ks, rfl, _⟩ := h
    rfl
  · obtain ⟨a, ks, rfl, hS, q⟩ := h
    have hr1 : Room 1 _ := hr.mono (by decide)
    refine ⟨_, pss_cons (ps_if (PW.pt (pw_or (pt_cmpR op_ne (pe_op op_modB (pe_callB call_len_seq (by rfl) ml PySem.boot_len (pa_cons (pv 0) pa_nil)) (pe_gint rfl mS)) pe_int (nomark _))
          (pw_or1 (pt_cmpR op_gt (pe_callB call_len_seq (by rfl) ml PySem.boot_len (pa_cons (pv 0) pa_nil)) (pe_op op_mulB (pe_gint rfl mL) (pe_gint rfl mS)) (nomark _)))))
        (pss_one (ps_ret pe_bl)) pss_nil)
      (pss_one (ps_ret (pe_cmpR op_eq (pe_callB call_len_seq (by rfl) ml PySem.boot_len (pa_cons (pe_lc (own := [("lot", 1)]) (g := gName 1) rfl scAre.nd (pi_list (pe_call GR hr1 (by rfl) gR FR.kp bR .nil pass0 (pa_cons (pv 0) pa_nil)))
            (blkOk_by (N := ["numbers", "lot"]) (sc := defScope sAreLots) (by decide +kernel)) (fun _ _ _ _ _ => pg_name (i := 1) scAre.nd rfl (Or.inl rfl))
            (fun _ _ _ _ _ => pts_one (pt_not (pt_val (pe_call GI hr (by rfl) gI FI.kp bI .nil pass0 (pa_cons (pv 1) pa_nil))))) (fun _ _ _ _ _ => pv 1)) pa_nil)) pe_int (nomark _)))), ?_⟩
    have hlen : (ks.map nV).length = ks.length := List.length_map _
    -- if len(numbers) % LOT_SIZE != 0
    refine ⟨_, rfl, a, _, rfl, .inl hS, (ks.map nV).length, 4, rfl, rfl, (by decide), rfl, _, rfl, ?_⟩
    rw [hlen]
    by_cases h4 : ks.length % 4 = 0
    · have e4 : (!decide (V.int ((ks.length % 4 : Nat) : Int) = V.int 0)) = false := by
        rw [h4]
        rfl
      rw [e4]
      refine iteF ?_
      -- or len(numbers) > MOST_LOTS * LOT_SIZE
      refine ⟨_, rfl, a, _, rfl, .inl hS, 6, 4, rfl, rfl, ⟨?_, ?_⟩, _, _, rfl, rfl, _, rfl, ?_⟩
      · exact B.mono (show B 3 6 from (by decide : 6 < 2 ^ 3)) (by decide)
      · exact B.mono (show B 3 4 from (by decide : 4 < 2 ^ 3)) (by decide)
      rw [hlen]
      by_cases h24 : ks.length ≤ 24
      · have e5 : decide (((6 * 4 : Nat) : Int) < (ks.length : Int)) = false := decide_eq_false (by omega)
        rw [e5]
        refine iteF ?_
        -- the comprehension
        refine ⟨_, rfl, a, ks, ks.length / 4, rfl, hS, ⟨by omega, by omega⟩, fun H1 p ps s1 hp ht e => ?_⟩
        refine ⟨p, rfl, ⟨_, SqL.of hp⟩, fun D nD => lc_list (K := K) (a := p) (xs := refs ps) (fun i H' => Same H1 H' ∧ H' D = some (.lst (refs (badOf (ps.take i))))) ⟨same_upd nD, upd_same⟩ (fun i H' _ hP => SqL.of (hP.1 _ _ hp)) ?_ ?_⟩
        · rintro i y H' hy ⟨s2, hD⟩
          obtain ⟨pr, hpr, rfl⟩ := refs_at hy
          have hm : pr ∈ ps := List.mem_of_getElem? hpr
          refine ⟨rfl, ?_⟩
          refine ⟨_, rfl, pr.1, pr.2, rfl, s2 _ _ (ht pr hm), _, rfl, ?_⟩
          rw [take_snoc hpr, bad_snoc]
          refine ite2 (fun c => ?_) (fun c => ?_)
          · rw [if_pos c]
            refine ⟨_, rfl, _, hD, ?_, same_push s2 nD, ?_⟩
            · rw [refs_len]
              have b1 := bad_len (ps.take i)
              have b2 : (ps.take i).length ≤ ps.length := by
                rw [List.length_take]
                omega
              have b3 := congrArg List.length e
              rw [List.length_map, rows_len] at b3
              exact small1000 (by omega)
            · rw [upd_same, refs_snoc]
          · rw [if_neg c]
            exact ⟨s2, hD⟩
        · rintro H' ⟨s2, hD⟩
          rw [refs_len, List.take_length] at hD
          refine ⟨D, _, rfl, .inl (SqL.of hD), rfl, ?_⟩
          rw [refs_len]
          have e6 : decide (V.int ((badOf ps).length : Int) = V.int 0) = lotsOk ks := by
            unfold lotsOk
            rw [decide_eq_true h4, decide_eq_true h24, ← e, ← bad_zero, Bool.true_and, Bool.true_and]
            refine decide_eq_decide.mpr ⟨fun z => ?_, fun z => ?_⟩
            · have := V.int.inj z
              omega
            · rw [z]
              rfl
          rw [e6]
          exact q H' (s1.trans s2)
      · have e5 : decide (((6 * 4 : Nat) : Int) < (ks.length : Int)) = true := decide_eq_true (by omega)
        rw [e5]
        have e6 : lotsOk ks = false := by
          unfold lotsOk
          rw [decide_eq_false h24, Bool.and_false, Bool.false_and]
        have q' := q H (Same.refl H)
        rw [e6] at q'
        exact iteT q'
    · have e4 : (!decide (V.int ((ks.length % 4 : Nat) : Int) = V.int 0)) = true := by
        rw [decide_eq_false (fun z => h4 (by have := V.int.inj z; omega))]
        rfl
      rw [e4]
      have e6 : lotsOk ks = false := by
        unfold lotsOk
        rw [decide_eq_false h4, Bool.false_and, Bool.false_and]
      have q' := q H (Same.refl H)
      rw [e6] at q'
      exact iteT (iteT q')
end
end Fl
namespace Fl
open PySem PySem.Spec PyProof.Rows L2
open PySem.W (Codec)
abbrev sArg : Stmt := topS 18
abbrev sMembers : Stmt := topS 15
abbrev sWeight : Stmt := topS 16
abbrev sSet : Stmt := topS 19
abbrev sMix : Stmt := topS 20
/-! ### picking the lots of a mask -/
def dP : Addr × Lot := (0, ⟨0, 0, 1, 1⟩)
def pick (ps : List (Addr × Lot)) (m k : Nat) : List (Addr × Lot) := ((List.range k).filter fun i => m.testBit i).map fun i => ps.getD i dP
theorem pick_succ {ps : List (Addr × Lot)} {m k : Nat} {p : Addr × Lot} (h : ps[k]? = some p) : pick ps m (k + 1) = if m.testBit k = true then pick ps m k ++ [p] else pick ps m k := by
  unfold pick
  have e : ps.getD k dP = p := by
    rw [List.getD_eq_getElem?_getD, h]
    rfl
  rw [List.range_succ, List.filter_append]
  by_cases c : m.testBit k = true
  · rw [if_pos c, List.filter_cons_of_pos (p := fun i => m.testBit i) c, List.map_append]
    show _ ++ [ps.getD k dP] = _
    rw [e]
  · rw [if_neg c, List.filter_cons_of_neg (p := fun i => m.testBit i) c]
    show (List.map _ (_ ++ [])) = _
    rw [List.append_nil]
theorem pick_mem {ps : List (Addr × Lot)} {m k : Nat} (hk : k ≤ ps.length) {p : Addr × Lot} (h : p ∈ pick ps m k) : p ∈ ps := by
  unfold pick at h
  obtain ⟨i, hi, rfl⟩ := List.mem_map.mp h
  have hl : i < ps.length := Nat.lt_of_lt_of_le (List.mem_range.mp (List.mem_filter.mp hi).1) hk
  rw [List.getD_eq_getElem?_getD, List.getElem?_eq_getElem hl]
  exact List.getElem_mem hl
theorem pick_len (ps : List (Addr × Lot)) (m k : Nat) : (pick ps m k).length ≤ k := by
  unfold pick
  rw [List.length_map]
  exact Nat.le_trans (List.length_filter_le _ _) (by rw [List.length_range]; exact Nat.le_refl _)
theorem pick_sel (ps : List (Addr × Lot)) (m : Nat) : (pick ps m ps.length).map (·.2) = sel (ps.map (·.2)) m := by
  unfold pick sel
  rw [List.map_map, List.length_map]
  refine List.map_congr_left fun i _ => ?_
  show (ps.getD i dP).2 = Ks604.lotAt (ps.map (·.2)) i
  unfold Ks604.lotAt
  rw [List.getD_eq_getElem?_getD, List.getD_eq_getElem?_getD, List.getElem?_map]
  cases ps[i]? with
  | none => rfl
  | some p => rfl
theorem sum_cast : ∀ l : List Nat, (l.map fun n : Nat => (n : Int)).sum = ((l.sum : Nat) : Int)
  | [] => rfl
  | x :: r => by
    rw [List.map_cons, List.sum_cons, List.sum_cons, sum_cast r]
    omega
section
variable {X : Cx}
theorem op_shrB : OpR X (binaryOp .RShift) (fun x y H Q => ∃ n k : Nat, x = .int (n : Int) ∧ y = .int (k : Int) ∧ Q (.int ((n / 2 ^ k : Nat) : Int)) H) := by
  intro pins s σ H x y v u Q I rx ry h
  obtain ⟨n, k, rfl, rfl, q⟩ := h
  rw [Int.natCast_ediv, Int.natCast_pow] at q
  exact op_shrN pins s σ H _ _ v u Q I rx ry ⟨_, k, rfl, rfl, q⟩
end
section
variable {P : Program} {w : World} {K : PySem.W.Frag} {mg : Str → Option Value} {base : Heap}
/-! ### argument_error -/
theorem scArg : FnScope ["numbers", "value", "low", "high"] ["numbers", "value", "low", "high"] (defScope sArg) := ⟨rfl, rfl, rfl, by decide +kernel, rfl, by decide +kernel, by decide +kernel⟩
def spArg (K : PySem.W.Frag) : Sp := fun vs H Q _ => ∃ (a : Addr) (ks : List Nat) (v lo hi : Nat), vs = [.ref a, .int v, .int lo, .int hi] ∧ SqL K H a (ks.map nV) ∧ ∀ H', Same H H' → Q (.int (argErr ks v lo hi)) H'
theorem ok_arg {f fA fW : Addr} {fd fdA fdW : FuncData} (F : Fun K "argument_error" "argument_error" sArg f fd) (GA : FnOk P w K mg base CX0 3 fA fdA ["numbers"] (spAre K)) (kA : PySem.W.keepIn K (.ref fA) = true) (bA : Binds K fdA ["numbers"] []) (gA : mg "are_lots" = some (.ref fA))
    (FW : Fun K "is_within" "is_within" sWithin fW fdW) (bW : Binds K fdW ["value", "low", "high"] []) (gW : mg "is_within" = some (.ref fW)) (mO : ∃ t, mg "OUT_OF_RANGE" = some (.int (-22) t)) : FnOk P w K mg base CX0 4 f fd ["numbers", "value", "low", "high"] (spArg K) := by
  have GW : FnOk P w K mg base CX0 1 fW fdW ["value", "low", "high"] spWithin := ok_within FW
  obtain ⟨tO, mO⟩ := mO
  refine F.ok scArg (fun vs H Q E h => ?_) (fun cdv A outer s H vs Q E hr h => ?_)
  · obtain ⟨a, ks, v, lo, hi, rfl, _⟩ := h
    rfl
  · obtain ⟨a, ks, v, lo, hi, rfl, hS, q⟩ := h
    have hr1 : Room 1 _ := hr.mono (by decide)
    refine ⟨_, pss_cons (ps_if (pt_not (pt_val (pe_call GA hr (by rfl) gA kA bA .nil pass0 (pa_cons (pv 0) pa_nil)))) (pss_one (ps_ret (pe_gint rfl mO))) pss_nil)
      (pss_one (ps_ret (pe_ifExp (pt_val (pe_call GW hr1 (by rfl) gW FW.kp bW .nil pass0 (pa_cons (pv 1) (pa_cons (pv 2) (pa_cons (pv 3) pa_nil))))) pe_int (pe_gint rfl mO)))), ?_⟩
    refine ⟨_, rfl, a, ks, rfl, hS, fun H1 s1 => ⟨_, rfl, ?_⟩⟩
    have q1 := q H1 s1
    unfold argErr at q1
    by_cases c : lotsOk ks = true
    · rw [if_pos c] at q1
      rw [c]
      refine iteF ?_
      refine ⟨_, rfl, _, rfl, _, rfl, _, _, _, rfl, _, rfl, ite2 (fun d => ?_) (fun d => ?_)⟩
      · have d' := of_decide_eq_true d
        rw [if_pos (by omega)] at q1
        exact q1
      · have d' : ¬ ((lo : Int) ≤ v ∧ (v : Int) ≤ hi) := fun z => d (decide_eq_true z)
        rw [if_neg (by omega)] at q1
        exact q1
    · rw [if_neg c] at q1
      have c' : lotsOk ks = false := by simpa using c
      rw [c']
      exact iteT q1
/-! ### members -/
theorem scMembers : FnScope ["mask", "lots", "i"] ["mask", "lots"] (defScope sMembers) := ⟨rfl, rfl, rfl, by decide +kernel, rfl, by decide +kernel, by decide +kernel⟩
def spMembers (K : PySem.W.Frag) : Sp := fun vs H Q _ => ∃ (b : Addr) (m : Nat) (ps : List (Addr × Lot)), vs = [.int m, .ref b] ∧ SqL K H b (refs ps) ∧ Tups H ps ∧ ps.length ≤ 6 ∧
  ∀ H' p qs, Same H H' → H' p = some (.lst (refs qs)) → Tups H' qs → qs.map (·.2) = sel (ps.map (·.2)) m → Q (.ref p) H'
theorem ok_members {f : Addr} {fd : FuncData} (F : Fun K "members" "members" sMembers f fd) (mr : mg "range" = none) (ml : mg "len" = none) : FnOk P w K mg base CX0 1 f fd ["mask", "lots"] (spMembers K) := by
  refine F.ok scMembers (fun vs H Q E h => ?_) (fun cdv A outer s H vs Q E hr h => ?_)
  · obtain ⟨b, m, ps, rfl, _⟩ := h
    rfl
  · obtain ⟨b, m, ps, rfl, hS, hT, hl, q⟩ := h
    refine ⟨_, pss_one (ps_ret (pe_lc (own := [("i", 2)]) (g := gName 2) (te := tOp (rIxL K) (tVar 1) (tVar 2)) rfl scMembers.nd (pi_range1 (by rfl) mr (pa_cons (pe_callB call_len_seq (by rfl) ml PySem.boot_len (pa_cons (pv 1) pa_nil)) pa_nil))
        (blkOk_by (N := ["mask", "lots", "i"]) (sc := defScope sMembers) (by decide +kernel)) (fun _ _ _ _ _ => pg_name (i := 2) scMembers.nd rfl (Or.inl rfl))
        (fun _ _ _ _ _ => pts_one (pt_cmpR op_eq (pe_op op_odd (pe_op op_shrB (pv 0) (pv 2)) pe_int) pe_int (nomark _))) (fun _ _ _ _ _ => pe_ix ix_list (pv 1) (pv 2) (fun _ _ => rfl)))), ?_⟩
    refine ⟨_, rfl, b, _, rfl, .inl hS, ((refs ps).length : Int), rfl, (by rw [refs_len]; omega), (by rw [refs_len]; omega), fun D nD => ?_⟩
    rw [refs_len]
    refine lc_range (lo := 0) (n := ps.length) (fun i H' => Same H H' ∧ H' D = some (.lst (refs (pick ps m i)))) ⟨same_upd nD, upd_same⟩ ?_ ?_
    · rintro i H' hi ⟨s2, hD⟩
      have hp : ps[i]? = some ps[i] := List.getElem?_eq_getElem hi
      refine ⟨rfl, ?_⟩
      refine ⟨_, rfl, _, rfl, m, i, rfl, ?_, m / 2 ^ i, rfl, rfl, rfl, _, rfl, ?_⟩
      · show V.int (0 + (i : Int)) = V.int (i : Int)
        rw [Int.zero_add]
      rw [pick_succ hp]
      have et : decide (V.int ((m / 2 ^ i % 2 : Nat) : Int) = V.int 1) = m.testBit i := by
        rw [Nat.testBit_eq_decide_div_mod_eq]
        refine decide_eq_decide.mpr ⟨fun z => ?_, fun z => ?_⟩
        · have := V.int.inj z
          omega
        · rw [z]
          rfl
      rw [et]
      refine ite2 (fun c => ?_) (fun c => ?_)
      · rw [if_pos c]
        refine ⟨_, rfl, _, rfl, b, refs ps, _, V.ref ps[i].1, rfl, rfl, s2.seq hS, at_of (j := i) (by omega) (by unfold refs; rw [List.getElem?_map, hp]; rfl), _, hD, ?_, same_push s2 nD, ?_⟩
        · rw [refs_len]
          exact small1000 (Nat.le_trans (pick_len ps m i) (by omega))
        · rw [upd_same, refs_snoc]
      · rw [if_neg c]
        exact ⟨s2, hD⟩
    · rintro H' ⟨s2, hD⟩
      exact q H' D _ s2 hD (fun p hp => s2 _ _ (hT p (pick_mem (Nat.le_refl _) hp))) (pick_sel ps m)
/-! ### weight_of -/
theorem scWeight : FnScope ["lots", "weight", "strength", "num", "den"] ["lots"] (defScope sWeight) := ⟨rfl, rfl, rfl, by decide +kernel, rfl, by decide +kernel, by decide +kernel⟩
def spWeight (K : PySem.W.Frag) : Sp := fun vs H Q _ => ∃ (b : Addr) (ps : List (Addr × Lot)), vs = [.ref b] ∧ SqL K H b (refs ps) ∧ Tups H ps ∧ ps.length ≤ 6 ∧ ∀ H', Same H H' → Q (.int ((wsum (ps.map (·.2)) : Nat) : Int)) H'
theorem ok_weight {f : Addr} {fd : FuncData} (F : Fun K "weight_of" "weight_of" sWeight f fd) (ms : mg "sum" = none) : FnOk P w K mg base CX0 1 f fd ["lots"] (spWeight K) := by
  refine F.ok scWeight (fun vs H Q E h => ?_) (fun cdv A outer s H vs Q E hr h => ?_)
  · obtain ⟨b, ps, rfl, _⟩ := h
    rfl
  · obtain ⟨b, ps, rfl, hS, hT, hl, q⟩ := h
    refine ⟨_, pss_one (ps_ret (pe_callB (cr_sum rfl) (by rfl) ms (by decide +kernel) (pa_cons (pe_lc (own := [("weight", 1), ("strength", 2), ("num", 3), ("den", 4)]) (g := gTup K 4 (gCons (gName 1) (gCons (gName 2) (gCons (gName 3) (gCons (gName 4) gNil))))) rfl scWeight.nd (pi_list (pv 0))
        (blkOk_by (N := ["lots", "weight", "strength", "num", "den"]) (sc := defScope sWeight) (by decide +kernel))
        (fun _ _ _ _ _ => pg_tup rfl (pgs_cons (pg_name (i := 1) scWeight.nd rfl (.inl rfl)) (pgs_cons (pg_name (i := 2) scWeight.nd rfl (.inl rfl)) (pgs_cons (pg_name (i := 3) scWeight.nd rfl (.inl rfl)) (pgs_cons (pg_name (i := 4) scWeight.nd rfl (.inl rfl)) pgs_nil)))))
        (fun _ _ _ _ _ => pts_nil) (fun _ _ _ _ _ => pv 1)) pa_nil))), ?_⟩
    refine ⟨_, rfl, b, rfl, ⟨_, hS⟩, fun D nD => lc_list (K := K) (a := b) (xs := refs ps) (fun i H' => Same H H' ∧ H' D = some (.lst ((((ps.take i).map (·.2)).map fun l : Lot => (l.weight : Int)).map V.int))) ⟨same_upd nD, upd_same⟩ (fun i H' _ hP => hP.1.seq hS) ?_ ?_⟩
    · rintro i y H' hy ⟨s2, hD⟩
      obtain ⟨pr, hpr, rfl⟩ := refs_at hy
      have hm : pr ∈ ps := List.mem_of_getElem? hpr
      refine ⟨pr.1, _, rfl, SqT.of (s2 _ _ (hT pr hm)), rfl, _, _, rfl, _, _, rfl, _, _, rfl, _, _, rfl, rfl, rfl, ?_⟩
      refine ⟨_, rfl, _, hD, ?_, same_push s2 nD, ?_⟩
      · rw [List.length_map, List.length_map, List.length_map, List.length_take]
        exact small1000 (by omega)
      · rw [upd_same, take_snoc hpr, List.map_append, List.map_append, List.map_append]
        rfl
    · rintro H' ⟨s2, hD⟩
      rw [refs_len, List.take_length] at hD
      refine ⟨D, _, rfl, SqL.of hD, ?_⟩
      have e : (((ps.map (·.2)).map fun l : Lot => (l.weight : Int))).sum = ((wsum (ps.map (·.2)) : Nat) : Int) := by
        unfold wsum
        rw [← sum_cast, List.map_map (f := fun l : Lot => l.weight)]
        rfl
      rw [e]
      exact q H' s2
/-! ### set_error -/
theorem scSet : FnScope ["numbers", "mask", "lots"] ["numbers", "mask"] (defScope sSet) := ⟨rfl, rfl, rfl, by decide +kernel, rfl, by decide +kernel, by decide +kernel⟩
def spSet (K : PySem.W.Frag) : Sp := fun vs H Q _ => ∃ (a : Addr) (ks : List Nat) (n m : Nat), vs = [.ref a, .int m] ∧ SqL K H a (ks.map nV) ∧ (ks.length = 4 * n ∧ n ≤ 6) ∧ ∀ H', Same H H' → Q (.int (setErr ks m)) H'
theorem ok_set {f fR fM fW : Addr} {fd fdR fdM fdW : FuncData} (F : Fun K "set_error" "set_error" sSet f fd) (FR : Fun K "rows_of" "rows_of" sRows fR fdR) (bR : Binds K fdR ["numbers"] []) (gR : mg "rows_of" = some (.ref fR))
    (FM : Fun K "members" "members" sMembers fM fdM) (bM : Binds K fdM ["mask", "lots"] []) (gM : mg "members" = some (.ref fM)) (FW : Fun K "weight_of" "weight_of" sWeight fW fdW) (bW : Binds K fdW ["lots"] []) (gW : mg "weight_of" = some (.ref fW))
    (mS : ∃ t, mg "LOT_SIZE" = some (.int 4 t)) (mO : ∃ t, mg "OUT_OF_RANGE" = some (.int (-22) t)) (mN : ∃ t, mg "NO_WEIGHT" = some (.int (-6) t))
    (mr : mg "range" = none) (ml : mg "len" = none) (ms : mg "sum" = none) : FnOk P w K mg base CX0 2 f fd ["numbers", "mask"] (spSet K) := by
  have GR : FnOk P w K mg base CX0 1 fR fdR ["numbers"] (spRows K) := ok_rows FR mr ml mS
  have GM : FnOk P w K mg base CX0 1 fM fdM ["mask", "lots"] (spMembers K) := ok_members FM mr ml
  have GW : FnOk P w K mg base CX0 1 fW fdW ["lots"] (spWeight K) := ok_weight FW ms
  obtain ⟨tO, mO⟩ := mO
  obtain ⟨tN, mN⟩ := mN
  refine F.ok scSet (fun vs H Q E h => ?_) (fun cdv A outer s H vs Q E hr h => ?_)
  · obtain ⟨a, ks, n, m, rfl, _⟩ := h
    rfl
  · obtain ⟨a, ks, n, m, rfl, hS, hn, q⟩ := h
    refine ⟨_, pss_cons (ps_set (i := 2) scSet.nd rfl (.inl rfl) (pe_call GR hr (by rfl) gR FR.kp bR .nil pass0 (pa_cons (pv 0) pa_nil)))
      (pss_cons (ps_if (pt_cmpR op_ge (pv 1) (pe_op op_oneShl pe_int (pe_callB call_len_seq (by rfl) ml PySem.boot_len (pa_cons (pv 2) pa_nil))) (nomark _)) (pss_one (ps_ret (pe_gint rfl mO))) pss_nil)
      (pss_one (ps_ret (pe_ifExp (pt_cmpR op_gt (pe_call GW hr (by rfl) gW FW.kp bW .nil pass0 (pa_cons (pe_call GM hr (by rfl) gM FM.kp bM .nil pass0 (pa_cons (pv 1) (pa_cons (pv 2) pa_nil))) pa_nil)) pe_int (nomark _)) pe_int (pe_gint rfl mN))))), ?_⟩
    refine ⟨_, rfl, a, ks, n, rfl, hS, hn, fun H1 p ps s1 hp ht e => ?_⟩
    have el : ps.length = (rowsOf ks).length := by
      rw [← e, List.length_map]
    have el6 : (rowsOf ks).length ≤ 6 := by
      rw [rows_len]
      omega
    refine ⟨_, rfl, _, rfl, p, _, rfl, .inl (SqL.of hp), (rowsOf ks).length, rfl, ?_, (by omega), _, _, rfl, rfl, _, rfl, ?_⟩
    · rw [refs_len, el]
    have ed : decide ((2 : Int) ^ (rowsOf ks).length ≤ (m : Int)) = decide (2 ^ (rowsOf ks).length ≤ m) := by
      refine decide_eq_decide.mpr ?_
      rw [← Int.ofNat_le, Int.natCast_pow]
      exact Iff.rfl
    rw [ed]
    refine ite2 (fun c => ?_) (fun c => ?_)
    · have q1 := q H1 s1
      unfold setErr at q1
      rw [if_pos (of_decide_eq_true c)] at q1
      exact q1
    · have c' : ¬ 2 ^ (rowsOf ks).length ≤ m := fun z => c (decide_eq_true z)
      refine ⟨_, rfl, _, rfl, p, m, ps, rfl, SqL.of hp, ht, (by omega), fun H2 p2 qs s2 hp2 ht2 e2 => ?_⟩
      have e3 : qs.map (·.2) = sel (rowsOf ks) m := by rw [e2, e]
      have l2 : qs.length ≤ 6 := by
        have l1 := congrArg List.length e2
        have l3 : (sel (ps.map (·.2)) m).length ≤ 6 := by
          unfold sel
          rw [List.length_map]
          refine Nat.le_trans (List.length_filter_le _ _) ?_
          rw [List.length_range, List.length_map]
          omega
        rw [List.length_map] at l1
        omega
      refine ⟨p2, qs, rfl, SqL.of hp2, ht2, l2, fun H3 s3 => ⟨_, _, rfl, rfl, _, rfl, ?_⟩⟩
      have q1 := q H3 ((s1.trans s2).trans s3)
      unfold setErr at q1
      rw [if_neg c'] at q1
      rw [e3]
      refine ite2 (fun d => ?_) (fun d => ?_)
      · have d' := of_decide_eq_true d
        rw [if_pos (by omega)] at q1
        exact q1
      · have d' : ¬ (0 : Int) < ((wsum (sel (rowsOf ks) m) : Nat) : Int) := fun z => d (decide_eq_true z)
        rw [if_neg (by omega)] at q1
        exact q1
/-! ### mixture_error -/
theorem scMix : FnScope ["numbers", "value", "low", "high", "mask", "error"] ["numbers", "value", "low", "high", "mask"] (defScope sMix) := ⟨rfl, rfl, rfl, by decide +kernel, rfl, by decide +kernel, by decide +kernel⟩
def spMix (K : PySem.W.Frag) : Sp := fun vs H Q _ => ∃ (a : Addr) (ks : List Nat) (v lo hi m : Nat), vs = [.ref a, .int v, .int lo, .int hi, .int m] ∧ SqL K H a (ks.map nV) ∧ ∀ H', Same H H' → Q (.int (mixErr ks v lo hi m)) H'
theorem ok_mix {f fA fS : Addr} {fd fdA fdS : FuncData} (F : Fun K "mixture_error" "mixture_error" sMix f fd) (GA : FnOk P w K mg base CX0 4 fA fdA ["numbers", "value", "low", "high"] (spArg K)) (kA : PySem.W.keepIn K (.ref fA) = true) (bA : Binds K fdA ["numbers", "value", "low", "high"] []) (gA : mg "argument_error" = some (.ref fA))
    (GS : FnOk P w K mg base CX0 2 fS fdS ["numbers", "mask"] (spSet K)) (kS : PySem.W.keepIn K (.ref fS) = true) (bS : Binds K fdS ["numbers", "mask"] []) (gS : mg "set_error" = some (.ref fS)) : FnOk P w K mg base CX0 5 f fd ["numbers", "value", "low", "high", "mask"] (spMix K) := by
  refine F.ok scMix (fun vs H Q E h => ?_) (fun cdv A outer s H vs Q E hr h => ?_)
  · obtain ⟨a, ks, v, lo, hi, m, rfl, _⟩ := h
    rfl
  · obtain ⟨a, ks, v, lo, hi, m, rfl, hS, q⟩ := h
    have hr2 : Room 2 _ := hr.mono (by decide)
    refine ⟨_, pss_cons (ps_set (i := 5) scMix.nd rfl (.inl rfl) (pe_call GA hr (by rfl) gA kA bA .nil pass0 (pa_cons (pv 0) (pa_cons (pv 1) (pa_cons (pv 2) (pa_cons (pv 3) pa_nil))))))
      (pss_one (ps_ret (pe_ifExp (pt_cmpR op_lt (pv 5) pe_int (nomark _)) (pv 5) (pe_call GS hr2 (by rfl) gS kS bS .nil pass0 (pa_cons (pv 0) (pa_cons (pv 4) pa_nil)))))), ?_⟩
    refine ⟨_, rfl, _, rfl, _, rfl, _, rfl, a, ks, v, lo, hi, rfl, hS, fun H1 s1 => ?_⟩
    refine ⟨_, rfl, _, _, rfl, rfl, _, rfl, ite2 (fun c => ?_) (fun c => ?_)⟩
    · have c' := of_decide_eq_true c
      have q1 := q H1 s1
      unfold mixErr at q1
      rw [if_pos c'] at q1
      exact ⟨_, rfl, q1⟩
    · have c' : ¬ argErr ks v lo hi < 0 := fun z => c (decide_eq_true z)
      obtain ⟨h1, _, _⟩ := arg_ok c'
      have h4 : ks.length % 4 = 0 ∧ ks.length ≤ 24 := by
        unfold lotsOk at h1
        rw [Bool.and_eq_true, Bool.and_eq_true] at h1
        exact ⟨of_decide_eq_true h1.1.1, of_decide_eq_true h1.1.2⟩
      refine ⟨_, rfl, _, rfl, a, ks, ks.length / 4, m, rfl, s1.seq hS, ⟨by omega, by omega⟩, fun H2 s2 => ?_⟩
      have q1 := q H2 (s1.trans s2)
      unfold mixErr at q1
      rw [if_neg c'] at q1
      exact q1
end
end Fl
namespace Fl
open PySem PySem.Spec PyProof.Rows L2
open PySem.W (Codec)
abbrev sScale : Stmt := topS 27
abbrev sStr : Stmt := topS 28
abbrev sStrs : Stmt := topS 29
abbrev sMean : Stmt := topS 30
/-! ### bounds -/
theorem scale_snoc (ls : List Lot) (l : Lot) (m : Nat) : scaleN (ls ++ [l]) m = scaleN ls m * l.retainedDen ^ m := by
  unfold scaleN
  rw [List.foldl_append]
  rfl
theorem scale_B {m : Nat} (hm : m ≤ 41) : ∀ {ls : List Lot}, Good ls → B (206 * ls.length + 1) (scaleN ls m)
  | [], _ => (by decide : 1 < 2 ^ 1)
  | l :: r, G => by
    have h1 := ok_parts (G l List.mem_cons_self)
    have ih := scale_B hm (ls := r) fun x hx => G x (List.mem_cons_of_mem _ hx)
    rw [scale_cons, List.length_cons]
    exact ((pow_B (b := l.retainedDen) (by omega) hm).mul ih).mono (by omega)
theorem scale_B6 {m : Nat} (hm : m ≤ 41) {ls : List Lot} (G : Good ls) (hl : ls.length ≤ 6) : B 1300 (scaleN ls m) := (scale_B hm G).mono (by omega)
theorem Good.take {ls : List Lot} (G : Good ls) (i : Nat) : Good (ls.take i) := fun l hl => G l (List.mem_of_mem_take hl)
theorem scaled_B {l : Lot} (h : okLot l = true) {m D : Nat} (hm : m ≤ 41) (hD : B 1300 D) : B 1516 (scaledN l m D) := by
  have h1 := ok_parts h
  have a : B 10 l.strength := by
    show l.strength < 2 ^ 10
    omega
  have b : B 206 (l.retainedNum ^ m) := pow_B (by omega) hm
  exact ((a.mul b).mul (hD.le (Nat.div_le_self D _))).mono (by decide)
theorem wsum_cons (l : Lot) (r : List Lot) : wsum (l :: r) = l.weight + wsum r := by
  unfold wsum
  rw [List.map_cons, List.sum_cons]
theorem wsum_le : ∀ {ls : List Lot}, Good ls → wsum ls ≤ 99 * ls.length
  | [], _ => Nat.le_refl 0
  | l :: r, G => by
    have h1 := ok_parts (G l List.mem_cons_self)
    have ih := wsum_le (ls := r) fun x hx => G x (List.mem_cons_of_mem _ hx)
    rw [wsum_cons, List.length_cons]
    omega
theorem wsum_B {ls : List Lot} (G : Good ls) (hl : ls.length ≤ 6) : B 10 (wsum ls) := by
  have := wsum_le G
  show wsum ls < 2 ^ 10
  omega
/-- what the reckoning asks of lots and month -/
structure Fit (ps : List (Addr × Lot)) (m : Nat) : Prop where
  len : ps.length ≤ 6
  good : Good (ps.map (·.2))
  month : m ≤ 41
theorem Fit.ok {ps : List (Addr × Lot)} {m : Nat} (F : Fit ps m) {p : Addr × Lot} (h : p ∈ ps) : okLot p.2 = true := F.good _ (List.mem_map.mpr ⟨p, h, rfl⟩)
theorem Fit.len' {ps : List (Addr × Lot)} {m : Nat} (F : Fit ps m) : (ps.map (·.2)).length ≤ 6 := by
  rw [List.length_map]
  exact F.len
theorem Fit.scale {ps : List (Addr × Lot)} {m : Nat} (F : Fit ps m) : B 1300 (scaleN (ps.map (·.2)) m) := scale_B6 F.month F.good F.len'
section
variable {P : Program} {w : World} {K : PySem.W.Frag} {mg : Str → Option Value} {base : Heap}
/-! ### scale_of -/
theorem scScale : FnScope ["lots", "month", "found", "weight", "strength", "num", "den"] ["lots", "month"] (defScope sScale) := ⟨rfl, rfl, rfl, by decide +kernel, rfl, by decide +kernel, by decide +kernel⟩
def spScale (K : PySem.W.Frag) : Sp := fun vs H Q _ => ∃ (b : Addr) (m : Nat) (ps : List (Addr × Lot)), vs = [.ref b, .int m] ∧ SqL K H b (refs ps) ∧ Tups H ps ∧ Fit ps m ∧ Q (.int ((scaleN (ps.map (·.2)) m : Nat) : Int)) H
theorem ok_scale {f fP : Addr} {fd fdP : FuncData} (F : Fun K "scale_of" "scale_of" sScale f fd) (FP : Fun K "power" "power" sPower fP fdP) (bP : Binds K fdP ["base", "times"] []) (gP : mg "power" = some (.ref fP)) (mr : mg "range" = none) : FnOk P w K mg base CX0 2 f fd ["lots", "month"] (spScale K) := by
  have GP : FnOk P w K mg base CX0 1 fP fdP ["base", "times"] spPower := ok_power FP mr
  refine F.ok scScale (fun vs H Q E h => ?_) (fun cdv A outer s H vs Q E hr h => ?_)
  · obtain ⟨b, m, ps, rfl, _⟩ := h
    rfl
  · obtain ⟨b, m, ps, rfl, hS, hT, hF, q⟩ := h
    refine ⟨_, pss_cons (ps_set (i := 2) scScale.nd rfl (.inl rfl) pe_int)
      (pss_cons (ps_for PassesOwn.never rfl (pi_list (pv 0)) (pg_tup rfl (pgs_cons (pg_name (i := 3) scScale.nd rfl (.inl rfl)) (pgs_cons (pg_name (i := 4) scScale.nd rfl (.inl rfl)) (pgs_cons (pg_name (i := 5) scScale.nd rfl (.inl rfl)) (pgs_cons (pg_name (i := 6) scScale.nd rfl (.inl rfl)) pgs_nil)))))
        (pss_one (ps_set (i := 2) scScale.nd rfl (.inl rfl) (pe_op op_mulB (pv 2) (pe_call GP hr (by rfl) gP FP.kp bP .nil pass0 (pa_cons (pv 6) (pa_cons (pv 1) pa_nil)))))))
      (pss_one (ps_ret (pv 2)))), ?_⟩
    refine ⟨_, rfl, b, rfl, ⟨_, hS⟩, for_list (K := K) (a := b) (xs := refs ps) (fun i σ H' => H' = H ∧ ∃ v1 v2 v3 v4, σ = [some (.ref b), some (.int m), some (.int ((scaleN ((ps.map (·.2)).take i) m : Nat) : Int)), v1, v2, v3, v4])
      ⟨rfl, none, none, none, none, rfl⟩ (fun i σ H' _ hP => by rw [hP.1]; exact hS) ?_ ?_⟩
    · rintro i y σ H' hy ⟨rfl, v1, v2, v3, v4, rfl⟩
      obtain ⟨pr, hpr, rfl⟩ := refs_at hy
      have hm : pr ∈ ps := List.mem_of_getElem? hpr
      have hl : (ps.map (·.2))[i]? = some pr.2 := by
        rw [List.getElem?_map, hpr]
        rfl
      have hk := ok_parts (hF.ok hm)
      refine ⟨pr.1, _, rfl, SqT.of (hT pr hm), rfl, _, _, rfl, _, _, rfl, _, _, rfl, _, _, rfl, rfl, ?_⟩
      have hb : B 1300 (scaleN ((ps.map (·.2)).take i) m) := scale_B6 hF.month (hF.good.take i) (by rw [List.length_take]; have := hF.len'; omega)
      refine ⟨_, rfl, _, rfl, _, rfl, pr.2.retainedDen, m, rfl, ⟨by omega, hF.month⟩, _, _, rfl, rfl, ⟨hb.mono (by decide), (pow_B (by omega) hF.month).mono (by decide)⟩, rfl, some (nV pr.2.weight), some (nV pr.2.strength), some (nV pr.2.retainedNum), some (nV pr.2.retainedDen), ?_⟩
      rw [take_snoc hl, scale_snoc]
      rfl
    · rintro σ H' ⟨rfl, v1, v2, v3, v4, rfl⟩
      rw [refs_len, ← List.length_map (as := ps) (f := fun p : Addr × Lot => p.2), List.take_length]
      exact ⟨_, rfl, q⟩
/-! ### scaled_strength -/
theorem scStr : FnScope ["lot", "month", "scale", "weight", "strength", "num", "den"] ["lot", "month", "scale"] (defScope sStr) := ⟨rfl, rfl, rfl, by decide +kernel, rfl, by decide +kernel, by decide +kernel⟩
def spStr : Sp := fun vs H Q _ => ∃ (t : Addr) (m D : Nat) (l : Lot), vs = [.ref t, .int m, .int D] ∧ H t = some (.tup (lV l)) ∧ (okLot l = true ∧ m ≤ 41 ∧ B 1300 D) ∧ Q (.int ((scaledN l m D : Nat) : Int)) H
theorem ok_str {f fP : Addr} {fd fdP : FuncData} (F : Fun K "scaled_strength" "scaled_strength" sStr f fd) (FP : Fun K "power" "power" sPower fP fdP) (bP : Binds K fdP ["base", "times"] []) (gP : mg "power" = some (.ref fP)) (mr : mg "range" = none) : FnOk P w K mg base CX0 2 f fd ["lot", "month", "scale"] spStr := by
  have GP : FnOk P w K mg base CX0 1 fP fdP ["base", "times"] spPower := ok_power FP mr
  refine F.ok scStr (fun vs H Q E h => ?_) (fun cdv A outer s H vs Q E hr h => ?_)
  · obtain ⟨t, m, D, l, rfl, _⟩ := h
    rfl
  · obtain ⟨t, m, D, l, rfl, ht, ⟨ho, hm, hD⟩, q⟩ := h
    have hk := ok_parts ho
    have hs : B 10 l.strength := by
      show l.strength < 2 ^ 10
      omega
    have hn : B 206 (l.retainedNum ^ m) := pow_B (by omega) hm
    have hd : B 206 (l.retainedDen ^ m) := pow_B (by omega) hm
    have hd0 : 0 < l.retainedDen ^ m := Nat.pow_pos (by omega)
    refine ⟨_, pss_cons (ps_asg (pv 0) (pg_tup rfl (pgs_cons (pg_name (i := 3) scStr.nd rfl (.inl rfl)) (pgs_cons (pg_name (i := 4) scStr.nd rfl (.inl rfl)) (pgs_cons (pg_name (i := 5) scStr.nd rfl (.inl rfl)) (pgs_cons (pg_name (i := 6) scStr.nd rfl (.inl rfl)) pgs_nil))))))
      (pss_one (ps_ret (pe_op op_mulB (pe_op op_mulB (pv 4) (pe_call GP hr (by rfl) gP FP.kp bP .nil pass0 (pa_cons (pv 5) (pa_cons (pv 1) pa_nil)))) (pe_op op_fdivB (pv 2) (pe_call GP hr (by rfl) gP FP.kp bP .nil pass0 (pa_cons (pv 6) (pa_cons (pv 1) pa_nil))))))), ?_⟩
    refine ⟨_, rfl, t, _, rfl, SqT.of ht, rfl, _, _, rfl, _, _, rfl, _, _, rfl, _, _, rfl, rfl, ?_⟩
    refine ⟨_, rfl, _, rfl, _, rfl, l.retainedNum, m, rfl, ⟨by omega, hm⟩, l.strength, _, rfl, rfl, ⟨hs.mono (by decide), hn.mono (by decide)⟩, ?_⟩
    refine ⟨_, rfl, _, rfl, _, rfl, l.retainedDen, m, rfl, ⟨by omega, hm⟩, D, _, rfl, rfl, ⟨hd0, hd.mono (by decide)⟩, ?_⟩
    exact ⟨_, _, rfl, rfl, ⟨(hs.mul hn).mono (by decide), (hD.le (Nat.div_le_self D _)).mono (by decide)⟩, q⟩
/-! ### scaled_strengths -/
theorem scStrs : FnScope ["lots", "month", "scale", "lot"] ["lots", "month"] (defScope sStrs) := ⟨rfl, rfl, rfl, by decide +kernel, rfl, by decide +kernel, by decide +kernel⟩
def strsOf (ls : List Lot) (m : Nat) : List Nat := ls.map fun l => scaledN l m (scaleN ls m)
def spStrs (K : PySem.W.Frag) : Sp := fun vs H Q _ => ∃ (b : Addr) (m : Nat) (ps : List (Addr × Lot)), vs = [.ref b, .int m] ∧ SqL K H b (refs ps) ∧ Tups H ps ∧ Fit ps m ∧
  ∀ H' p, Same H H' → H' p = some (.lst ((strsOf (ps.map (·.2)) m).map nV)) → Q (.ref p) H'
theorem ok_strs {f fC fS fP : Addr} {fd fdC fdS fdP : FuncData} (F : Fun K "scaled_strengths" "scaled_strengths" sStrs f fd) (FC : Fun K "scale_of" "scale_of" sScale fC fdC) (bC : Binds K fdC ["lots", "month"] []) (gC : mg "scale_of" = some (.ref fC))
    (FS : Fun K "scaled_strength" "scaled_strength" sStr fS fdS) (bS : Binds K fdS ["lot", "month", "scale"] []) (gS : mg "scaled_strength" = some (.ref fS)) (FP : Fun K "power" "power" sPower fP fdP) (bP : Binds K fdP ["base", "times"] []) (gP : mg "power" = some (.ref fP)) (mr : mg "range" = none) :
    FnOk P w K mg base CX0 3 f fd ["lots", "month"] (spStrs K) := by
  have GC : FnOk P w K mg base CX0 2 fC fdC ["lots", "month"] (spScale K) := ok_scale FC FP bP gP mr
  have GS : FnOk P w K mg base CX0 2 fS fdS ["lot", "month", "scale"] spStr := ok_str FS FP bP gP mr
  refine F.ok scStrs (fun vs H Q E h => ?_) (fun cdv A outer s H vs Q E hr h => ?_)
  · obtain ⟨b, m, ps, rfl, _⟩ := h
    rfl
  · obtain ⟨b, m, ps, rfl, hS, hT, hF, q⟩ := h
    refine ⟨_, pss_cons (ps_set (i := 2) scStrs.nd rfl (.inr rfl) (pe_call GC hr (by rfl) gC FC.kp bC .nil pass0 (pa_cons (pv 0) (pa_cons (pv 1) pa_nil))))
      (pss_one (ps_ret (pe_lc (own := [("lot", 3)]) (g := gName 3) rfl scStrs.nd (pi_list (pv 0)) (blkOk_by (N := ["lots", "month", "scale", "lot"]) (sc := defScope sStrs) (by decide +kernel)) (fun _ _ _ _ _ => pg_name (i := 3) scStrs.nd rfl (Or.inl rfl))
        (fun _ _ _ _ _ => pts_nil) (fun _ _ _ _ _ => pe_call GS hr (by rfl) gS FS.kp bS .nil pass0 (pa_cons (pv 3) (pa_cons (pv 1) (pa_cons (pv 2) pa_nil))))))), ?_⟩
    refine ⟨_, rfl, _, rfl, b, m, ps, rfl, hS, hT, hF, ?_⟩
    refine ⟨_, rfl, b, rfl, ⟨_, hS⟩, fun D nD => lc_list (K := K) (a := b) (xs := refs ps) (fun i H' => Same H H' ∧ H' D = some (.lst (((strsOf (ps.map (·.2)) m).take i).map nV))) ⟨same_upd nD, upd_same⟩ (fun i H' _ hP => hP.1.seq hS) ?_ ?_⟩
    · rintro i y H' hy ⟨s2, hD⟩
      obtain ⟨pr, hpr, rfl⟩ := refs_at hy
      have hm : pr ∈ ps := List.mem_of_getElem? hpr
      have hl : (strsOf (ps.map (·.2)) m)[i]? = some (scaledN pr.2 m (scaleN (ps.map (·.2)) m)) := by
        unfold strsOf
        rw [List.getElem?_map, List.getElem?_map, hpr]
        rfl
      refine ⟨rfl, ?_⟩
      refine ⟨_, rfl, _, rfl, _, rfl, pr.1, m, _, pr.2, rfl, s2 _ _ (hT pr hm), ⟨hF.ok hm, hF.month, hF.scale⟩, _, hD, ?_, same_push s2 nD, ?_⟩
      · rw [List.length_map, List.length_take]
        unfold strsOf
        rw [List.length_map]
        have := hF.len'
        exact small1000 (by omega)
      · rw [upd_same, take_snoc hl, List.map_append]
        rfl
    · rintro H' ⟨s2, hD⟩
      have e : (strsOf (ps.map (·.2)) m).take (refs ps).length = strsOf (ps.map (·.2)) m := List.take_of_length_le (by unfold strsOf; rw [List.length_map, List.length_map, refs_len]; exact Nat.le_refl _)
      rw [e] at hD
      exact q H' D s2 hD
/-! ### mean_of -/
def totFrom (ls : List Lot) (m D : Nat) : Nat := ls.foldl (fun t l => t + l.weight * scaledN l m D) 0
theorem tot_snoc (ls : List Lot) (l : Lot) (m D : Nat) : totFrom (ls ++ [l]) m D = totFrom ls m D + l.weight * scaledN l m D := by
  unfold totFrom
  rw [List.foldl_append]
  rfl
theorem scMean : FnScope ["lots", "month", "total", "lot", "strength"] ["lots", "month"] (defScope sMean) := ⟨rfl, rfl, rfl, by decide +kernel, rfl, by decide +kernel, by decide +kernel⟩
def spMean (K : PySem.W.Frag) : Sp := fun vs H Q _ => ∃ (b : Addr) (m : Nat) (ps : List (Addr × Lot)), vs = [.ref b, .int m] ∧ SqL K H b (refs ps) ∧ Tups H ps ∧ Fit ps m ∧ 0 < wsum (ps.map (·.2)) ∧
  ∀ H' p, Same H H' → H' p = some (.lst (pairV (mp (ps.map (·.2)) m) (mq (ps.map (·.2)) m))) → Q (.ref p) H'
theorem ok_mean {f fT fC fW fL : Addr} {fd fdT fdC fdW fdL : FuncData} (F : Fun K "mean_of" "mean_of" sMean f fd) (GT : FnOk P w K mg base CX0 3 fT fdT ["lots", "month"] (spStrs K)) (kT : PySem.W.keepIn K (.ref fT) = true) (bT : Binds K fdT ["lots", "month"] []) (gT : mg "scaled_strengths" = some (.ref fT))
    (GC : FnOk P w K mg base CX0 2 fC fdC ["lots", "month"] (spScale K)) (kC : PySem.W.keepIn K (.ref fC) = true) (bC : Binds K fdC ["lots", "month"] []) (gC : mg "scale_of" = some (.ref fC))
    (GW : FnOk P w K mg base CX0 1 fW fdW ["lots"] (spWeight K)) (kW : PySem.W.keepIn K (.ref fW) = true) (bW : Binds K fdW ["lots"] []) (gW : mg "weight_of" = some (.ref fW))
    (GL : FnOk P w K mg base CX0 2 fL fdL ["above", "below"] spLow) (kL : PySem.W.keepIn K (.ref fL) = true) (bL : Binds K fdL ["above", "below"] []) (gL : mg "lowest" = some (.ref fL)) (mz : mg "zip" = none) : FnOk P w K mg base CX0 4 f fd ["lots", "month"] (spMean K) := by
  refine F.ok scMean (fun vs H Q E h => ?_) (fun cdv A outer s H vs Q E hr h => ?_)
  · obtain ⟨b, m, ps, rfl, _⟩ := h
    rfl
  · obtain ⟨b, m, ps, rfl, hS, hT, hF, hW, q⟩ := h
    have hr2 : Room 2 _ := hr.mono (by decide)
    have hr1 : Room 1 _ := hr.mono (by decide)
    refine ⟨_, pss_cons (ps_set (i := 2) scMean.nd rfl (.inl rfl) pe_int)
      (pss_cons (ps_for PassesOwn.never rfl (pi_zip (by rfl) mz (pa_cons (pv 0) (pa_cons (pe_call GT hr (by rfl) gT kT bT .nil pass0 (pa_cons (pv 0) (pa_cons (pv 1) pa_nil))) pa_nil)))
          (pg_tup rfl (pgs_cons (pg_name (i := 3) scMean.nd rfl (.inl rfl)) (pgs_cons (pg_name (i := 4) scMean.nd rfl (.inl rfl)) pgs_nil)))
        (pss_one (ps_set (i := 2) scMean.nd rfl (.inl rfl) (pe_op op_addN (pv 2) (pe_op op_mulB (pe_ix ix_tup (pv 3) pe_int (fun _ _ => rfl)) (pv 4))))))
      (pss_one (ps_ret (pe_call GL hr2 (by rfl) gL kL bL .nil pass0 (pa_cons (pv 2) (pa_cons (pe_op op_mulB (pe_call GC hr2 (by rfl) gC kC bC .nil pass0 (pa_cons (pv 0) (pa_cons (pv 1) pa_nil))) (pe_call GW hr1 (by rfl) gW kW bW .nil pass0 (pa_cons (pv 0) pa_nil))) pa_nil)))))), ?_⟩
    refine ⟨_, rfl, _, rfl, _, rfl, b, m, ps, rfl, hS, hT, hF, fun H1 p s1 hp => ?_⟩
    have elen : (refs ps).length = ((strsOf (ps.map (·.2)) m).map nV).length := by
      unfold strsOf
      rw [List.length_map, List.length_map, List.length_map, refs_len]
    refine ⟨b, p, refs ps, _, rfl, s1.seq hS, SqL.of hp, RZ.for_zipL elen (fun i σ H' => Same H1 H' ∧ ∃ v3 v4, σ = [some (.ref b), some (.int m), some (.int ((totFrom ((ps.map (·.2)).take i) m (scaleN (ps.map (·.2)) m) : Nat) : Int)), v3, v4])
      ⟨Same.refl H1, none, none, rfl⟩ (fun i σ H' hP => ⟨(s1.trans hP.1).seq hS, SqL.of (hP.1 _ _ hp)⟩) ?_ ?_⟩
    · rintro i x y T σ H' hx hy ⟨s2, v3, v4, rfl⟩ nT
      obtain ⟨pr, hpr, rfl⟩ := refs_at hx
      have hm : pr ∈ ps := List.mem_of_getElem? hpr
      have hl : (ps.map (·.2))[i]? = some pr.2 := by
        rw [List.getElem?_map, hpr]
        rfl
      have hy' : ((strsOf (ps.map (·.2)) m).map nV)[i]? = some (nV (scaledN pr.2 m (scaleN (ps.map (·.2)) m))) := by
        unfold strsOf
        rw [List.getElem?_map, List.getElem?_map, hl]
        rfl
      obtain rfl : y = nV (scaledN pr.2 m (scaleN (ps.map (·.2)) m)) := Option.some.inj (hy.symm.trans hy')
      have hk := ok_parts (hF.ok hm)
      have sT : Same H' (upd H' T (.tup [V.ref pr.1, nV (scaledN pr.2 m (scaleN (ps.map (·.2)) m))])) := same_upd nT
      have tup : (upd H' T (.tup [V.ref pr.1, nV (scaledN pr.2 m (scaleN (ps.map (·.2)) m))])) pr.1 = some (.tup (lV pr.2)) := sT _ _ (s2 _ _ (s1 _ _ (hT pr hm)))
      refine ⟨T, _, rfl, SqT.of upd_same, rfl, _, _, rfl, _, _, rfl, rfl, ?_⟩
      have hw : B 7 pr.2.weight := by
        show pr.2.weight < 2 ^ 7
        omega
      refine ⟨_, rfl, _, rfl, pr.1, _, 0, nV pr.2.weight, rfl, rfl, SqT.of tup, at_of (j := 0) rfl rfl, _, rfl, pr.2.weight, _, rfl, rfl, ⟨hw.mono (by decide), (scaled_B (hF.ok hm) hF.month hF.scale).mono (by decide)⟩, _, _, rfl, rfl, s2.trans sT, some (V.ref pr.1), some (nV (scaledN pr.2 m (scaleN (ps.map (·.2)) m))), ?_⟩
      rw [take_snoc hl, tot_snoc]
      rfl
    · rintro σ H' ⟨s2, v3, v4, rfl⟩
      rw [refs_len, ← List.length_map (as := ps) (f := fun p : Addr × Lot => p.2), List.take_length]
      have s12 := s1.trans s2
      refine ⟨_, rfl, _, rfl, _, rfl, b, m, ps, rfl, s12.seq hS, hT.same s12, hF, _, rfl, b, ps, rfl, s12.seq hS, hT.same s12, hF.len, fun H2 s3 => ?_⟩
      refine ⟨_, _, rfl, rfl, ⟨hF.scale.mono (by decide), (wsum_B hF.good hF.len').mono (by decide)⟩, ?_⟩
      refine ⟨_, _, rfl, ⟨meanQ_pos hF.good.dens hW m, ?_⟩, fun H3 r s4 hr => ?_⟩
      · exact (hF.scale.mul (wsum_B hF.good hF.len')).mono (by decide)
      · exact q H3 r ((s12.trans s3).trans s4) hr
end
end Fl
namespace Fl
open PySem PySem.Spec PyProof.Rows L2
open PySem.W (Codec)
abbrev sQuot : Stmt := topS 25
/-- a def that may be called by its name -/
def Cal (P : Program) (w : World) (K : PySem.W.Frag) (mg : Str → Option Value) (base : Heap) (k : Nat) (x : Str) (ps : List Str) (sp : Sp) : Prop :=
  ∃ (f : Addr) (fd : FuncData), FnOk P w K mg base CX0 k f fd ps sp ∧ PySem.W.keepIn K (.ref f) = true ∧ L2.Binds K fd ps [] ∧ mg x = some (.ref f)
theorem sel_len (ls : List Lot) (m : Nat) : (sel ls m).length ≤ ls.length := by
  unfold sel
  rw [List.length_map]
  refine Nat.le_trans (List.length_filter_le _ _) ?_
  rw [List.length_range]
  exact Nat.le_refl _
theorem fit_sel {ks : List Nat} {mask m : Nat} {qs : List (Addr × Lot)} (h : lotsOk ks = true) (hm : m ≤ 41) (e : qs.map (·.2) = sel (rowsOf ks) mask) : Fit qs m := by
  refine ⟨?_, ?_, hm⟩
  · have h1 := sel_len (rowsOf ks) mask
    have h2 := len_rows h
    have h3 := congrArg List.length e
    rw [List.length_map] at h3
    omega
  · rw [e]
    exact (good_rows h).sel mask
theorem four_rows {ks : List Nat} (h : lotsOk ks = true) : ks.length = 4 * (ks.length / 4) ∧ ks.length / 4 ≤ 6 := by
  unfold lotsOk at h
  rw [Bool.and_eq_true, Bool.and_eq_true] at h
  have h1 := of_decide_eq_true h.1.1
  have h2 := of_decide_eq_true h.1.2
  omega
theorem len_ps {ks : List Nat} {ps : List (Addr × Lot)} (h : lotsOk ks = true) (e : ps.map (·.2) = rowsOf ks) : ps.length ≤ 6 := by
  have h2 := len_rows h
  have h3 := congrArg List.length e
  rw [List.length_map] at h3
  omega
theorem tot_le {m D C : Nat} : ∀ (ls : List Lot) (t : Nat), (∀ l ∈ ls, l.weight * scaledN l m D ≤ C) → ls.foldl (fun t l => t + l.weight * scaledN l m D) t ≤ t + ls.length * C
  | [], t, _ => by
    show t ≤ t + 0 * C
    omega
  | l :: r, t, h => by
    have h1 := h l List.mem_cons_self
    have ih := tot_le r (t + l.weight * scaledN l m D) fun x hx => h x (List.mem_cons_of_mem _ hx)
    show r.foldl _ (t + l.weight * scaledN l m D) ≤ t + (r.length + 1) * C
    rw [Nat.add_mul, Nat.one_mul]
    omega
theorem B_two (n : Nat) : B (n + 1) (2 ^ n) := Nat.pow_lt_pow_right (by decide) (Nat.lt_succ_self n)
theorem B_le {k n : Nat} (h : B k n) : n ≤ 2 ^ k := Nat.le_of_lt h
theorem mean_B {ls : List Lot} (G : Good ls) (hl : ls.length ≤ 6) {m : Nat} (hm : m ≤ 41) : B 1600 (meanP ls m) ∧ B 1600 (meanQ ls m) := by
  have hD := scale_B6 hm G hl
  constructor
  · have h2 : B 3 ls.length := by
      show ls.length < 2 ^ 3
      omega
    have h1 : meanP ls m ≤ 0 + ls.length * 2 ^ 1523 := tot_le ls 0 fun l hl' => by
      have hw : B 7 l.weight := by
        have hk := ok_parts (G l hl')
        show l.weight < 2 ^ 7
        omega
      exact B_le ((hw.mul (scaled_B (G l hl') hm hD)).mono (by decide))
    rw [Nat.zero_add] at h1
    exact ((h2.mul (B_two 1523)).le h1).mono (by decide)
  · exact (hD.mul (wsum_B G hl)).mono (by decide)
theorem mpq_B {ls : List Lot} (G : Good ls) (hl : ls.length ≤ 6) {m : Nat} (hm : m ≤ 41) : B 1600 (mp ls m) ∧ B 1600 (mq ls m) :=
  ⟨(mean_B G hl hm).1.le (Nat.div_le_self _ _), (mean_B G hl hm).2.le (Nat.div_le_self _ _)⟩
section
variable {P : Program} {w : World} {K : PySem.W.Frag} {mg : Str → Option Value} {base : Heap}
/-! ### quotient_of -/
theorem scQuot : FnScope ["one", "other"] ["one", "other"] (defScope sQuot) := ⟨rfl, rfl, rfl, by decide +kernel, rfl, by decide +kernel, by decide +kernel⟩
def spQuot : Sp := fun vs H Q _ => ∃ (a b : Addr) (p q p' q' : Nat), vs = [.ref a, .ref b] ∧ (H a = some (.lst (pairV p q)) ∧ H b = some (.lst (pairV p' q'))) ∧ (0 < q ∧ 0 < p') ∧ (B 1600 p ∧ B 1600 q ∧ B 1600 p' ∧ B 1600 q') ∧
  ∀ H' r, Same H H' → H' r = some (.lst (pairV (lowP (p * q') (q * p')) (lowQ (p * q') (q * p')))) → Q (.ref r) H'
theorem ok_quot {f : Addr} {fd : FuncData} (F : Fun K "quotient_of" "quotient_of" sQuot f fd) (CL : Cal P w K mg base 2 "lowest" ["above", "below"] spLow) : FnOk P w K mg base CX0 3 f fd ["one", "other"] spQuot := by
  obtain ⟨fL, fdL, GL, kL, bL, gL⟩ := CL
  refine F.ok scQuot (fun vs H Q E h => ?_) (fun cdv A outer s H vs Q E hr h => ?_)
  · obtain ⟨a, b, p, q, p', q', rfl, _⟩ := h
    rfl
  · obtain ⟨a, b, p, q, p', q', rfl, ⟨ha, hb⟩, ⟨h1, h2⟩, ⟨b1, b2, b3, b4⟩, k⟩ := h
    refine ⟨_, pss_one (ps_ret (pe_call GL hr (by rfl) gL kL bL .nil pass0 (pa_cons (pe_op op_mulB (pe_ix ix_list (pv 0) pe_int (fun _ _ => rfl)) (pe_ix ix_list (pv 1) pe_int (fun _ _ => rfl)))
      (pa_cons (pe_op op_mulB (pe_ix ix_list (pv 0) pe_int (fun _ _ => rfl)) (pe_ix ix_list (pv 1) pe_int (fun _ _ => rfl))) pa_nil)))), ?_⟩
    refine ⟨_, rfl, a, _, 0, nV p, rfl, rfl, SqL.of ha, at_of (j := 0) rfl rfl, _, rfl, b, _, 1, nV q', rfl, rfl, SqL.of hb, at_of (j := 1) rfl rfl, p, q', rfl, rfl, ⟨b1.mono (by decide), b4.mono (by decide)⟩, ?_⟩
    refine ⟨_, rfl, a, _, 1, nV q, rfl, rfl, SqL.of ha, at_of (j := 1) rfl rfl, _, rfl, b, _, 0, nV p', rfl, rfl, SqL.of hb, at_of (j := 0) rfl rfl, q, p', rfl, rfl, ⟨b2.mono (by decide), b3.mono (by decide)⟩, ?_⟩
    exact ⟨_, _, rfl, ⟨Nat.mul_pos h1 h2, (b2.mul b3).mono (by decide)⟩, k⟩
end
end Fl
namespace Fl
open PySem PySem.Spec PyProof.Rows L2
open PySem.W (Codec)
abbrev sApi : Stmt := topS 32
section
variable {P : Program} {w : World} {K : PySem.W.Frag} {mg : Str → Option Value} {base : Heap}
/-- a list of numbers as it is handed back -/
def Back (Q : VK) (ns : List Int) : Prop := ∀ (H' : Hp) (p : Addr), H' p = some (.lst (ns.map V.int)) → Q (.ref p) H'
theorem mr1 {ks : List Nat} (h : (rowsOf ks).length ≤ 6) : (rowsOf ks).length ≤ 41 := by omega
/-! ### retention -/
theorem scApi : FnScope ["mask", "month", "lots", "error", "some", "mean"] ["mask", "month", "lots"] (defScope sApi) := ⟨rfl, rfl, rfl, by decide +kernel, rfl, by decide +kernel, by decide +kernel⟩
def spApi (K : PySem.W.Frag) : Sp := fun vs H Q _ => ∃ (a : Addr) (mask m : Nat) (ks : List Nat), vs = [.int mask, .int m, .ref a] ∧ SqL K H a (ks.map nV) ∧ Back Q (PyKs604.retention (mask : Int) (m : Int) (ks.map Int.ofNat))
theorem ok_api {f : Addr} {fd : FuncData} (F : Fun K "retention" "retention" sApi f fd) (CX : Cal P w K mg base 5 "mixture_error" ["numbers", "value", "low", "high", "mask"] (spMix K)) (CR : Cal P w K mg base 1 "rows_of" ["numbers"] (spRows K)) (CM : Cal P w K mg base 1 "members" ["mask", "lots"] (spMembers K))
    (CE : Cal P w K mg base 4 "mean_of" ["lots", "month"] (spMean K)) (CQ : Cal P w K mg base 3 "quotient_of" ["one", "other"] spQuot) (mM : ∃ t, mg "MOST_MONTH" = some (.int 40 t)) (mN : ∃ t, mg "NOTHING" = some (.int (-33) t)) : FnOk P w K mg base CX0 6 f fd ["mask", "month", "lots"] (spApi K) := by
  obtain ⟨fX, fdX, GX, kX, bX, gX⟩ := CX
  obtain ⟨fR, fdR, GR, kR, bR, gR⟩ := CR
  obtain ⟨fM, fdM, GM, kM, bM, gM⟩ := CM
  obtain ⟨fE, fdE, GE, kE, bE, gE⟩ := CE
  obtain ⟨fQ, fdQ, GQ, kQ, bQ, gQ⟩ := CQ
  obtain ⟨tM, mM⟩ := mM
  obtain ⟨tN, mN⟩ := mN
  refine F.ok scApi (fun vs H Q E h => ?_) (fun cdv A outer s H vs Q E hr h => ?_)
  · obtain ⟨a, mask, m, ks, rfl, _⟩ := h
    rfl
  · obtain ⟨a, mask, m, ks, rfl, hS, k⟩ := h
    have hr4 : Room 4 _ := hr.mono (by decide)
    have hr3 : Room 3 _ := hr.mono (by decide)
    have hr1 : Room 1 _ := hr.mono (by decide)
    refine ⟨_, pss_cons (ps_set (i := 3) scApi.nd rfl (.inl rfl) (pe_call GX hr (by rfl) gX kX bX .nil pass0 (pa_cons (pv 2) (pa_cons (pv 1) (pa_cons pe_int (pa_cons (pe_op op_sub (pe_gint rfl mM) pe_int) (pa_cons (pv 0) pa_nil)))))))
      (pss_cons (ps_if (pt_cmpR op_lt (pv 3) pe_int (nomark _)) (pss_one (ps_ret (pe_lst (pa_cons (pv 3) pa_nil)))) pss_nil)
      (pss_cons (ps_set (i := 4) scApi.nd rfl (.inl rfl) (pe_call GM hr1 (by rfl) gM kM bM .nil pass0 (pa_cons (pv 0) (pa_cons (pe_call GR hr1 (by rfl) gR kR bR .nil pass0 (pa_cons (pv 2) pa_nil)) pa_nil))))
      (pss_cons (ps_set (i := 5) scApi.nd rfl (.inl rfl) (pe_call GE hr4 (by rfl) gE kE bE .nil pass0 (pa_cons (pv 4) (pa_cons (pv 1) pa_nil))))
      (pss_cons (ps_if (pt_cmpR op_eq (pe_ix ix_list (pv 5) pe_int (fun _ _ => rfl)) pe_int (nomark _)) (pss_one (ps_ret (pe_lst (pa_cons (pe_gint rfl mN) pa_nil)))) pss_nil)
      (pss_one (ps_ret (pe_op op_cat (pe_lst (pa_cons pe_int pa_nil)) (pe_call GQ hr3 (by rfl) gQ kQ bQ .nil pass0 (pa_cons (pe_call GE hr4 (by rfl) gE kE bE .nil pass0 (pa_cons (pv 4) (pa_cons (pe_op op_add (pv 1) pe_int) pa_nil))) (pa_cons (pv 5) pa_nil)))))))))), ?_⟩
    refine ⟨_, rfl, _, rfl, _, _, rfl, rfl, _, rfl, a, ks, m, 0, 39, mask, rfl, hS, fun H1 s1 => ?_⟩
    refine ⟨_, rfl, _, _, rfl, rfl, _, rfl, ite2 (fun c => ?_) (fun c => ?_)⟩
    · have c' := of_decide_eq_true c
      refine ⟨_, rfl, (by show 1 ≤ sizeLine; decide), fun r nr => ?_⟩
      exact k _ r (by rw [s04_bad c']; exact upd_same)
    · have c' : ¬ mixErr ks m 0 39 mask < 0 := fun z => c (decide_eq_true z)
      obtain ⟨h1, _, h3, h4, h5⟩ := mix_ok c'
      refine ⟨_, rfl, _, rfl, a, ks, _, rfl, s1.seq hS, four_rows h1, fun H2 p ps s2 hp ht e => ?_⟩
      refine ⟨p, mask, ps, rfl, SqL.of hp, ht, len_ps h1 e, fun H3 p3 qs s3 hp3 ht3 e3 => ?_⟩
      rw [e] at e3
      have hF : Fit qs m := fit_sel h1 (by omega) e3
      have hF1 : Fit qs (m + 1) := fit_sel h1 (by omega) e3
      have h5' : 0 < wsum (qs.map (·.2)) := by
        rw [e3]
        exact h5
      refine ⟨_, rfl, _, rfl, p3, m, qs, rfl, SqL.of hp3, ht3, hF, h5', fun H4 r s4 hr4 => ?_⟩
      refine ⟨_, rfl, r, _, 0, nV (mp (qs.map (·.2)) m), rfl, rfl, SqL.of hr4, at_of (j := 0) rfl rfl, rfl, _, rfl, ?_⟩
      by_cases z : mp (qs.map (·.2)) m = 0
      · have ed : decide (nV (mp (qs.map (·.2)) m) = V.int 0) = true := by
          rw [z]
          rfl
        rw [ed]
        refine iteT ⟨(by show 1 ≤ sizeLine; decide), fun r nr => ?_⟩
        rw [e3] at z
        exact k _ r (by rw [s04_zero c' z]; exact upd_same)
      · have ed : decide (nV (mp (qs.map (·.2)) m) = V.int 0) = false := decide_eq_false fun q => z (by have := V.int.inj q; omega)
        rw [ed]
        refine iteF ⟨(by show 1 ≤ sizeLine; decide), fun l nl => ?_⟩
        have sl : Same H4 (upd H4 l (.lst [.int 0])) := same_upd nl
        have s34 := s4.trans sl
        refine ⟨_, rfl, _, rfl, _, _, rfl, rfl, p3, m + 1, qs, rfl, SqL.of (s34 _ _ hp3), ht3.same s34, hF1, h5', fun H5 r5 s5 hr5 => ?_⟩
        obtain ⟨b1, b2⟩ := mpq_B hF.good hF.len' hF.month
        obtain ⟨b3, b4⟩ := mpq_B hF1.good hF1.len' hF1.month
        refine ⟨_, rfl, r5, r, _, _, _, _, rfl, ⟨hr5, s5 _ _ (sl _ _ hr4)⟩, ⟨mq_pos hF1.good.dens h5' _, Nat.pos_of_ne_zero z⟩, ⟨b3, b4, b1, b2⟩, fun H6 r6 s6 hr6 => ?_⟩
        refine ⟨l, r6, _, _, rfl, rfl, s6 _ _ (s5 _ _ upd_same), hr6, (by show 1 + 2 ≤ sizeLine; decide), fun y ny => ?_⟩
        rw [e3] at z
        exact k _ y (by rw [s04_ok c' z, upd_same, e3]; rfl)
end
end Fl
namespace Fl
open PySem PySem.Spec PyProof.Rows L2
open PySem.W (Codec)
/-! ### the request -/
theorem nat_of {hi i : Int} (h : Codec.inInt 0 hi i = true) : ∃ n : Nat, i = (n : Int) := by
  unfold PySem.W.Codec.inInt at h
  rw [Bool.and_eq_true] at h
  have h0 := of_decide_eq_true h.1
  exact ⟨i.toNat, by omega⟩
theorem nats_of {hi : Int} : ∀ ns : List Int, ns.all (Codec.inInt 0 hi) = true → ∃ ks : List Nat, ns = ks.map Int.ofNat
  | [], _ => ⟨[], rfl⟩
  | i :: r, h => by
    rw [List.all_cons, Bool.and_eq_true] at h
    obtain ⟨n, e⟩ := nat_of h.1
    obtain ⟨ks, e2⟩ := nats_of r h.2
    exact ⟨n :: ks, by rw [e, e2]; rfl⟩
theorem list_of {K : PySem.W.Frag} {H : Hp} {a : Addr} {ks : List Nat} (h : SqL K H a ((ks.map Int.ofNat).map V.int)) : SqL K H a (ks.map nV) := by
  rw [List.map_map] at h
  exact h
/-! ### what the top has written, and the row -/
theorem all_mk {P : Program} {w : World} {K : PySem.W.Frag} {h : Heap} {mg : Str → Option Value} {fa f1 f2 f3 f4 f5 f6 f7 f8 f9 f10 f11 f12 f13 f14 f15 f16 f17 f18 : Addr} (X : K.In h) (G : h.Ns mainGlobals mg) (hfa : mg "retention" = some (.ref fa))
    {od1 an1 od2 an2 od3 an3 od4 an4 od5 an5 od6 an6 od7 an7 od8 an8 od9 an9 od10 an10 od11 an11 od12 an12 od13 an13 od14 an14 od15 an15 od16 an16 od17 an17 od18 an18 : Option Addr} {sl1 sl2 sl3 sl4 sl5 sl6 sl7 sl8 sl9 sl10 sl11 sl12 sl13 sl14 sl15 sl16 sl17 sl18 : Array (Option Value)} {oc1 kV1 dc1 pm1 cd1 ct1 oc2 kV2 dc2 pm2 cd2 ct2 oc3 kV3 dc3 pm3 cd3 ct3 oc4 kV4 dc4 pm4 cd4 ct4 oc5 kV5 dc5 pm5 cd5 ct5 oc6 kV6 dc6 pm6 cd6 ct6 oc7 kV7 dc7 pm7 cd7 ct7 oc8 kV8 dc8 pm8 cd8 ct8 oc9 kV9 dc9 pm9 cd9 ct9 oc10 kV10 dc10 pm10 cd10 ct10 oc11 kV11 dc11 pm11 cd11 ct11 oc12 kV12 dc12 pm12 cd12 ct12 oc13 kV13 dc13 pm13 cd13 ct13 oc14 kV14 dc14 pm14 cd14 ct14 oc15 kV15 dc15 pm15 cd15 ct15 oc16 kV16 dc16 pm16 cd16 ct16 oc17 kV17 dc17 pm17 cd17 ct17 oc18 kV18 dc18 pm18 cd18 ct18 : Value} {t0 t1 t2 t3 t4 t5 t6 t7 t8 : Tok}
    (a1 : PySem.W.nsIn K mainGlobals "is_within" = some (some (.ref f1))) (l1 : K.lookup f1 = some ⟨oc1, od1, .func (PySem.W.fnOf "is_within" "is_within" (defArgs sWithin) (defBody sWithin) (defScope sWithin) .none kV1 dc1 pm1 an1 cd1 ct1), sl1⟩) (c1 : PySem.W.codeIn K cd1 "is_within" = true) (k1 : PySem.W.keepIn K (.ref f1) = true)
    (a2 : PySem.W.nsIn K mainGlobals "rows_of" = some (some (.ref f2))) (l2 : K.lookup f2 = some ⟨oc2, od2, .func (PySem.W.fnOf "rows_of" "rows_of" (defArgs sRows) (defBody sRows) (defScope sRows) .none kV2 dc2 pm2 an2 cd2 ct2), sl2⟩) (c2 : PySem.W.codeIn K cd2 "rows_of" = true) (k2 : PySem.W.keepIn K (.ref f2) = true)
    (a3 : PySem.W.nsIn K mainGlobals "is_lot" = some (some (.ref f3))) (l3 : K.lookup f3 = some ⟨oc3, od3, .func (PySem.W.fnOf "is_lot" "is_lot" (defArgs sIsLot) (defBody sIsLot) (defScope sIsLot) .none kV3 dc3 pm3 an3 cd3 ct3), sl3⟩) (c3 : PySem.W.codeIn K cd3 "is_lot" = true) (k3 : PySem.W.keepIn K (.ref f3) = true)
    (a4 : PySem.W.nsIn K mainGlobals "are_lots" = some (some (.ref f4))) (l4 : K.lookup f4 = some ⟨oc4, od4, .func (PySem.W.fnOf "are_lots" "are_lots" (defArgs sAreLots) (defBody sAreLots) (defScope sAreLots) .none kV4 dc4 pm4 an4 cd4 ct4), sl4⟩) (c4 : PySem.W.codeIn K cd4 "are_lots" = true) (k4 : PySem.W.keepIn K (.ref f4) = true)
    (a5 : PySem.W.nsIn K mainGlobals "members" = some (some (.ref f5))) (l5 : K.lookup f5 = some ⟨oc5, od5, .func (PySem.W.fnOf "members" "members" (defArgs sMembers) (defBody sMembers) (defScope sMembers) .none kV5 dc5 pm5 an5 cd5 ct5), sl5⟩) (c5 : PySem.W.codeIn K cd5 "members" = true) (k5 : PySem.W.keepIn K (.ref f5) = true)
    (a6 : PySem.W.nsIn K mainGlobals "weight_of" = some (some (.ref f6))) (l6 : K.lookup f6 = some ⟨oc6, od6, .func (PySem.W.fnOf "weight_of" "weight_of" (defArgs sWeight) (defBody sWeight) (defScope sWeight) .none kV6 dc6 pm6 an6 cd6 ct6), sl6⟩) (c6 : PySem.W.codeIn K cd6 "weight_of" = true) (k6 : PySem.W.keepIn K (.ref f6) = true)
    (a7 : PySem.W.nsIn K mainGlobals "argument_error" = some (some (.ref f7))) (l7 : K.lookup f7 = some ⟨oc7, od7, .func (PySem.W.fnOf "argument_error" "argument_error" (defArgs sArg) (defBody sArg) (defScope sArg) .none kV7 dc7 pm7 an7 cd7 ct7), sl7⟩) (c7 : PySem.W.codeIn K cd7 "argument_error" = true) (k7 : PySem.W.keepIn K (.ref f7) = true)
    (a8 : PySem.W.nsIn K mainGlobals "set_error" = some (some (.ref f8))) (l8 : K.lookup f8 = some ⟨oc8, od8, .func (PySem.W.fnOf "set_error" "set_error" (defArgs sSet) (defBody sSet) (defScope sSet) .none kV8 dc8 pm8 an8 cd8 ct8), sl8⟩) (c8 : PySem.W.codeIn K cd8 "set_error" = true) (k8 : PySem.W.keepIn K (.ref f8) = true)
    (a9 : PySem.W.nsIn K mainGlobals "mixture_error" = some (some (.ref f9))) (l9 : K.lookup f9 = some ⟨oc9, od9, .func (PySem.W.fnOf "mixture_error" "mixture_error" (defArgs sMix) (defBody sMix) (defScope sMix) .none kV9 dc9 pm9 an9 cd9 ct9), sl9⟩) (c9 : PySem.W.codeIn K cd9 "mixture_error" = true) (k9 : PySem.W.keepIn K (.ref f9) = true)
    (a10 : PySem.W.nsIn K mainGlobals "power" = some (some (.ref f10))) (l10 : K.lookup f10 = some ⟨oc10, od10, .func (PySem.W.fnOf "power" "power" (defArgs sPower) (defBody sPower) (defScope sPower) .none kV10 dc10 pm10 an10 cd10 ct10), sl10⟩) (c10 : PySem.W.codeIn K cd10 "power" = true) (k10 : PySem.W.keepIn K (.ref f10) = true)
    (a11 : PySem.W.nsIn K mainGlobals "divisor_of" = some (some (.ref f11))) (l11 : K.lookup f11 = some ⟨oc11, od11, .func (PySem.W.fnOf "divisor_of" "divisor_of" (defArgs sGcd) (defBody sGcd) (defScope sGcd) .none kV11 dc11 pm11 an11 cd11 ct11), sl11⟩) (c11 : PySem.W.codeIn K cd11 "divisor_of" = true) (k11 : PySem.W.keepIn K (.ref f11) = true)
    (a12 : PySem.W.nsIn K mainGlobals "lowest" = some (some (.ref f12))) (l12 : K.lookup f12 = some ⟨oc12, od12, .func (PySem.W.fnOf "lowest" "lowest" (defArgs sLow) (defBody sLow) (defScope sLow) .none kV12 dc12 pm12 an12 cd12 ct12), sl12⟩) (c12 : PySem.W.codeIn K cd12 "lowest" = true) (k12 : PySem.W.keepIn K (.ref f12) = true)
    (a13 : PySem.W.nsIn K mainGlobals "quotient_of" = some (some (.ref f13))) (l13 : K.lookup f13 = some ⟨oc13, od13, .func (PySem.W.fnOf "quotient_of" "quotient_of" (defArgs sQuot) (defBody sQuot) (defScope sQuot) .none kV13 dc13 pm13 an13 cd13 ct13), sl13⟩) (c13 : PySem.W.codeIn K cd13 "quotient_of" = true) (k13 : PySem.W.keepIn K (.ref f13) = true)
    (a14 : PySem.W.nsIn K mainGlobals "scale_of" = some (some (.ref f14))) (l14 : K.lookup f14 = some ⟨oc14, od14, .func (PySem.W.fnOf "scale_of" "scale_of" (defArgs sScale) (defBody sScale) (defScope sScale) .none kV14 dc14 pm14 an14 cd14 ct14), sl14⟩) (c14 : PySem.W.codeIn K cd14 "scale_of" = true) (k14 : PySem.W.keepIn K (.ref f14) = true)
    (a15 : PySem.W.nsIn K mainGlobals "scaled_strength" = some (some (.ref f15))) (l15 : K.lookup f15 = some ⟨oc15, od15, .func (PySem.W.fnOf "scaled_strength" "scaled_strength" (defArgs sStr) (defBody sStr) (defScope sStr) .none kV15 dc15 pm15 an15 cd15 ct15), sl15⟩) (c15 : PySem.W.codeIn K cd15 "scaled_strength" = true) (k15 : PySem.W.keepIn K (.ref f15) = true)
    (a16 : PySem.W.nsIn K mainGlobals "scaled_strengths" = some (some (.ref f16))) (l16 : K.lookup f16 = some ⟨oc16, od16, .func (PySem.W.fnOf "scaled_strengths" "scaled_strengths" (defArgs sStrs) (defBody sStrs) (defScope sStrs) .none kV16 dc16 pm16 an16 cd16 ct16), sl16⟩) (c16 : PySem.W.codeIn K cd16 "scaled_strengths" = true) (k16 : PySem.W.keepIn K (.ref f16) = true)
    (a17 : PySem.W.nsIn K mainGlobals "mean_of" = some (some (.ref f17))) (l17 : K.lookup f17 = some ⟨oc17, od17, .func (PySem.W.fnOf "mean_of" "mean_of" (defArgs sMean) (defBody sMean) (defScope sMean) .none kV17 dc17 pm17 an17 cd17 ct17), sl17⟩) (c17 : PySem.W.codeIn K cd17 "mean_of" = true) (k17 : PySem.W.keepIn K (.ref f17) = true)
    (a18 : PySem.W.nsIn K mainGlobals "retention" = some (some (.ref f18))) (l18 : K.lookup f18 = some ⟨oc18, od18, .func (PySem.W.fnOf "retention" "retention" (defArgs sApi) (defBody sApi) (defScope sApi) .none kV18 dc18 pm18 an18 cd18 ct18), sl18⟩) (c18 : PySem.W.codeIn K cd18 "retention" = true) (k18 : PySem.W.keepIn K (.ref f18) = true)
    (q0 : PySem.W.nsIn K mainGlobals "MOST_LOTS" = some (some (.int 6 t0)))
    (q1 : PySem.W.nsIn K mainGlobals "MOST_WEIGHT" = some (some (.int 99 t1)))
    (q2 : PySem.W.nsIn K mainGlobals "MOST_STRENGTH" = some (some (.int 999 t2)))
    (q3 : PySem.W.nsIn K mainGlobals "MOST_DEN" = some (some (.int 20 t3)))
    (q4 : PySem.W.nsIn K mainGlobals "MOST_MONTH" = some (some (.int 40 t4)))
    (q5 : PySem.W.nsIn K mainGlobals "LOT_SIZE" = some (some (.int 4 t5)))
    (q6 : PySem.W.nsIn K mainGlobals "NO_WEIGHT" = some (some (.int (-6) t6)))
    (q7 : PySem.W.nsIn K mainGlobals "OUT_OF_RANGE" = some (some (.int (-22) t7)))
    (q8 : PySem.W.nsIn K mainGlobals "NOTHING" = some (some (.int (-33) t8)))
    (z_len : PySem.W.nsIn K mainGlobals "len" = some none)
    (z_range : PySem.W.nsIn K mainGlobals "range" = some none)
    (z_sum : PySem.W.nsIn K mainGlobals "sum" = some none)
    (z_zip : PySem.W.nsIn K mainGlobals "zip" = some none) :
    ∃ fd : FuncData, (∀ (s : Shared) (us : List Value), us.length = (["mask", "month", "lots"] : List Str).length → BindsTo s fd ⟨us, []⟩ ((["mask", "month", "lots"] : List Str).zip us)) ∧ ∀ base : Heap, K.In base → base.Ns mainGlobals mg → FnOk P w K mg base CX0 6 fa fd ["mask", "month", "lots"] (spApi K) := by
  have e := hfa.symm.trans (PySem.W.mg_of X G a18)
  cases e
  have F1 := fun_mk (st := sWithin) l1 c1 k1
  have b1 := F1.binds (ps := ["value", "low", "high"]) fun _ _ _ _ _ _ us hl => match us, hl with | [_, _, _], _ => rfl
  have g1 := PySem.W.mg_of X G a1
  have F2 := fun_mk (st := sRows) l2 c2 k2
  have b2 := F2.binds (ps := ["numbers"]) fun _ _ _ _ _ _ us hl => match us, hl with | [_], _ => rfl
  have g2 := PySem.W.mg_of X G a2
  have F3 := fun_mk (st := sIsLot) l3 c3 k3
  have b3 := F3.binds (ps := ["lot"]) fun _ _ _ _ _ _ us hl => match us, hl with | [_], _ => rfl
  have g3 := PySem.W.mg_of X G a3
  have F4 := fun_mk (st := sAreLots) l4 c4 k4
  have b4 := F4.binds (ps := ["numbers"]) fun _ _ _ _ _ _ us hl => match us, hl with | [_], _ => rfl
  have g4 := PySem.W.mg_of X G a4
  have F5 := fun_mk (st := sMembers) l5 c5 k5
  have b5 := F5.binds (ps := ["mask", "lots"]) fun _ _ _ _ _ _ us hl => match us, hl with | [_, _], _ => rfl
  have g5 := PySem.W.mg_of X G a5
  have F6 := fun_mk (st := sWeight) l6 c6 k6
  have b6 := F6.binds (ps := ["lots"]) fun _ _ _ _ _ _ us hl => match us, hl with | [_], _ => rfl
  have g6 := PySem.W.mg_of X G a6
  have F7 := fun_mk (st := sArg) l7 c7 k7
  have b7 := F7.binds (ps := ["numbers", "value", "low", "high"]) fun _ _ _ _ _ _ us hl => match us, hl with | [_, _, _, _], _ => rfl
  have g7 := PySem.W.mg_of X G a7
  have F8 := fun_mk (st := sSet) l8 c8 k8
  have b8 := F8.binds (ps := ["numbers", "mask"]) fun _ _ _ _ _ _ us hl => match us, hl with | [_, _], _ => rfl
  have g8 := PySem.W.mg_of X G a8
  have F9 := fun_mk (st := sMix) l9 c9 k9
  have b9 := F9.binds (ps := ["numbers", "value", "low", "high", "mask"]) fun _ _ _ _ _ _ us hl => match us, hl with | [_, _, _, _, _], _ => rfl
  have g9 := PySem.W.mg_of X G a9
  have F10 := fun_mk (st := sPower) l10 c10 k10
  have b10 := F10.binds (ps := ["base", "times"]) fun _ _ _ _ _ _ us hl => match us, hl with | [_, _], _ => rfl
  have g10 := PySem.W.mg_of X G a10
  have F11 := fun_mk (st := sGcd) l11 c11 k11
  have b11 := F11.binds (ps := ["one", "other"]) fun _ _ _ _ _ _ us hl => match us, hl with | [_, _], _ => rfl
  have g11 := PySem.W.mg_of X G a11
  have F12 := fun_mk (st := sLow) l12 c12 k12
  have b12 := F12.binds (ps := ["above", "below"]) fun _ _ _ _ _ _ us hl => match us, hl with | [_, _], _ => rfl
  have g12 := PySem.W.mg_of X G a12
  have F13 := fun_mk (st := sQuot) l13 c13 k13
  have b13 := F13.binds (ps := ["one", "other"]) fun _ _ _ _ _ _ us hl => match us, hl with | [_, _], _ => rfl
  have g13 := PySem.W.mg_of X G a13
  have F14 := fun_mk (st := sScale) l14 c14 k14
  have b14 := F14.binds (ps := ["lots", "month"]) fun _ _ _ _ _ _ us hl => match us, hl with | [_, _], _ => rfl
  have g14 := PySem.W.mg_of X G a14
  have F15 := fun_mk (st := sStr) l15 c15 k15
  have b15 := F15.binds (ps := ["lot", "month", "scale"]) fun _ _ _ _ _ _ us hl => match us, hl with | [_, _, _], _ => rfl
  have g15 := PySem.W.mg_of X G a15
  have F16 := fun_mk (st := sStrs) l16 c16 k16
  have b16 := F16.binds (ps := ["lots", "month"]) fun _ _ _ _ _ _ us hl => match us, hl with | [_, _], _ => rfl
  have g16 := PySem.W.mg_of X G a16
  have F17 := fun_mk (st := sMean) l17 c17 k17
  have b17 := F17.binds (ps := ["lots", "month"]) fun _ _ _ _ _ _ us hl => match us, hl with | [_, _], _ => rfl
  have g17 := PySem.W.mg_of X G a17
  have F18 := fun_mk (st := sApi) l18 c18 k18
  have mMOST_LOTS : ∃ t, mg "MOST_LOTS" = some (.int 6 t) := ⟨_, PySem.W.mg_of X G q0⟩
  have mMOST_WEIGHT : ∃ t, mg "MOST_WEIGHT" = some (.int 99 t) := ⟨_, PySem.W.mg_of X G q1⟩
  have mMOST_STRENGTH : ∃ t, mg "MOST_STRENGTH" = some (.int 999 t) := ⟨_, PySem.W.mg_of X G q2⟩
  have mMOST_DEN : ∃ t, mg "MOST_DEN" = some (.int 20 t) := ⟨_, PySem.W.mg_of X G q3⟩
  have mMOST_MONTH : ∃ t, mg "MOST_MONTH" = some (.int 40 t) := ⟨_, PySem.W.mg_of X G q4⟩
  have mLOT_SIZE : ∃ t, mg "LOT_SIZE" = some (.int 4 t) := ⟨_, PySem.W.mg_of X G q5⟩
  have mNO_WEIGHT : ∃ t, mg "NO_WEIGHT" = some (.int (-6) t) := ⟨_, PySem.W.mg_of X G q6⟩
  have mOUT_OF_RANGE : ∃ t, mg "OUT_OF_RANGE" = some (.int (-22) t) := ⟨_, PySem.W.mg_of X G q7⟩
  have mNOTHING : ∃ t, mg "NOTHING" = some (.int (-33) t) := ⟨_, PySem.W.mg_of X G q8⟩
  have n_len := PySem.W.mg_none_of X G z_len
  have n_range := PySem.W.mg_none_of X G z_range
  have n_sum := PySem.W.mg_none_of X G z_sum
  have n_zip := PySem.W.mg_none_of X G z_zip
  refine ⟨PySem.W.fnOf "retention" "retention" (defArgs sApi) (defBody sApi) (defScope sApi) .none kV18 dc18 pm18 an18 cd18 ct18, fun s us hu => match us, hu with | [_, _, _], _ => .of_eq rfl, fun base _ _ => ?_⟩
  have G4 : FnOk P w K mg base CX0 3 f4 _ ["numbers"] (spAre K) := ok_are F4 F2 b2 g2 F3 b3 g3 F1 b1 g1 mMOST_WEIGHT mMOST_STRENGTH mMOST_DEN mMOST_LOTS mLOT_SIZE n_range n_len
  have G2 : FnOk P w K mg base CX0 1 f2 _ ["numbers"] (spRows K) := ok_rows F2 n_range n_len mLOT_SIZE
  have G7 : FnOk P w K mg base CX0 4 f7 _ ["numbers", "value", "low", "high"] (spArg K) := ok_arg F7 G4 F4.kp b4 g4 F1 b1 g1 mOUT_OF_RANGE
  have G5 : FnOk P w K mg base CX0 1 f5 _ ["mask", "lots"] (spMembers K) := ok_members F5 n_range n_len
  have G6 : FnOk P w K mg base CX0 1 f6 _ ["lots"] (spWeight K) := ok_weight F6 n_sum
  have G8 : FnOk P w K mg base CX0 2 f8 _ ["numbers", "mask"] (spSet K) := ok_set F8 F2 b2 g2 F5 b5 g5 F6 b6 g6 mLOT_SIZE mOUT_OF_RANGE mNO_WEIGHT n_range n_len n_sum
  have G9 : FnOk P w K mg base CX0 5 f9 _ ["numbers", "value", "low", "high", "mask"] (spMix K) := ok_mix F9 G7 F7.kp b7 g7 G8 F8.kp b8 g8
  have G14 : FnOk P w K mg base CX0 2 f14 _ ["lots", "month"] (spScale K) := ok_scale F14 F10 b10 g10 n_range
  have G16 : FnOk P w K mg base CX0 3 f16 _ ["lots", "month"] (spStrs K) := ok_strs F16 F14 b14 g14 F15 b15 g15 F10 b10 g10 n_range
  have G12 : FnOk P w K mg base CX0 2 f12 _ ["above", "below"] spLow := ok_low F12 F11 b11 g11
  have G17 : FnOk P w K mg base CX0 4 f17 _ ["lots", "month"] (spMean K) := ok_mean F17 G16 F16.kp b16 g16 G14 F14.kp b14 g14 G6 F6.kp b6 g6 G12 F12.kp b12 g12 n_zip
  have G13 : FnOk P w K mg base CX0 3 f13 _ ["one", "other"] spQuot := ok_quot F13 ⟨_, _, G12, F12.kp, b12, g12⟩
  exact ok_api F18 ⟨_, _, G9, F9.kp, b9, g9⟩ ⟨_, _, G2, F2.kp, b2, g2⟩ ⟨_, _, G5, F5.kp, b5, g5⟩ ⟨_, _, G17, F17.kp, b17, g17⟩ ⟨_, _, G13, F13.kp, b13, g13⟩ mMOST_MONTH mNOTHING
end Fl
open PySem PySem.W PyProof.Rows
set_option maxRecDepth 100000 in
set_option maxHeartbeats 0 in
theorem PySem.Challenge.cw_fadinglots_s04_retention_holds : PySem.Challenge.rw_fadinglots_s04_retention.Holds := by
  w_on; k_headS; (case hw => exact ⟨[.int 0, .int 0, .list []], by decide +kernel, by decide +kernel⟩)
  k_fillS
  refine L2.walk_specK (r := PySem.Challenge.rw_fadinglots_s04_retention) (k := 6) (CX := L2.CX0) (ps := ["mask", "month", "lots"]) (sp := Fl.spApi) (by decide +kernel) rfl rfl ⟨rfl, by decide, by decide⟩ (fun w h Y => PySem.W.kIn_of Y) ?F ?S (fun _ _ _ _ z => z)
  case F =>
    intro w mg fa h Y KX G hmg
    refine' Fl.all_mk KX G hmg ?a1 ?l1 ?c1 ?k1 ?a2 ?l2 ?c2 ?k2 ?a3 ?l3 ?c3 ?k3 ?a4 ?l4 ?c4 ?k4 ?a5 ?l5 ?c5 ?k5 ?a6 ?l6 ?c6 ?k6 ?a7 ?l7 ?c7 ?k7 ?a8 ?l8 ?c8 ?k8 ?a9 ?l9 ?c9 ?k9 ?a10 ?l10 ?c10 ?k10 ?a11 ?l11 ?c11 ?k11 ?a12 ?l12 ?c12 ?k12 ?a13 ?l13 ?c13 ?k13 ?a14 ?l14 ?c14 ?k14 ?a15 ?l15 ?c15 ?k15 ?a16 ?l16 ?c16 ?k16 ?a17 ?l17 ?c17 ?k17 ?a18 ?l18 ?c18 ?k18 ?q0 ?q1 ?q2 ?q3 ?q4 ?q5 ?q6 ?q7 ?q8 ?z_len ?z_range ?z_sum ?z_zip
    (case a1 => k_is)
    (case l1 => k_is)
    (case c1 => k_is)
    (case k1 => k_is)
    (case a2 => k_is)
    (case l2 => k_is)
    (case c2 => k_is)
    (case k2 => k_is)
    (case a3 => k_is)
    (case l3 => k_is)
    (case c3 => k_is)
    (case k3 => k_is)
    (case a4 => k_is)
    (case l4 => k_is)
    (case c4 => k_is)
    (case k4 => k_is)
    (case a5 => k_is)
    (case l5 => k_is)
    (case c5 => k_is)
    (case k5 => k_is)
    (case a6 => k_is)
    (case l6 => k_is)
    (case c6 => k_is)
    (case k6 => k_is)
    (case a7 => k_is)
    (case l7 => k_is)
    (case c7 => k_is)
    (case k7 => k_is)
    (case a8 => k_is)
    (case l8 => k_is)
    (case c8 => k_is)
    (case k8 => k_is)
    (case a9 => k_is)
    (case l9 => k_is)
    (case c9 => k_is)
    (case k9 => k_is)
    (case a10 => k_is)
    (case l10 => k_is)
    (case c10 => k_is)
    (case k10 => k_is)
    (case a11 => k_is)
    (case l11 => k_is)
    (case c11 => k_is)
    (case k11 => k_is)
    (case a12 => k_is)
    (case l12 => k_is)
    (case c12 => k_is)
    (case k12 => k_is)
    (case a13 => k_is)
    (case l13 => k_is)
    (case c13 => k_is)
    (case k13 => k_is)
    (case a14 => k_is)
    (case l14 => k_is)
    (case c14 => k_is)
    (case k14 => k_is)
    (case a15 => k_is)
    (case l15 => k_is)
    (case c15 => k_is)
    (case k15 => k_is)
    (case a16 => k_is)
    (case l16 => k_is)
    (case c16 => k_is)
    (case k16 => k_is)
    (case a17 => k_is)
    (case l17 => k_is)
    (case c17 => k_is)
    (case k17 => k_is)
    (case a18 => k_is)
    (case l18 => k_is)
    (case c18 => k_is)
    (case k18 => k_is)
    (case q0 => k_is)
    (case q1 => k_is)
    (case q2 => k_is)
    (case q3 => k_is)
    (case q4 => k_is)
    (case q5 => k_is)
    (case q6 => k_is)
    (case q7 => k_is)
    (case q8 => k_is)
    (case z_len => k_is)
    (case z_range => k_is)
    (case z_sum => k_is)
    (case z_zip => k_is)
  case S =>
    intro K H xs a hO hwi hask hx
    obtain ⟨i, j, ns, u⟩ := a
    cases hx with
    | cons h1 h2 =>
      cases h1
      cases h2 with
      | cons h2 h3 =>
        cases h2
        cases h3 with
        | cons h3 h4 =>
          cases h4
          cases h3 with
          | lst hs ha =>
            have e := L2.ints_dw ns _ ha
            subst e
            have q : (Codec.inInt 0 4294967295 i && (Codec.inInt 0 4294967295 j && ((Codec.inLen 0 27 ns && ns.all (Codec.inInt 0 4294967295)) && true))) = true := hwi
            rw [Bool.and_eq_true, Bool.and_eq_true, Bool.and_eq_true, Bool.and_eq_true] at q
            obtain ⟨m, rfl⟩ := Fl.nat_of q.1
            obtain ⟨t, rfl⟩ := Fl.nat_of q.2.1
            obtain ⟨ks, rfl⟩ := Fl.nats_of ns q.2.2.1.2
            exact ⟨_, m, t, ks, rfl, Fl.list_of hs, fun H1 p hp => .lst (L2.SqL.of hp) (L2.dw_ints _)⟩
