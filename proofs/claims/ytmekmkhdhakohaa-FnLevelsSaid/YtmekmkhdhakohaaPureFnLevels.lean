/- The pure side of FnLevels: what the program's text computes and what the reference's text computes are the same value, for every argument. No condition. -/
import Derived.Test.YtmekmkhdhakohaaPFnLevelsx27
namespace Go.Proofs.Ytmekmkhdhakohaa.Pure
open Go.RowKit Go.Proofs.Ytmekmkhdhakohaa.PFnLevels Go.Proofs.YtmekmkhdhakohaaW.PrintWords Go.Proofs.YtmekmkhdhakohaaW.PrintLast
set_option linter.unusedVariables false
set_option linter.unusedSimpArgs false

theorem ev_succ {α : Type} {g : Nat → Option α} {r : α} (h : Ev (fun k => g (k + 1)) r) : Ev g r := Ev.step (fun _ => rfl) h
theorem ev_pure {α : Type} {x : Option α} {r : α} (h : x = some r) : Ev (fun _ => x) r := ⟨0, fun _ _ => h⟩
theorem ev_eq {α : Type} {g : Nat → Option α} {r r' : α} (h : Ev g r) (e : r = r') : Ev g r' := e ▸ h
theorem ev_ite {α : Type} {c : Prop} [Decidable c] {g f : Nat → Option α} {r : α} (h1 : c → Ev g r) (h2 : ¬ c → Ev f r) : Ev (fun k => if c then g k else f k) r := by
 by_cases h : c
 ·simp only [h, if_true]; exact h1 h
 ·simp only [h, if_false]; exact h2 h
theorem w64 {x : Int} (h : -9223372036854775808 ≤ x) (h' : x ≤ 9223372036854775807) : wrap64 x = x := by unfold wrap64; omega
theorem w64_zero : wrap64 0 = 0 := w64 (by omega) (by omega)
theorem w64_idem (x : Int) : wrap64 (wrap64 x) = wrap64 x := by unfold wrap64; omega
theorem w64_add_l (x y : Int) : wrap64 (wrap64 x + y) = wrap64 (x + y) := by unfold wrap64; omega
theorem w64_add_r (x y : Int) : wrap64 (x + wrap64 y) = wrap64 (x + y) := by unfold wrap64; omega
theorem w64_nat {i n : Nat} (h : i < n) (hn : n ≤ 9223372036854775807) : wrap64 ((i : Int) + 1) = ((i + 1 : Nat) : Int) := by rw [w64 (by omega) (by omega)]; rfl
theorem rd_nat {l : List Int} {i : Nat} (h : i < l.length) : rd l (i : Int) = l[i] := by
 unfold rd
 simp [List.getD_eq_getElem?_getD, h]
def allB (l : List Int) (a b : Int) : Bool := l.all fun x => decide (a ≤ x ∧ x ≤ b)
def inB (x a b : Int) : Bool := decide (a ≤ x ∧ x ≤ b)
theorem allB_mem {l : List Int} {a b : Int} (h : allB l a b = true) : ∀ x ∈ l, a ≤ x ∧ x ≤ b := by
 intro x hx
 have := List.all_eq_true.1 h x hx
 simpa using this
theorem inB_iff {x a b : Int} : inB x a b = true ↔ a ≤ x ∧ x ≤ b := by unfold inB; simp
theorem sum_le {l : List Int} {b : Int} (hb : ∀ x ∈ l, x ≤ b) : l.sum ≤ l.length * b := by
 induction l with
 | nil => simp
 | cons x l ih =>
  have h1 := hb x (by simp)
  have h2 := ih (fun y hy => hb y (by simp [hy]))
  rw [List.sum_cons, List.length_cons]
  have : ((l.length + 1 : Nat) : Int) * b = l.length * b + b := by rw [Int.natCast_add, Int.add_mul]; simp
  rw [this]; omega
theorem le_sum {l : List Int} {b : Int} (hb : ∀ x ∈ l, b ≤ x) : l.length * b ≤ l.sum := by
 induction l with
 | nil => simp
 | cons x l ih =>
  have h1 := hb x (by simp)
  have h2 := ih (fun y hy => hb y (by simp [hy]))
  rw [List.sum_cons, List.length_cons]
  have : ((l.length + 1 : Nat) : Int) * b = l.length * b + b := by rw [Int.natCast_add, Int.add_mul]; simp
  rw [this]; omega
theorem drop_cons {α : Type} {l : List α} {i : Nat} (h : i < l.length) : l.drop i = l[i] :: l.drop (i + 1) := List.drop_eq_getElem_cons h
theorem ev_yes {α : Type} {c : Prop} [Decidable c] {g f : Nat → Option α} {r : α} (h : c) (hg : Ev g r) : Ev (fun k => if c then g k else f k) r := ev_ite (fun _ => hg) (fun hn => absurd h hn)
theorem ev_no {α : Type} {c : Prop} [Decidable c] {g f : Nat → Option α} {r : α} (h : ¬ c) (hf : Ev f r) : Ev (fun k => if c then g k else f k) r := ev_ite (fun hn => absurd hn h) (fun _ => hf)

theorem ev_spec_l2Sum_l0 (l : List Int) (hl : l.length ≤ 9223372036854775807) (d : Nat) : ∀ (i : Nat) (s : Int), i + d = l.length → wrap64 s = s → Ev (fun k => spec_l2Sum.l0 k l s (i : Int)) (wrap64 (s + (l.drop i).sum)) := by
 induction d with
 | zero =>
  intro i s hi hs
  refine ev_succ ?_
  have h1 : ¬ (i : Int) < (l.length : Int) := by omega
  simp only [spec_l2Sum.l0, h1, ↓reduceIte]
  rw [List.drop_eq_nil_of_le (by omega)]
  simp only [List.sum_nil, Int.add_zero, hs]
  exact Ev.now _
 | succ d ih =>
  intro i s hi hs
  refine ev_succ ?_
  have h1 : (i : Int) < (l.length : Int) := by omega
  have h0 : (0 : Int) ≤ (i : Int) := by omega
  have hi' : i < l.length := by omega
  simp only [spec_l2Sum.l0, h1, h0, ↓reduceIte, rd_nat hi', w64_nat hi' hl]
  refine ev_eq (ih (i + 1) _ (by omega) (w64_idem _)) ?_
  rw [drop_cons hi', List.sum_cons, w64_add_l, Int.add_assoc]
theorem ev_spec_l2Sum (l : List Int) (hl : l.length ≤ 9223372036854775807) : Ev (fun k => spec_l2Sum.f k l) (wrap64 l.sum) := by
 unfold spec_l2Sum.f
 simpa using ev_spec_l2Sum_l0 l hl l.length 0 0 (by omega) w64_zero

theorem spec_l1In_f (a b c : Int) : spec_l1In.f a b c = some (inB a b c) := by
 unfold spec_l1In.f inB
 by_cases h : a ≥ b
 ·rw [if_pos h]; congr 1; rw [decide_eq_decide]; omega
 ·rw [if_neg h]; congr 1; symm; rw [decide_eq_false_iff_not]; omega

theorem ev_spec_l2Row_l0 (n b : Int) (l : List Int) (hl : l.length ≤ 9223372036854775807) (d : Nat) : ∀ i : Nat, i + d = l.length → Ev (fun k => spec_l2Row.l0 k l n b (i : Int)) (allB (l.drop i) 0 b && ((l.length : Int) == n)) := by
 induction d with
 | zero =>
  intro i hi
  refine ev_succ ?_
  have h1 : ¬ (i : Int) < (l.length : Int) := by omega
  simp only [spec_l2Row.l0, h1, ↓reduceIte]
  rw [List.drop_eq_nil_of_le (by omega)]
  exact Ev.now _
 | succ d ih =>
  intro i hi
  refine ev_succ ?_
  have h1 : (i : Int) < (l.length : Int) := by omega
  have h0 : (0 : Int) ≤ (i : Int) := by omega
  have hi' : i < l.length := by omega
  simp only [spec_l2Row.l0, h1, h0, ↓reduceIte, spec_l1In_f, Option.bind_some, rd_nat hi', w64_nat hi' hl]
  rw [drop_cons hi']
  show Ev _ ((inB l[i] 0 b && allB (l.drop (i + 1)) 0 b) && _)
  cases inB l[i] 0 b with
  | true => simpa using ih (i + 1) (by omega)
  | false => simpa using Ev.now false
theorem ev_spec_l2Row (l : List Int) (n b : Int) (hl : l.length ≤ 9223372036854775807) : Ev (fun k => spec_l2Row.f k l n b) (allB l 0 b && ((l.length : Int) == n)) := by
 unfold spec_l2Row.f
 simpa using ev_spec_l2Row_l0 n b l hl l.length 0 (by omega)

def cst (h b x : Int) : Int := if x > 0 then wrap64 (h * x) else wrap64 (wrap64 (-b) * x)
theorem cst_impl {h b x : Int} (hh : 0 ≤ h ∧ h ≤ 9) (hb : 0 ≤ b ∧ b ≤ 9) (hx : -100000 ≤ x ∧ x ≤ 100000) : wrap64 (wrap64 (h * mx 0 x) + wrap64 (b * mx 0 (wrap64 (-x)))) = cst h b x := by
 have e : wrap64 (-x) = -x := w64 (by omega) (by omega)
 have e2 : wrap64 (-b) = -b := w64 (by omega) (by omega)
 rw [e]
 unfold cst
 rw [e2]
 by_cases hp : x > 0
 ·have m1 : mx 0 x = x := by unfold mx; omega
  have m2 : mx 0 (-x) = 0 := by unfold mx; omega
  rw [m1, m2, if_pos hp, Int.mul_zero, w64_add_l, w64_add_r, Int.add_zero]
 ·have m1 : mx 0 x = 0 := by unfold mx; omega
  have m2 : mx 0 (-x) = -x := by unfold mx; omega
  rw [m1, m2, if_neg hp, Int.mul_zero, w64_add_l, w64_add_r, Int.zero_add, Int.mul_neg, Int.neg_mul]
def procB (n : Int) (l : List Int) (s u h b : Int) : Bool := inB n 0 5 && (inB (l.length : Int) 1 5 && (allB l 0 4 && (decide (wrap64 l.sum > 0) && (inB s 0 99 && (inB u 0 9 && (inB h 0 9 && inB b 0 9))))))
theorem procB_spec {n : Int} {l : List Int} {s u h b : Int} (hp : procB n l s u h b = true) : (0 ≤ n ∧ n ≤ 5) ∧ (1 ≤ l.length ∧ l.length ≤ 5) ∧ (∀ x ∈ l, 0 ≤ x ∧ x ≤ 4) ∧ (0 < l.sum ∧ l.sum ≤ 20) ∧ (0 ≤ s ∧ s ≤ 99) ∧ (0 ≤ u ∧ u ≤ 9) ∧ (0 ≤ h ∧ h ≤ 9) ∧ (0 ≤ b ∧ b ≤ 9) := by
 unfold procB at hp
 simp only [Bool.and_eq_true, inB_iff, decide_eq_true_eq] at hp
 obtain ⟨h1, h2, h3, h4, h5, h6, h7, h8⟩ := hp
 have hm := allB_mem h3
 have s1 := sum_le (b := 4) (fun y hy => (hm y hy).2)
 have s2 := le_sum (b := 0) (fun y hy => (hm y hy).1)
 rw [w64 (by omega) (by omega)] at h4
 exact ⟨h1, by omega, hm, by omega, h5, h6, h7, h8⟩
def floorV (l : List Int) : Int := wrap64 (wrap64 ((l.length : Int) - 1) - 10)
theorem floorV_eq {l : List Int} (h : l.length ≤ 5) : floorV l = (l.length : Int) - 11 := by
 unfold floorV
 rw [w64 (x := (l.length : Int) - 1) (by omega) (by omega), w64 (by omega) (by omega)]
 omega
def orderV (s u x y : Int) : Int := if y > x then wrap64 (s + wrap64 (u * wrap64 (y - x))) else 0

theorem ev_spec_l6Good (n : Int) (l : List Int) (s u h b : Int) (hl : l.length ≤ 9223372036854775807) : Ev (fun k => spec_l6Good.f k n l s u h b) (procB n l s u h b) := by
 unfold spec_l6Good.f procB
 simp only [spec_l1In_f, Option.bind_some]
 refine ev_ite (fun h1 => ?_) (fun h1 => ?_)
 ·refine ev_ite (fun h2 => ?_) (fun h2 => ?_)
  ·refine Ev.bind (ev_spec_l2Row l _ 4 hl) ?_
   simp only [beq_self_eq_true, Bool.and_true]
   refine ev_ite (fun h3 => ?_) (fun h3 => ?_)
   ·refine Ev.bind (ev_spec_l2Sum l hl) ?_
    refine ev_ite (fun h4 => ?_) (fun h4 => ?_)
    ·refine ev_eq (ev_pure (x := _) (r := inB s 0 99 && (inB u 0 9 && (inB h 0 9 && inB b 0 9))) ?_) ?_
     ·cases inB s 0 99 <;> cases inB u 0 9 <;> cases inB h 0 9 <;> rfl
     ·simp [h1, h2, h3, h4]
    ·exact ev_eq (Ev.now _) (by simp [h4])
   ·exact ev_eq (Ev.now _) (by simp [h3])
  ·exact ev_eq (Ev.now _) (by simp [h2])
 ·exact ev_eq (Ev.now _) (by simp [h1])

theorem ev_spec_l6Turn (n : Int) (l : List Int) (s u h b t : Int) (hl : l.length ≤ 9223372036854775807) : Ev (fun k => spec_l6Turn.f k n l s u h b t) (procB n l s u h b && inB t 0 (wrap64 (n - 1))) := by
 unfold spec_l6Turn.f
 simp only [spec_l1In_f, Option.bind_some]
 refine Ev.bind (ev_spec_l6Good n l s u h b hl) ?_
 refine ev_ite (fun h1 => ?_) (fun h1 => ?_)
 ·exact ev_eq (Ev.now _) (by simp [h1])
 ·exact ev_eq (Ev.now _) (by simp [h1])

theorem spec_l6Level_f (x : Int) : spec_l6Level.f x = some (inB x (-10) 10) := by
 unfold spec_l6Level.f
 rw [spec_l1In_f, Option.bind_some]

theorem spec_l6Order_f (n : Int) (l : List Int) (s u h b x y : Int) : spec_l6Order.f n l s u h b x y = some (orderV s u x y) := by
 unfold spec_l6Order.f orderV
 split <;> rfl

def powW (a : Int) : Nat → Int
 | 0 => 1
 | m + 1 => wrap64 (powW a m * a)
def powV (l : List Int) (n : Int) : Int := powW (wrap64 l.sum) n.toNat
def aftW (h b pw : Int) (N : List Int) : List Int → Int → Int → Int
 | [], _, acc => acc
 | w :: ws, y, acc => aftW h b pw N ws (y - 1) (wrap64 (acc + wrap64 (w * wrap64 (wrap64 (cst h b y * pw) + rd N (y + 10)))))
def aftV (l : List Int) (h b : Int) (N : List Int) (y m : Int) : Int := aftW h b (powV l (m - 1)) N l y 0
def lvCost (l : List Int) (s u h b : Int) (N : List Int) (m x y : Int) : Int := wrap64 (wrap64 (orderV s u x y * powV l m) + aftV l h b N y m)
def dnV (c : Int → Int) (hi : Int) : Nat → Int × Int
 | 0 => (hi, c hi)
 | d + 1 => if c (hi - ((d + 1 : Nat) : Int)) ≤ (dnV c hi d).2 then (hi - ((d + 1 : Nat) : Int), c (hi - ((d + 1 : Nat) : Int))) else dnV c hi d
def fwdV (c : Int → Int) : Nat → Int → Int × Int → Int × Int
 | 0, _, r => r
 | d + 1, y, r => fwdV c d (y + 1) (if c y < r.2 then (y, c y) else r)
theorem fwdV_dn (c : Int → Int) (d : Nat) : ∀ (y : Int) (r : Int × Int), fwdV c (d + 1) y r = if r.2 ≤ (dnV c (y + d) d).2 then r else dnV c (y + d) d := by
 induction d with
 | zero =>
  intro y r
  simp only [fwdV, dnV, Int.natCast_zero, Int.add_zero]
  by_cases h : c y < r.2
  ·rw [if_pos h, if_neg (by omega)]
  ·rw [if_neg h, if_pos (by omega)]
 | succ d ih =>
  intro y r
  rw [fwdV, ih]
  have e : y + ((d + 1 : Nat) : Int) = y + 1 + (d : Int) := by omega
  have e2 : y + 1 + (d : Int) - ((d + 1 : Nat) : Int) = y := by omega
  rw [e, dnV, e2]
  generalize dnV c (y + 1 + (d : Int)) d = q
  by_cases h1 : c y < r.2
  ·rw [if_pos h1]
   by_cases h2 : c y ≤ q.2
   ·rw [if_pos h2]
    rw [if_neg (by show ¬ r.2 ≤ c y; omega)]
   ·rw [if_neg h2]
    rw [if_neg (by omega)]
  ·rw [if_neg h1]
   by_cases h2 : c y ≤ q.2
   ·rw [if_pos h2]
    rw [if_pos (by omega), if_pos (by show r.2 ≤ c y; omega)]
   ·rw [if_neg h2]
def bestV (l : List Int) (s u h b : Int) (N : List Int) (m x : Int) : Int × Int := dnV (lvCost l s u h b N m x) 10 (10 - mx x (floorV l)).toNat
theorem fwdV_best (c : Int → Int) {lo : Int} (h : lo ≤ 10) : fwdV c (10 - lo).toNat (lo + 1) (lo, c lo) = dnV c 10 (10 - lo).toNat := by
 obtain ⟨d, hd⟩ : ∃ d : Nat, (10 - lo).toNat = d := ⟨_, rfl⟩
 rw [hd]
 cases d with
 | zero =>
  have : lo = 10 := by omega
  subst this
  rfl
 | succ d =>
  rw [fwdV_dn]
  have e : lo + 1 + (d : Int) = 10 := by omega
  have e2 : (10 : Int) - ((d + 1 : Nat) : Int) = lo := by omega
  rw [e, dnV, e2]
def rowV (l : List Int) (s u h b : Int) (N : List Int) (m : Int) : List Int := (List.range 21).map fun (i : Nat) => (bestV l s u h b N m ((i : Int) - 10)).2
theorem rowV_len (l : List Int) (s u h b : Int) (N : List Int) (m : Int) : (rowV l s u h b N m).length = 21 := by simp [rowV]
theorem rowV_get (l : List Int) (s u h b : Int) (N : List Int) (m : Int) {i : Nat} (hi : i < 21) : (rowV l s u h b N m)[i]? = some (bestV l s u h b N m ((i : Int) - 10)).2 := by
 simp [rowV, hi]
theorem rowV_take (l : List Int) (s u h b : Int) (N : List Int) (m : Int) {i : Nat} (hi : i < 21) : (rowV l s u h b N m).take (i + 1) = (rowV l s u h b N m).take i ++ [(bestV l s u h b N m ((i : Int) - 10)).2] := by
 rw [List.take_add_one, rowV_get l s u h b N m hi]
 rfl
def wts (l : List Int) (s u h b : Int) : Nat → List (List Int)
 | 0 => [List.replicate 21 0]
 | m + 1 => rowV l s u h b ((wts l s u h b m).headD []) ((m + 1 : Nat) : Int) :: wts l s u h b m
theorem wts_len (l : List Int) (s u h b : Int) : ∀ m, (wts l s u h b m).length = m + 1
 | 0 => rfl
 | m + 1 => by rw [wts, List.length_cons, wts_len]
theorem wts_rows (l : List Int) (s u h b : Int) : ∀ m, ∀ r ∈ wts l s u h b m, r.length = 21
 | 0, r, hr => by simp only [wts, List.mem_singleton] at hr; rw [hr]; simp
 | m + 1, r, hr => by
  rw [wts, List.mem_cons] at hr
  cases hr with
  | inl e => rw [e, rowV_len]
  | inr e => exact wts_rows l s u h b m r e
theorem wts_head (l : List Int) (s u h b : Int) (m : Nat) : (wts l s u h b m).headD [] = (wts l s u h b m).getD 0 [] := by
 cases m <;> rfl
theorem wts_head_len (l : List Int) (s u h b : Int) (m : Nat) : ((wts l s u h b m).headD []).length = 21 := by
 cases m with
 | zero => simp [wts]
 | succ m => rw [wts, List.headD_cons, rowV_len]
def billV (l : List Int) (u h b : Int) (N : List Int) (m y : Int) : Int := wrap64 (wrap64 (wrap64 (u * y) * powV l m) + aftV l h b N y m)
def billsV (l : List Int) (u h b : Int) (N : List Int) (m : Int) : List Int := (List.range (22 - l.length)).map fun (i : Nat) => billV l u h b N m (floorV l + (i : Int))
theorem billsV_len (l : List Int) (u h b : Int) (N : List Int) (m : Int) : (billsV l u h b N m).length = 22 - l.length := by simp [billsV]
theorem billsV_take (l : List Int) (u h b : Int) (N : List Int) (m : Int) {i : Nat} (hi : i < 22 - l.length) : (billsV l u h b N m).take (i + 1) = (billsV l u h b N m).take i ++ [billV l u h b N m (floorV l + (i : Int))] := by
 rw [List.take_add_one]
 simp [billsV, hi]
def nextV (n : Int) (l : List Int) (s u h b t : Int) : List Int := (wts l s u h b n.toNat).getD (t + 1).toNat []
theorem nextV_len {n : Int} {l : List Int} {s u h b t : Int} (ht : 0 ≤ t ∧ t ≤ n - 1) : (nextV n l s u h b t).length = 21 := by
 unfold nextV
 have hl : (t + 1).toNat < (wts l s u h b n.toNat).length := by rw [wts_len]; omega
 rw [List.getD_eq_getElem?_getD, List.getElem?_eq_getElem hl]
 exact wts_rows l s u h b _ _ (List.getElem_mem hl)
def billsOfV (n : Int) (l : List Int) (s u h b t : Int) : List Int × Bool :=
 if (procB n l s u h b && inB t 0 (wrap64 (n - 1))) = true then (billsV l u h b (nextV n l s u h b t) (n - t), true) else ([], false)
theorem billsOfV_len (n : Int) (l : List Int) (s u h b t : Int) : (billsOfV n l s u h b t).1.length ≤ 22 := by
 unfold billsOfV
 split
 ·dsimp only; rw [billsV_len]; omega
 ·simp
theorem turnB_spec {n : Int} {l : List Int} {s u h b t : Int} (hc : (procB n l s u h b && inB t 0 (wrap64 (n - 1))) = true) : procB n l s u h b = true ∧ 0 ≤ t ∧ t ≤ n - 1 := by
 rw [Bool.and_eq_true] at hc
 have h1 := procB_spec hc.1
 have h2 := inB_iff.1 hc.2
 rw [w64 (by omega) (by omega)] at h2
 exact ⟨hc.1, h2⟩

theorem ev_spec_l6Power_l0 (a n : Int) (hn : 0 ≤ n ∧ n ≤ 100) (d : Nat) : ∀ (i : Nat), (i : Int) + d = n → Ev (fun k => spec_l6Power.l0 k n (powW a i) a (i : Int)) (powW a n.toNat) := by
 induction d with
 | zero =>
  intro i hi
  refine ev_succ ?_
  have h1 : ¬ (i : Int) < n := by omega
  simp only [spec_l6Power.l0, h1, ↓reduceIte]
  rw [show n.toNat = i by omega]
  exact Ev.now _
 | succ d ih =>
  intro i hi
  refine ev_succ ?_
  have h1 : (i : Int) < n := by omega
  simp only [spec_l6Power.l0, h1, ↓reduceIte]
  rw [w64 (x := (i : Int) + 1) (by omega) (by omega)]
  have h2 := ih (i + 1) (by omega)
  rw [powW] at h2
  exact h2
theorem ev_spec_l6Power (n : Int) (l : List Int) (s u h b m : Int) (hl : l.length ≤ 9223372036854775807) (hm : 0 ≤ m ∧ m ≤ 100) : Ev (fun k => spec_l6Power.f k n l s u h b m) (powV l m) := by
 unfold spec_l6Power.f powV
 exact Ev.bind (ev_spec_l2Sum l hl) (ev_spec_l6Power_l0 _ m hm m.toNat 0 (by omega))

theorem spec_l6Kept_f (n : Int) (l : List Int) (s u h b x : Int) : spec_l6Kept.f n l s u h b x = some (cst h b x) := by
 unfold spec_l6Kept.f cst
 split <;> rfl

theorem ev_spec_l6After_l0 (n : Int) (l : List Int) (s u h b : Int) (N : List Int) (y m : Int) (hl : l.length ≤ 5) (hN : N.length = 21) (hm : 1 ≤ m ∧ m ≤ 6) (hy : (l.length : Int) - 11 ≤ y ∧ y ≤ 10) (d : Nat) : ∀ (i : Nat) (acc : Int), i + d = l.length → Ev (fun k => spec_l6After.l0 k N y m acc (i : Int) n l s u h b) (aftW h b (powV l (m - 1)) N (l.drop i) (y - i) acc) := by
 induction d with
 | zero =>
  intro i acc hi
  refine ev_succ ?_
  have h1 : ¬ (i : Int) < (l.length : Int) := by omega
  simp only [spec_l6After.l0, h1, ↓reduceIte]
  rw [List.drop_eq_nil_of_le (by omega), aftW]
  exact Ev.now _
 | succ d ih =>
  intro i acc hi
  refine ev_succ ?_
  have h1 : (i : Int) < (l.length : Int) := by omega
  have h0 : (0 : Int) ≤ (i : Int) := by omega
  have hi' : i < l.length := by omega
  have e1 : wrap64 (y - (i : Int)) = y - i := w64 (by omega) (by omega)
  have e2 : wrap64 (y - (i : Int) + 10) = y - i + 10 := w64 (by omega) (by omega)
  have e3 : wrap64 (m - 1) = m - 1 := w64 (by omega) (by omega)
  have e4 : wrap64 ((i : Int) + 1) = ((i + 1 : Nat) : Int) := w64_nat hi' (by omega)
  simp only [spec_l6After.l0, h1, h0, ↓reduceIte, e1, e2, e3, e4, spec_l6Kept_f, Option.bind_some]
  refine Ev.bind (ev_spec_l6Power n l s u h b (m - 1) (by omega) (by omega)) ?_
  refine ev_yes (show (0 : Int) ≤ y - i + 10 by omega) (ev_yes (show y - (i : Int) + 10 < (N.length : Int) by omega) ?_)
  rw [rd_nat hi', drop_cons hi', aftW]
  refine ev_eq (ih (i + 1) _ (by omega)) ?_
  rw [show y - ((i + 1 : Nat) : Int) = y - (i : Int) - 1 by omega]
theorem ev_spec_l6After (n : Int) (l : List Int) (s u h b : Int) (N : List Int) (y m : Int) (hl : l.length ≤ 5) (hN : N.length = 21) (hm : 1 ≤ m ∧ m ≤ 6) (hy : (l.length : Int) - 11 ≤ y ∧ y ≤ 10) : Ev (fun k => spec_l6After.f k n l s u h b N y m) (aftV l h b N y m) := by
 unfold spec_l6After.f aftV
 refine ev_eq (ev_spec_l6After_l0 n l s u h b N y m hl hN hm hy l.length 0 0 (by omega)) ?_
 rw [List.drop_zero, show y - ((0 : Nat) : Int) = y by omega]

theorem spec_l6Floor_f (n : Int) (l : List Int) (s u h b : Int) : spec_l6Floor.f n l s u h b = some (floorV l) := rfl

theorem spec_l1Most_f (a b : Int) : spec_l1Most.f a b = some (mx b a) := by
 unfold spec_l1Most.f mx
 by_cases h : a > b
 ·rw [if_pos h, if_pos (by omega)]
 ·rw [if_neg h, if_neg (by omega)]

theorem ev_spec_l6Best_l0 (n : Int) (l : List Int) (s u h b : Int) (N : List Int) (x m : Int) (hl : 1 ≤ l.length ∧ l.length ≤ 5) (hN : N.length = 21) (hm : 1 ≤ m ∧ m ≤ 6) (hx : -10 ≤ x ∧ x ≤ 10) (d : Nat) : ∀ (j : Nat), j + d = (10 - mx x (floorV l)).toNat → Ev (fun k => spec_l6Best.l0 k N x m (dnV (lvCost l s u h b N m x) 10 j).1 (dnV (lvCost l s u h b N m x) 10 j).2 (10 - ((j + 1 : Nat) : Int)) n l s u h b) (bestV l s u h b N m x) := by
 have hf := floorV_eq hl.2
 have hlo : mx x (floorV l) ≤ 10 ∧ (l.length : Int) - 11 ≤ mx x (floorV l) ∧ x ≤ mx x (floorV l) ∧ -10 ≤ mx x (floorV l) := by unfold mx; omega
 induction d with
 | zero =>
  intro j hj
  refine ev_succ ?_
  simp only [spec_l6Best.l0, spec_l6Floor_f, spec_l1Most_f, Option.bind_some]
  rw [show mx (floorV l) x = mx x (floorV l) by unfold mx; omega]
  refine ev_no (by omega) ?_
  refine ev_eq (Ev.now _) ?_
  unfold bestV
  rw [show (10 - mx x (floorV l)).toNat = j by omega]
 | succ d ih =>
  intro j hj
  refine ev_succ ?_
  simp only [spec_l6Best.l0, spec_l6Floor_f, spec_l1Most_f, Option.bind_some, spec_l6Order_f]
  rw [show mx (floorV l) x = mx x (floorV l) by unfold mx; omega]
  simp only [show ((10 - ((j + 1 : Nat) : Int)) ≥ mx x (floorV l)) = True from eq_true (by omega), if_true]
  refine Ev.bind (ev_spec_l6Power n l s u h b m (by omega) (by omega)) ?_
  refine Ev.bind (ev_spec_l6After n l s u h b N _ m hl.2 hN hm (by omega)) ?_
  refine ev_no (by omega) ?_
  have e : wrap64 (10 - ((j + 1 : Nat) : Int) - 1) = 10 - ((j + 1 + 1 : Nat) : Int) := by rw [w64 (by omega) (by omega)]; omega
  rw [e]
  have h2 := ih (j + 1) (by omega)
  rw [dnV] at h2
  refine ev_ite (fun h3 => ?_) (fun h3 => ?_)
  ·have h3' : lvCost l s u h b N m x (10 - ((j + 1 : Nat) : Int)) ≤ (dnV (lvCost l s u h b N m x) 10 j).2 := h3
   rw [if_pos h3'] at h2; exact h2
  ·have h3' : ¬ lvCost l s u h b N m x (10 - ((j + 1 : Nat) : Int)) ≤ (dnV (lvCost l s u h b N m x) 10 j).2 := h3
   rw [if_neg h3'] at h2; exact h2
theorem ev_spec_l6Best (n : Int) (l : List Int) (s u h b : Int) (N : List Int) (x m : Int) (hl : 1 ≤ l.length ∧ l.length ≤ 5) (hN : N.length = 21) (hm : 1 ≤ m ∧ m ≤ 6) (hx : -10 ≤ x ∧ x ≤ 10) : Ev (fun k => spec_l6Best.f k n l s u h b N x m) (bestV l s u h b N m x) := by
 have hf := floorV_eq hl.2
 have hlo : mx x (floorV l) ≤ 10 := by unfold mx; omega
 unfold spec_l6Best.f
 refine ev_succ ?_
 simp only [spec_l6Best.l0, spec_l6Floor_f, spec_l1Most_f, Option.bind_some, spec_l6Order_f]
 rw [show mx (floorV l) x = mx x (floorV l) by unfold mx; omega]
 simp only [show ((10 : Int) ≥ mx x (floorV l)) = True from eq_true (by omega), if_true]
 refine Ev.bind (ev_spec_l6Power n l s u h b m (by omega) (by omega)) ?_
 refine Ev.bind (ev_spec_l6After n l s u h b N _ m hl.2 hN hm (by omega)) ?_
 rw [show wrap64 ((10 : Int) - 1) = 10 - ((0 + 1 : Nat) : Int) from w64 (by omega) (by omega)]
 exact ev_spec_l6Best_l0 n l s u h b N x m hl hN hm hx (10 - mx x (floorV l)).toNat 0 (by omega)

theorem ev_spec_l6Worths_l1 (n : Int) (l : List Int) (s u h b : Int) (hl : 1 ≤ l.length ∧ l.length ≤ 5) (hn : 0 ≤ n ∧ n ≤ 5) (m : Nat) (hm : (m : Int) + 1 ≤ n) {r : List (List Int)} (hc : Ev (fun k => spec_l6Worths.l0 k (wts l s u h b (m + 1)) (n - 1 - ((m + 1 : Nat) : Int)) n l s u h b) r) (d : Nat) : ∀ (i : Nat), i + d = 21 → Ev (fun k => spec_l6Worths.l1 k (wts l s u h b m) (n - 1 - (m : Int)) ((rowV l s u h b ((wts l s u h b m).headD []) ((m + 1 : Nat) : Int)).take i) ((i : Int) - 10) n l s u h b) r := by
 induction d with
 | zero =>
  intro i hi
  refine ev_succ ?_
  have h1 : ¬ (i : Int) - 10 ≤ 10 := by omega
  simp only [spec_l6Worths.l1, h1, ↓reduceIte, Option.bind_some]
  rw [List.take_of_length_le (by rw [rowV_len]; omega)]
  refine ev_yes (by rw [wts_len]; (try simp only [List.length_singleton]); omega) ?_
  rw [show wrap64 (n - 1 - (m : Int) - 1) = n - 1 - ((m + 1 : Nat) : Int) by rw [w64 (by omega) (by omega)]; omega]
  exact hc
 | succ d ih =>
  intro i hi
  refine ev_succ ?_
  have h1 : (i : Int) - 10 ≤ 10 := by omega
  have h2 : (0 : Int) < ((wts l s u h b m).length : Int) := by rw [wts_len]; omega
  have e1 : wrap64 (n - (n - 1 - (m : Int))) = ((m + 1 : Nat) : Int) := by rw [w64 (by omega) (by omega)]; omega
  have e2 : wrap64 ((i : Int) - 10 + 1) = ((i + 1 : Nat) : Int) - 10 := by rw [w64 (by omega) (by omega)]; omega
  simp only [spec_l6Worths.l1, h1, h2, ↓reduceIte, e1, e2]
  have e3 : rd_L1 (wts l s u h b m) 0 = (wts l s u h b m).headD [] := by rw [wts_head]; rfl
  rw [e3]
  refine Ev.bind (ev_spec_l6Best n l s u h b _ _ _ hl (wts_head_len l s u h b m) (by omega) (by omega)) ?_
  refine ev_yes (by rw [List.length_take, rowV_len]; omega) ?_
  rw [← rowV_take l s u h b _ _ (by omega)]
  exact ih (i + 1) (by omega)
theorem ev_spec_l6Worths_l0 (n : Int) (l : List Int) (s u h b : Int) (hl : 1 ≤ l.length ∧ l.length ≤ 5) (hn : 0 ≤ n ∧ n ≤ 5) (d : Nat) : ∀ (m : Nat), (m : Int) + d = n → Ev (fun k => spec_l6Worths.l0 k (wts l s u h b m) (n - 1 - (m : Int)) n l s u h b) (wts l s u h b n.toNat) := by
 induction d with
 | zero =>
  intro m hm
  refine ev_succ ?_
  have h1 : ¬ n - 1 - (m : Int) ≥ 0 := by omega
  simp only [spec_l6Worths.l0, h1, ↓reduceIte]
  rw [show n.toNat = m by omega]
  exact Ev.now _
 | succ d ih =>
  intro m hm
  refine ev_succ ?_
  have h1 : n - 1 - (m : Int) ≥ 0 := by omega
  simp only [spec_l6Worths.l0, h1, ↓reduceIte]
  exact ev_spec_l6Worths_l1 n l s u h b hl hn m (by omega) (ih (m + 1) (by omega)) 21 0 (by omega)
theorem ev_spec_l6Worths (n : Int) (l : List Int) (s u h b : Int) (hl : 1 ≤ l.length ∧ l.length ≤ 5) (hn : 0 ≤ n ∧ n ≤ 5) : Ev (fun k => spec_l6Worths.f k n l s u h b) (wts l s u h b n.toNat) := by
 unfold spec_l6Worths.f
 refine ev_yes (by omega) ?_
 rw [show wrap64 (n - 1) = n - 1 - ((0 : Nat) : Int) by rw [w64 (by omega) (by omega)]; omega]
 first
  | exact ev_spec_l6Worths_l0 n l s u h b hl hn n.toNat 0 (by omega)
  | exact ev_yes (by simp) (ev_spec_l6Worths_l0 n l s u h b hl hn n.toNat 0 (by omega))

def bestOrderV (n : Int) (l : List Int) (s u h b t x : Int) : Int × Bool :=
 if (procB n l s u h b && inB t 0 (wrap64 (n - 1)) && inB x (-10) 10) = true then ((bestV l s u h b (nextV n l s u h b t) (n - t) x).1, true) else (0, false)

theorem rdL_getD' (W : List (List Int)) (i : Int) : rd_L1 W i = W.getD i.toNat [] := rfl
theorem ev_spec_BestOrder_no (n : Int) (l : List Int) (s u h b t x : Int) : Ev (fun k => spec_BestOrder.j0 k t x true n l s u h b) (0, false) := by
 refine ev_succ ?_
 simp only [spec_BestOrder.j0, ↓reduceIte]
 exact Ev.now _
theorem ev_spec_BestOrder (n : Int) (l : List Int) (s u h b t x : Int) (hl : l.length ≤ 9223372036854775807) : Ev (fun k => spec_BestOrder.f k n l s u h b t x) (bestOrderV n l s u h b t x) := by
 unfold spec_BestOrder.f bestOrderV
 refine Ev.bind (ev_spec_l6Turn n l s u h b t hl) ?_
 refine ev_ite (fun hc => ?_) (fun hc => ?_)
 ·simp only [spec_l6Level_f, Option.bind_some, hc, Bool.true_and]
  cases hx : inB x (-10) 10 with
  | false => exact ev_spec_BestOrder_no n l s u h b t x
  | true =>
   have ht := turnB_spec hc
   have hp := procB_spec ht.1
   have hx2 := inB_iff.1 hx
   simp only [Bool.not_true, ↓reduceIte]
   refine ev_succ ?_
   simp only [spec_BestOrder.j0, Bool.false_eq_true, ↓reduceIte]
   refine Ev.bind (ev_spec_l6Worths n l s u h b hp.2.1 hp.1) ?_
   rw [show wrap64 (t + 1) = t + 1 from w64 (by omega) (by omega), show wrap64 (n - t) = n - t from w64 (by omega) (by omega), rdL_getD']
   refine ev_yes (by omega) (ev_yes (by rw [wts_len]; omega) ?_)
   exact Ev.bind (ev_spec_l6Best n l s u h b _ x (n - t) hp.2.1 (nextV_len ht.2) (by omega) hx2) (Ev.now _)
 ·have hc2 : (procB n l s u h b && inB t 0 (wrap64 (n - 1))) = false := by simpa using hc
  rw [hc2]
  exact ev_spec_BestOrder_no n l s u h b t x

theorem impl_within_f (a b c : Int) : impl_within.f a b c = some (inB a b c) := by
 unfold impl_within.f inB
 by_cases h : a ≥ b
 ·rw [if_pos h]; congr 1; rw [decide_eq_decide]; omega
 ·rw [if_neg h]; congr 1; symm; rw [decide_eq_false_iff_not]; omega

theorem ev_impl_allWithin_l0 (a b : Int) (l : List Int) (hl : l.length ≤ 9223372036854775807) (d : Nat) : ∀ i : Nat, i + d = l.length → Ev (fun k => impl_allWithin.l0 k a b l (l.length : Int) (i : Int)) (allB (l.drop i) a b) := by
 induction d with
 | zero =>
  intro i hi
  refine ev_succ ?_
  have h1 : ¬ (i : Int) < (l.length : Int) := by omega
  simp only [impl_allWithin.l0, h1, ↓reduceIte]
  rw [List.drop_eq_nil_of_le (by omega)]
  exact Ev.now _
 | succ d ih =>
  intro i hi
  refine ev_succ ?_
  have h1 : (i : Int) < (l.length : Int) := by omega
  have h0 : (0 : Int) ≤ (i : Int) := by omega
  have hi' : i < l.length := by omega
  simp only [impl_allWithin.l0, h1, h0, ↓reduceIte, impl_within_f, Option.bind_some, rd_nat hi', w64_nat hi' hl]
  rw [drop_cons hi']
  show Ev _ (inB l[i] a b && allB (l.drop (i + 1)) a b)
  cases inB l[i] a b with
  | true => simpa using ih (i + 1) (by omega)
  | false => simpa using Ev.now false
theorem ev_impl_allWithin (l : List Int) (a b : Int) (hl : l.length ≤ 9223372036854775807) : Ev (fun k => impl_allWithin.f k l a b) (allB l a b) := by
 unfold impl_allWithin.f
 simpa using ev_impl_allWithin_l0 a b l hl l.length 0 (by omega)

theorem ev_impl_total_l0 (l : List Int) (hl : l.length ≤ 9223372036854775807) (d : Nat) : ∀ (i : Nat) (s : Int), i + d = l.length → wrap64 s = s → Ev (fun k => impl_total.l0 k s l (l.length : Int) (i : Int)) (wrap64 (s + (l.drop i).sum)) := by
 induction d with
 | zero =>
  intro i s hi hs
  refine ev_succ ?_
  have h1 : ¬ (i : Int) < (l.length : Int) := by omega
  simp only [impl_total.l0, h1, ↓reduceIte]
  rw [List.drop_eq_nil_of_le (by omega)]
  simp only [List.sum_nil, Int.add_zero, hs]
  exact Ev.now _
 | succ d ih =>
  intro i s hi hs
  refine ev_succ ?_
  have h1 : (i : Int) < (l.length : Int) := by omega
  have h0 : (0 : Int) ≤ (i : Int) := by omega
  have hi' : i < l.length := by omega
  simp only [impl_total.l0, h1, h0, ↓reduceIte, rd_nat hi', w64_nat hi' hl]
  refine ev_eq (ih (i + 1) _ (by omega) (w64_idem _)) ?_
  rw [drop_cons hi', List.sum_cons, w64_add_l, Int.add_assoc]
theorem ev_impl_total (l : List Int) (hl : l.length ≤ 9223372036854775807) : Ev (fun k => impl_total.f k l) (wrap64 l.sum) := by
 unfold impl_total.f
 simpa using ev_impl_total_l0 l hl l.length 0 0 (by omega) w64_zero

theorem ev_impl_IsProcess (n : Int) (l : List Int) (s u h b : Int) (hl : l.length ≤ 9223372036854775807) : Ev (fun k => impl_IsProcess.f k n l s u h b) (procB n l s u h b) := by
 unfold impl_IsProcess.f procB
 simp only [impl_within_f, Option.bind_some]
 refine ev_ite (fun h1 => ?_) (fun h1 => ?_)
 ·refine ev_ite (fun h2 => ?_) (fun h2 => ?_)
  ·refine Ev.bind (ev_impl_allWithin l 0 4 hl) ?_
   refine ev_ite (fun h3 => ?_) (fun h3 => ?_)
   ·refine Ev.bind (ev_impl_total l hl) ?_
    refine ev_ite (fun h4 => ?_) (fun h4 => ?_)
    ·refine ev_ite (fun h5 => ?_) (fun h5 => ?_)
     ·refine Ev.bind (ev_impl_allWithin [u, h, b] 0 9 (by simp)) ?_
      refine ev_eq (Ev.now _) ?_
      have e : allB [u, h, b] 0 9 = (inB u 0 9 && (inB h 0 9 && inB b 0 9)) := by simp [allB, inB]
      rw [e]
      simp [h1, h2, h3, h4, h5]
     ·exact ev_eq (Ev.now _) (by simp [h5])
    ·exact ev_eq (Ev.now _) (by simp [h4])
   ·exact ev_eq (Ev.now _) (by simp [h3])
  ·exact ev_eq (Ev.now _) (by simp [h2])
 ·exact ev_eq (Ev.now _) (by simp [h1])

theorem ev_impl_isTurn (n : Int) (l : List Int) (s u h b t : Int) (hl : l.length ≤ 9223372036854775807) : Ev (fun k => impl_isTurn.f k n l s u h b t) (procB n l s u h b && inB t 0 (wrap64 (n - 1))) := by
 unfold impl_isTurn.f
 simp only [impl_within_f, Option.bind_some]
 refine Ev.bind (ev_impl_IsProcess n l s u h b hl) ?_
 refine ev_ite (fun h1 => ?_) (fun h1 => ?_)
 ·exact ev_eq (Ev.now _) (by simp [h1])
 ·exact ev_eq (Ev.now _) (by simp [h1])

theorem impl_isLevel_f (x : Int) : impl_isLevel.f x = some (inB x (-10) 10) := by
 unfold impl_isLevel.f
 rw [impl_within_f, Option.bind_some]

theorem impl_Process_order_f (n : Int) (l : List Int) (s u h b x y : Int) (hxy : x ≤ y) : impl_Process_order.f n l s u h b x y = some (orderV s u x y) := by
 unfold impl_Process_order.f orderV
 by_cases hc : y = x
 ·rw [if_pos hc, if_neg (by omega)]
 ·rw [if_neg hc, if_pos (by omega)]

theorem ev_impl_power_l0 (a n : Int) (hn : 0 ≤ n ∧ n ≤ 100) (d : Nat) : ∀ (i : Nat), (i : Int) + d = n → Ev (fun k => impl_power.l0 k a (powW a i) n (i : Int)) (powW a n.toNat) := by
 induction d with
 | zero =>
  intro i hi
  refine ev_succ ?_
  have h1 : ¬ (i : Int) < n := by omega
  simp only [impl_power.l0, h1, ↓reduceIte]
  rw [show n.toNat = i by omega]
  exact Ev.now _
 | succ d ih =>
  intro i hi
  refine ev_succ ?_
  have h1 : (i : Int) < n := by omega
  simp only [impl_power.l0, h1, ↓reduceIte]
  rw [w64 (x := (i : Int) + 1) (by omega) (by omega)]
  have h2 := ih (i + 1) (by omega)
  rw [powW] at h2
  exact h2
theorem ev_impl_power (a n : Int) (hn : 0 ≤ n ∧ n ≤ 100) : Ev (fun k => impl_power.f k a n) (powW a n.toNat) := by
 unfold impl_power.f
 exact ev_impl_power_l0 a n hn n.toNat 0 (by omega)

theorem ev_impl_Process_whole (n : Int) (l : List Int) (s u h b m : Int) (hl : l.length ≤ 9223372036854775807) (hm : 0 ≤ m ∧ m ≤ 100) : Ev (fun k => impl_Process_whole.f k n l s u h b m) (powV l m) := by
 unfold impl_Process_whole.f powV
 exact Ev.bind (ev_impl_total l hl) (Ev.bind (ev_impl_power _ m hm) (Ev.now _))

def cellsL (x : S94) : List Int := [x.f0, x.f1, x.f2, x.f3, x.f4, x.f5, x.f6, x.f7, x.f8, x.f9, x.f10, x.f11, x.f12, x.f13, x.f14, x.f15, x.f16, x.f17, x.f18, x.f19, x.f20]
theorem cellsL_len (x : S94) : (cellsL x).length = 21 := rfl
theorem cellsL_z : cellsL z94 = List.replicate 21 0 := rfl
theorem cellsL_rd (L : List S94) (i : Int) : cellsL (rd_T94 L i) = (L.map cellsL).getD i.toNat (List.replicate 21 0) := by
 unfold rd_T94
 rw [List.getD_eq_getElem?_getD, List.getD_eq_getElem?_getD, List.getElem?_map]
 cases L[i.toNat]? <;> rfl

theorem impl_levels_at_f (x : S94) (y : Int) (hy : -10 ≤ y ∧ y ≤ 10) : impl_levels_at.f x.f0 x.f1 x.f2 x.f3 x.f4 x.f5 x.f6 x.f7 x.f8 x.f9 x.f10 x.f11 x.f12 x.f13 x.f14 x.f15 x.f16 x.f17 x.f18 x.f19 x.f20 y = some (rd (cellsL x) (y + 10)) := by
 have e : wrap64 (y + 10) = y + 10 := w64 (by omega) (by omega)
 unfold impl_levels_at.f
 rw [e, if_pos (by omega)]
 obtain ⟨j, hj⟩ : ∃ j : Nat, y + 10 = (j : Int) := ⟨(y + 10).toNat, by omega⟩
 have hj2 : j < 21 := by omega
 rw [hj]
 match j, hj2 with
 | 0, _ => rfl
 | 1, _ => rfl
 | 2, _ => rfl
 | 3, _ => rfl
 | 4, _ => rfl
 | 5, _ => rfl
 | 6, _ => rfl
 | 7, _ => rfl
 | 8, _ => rfl
 | 9, _ => rfl
 | 10, _ => rfl
 | 11, _ => rfl
 | 12, _ => rfl
 | 13, _ => rfl
 | 14, _ => rfl
 | 15, _ => rfl
 | 16, _ => rfl
 | 17, _ => rfl
 | 18, _ => rfl
 | 19, _ => rfl
 | 20, _ => rfl
 | j + 21, h => exact absurd h (by omega)

theorem impl_Process_keep_f (n : Int) (l : List Int) (s u h b x : Int) (hh : 0 ≤ h ∧ h ≤ 9) (hb : 0 ≤ b ∧ b ≤ 9) (hx : -100000 ≤ x ∧ x ≤ 100000) : impl_Process_keep.f n l s u h b x = some (cst h b x) := by
 unfold impl_Process_keep.f
 rw [cst_impl hh hb hx]

theorem ev_impl_Process_behind_l0 (n : Int) (l : List Int) (s u h b : Int) (x : S94) (y m : Int) (hl : l.length ≤ 5) (hh : 0 ≤ h ∧ h ≤ 9) (hb : 0 ≤ b ∧ b ≤ 9) (hm : 1 ≤ m ∧ m ≤ 6) (hy : (l.length : Int) - 11 ≤ y ∧ y ≤ 10) (d : Nat) : ∀ (i : Nat) (acc : Int), i + d = l.length → Ev (fun k => impl_Process_behind.l0 k m y acc l (l.length : Int) (i : Int) n l s u h b x.f0 x.f1 x.f2 x.f3 x.f4 x.f5 x.f6 x.f7 x.f8 x.f9 x.f10 x.f11 x.f12 x.f13 x.f14 x.f15 x.f16 x.f17 x.f18 x.f19 x.f20) (aftW h b (powV l (m - 1)) (cellsL x) (l.drop i) (y - i) acc) := by
 induction d with
 | zero =>
  intro i acc hi
  refine ev_succ ?_
  have h1 : ¬ (i : Int) < (l.length : Int) := by omega
  simp only [impl_Process_behind.l0, h1, ↓reduceIte]
  rw [List.drop_eq_nil_of_le (by omega), aftW]
  exact Ev.now _
 | succ d ih =>
  intro i acc hi
  refine ev_succ ?_
  have h1 : (i : Int) < (l.length : Int) := by omega
  have h0 : (0 : Int) ≤ (i : Int) := by omega
  have hi' : i < l.length := by omega
  have e1 : wrap64 (y - (i : Int)) = y - i := w64 (by omega) (by omega)
  have e3 : wrap64 (m - 1) = m - 1 := w64 (by omega) (by omega)
  have e4 : wrap64 ((i : Int) + 1) = ((i + 1 : Nat) : Int) := w64_nat hi' (by omega)
  have e5 := impl_Process_keep_f n l s u h b (y - i) hh hb (by omega)
  have e6 := impl_levels_at_f x (y - i) (by omega)
  simp only [impl_Process_behind.l0, h1, h0, ↓reduceIte, e1, e3, e4, e5, Option.bind_some]
  refine Ev.bind (ev_impl_Process_whole n l s u h b (m - 1) (by omega) (by omega)) ?_
  simp only [e6, Option.bind_some]
  rw [rd_nat hi', drop_cons hi', aftW]
  refine ev_eq (ih (i + 1) _ (by omega)) ?_
  rw [show y - ((i + 1 : Nat) : Int) = y - (i : Int) - 1 by omega]
theorem ev_impl_Process_behind (n : Int) (l : List Int) (s u h b : Int) (x : S94) (y m : Int) (hl : l.length ≤ 5) (hh : 0 ≤ h ∧ h ≤ 9) (hb : 0 ≤ b ∧ b ≤ 9) (hm : 1 ≤ m ∧ m ≤ 6) (hy : (l.length : Int) - 11 ≤ y ∧ y ≤ 10) : Ev (fun k => impl_Process_behind.f k n l s u h b m y x.f0 x.f1 x.f2 x.f3 x.f4 x.f5 x.f6 x.f7 x.f8 x.f9 x.f10 x.f11 x.f12 x.f13 x.f14 x.f15 x.f16 x.f17 x.f18 x.f19 x.f20) (aftV l h b (cellsL x) y m) := by
 unfold impl_Process_behind.f aftV
 refine ev_eq (ev_impl_Process_behind_l0 n l s u h b x y m hl hh hb hm hy l.length 0 0 (by omega)) ?_
 rw [List.drop_zero, show y - ((0 : Nat) : Int) = y by omega]

theorem impl_Process_floor_f (n : Int) (l : List Int) (s u h b : Int) : impl_Process_floor.f n l s u h b = some (floorV l) := rfl

theorem ev_impl_Process_least_l0 (n : Int) (l : List Int) (s u h b : Int) (z : S94) (x m : Int) (hl : l.length ≤ 5) (hh : 0 ≤ h ∧ h ≤ 9) (hb : 0 ≤ b ∧ b ≤ 9) (hm : 1 ≤ m ∧ m ≤ 6) (hx : -10 ≤ x ∧ x ≤ 10) (d : Nat) : ∀ (y : Int) (r : Int × Int), y + d = 11 → mx x (floorV l) ≤ y → Ev (fun k => impl_Process_least.l0 k m x r.1 r.2 y n l s u h b z.f0 z.f1 z.f2 z.f3 z.f4 z.f5 z.f6 z.f7 z.f8 z.f9 z.f10 z.f11 z.f12 z.f13 z.f14 z.f15 z.f16 z.f17 z.f18 z.f19 z.f20) ((fwdV (lvCost l s u h b (cellsL z) m x) d y r).2, (fwdV (lvCost l s u h b (cellsL z) m x) d y r).1) := by
 have hf := floorV_eq hl
 have hlo : (l.length : Int) - 11 ≤ mx x (floorV l) ∧ x ≤ mx x (floorV l) ∧ -10 ≤ mx x (floorV l) := by unfold mx; omega
 induction d with
 | zero =>
  intro y r hy hy2
  refine ev_succ ?_
  have h1 : ¬ y ≤ 10 := by omega
  simp only [impl_Process_least.l0, h1, ↓reduceIte, fwdV]
  exact Ev.now _
 | succ d ih =>
  intro y r hy hy2
  refine ev_succ ?_
  have h1 : y ≤ 10 := by omega
  have e5 := impl_Process_order_f n l s u h b x y (by omega)
  simp only [impl_Process_least.l0, h1, ↓reduceIte, e5, Option.bind_some]
  refine Ev.bind (ev_impl_Process_whole n l s u h b m (by omega) (by omega)) ?_
  refine Ev.bind (ev_impl_Process_behind n l s u h b z y m hl hh hb hm (by omega)) ?_
  rw [show wrap64 (y + 1) = y + 1 from w64 (by omega) (by omega)]
  rw [fwdV]
  refine ev_ite (fun h3 => ?_) (fun h3 => ?_)
  ·have h3' : lvCost l s u h b (cellsL z) m x y < r.2 := h3
   rw [if_pos h3']
   exact ih (y + 1) (y, lvCost l s u h b (cellsL z) m x y) (by omega) (by omega)
  ·have h3' : ¬ lvCost l s u h b (cellsL z) m x y < r.2 := h3
   rw [if_neg h3']
   exact ih (y + 1) r (by omega) (by omega)
theorem ev_impl_Process_least (n : Int) (l : List Int) (s u h b : Int) (z : S94) (x m : Int) (hl : 1 ≤ l.length ∧ l.length ≤ 5) (hh : 0 ≤ h ∧ h ≤ 9) (hb : 0 ≤ b ∧ b ≤ 9) (hm : 1 ≤ m ∧ m ≤ 6) (hx : -10 ≤ x ∧ x ≤ 10) : Ev (fun k => impl_Process_least.f k n l s u h b m x z.f0 z.f1 z.f2 z.f3 z.f4 z.f5 z.f6 z.f7 z.f8 z.f9 z.f10 z.f11 z.f12 z.f13 z.f14 z.f15 z.f16 z.f17 z.f18 z.f19 z.f20) ((bestV l s u h b (cellsL z) m x).2, (bestV l s u h b (cellsL z) m x).1) := by
 have hf := floorV_eq hl.2
 have hlo : mx x (floorV l) ≤ 10 ∧ (l.length : Int) - 11 ≤ mx x (floorV l) ∧ x ≤ mx x (floorV l) ∧ -10 ≤ mx x (floorV l) := by unfold mx; omega
 have e5 := impl_Process_order_f n l s u h b x (mx x (floorV l)) hlo.2.2.1
 unfold impl_Process_least.f
 simp only [impl_Process_floor_f, Option.bind_some, e5]
 refine Ev.bind (ev_impl_Process_whole n l s u h b m (by omega) (by omega)) ?_
 refine Ev.bind (ev_impl_Process_behind n l s u h b z _ m hl.2 hh hb hm (by omega)) ?_
 rw [show wrap64 (mx x (floorV l) + 1) = mx x (floorV l) + 1 from w64 (by omega) (by omega)]
 refine ev_eq (ev_impl_Process_least_l0 n l s u h b z x m hl.2 hh hb hm hx (10 - mx x (floorV l)).toNat (mx x (floorV l) + 1) (mx x (floorV l), lvCost l s u h b (cellsL z) m x (mx x (floorV l))) (by omega) (by omega)) ?_
 rw [fwdV_best _ hlo.1]
 rfl

theorem cellsL_put (x : S94) (t : Int) {j : Nat} (h : j < 21) : cellsL (putA94 x j t) = (cellsL x).set j t := match j, h with
 | 0, _ => rfl
 | 1, _ => rfl
 | 2, _ => rfl
 | 3, _ => rfl
 | 4, _ => rfl
 | 5, _ => rfl
 | 6, _ => rfl
 | 7, _ => rfl
 | 8, _ => rfl
 | 9, _ => rfl
 | 10, _ => rfl
 | 11, _ => rfl
 | 12, _ => rfl
 | 13, _ => rfl
 | 14, _ => rfl
 | 15, _ => rfl
 | 16, _ => rfl
 | 17, _ => rfl
 | 18, _ => rfl
 | 19, _ => rfl
 | 20, _ => rfl
 | j + 21, h => absurd h (by omega)

theorem set_mid {α : Type} {A B : List α} {x y : α} {i : Nat} (h : A.length = i) : (A ++ x :: B).set i y = A ++ y :: B := by
 subst h; simp
theorem getD_mid {α : Type} {A B : List α} {x z : α} {i : Nat} (h : A.length = i) : (A ++ x :: B).getD i z = x := by
 subst h; simp [List.getD_eq_getElem?_getD]
theorem row_set {R : List Int} {i : Nat} {v : Int} (hi : i < 21) (hR : R.length = 21) (hv : R[i]? = some v) : (R.take i ++ List.replicate (21 - i) 0).set i v = R.take (i + 1) ++ List.replicate (21 - (i + 1)) 0 := by
 have e : 21 - i = (21 - (i + 1)) + 1 := by omega
 rw [e, List.replicate_succ, set_mid (by rw [List.length_take]; omega), List.take_add_one, hv]
 simp
theorem ev_impl_Process_worths_l1 (n : Int) (l : List Int) (s u h b : Int) (hl : 1 ≤ l.length ∧ l.length ≤ 5) (hn : 0 ≤ n ∧ n ≤ 5) (hh : 0 ≤ h ∧ h ≤ 9) (hb : 0 ≤ b ∧ b ≤ 9) (m t : Nat) (hm : (t : Int) = n - 1 - (m : Int)) {Q : List S94 → Prop} (hc : ∀ L : List S94, L.map cellsL = List.replicate t (List.replicate 21 0) ++ wts l s u h b (m + 1) → ∃ r, Ev (fun k => impl_Process_worths.l0 k L ((t : Int) - 1) n l s u h b) r ∧ Q r) (d : Nat) : ∀ (i : Nat) (L : List S94), i + d = 21 → L.map cellsL = List.replicate t (List.replicate 21 0) ++ ((rowV l s u h b ((wts l s u h b m).headD []) ((m + 1 : Nat) : Int)).take i ++ List.replicate (21 - i) 0) :: wts l s u h b m → ∃ r, Ev (fun k => impl_Process_worths.l1 k L (t : Int) ((i : Int) - 10) n l s u h b) r ∧ Q r := by
 induction d with
 | zero =>
  intro i L hi hL
  have hi2 : i = 21 := by omega
  subst hi2
  rw [List.take_of_length_le (by rw [rowV_len]; omega)] at hL
  obtain ⟨r, h1, h2⟩ := hc L (by rw [hL, wts]; simp)
  refine ⟨r, ev_succ ?_, h2⟩
  have h3 : ¬ ((21 : Nat) : Int) - 10 ≤ 10 := by omega
  simp only [impl_Process_worths.l1, h3, ↓reduceIte]
  rw [show wrap64 ((t : Int) - 1) = (t : Int) - 1 from w64 (by omega) (by omega)]
  exact h1
 | succ d ih =>
  intro i L hi hL
  have hlen : L.length = t + (m + 2) := by
   have := congrArg List.length hL
   rw [List.length_map, List.length_append, List.length_replicate, List.length_cons, wts_len] at this
   omega
  have hnext : cellsL (rd_T94 L ((t : Int) + 1)) = (wts l s u h b m).headD [] := by
   rw [cellsL_rd, hL, show ((t : Int) + 1).toNat = t + 1 by omega, List.getD_eq_getElem?_getD, List.getElem?_append_right (by rw [List.length_replicate]; omega), List.length_replicate, show t + 1 - t = 1 by omega, List.getElem?_cons_succ]
   cases m <;> rfl
  have hcur : cellsL (rd_T94 L (t : Int)) = (rowV l s u h b ((wts l s u h b m).headD []) ((m + 1 : Nat) : Int)).take i ++ List.replicate (21 - i) 0 := by
   rw [cellsL_rd, hL, show (t : Int).toNat = t by omega, getD_mid (by rw [List.length_replicate])]
  obtain ⟨r, h1, h2⟩ := ih (i + 1) (L.set t (putA94 (rd_T94 L (t : Int)) i (bestV l s u h b ((wts l s u h b m).headD []) ((m + 1 : Nat) : Int) ((i : Int) - 10)).2)) (by omega) (by
   rw [List.map_set, cellsL_put _ _ (by omega), hcur, row_set (by omega) (rowV_len _ _ _ _ _ _ _) (rowV_get l s u h b _ _ (by omega)), hL, set_mid (by rw [List.length_replicate])])
  refine ⟨r, ev_succ ?_, h2⟩
  have c1 : (i : Int) - 10 ≤ 10 := by omega
  have c2 : (0 : Int) ≤ (t : Int) + 1 := by omega
  have c3 : (t : Int) + 1 < (L.length : Int) := by omega
  have c4 : (0 : Int) ≤ (t : Int) := by omega
  have c5 : (t : Int) < (L.length : Int) := by omega
  have e1 : wrap64 ((t : Int) + 1) = (t : Int) + 1 := w64 (by omega) (by omega)
  have e2 : wrap64 (n - (t : Int)) = ((m + 1 : Nat) : Int) := by rw [w64 (by omega) (by omega)]; omega
  have e3 : wrap64 ((i : Int) - 10 + 10) = (i : Int) := by rw [w64 (by omega) (by omega)]; omega
  have e4 : wrap64 ((i : Int) - 10 + 1) = ((i + 1 : Nat) : Int) - 10 := by rw [w64 (by omega) (by omega)]; omega
  have c6 : (0 : Int) ≤ (i : Int) := by omega
  have c7 : (i : Int) < 21 := by omega
  simp only [impl_Process_worths.l1, c1, c2, c3, c4, c5, c6, c7, e1, e2, e3, e4, ↓reduceIte]
  have hb2 := ev_impl_Process_least n l s u h b (rd_T94 L ((t : Int) + 1)) ((i : Int) - 10) ((m + 1 : Nat) : Int) hl hh hb (by omega) (by omega)
  rw [hnext] at hb2
  refine Ev.bind hb2 ?_
  rw [show (t : Int).toNat = t by omega, show (i : Int).toNat = i by omega]
  exact h1
theorem ev_impl_Process_worths_l0 (n : Int) (l : List Int) (s u h b : Int) (hl : 1 ≤ l.length ∧ l.length ≤ 5) (hn : 0 ≤ n ∧ n ≤ 5) (hh : 0 ≤ h ∧ h ≤ 9) (hb : 0 ≤ b ∧ b ≤ 9) (d : Nat) : ∀ (m : Nat) (L : List S94), (m : Int) + d = n → L.map cellsL = List.replicate d (List.replicate 21 0) ++ wts l s u h b m → ∃ r, Ev (fun k => impl_Process_worths.l0 k L ((d : Int) - 1) n l s u h b) r ∧ r.map cellsL = wts l s u h b n.toNat := by
 induction d with
 | zero =>
  intro m L hm hL
  refine ⟨L, ev_succ ?_, by rw [hL, show n.toNat = m by omega]; rfl⟩
  have h1 : ¬ ((0 : Nat) : Int) - 1 ≥ 0 := by omega
  simp only [impl_Process_worths.l0, h1, ↓reduceIte]
  exact Ev.now _
 | succ d ih =>
  intro m L hm hL
  obtain ⟨r, h1, h2⟩ := ev_impl_Process_worths_l1 n l s u h b hl hn hh hb m d (by omega) (Q := fun r => r.map cellsL = wts l s u h b n.toNat) (fun L hL => ih (m + 1) L (by omega) hL) 21 0 L (by omega) (by
   rw [hL, List.replicate_succ', List.append_assoc]
   simp)
  refine ⟨r, ev_succ ?_, h2⟩
  have c1 : ((d + 1 : Nat) : Int) - 1 ≥ 0 := by omega
  simp only [impl_Process_worths.l0, c1, ↓reduceIte]
  rw [show ((d + 1 : Nat) : Int) - 1 = (d : Int) by omega]
  exact h1
theorem ev_impl_Process_worths (n : Int) (l : List Int) (s u h b : Int) (hl : 1 ≤ l.length ∧ l.length ≤ 5) (hn : 0 ≤ n ∧ n ≤ 5) (hh : 0 ≤ h ∧ h ≤ 9) (hb : 0 ≤ b ∧ b ≤ 9) : ∃ r, Ev (fun k => impl_Process_worths.f k n l s u h b) r ∧ r.map cellsL = wts l s u h b n.toNat := by
 obtain ⟨r, h1, h2⟩ := ev_impl_Process_worths_l0 n l s u h b hl hn hh hb n.toNat 0 (List.replicate (n.toNat + 1) z94) (by omega) (by rw [List.map_replicate, cellsL_z, List.replicate_succ']; rfl)
 refine ⟨r, ?_, h2⟩
 unfold impl_Process_worths.f
 rw [show wrap64 (n + 1) = n + 1 from w64 (by omega) (by omega)]
 refine ev_yes (by omega) (ev_yes (by omega) ?_)
 rw [show wrap64 (n - 1) = (n.toNat : Int) - 1 by rw [w64 (by omega) (by omega)]; omega, show (n + 1).toNat = n.toNat + 1 by omega]
 exact h1
theorem nextV_of {n : Int} {l : List Int} {s u h b t : Int} {r : List S94} (hr : r.map cellsL = wts l s u h b n.toNat) (ht : 0 ≤ t ∧ t ≤ n - 1) : cellsL (rd_T94 r (t + 1)) = nextV n l s u h b t := by
 unfold nextV
 rw [cellsL_rd, hr, List.getD_eq_getElem?_getD, List.getD_eq_getElem?_getD, List.getElem?_eq_getElem (by rw [wts_len]; omega)]
 rfl
theorem wts_map_len {n : Int} {l : List Int} {s u h b : Int} {r : List S94} (hr : r.map cellsL = wts l s u h b n.toNat) : r.length = n.toNat + 1 := by
 have := congrArg List.length hr
 rw [List.length_map, wts_len] at this
 exact this

theorem ev_impl_BestOrder_no (n : Int) (l : List Int) (s u h b t x : Int) : Ev (fun k => impl_BestOrder.j0 k t x true n l s u h b) (0, false) := by
 refine ev_succ ?_
 simp only [impl_BestOrder.j0, ↓reduceIte]
 exact Ev.now _
theorem ev_impl_BestOrder (n : Int) (l : List Int) (s u h b t x : Int) (hl : l.length ≤ 9223372036854775807) : Ev (fun k => impl_BestOrder.f k n l s u h b t x) (bestOrderV n l s u h b t x) := by
 unfold impl_BestOrder.f bestOrderV
 refine Ev.bind (ev_impl_isTurn n l s u h b t hl) ?_
 refine ev_ite (fun hc => ?_) (fun hc => ?_)
 ·simp only [impl_isLevel_f, Option.bind_some, hc, Bool.true_and]
  cases hx : inB x (-10) 10 with
  | false => exact ev_impl_BestOrder_no n l s u h b t x
  | true =>
   have ht := turnB_spec hc
   have hp := procB_spec ht.1
   have hx2 := inB_iff.1 hx
   simp only [Bool.not_true, ↓reduceIte]
   refine ev_succ ?_
   simp only [impl_BestOrder.j0, Bool.false_eq_true, ↓reduceIte]
   obtain ⟨r, h1, h2⟩ := ev_impl_Process_worths n l s u h b hp.2.1 hp.1 hp.2.2.2.2.2.2.1 hp.2.2.2.2.2.2.2
   refine Ev.bind h1 ?_
   have h3 := wts_map_len h2
   rw [show wrap64 (t + 1) = t + 1 from w64 (by omega) (by omega), show wrap64 (n - t) = n - t from w64 (by omega) (by omega)]
   refine ev_yes (by omega) (ev_yes (by omega) ?_)
   have h4 := ev_impl_Process_least n l s u h b (rd_T94 r (t + 1)) x (n - t) hp.2.1 hp.2.2.2.2.2.2.1 hp.2.2.2.2.2.2.2 (by omega) hx2
   rw [nextV_of h2 ht.2] at h4
   exact Ev.bind h4 (Ev.now _)
 ·have hc2 : (procB n l s u h b && inB t 0 (wrap64 (n - 1))) = false := by simpa using hc
  rw [hc2]
  exact ev_impl_BestOrder_no n l s u h b t x

theorem ev_spec_l6Bill (n : Int) (l : List Int) (s u h b : Int) (N : List Int) (y m : Int) (hl : l.length ≤ 5) (hN : N.length = 21) (hm : 1 ≤ m ∧ m ≤ 6) (hy : (l.length : Int) - 11 ≤ y ∧ y ≤ 10) : Ev (fun k => spec_l6Bill.f k n l s u h b N y m) (billV l u h b N m y) := by
 unfold spec_l6Bill.f billV
 exact Ev.bind (ev_spec_l6Power n l s u h b m (by omega) (by omega)) (Ev.bind (ev_spec_l6After n l s u h b N y m hl hN hm hy) (Ev.now _))

theorem rdL_getD (W : List (List Int)) (i : Int) : rd_L1 W i = W.getD i.toNat [] := rfl
theorem ev_spec_l6Bills_l0 (n : Int) (l : List Int) (s u h b : Int) (W : List (List Int)) (t : Int) (hl : 1 ≤ l.length ∧ l.length ≤ 5) (hn : 0 ≤ n ∧ n ≤ 5) (ht : 0 ≤ t ∧ t ≤ n - 1) (hW : (W.length : Int) = n + 1) (hN : (W.getD (t + 1).toNat []).length = 21) (d : Nat) : ∀ (i : Nat), i + d = 22 - l.length → Ev (fun k => spec_l6Bills.l0 k W t ((billsV l u h b (W.getD (t + 1).toNat []) (n - t)).take i) (floorV l + (i : Int)) n l s u h b) (billsV l u h b (W.getD (t + 1).toNat []) (n - t)) := by
 have hf := floorV_eq hl.2
 induction d with
 | zero =>
  intro i hi
  refine ev_succ ?_
  have h1 : ¬ floorV l + (i : Int) ≤ 10 := by omega
  simp only [spec_l6Bills.l0, h1, ↓reduceIte]
  rw [List.take_of_length_le (by rw [billsV_len]; omega)]
  exact Ev.now _
 | succ d ih =>
  intro i hi
  refine ev_succ ?_
  have h1 : floorV l + (i : Int) ≤ 10 := by omega
  have e1 : wrap64 (t + 1) = t + 1 := w64 (by omega) (by omega)
  have e2 : wrap64 (n - t) = n - t := w64 (by omega) (by omega)
  have e3 : wrap64 (floorV l + (i : Int) + 1) = floorV l + ((i + 1 : Nat) : Int) := by rw [w64 (by omega) (by omega)]; omega
  have h2 : (0 : Int) ≤ t + 1 := by omega
  have h3 : t + 1 < (W.length : Int) := by omega
  simp only [spec_l6Bills.l0, h1, e1, e2, e3, h2, h3, ↓reduceIte, rdL_getD]
  refine Ev.bind (ev_spec_l6Bill n l s u h b _ _ _ hl.2 hN (by omega) (by omega)) ?_
  refine ev_yes (by rw [List.length_take, billsV_len]; omega) ?_
  rw [← billsV_take l u h b _ _ (by omega)]
  exact ih (i + 1) (by omega)
theorem ev_spec_l6Bills (n : Int) (l : List Int) (s u h b : Int) (W : List (List Int)) (t : Int) (hl : 1 ≤ l.length ∧ l.length ≤ 5) (hn : 0 ≤ n ∧ n ≤ 5) (ht : 0 ≤ t ∧ t ≤ n - 1) (hW : (W.length : Int) = n + 1) (hN : (W.getD (t + 1).toNat []).length = 21) : Ev (fun k => spec_l6Bills.f k n l s u h b W t) (billsV l u h b (W.getD (t + 1).toNat []) (n - t)) := by
 unfold spec_l6Bills.f
 simp only [spec_l6Floor_f, Option.bind_some]
 have h0 := ev_spec_l6Bills_l0 n l s u h b W t hl hn ht hW hN (22 - l.length) 0 (by omega)
 rw [show floorV l + ((0 : Nat) : Int) = floorV l by omega] at h0
 exact h0

theorem ev_spec_BillsOf (n : Int) (l : List Int) (s u h b t : Int) (hl : l.length ≤ 9223372036854775807) : Ev (fun k => spec_BillsOf.f k n l s u h b t) (billsOfV n l s u h b t) := by
 unfold spec_BillsOf.f billsOfV
 refine Ev.bind (ev_spec_l6Turn n l s u h b t hl) ?_
 refine ev_ite (fun hc => ?_) (fun hc => ?_)
 ·rw [if_pos hc]
  have ht := turnB_spec hc
  have hp := procB_spec ht.1
  refine Ev.bind (ev_spec_l6Worths n l s u h b hp.2.1 hp.1) ?_
  exact Ev.bind (ev_spec_l6Bills n l s u h b _ t hp.2.1 hp.1 ht.2 (by rw [wts_len]; omega) (nextV_len ht.2)) (Ev.now _)
 ·rw [if_neg hc]
  exact Ev.now _

theorem ev_impl_Process_bills_l0 (n : Int) (l : List Int) (s u h b : Int) (z : S94) (m : Int) (hl : 1 ≤ l.length ∧ l.length ≤ 5) (hh : 0 ≤ h ∧ h ≤ 9) (hb : 0 ≤ b ∧ b ≤ 9) (hm : 1 ≤ m ∧ m ≤ 6) (d : Nat) : ∀ (i : Nat), i + d = 22 - l.length → Ev (fun k => impl_Process_bills.l0 k ((billsV l u h b (cellsL z) m).take i) m (floorV l + (i : Int)) n l s u h b z.f0 z.f1 z.f2 z.f3 z.f4 z.f5 z.f6 z.f7 z.f8 z.f9 z.f10 z.f11 z.f12 z.f13 z.f14 z.f15 z.f16 z.f17 z.f18 z.f19 z.f20) (billsV l u h b (cellsL z) m) := by
 have hf := floorV_eq hl.2
 induction d with
 | zero =>
  intro i hi
  refine ev_succ ?_
  have h1 : ¬ floorV l + (i : Int) ≤ 10 := by omega
  simp only [impl_Process_bills.l0, h1, ↓reduceIte]
  rw [List.take_of_length_le (by rw [billsV_len]; omega)]
  exact Ev.now _
 | succ d ih =>
  intro i hi
  refine ev_succ ?_
  have h1 : floorV l + (i : Int) ≤ 10 := by omega
  have e3 : wrap64 (floorV l + (i : Int) + 1) = floorV l + ((i + 1 : Nat) : Int) := by rw [w64 (by omega) (by omega)]; omega
  simp only [impl_Process_bills.l0, h1, e3, ↓reduceIte]
  refine Ev.bind (ev_impl_Process_whole n l s u h b m (by omega) (by omega)) ?_
  refine Ev.bind (ev_impl_Process_behind n l s u h b z _ m hl.2 hh hb hm (by omega)) ?_
  refine ev_yes (by rw [List.length_take, billsV_len]; omega) ?_
  have h2 := billsV_take l u h b (cellsL z) m (i := i) (by omega)
  rw [billV] at h2
  rw [← h2]
  exact ih (i + 1) (by omega)
theorem ev_impl_Process_bills (n : Int) (l : List Int) (s u h b : Int) (z : S94) (t : Int) (hl : 1 ≤ l.length ∧ l.length ≤ 5) (hh : 0 ≤ h ∧ h ≤ 9) (hb : 0 ≤ b ∧ b ≤ 9) (hn : 0 ≤ n ∧ n ≤ 5) (ht : 0 ≤ t ∧ t ≤ n - 1) : Ev (fun k => impl_Process_bills.f k n l s u h b t z.f0 z.f1 z.f2 z.f3 z.f4 z.f5 z.f6 z.f7 z.f8 z.f9 z.f10 z.f11 z.f12 z.f13 z.f14 z.f15 z.f16 z.f17 z.f18 z.f19 z.f20) (billsV l u h b (cellsL z) (n - t)) := by
 unfold impl_Process_bills.f
 simp only [impl_Process_floor_f, Option.bind_some]
 rw [show wrap64 (n - t) = n - t from w64 (by omega) (by omega)]
 have h0 := ev_impl_Process_bills_l0 n l s u h b z (n - t) hl hh hb (by omega) (22 - l.length) 0 (by omega)
 rw [show floorV l + ((0 : Nat) : Int) = floorV l by omega] at h0
 exact h0

theorem ev_impl_BillsOf (n : Int) (l : List Int) (s u h b t : Int) (hl : l.length ≤ 9223372036854775807) : Ev (fun k => impl_BillsOf.f k n l s u h b t) (billsOfV n l s u h b t) := by
 unfold impl_BillsOf.f billsOfV
 refine Ev.bind (ev_impl_isTurn n l s u h b t hl) ?_
 refine ev_ite (fun hc => ?_) (fun hc => ?_)
 ·rw [if_pos hc]
  have ht := turnB_spec hc
  have hp := procB_spec ht.1
  obtain ⟨r, h1, h2⟩ := ev_impl_Process_worths n l s u h b hp.2.1 hp.1 hp.2.2.2.2.2.2.1 hp.2.2.2.2.2.2.2
  refine Ev.bind h1 ?_
  have h3 := wts_map_len h2
  rw [show wrap64 (t + 1) = t + 1 from w64 (by omega) (by omega)]
  refine ev_yes (by omega) (ev_yes (by omega) ?_)
  have h4 := ev_impl_Process_bills n l s u h b (rd_T94 r (t + 1)) t hp.2.1 hp.2.2.2.2.2.2.1 hp.2.2.2.2.2.2.2 hp.1 ht.2
  rw [nextV_of h2 ht.2] at h4
  exact Ev.bind h4 (Ev.now _)
 ·rw [if_neg hc]
  exact Ev.now _

def wtableV (n : Int) (l : List Int) (s u h b : Int) : List (List Int) × Bool := if procB n l s u h b = true then (wts l s u h b n.toNat, true) else ([], false)
theorem wtableV_len (n : Int) (l : List Int) (s u h b : Int) : (wtableV n l s u h b).1.length ≤ 6 ∧ ∀ r ∈ (wtableV n l s u h b).1, r.length = 21 := by
 unfold wtableV
 by_cases hc : procB n l s u h b = true
 ·rw [if_pos hc]
  have hp := procB_spec hc
  exact ⟨by dsimp only; rw [wts_len]; omega, wts_rows l s u h b _⟩
 ·rw [if_neg hc]; simp

theorem ev_spec_WorthTable (n : Int) (l : List Int) (s u h b : Int) (hl : l.length ≤ 9223372036854775807) : Ev (fun k => spec_WorthTable.f k n l s u h b) (wtableV n l s u h b) := by
 unfold spec_WorthTable.f wtableV
 refine Ev.bind (ev_spec_l6Good n l s u h b hl) ?_
 refine ev_ite (fun hc => ?_) (fun hc => ?_)
 ·rw [if_pos hc]
  have hp := procB_spec hc
  exact Ev.bind (ev_spec_l6Worths n l s u h b hp.2.1 hp.1) (Ev.now _)
 ·rw [if_neg hc]; exact Ev.now _

theorem impl_copied_f (l : List Int) (hl : l.length ≤ 1000000000) : impl_copied.f l = some l := by
 unfold impl_copied.f
 simp only [Option.bind_some, List.length_nil, List.nil_append]
 rw [if_pos (by omega)]

theorem ev_impl_WorthTable_l0 (R : List S94) (hR : R.length ≤ 6) (d : Nat) : ∀ (i : Nat), i + d = R.length → Ev (fun k => impl_WorthTable.l0 k ((R.map cellsL).take i) R (R.length : Int) (i : Int)) (R.map cellsL, true) := by
 induction d with
 | zero =>
  intro i hi
  refine ev_succ ?_
  have h1 : ¬ (i : Int) < (R.length : Int) := by omega
  simp only [impl_WorthTable.l0, h1, ↓reduceIte]
  rw [List.take_of_length_le (by rw [List.length_map]; omega)]
  exact Ev.now _
 | succ d ih =>
  intro i hi
  refine ev_succ ?_
  have h1 : (i : Int) < (R.length : Int) := by omega
  have h0 : (0 : Int) ≤ (i : Int) := by omega
  have hi' : i < R.length := by omega
  simp only [impl_WorthTable.l0, h1, h0, ↓reduceIte, w64_nat hi' (by omega : R.length ≤ 9223372036854775807)]
  rw [show [(rd_T94 R (i : Int)).f0, (rd_T94 R (i : Int)).f1, (rd_T94 R (i : Int)).f2, (rd_T94 R (i : Int)).f3, (rd_T94 R (i : Int)).f4, (rd_T94 R (i : Int)).f5, (rd_T94 R (i : Int)).f6, (rd_T94 R (i : Int)).f7, (rd_T94 R (i : Int)).f8, (rd_T94 R (i : Int)).f9, (rd_T94 R (i : Int)).f10, (rd_T94 R (i : Int)).f11, (rd_T94 R (i : Int)).f12, (rd_T94 R (i : Int)).f13, (rd_T94 R (i : Int)).f14, (rd_T94 R (i : Int)).f15, (rd_T94 R (i : Int)).f16, (rd_T94 R (i : Int)).f17, (rd_T94 R (i : Int)).f18, (rd_T94 R (i : Int)).f19, (rd_T94 R (i : Int)).f20] = cellsL (rd_T94 R (i : Int)) from rfl, impl_copied_f _ (by rw [cellsL_len]; omega)]
  simp only [Option.bind_some]
  refine ev_yes (by rw [List.length_take, List.length_map]; omega) ?_
  have e : (R.map cellsL).take (i + 1) = (R.map cellsL).take i ++ [cellsL (rd_T94 R (i : Int))] := by
   rw [List.take_add_one, List.getElem?_map, List.getElem?_eq_getElem hi']
   unfold rd_T94
   simp [List.getD_eq_getElem?_getD, hi']
  rw [← e]
  exact ih (i + 1) (by omega)
theorem ev_impl_WorthTable (n : Int) (l : List Int) (s u h b : Int) (hl : l.length ≤ 9223372036854775807) : Ev (fun k => impl_WorthTable.f k n l s u h b) (wtableV n l s u h b) := by
 unfold impl_WorthTable.f wtableV
 refine Ev.bind (ev_impl_IsProcess n l s u h b hl) ?_
 refine ev_ite (fun hc => ?_) (fun hc => ?_)
 ·rw [if_pos hc]
  have hp := procB_spec hc
  obtain ⟨r, h1, h2⟩ := ev_impl_Process_worths n l s u h b hp.2.1 hp.1 hp.2.2.2.2.2.2.1 hp.2.2.2.2.2.2.2
  refine Ev.bind h1 ?_
  have h3 := wts_map_len h2
  rw [← h2]
  exact ev_impl_WorthTable_l0 r (by omega) r.length 0 (by omega)
 ·rw [if_neg hc]; exact Ev.now _

theorem rdL_at {m : List (List Int)} {i : Nat} (h : i < m.length) : rd_L1 m (i : Int) = m[i] := by
 unfold rd_L1
 rw [Int.toNat_natCast]
 simp [List.getD, h]
def rowW (r : List Int) : Bool := allB r (-1000000000000) 1000000000000 && ((r.length : Int) == 21)
def tabB (n : Int) (T : List (List Int)) : Bool := T.all rowW && ((T.length : Int) == n + 1)
theorem tabB_spec {n : Int} {T : List (List Int)} (h : tabB n T = true) : (T.length : Int) = n + 1 ∧ ∀ i, i < T.length → (rd_L1 T (i : Int)).length = 21 := by
 unfold tabB at h
 rw [Bool.and_eq_true, beq_iff_eq] at h
 refine ⟨h.2, fun i hi => ?_⟩
 have h1 := List.all_eq_true.1 h.1 _ (List.getElem_mem hi)
 unfold rowW at h1
 rw [Bool.and_eq_true, beq_iff_eq] at h1
 rw [rdL_at hi]
 omega
def nonB (r : List Int) : Bool := r.all fun x => !decide (x > 0)
def underF (l : List Int) (s u h b n : Int) (T : List (List Int)) (t : Nat) : Nat → Nat → Bool
 | 0, _ => true
 | d + 1, i => if rd (rd_L1 T (t : Int)) (i : Int) > (bestV l s u h b (rd_L1 T ((t + 1 : Nat) : Int)) (n - (t : Int)) ((i : Int) - 10)).2 then false else underF l s u h b n T t d (i + 1)
def allUnder (l : List Int) (s u h b n : Int) (T : List (List Int)) : Nat → Nat → Bool
 | 0, _ => true
 | d + 1, t => if underF l s u h b n T t 21 0 = true then allUnder l s u h b n T d (t + 1) else false
def proofV (l : List Int) (s u h b n : Int) (T : List (List Int)) : Bool := nonB (rd_L1 T n) && allUnder l s u h b n T n.toNat 0
def isWorthV (n : Int) (l : List Int) (s u h b : Int) (T : List (List Int)) : Bool × Bool := if procB n l s u h b = true then (if tabB n T = true then (proofV l s u h b n T, true) else (false, true)) else (false, false)
theorem wpA (t : Nat) (h : t ≤ 100) : wrap64 ((t : Int) + 1) = ((t + 1 : Nat) : Int) := w64_nat (show t < 101 by omega) (by omega)
theorem wpB (x : Int) (h : -100 ≤ x ∧ x ≤ 100) : wrap64 x = x := w64 (by omega) (by omega)
theorem wpC (i : Nat) (h : i ≤ 100) : wrap64 ((i : Int) - 10 + 10) = (i : Int) := by rw [w64 (by omega) (by omega)]; omega
theorem wpD (i : Nat) (h : i ≤ 100) : wrap64 ((i : Int) - 10 + 1) = ((i + 1 : Nat) : Int) - 10 := by rw [w64 (by omega) (by omega)]; omega

theorem ev_spec_l6Table_l1 (n : Int) (l : List Int) (s u h b : Int) (T : List (List Int)) (i : Nat) (hi : i < T.length) (hr : T[i].length ≤ 9223372036854775807) {v : Bool} (hK : Ev (fun k => spec_l6Table.l0 k T (wrap64 ((i : Int) + 1)) n l s u h b) v) (d : Nat) : ∀ j : Nat, j + d = T[i].length → Ev (fun k => spec_l6Table.l1 k T (i : Int) (j : Int) n l s u h b) (allB (T[i].drop j) (-1000000000000) 1000000000000 && (((T[i].length : Int) == 21) && v)) := by
 induction d with
 | zero =>
  intro j hj
  refine ev_succ ?_
  have c0 : (0 : Int) ≤ (i : Int) := by omega
  have c1 : (i : Int) < (T.length : Int) := by omega
  have c2 : ¬ (j : Int) < (T[i].length : Int) := by omega
  simp only [spec_l6Table.l1, c0, c1, rdL_at hi, c2, ↓reduceIte]
  rw [List.drop_eq_nil_of_le (by omega)]
  refine ev_ite (fun h => ?_) (fun h => ?_)
  ·refine ev_eq hK ?_
   rw [h]; simp [allB]
  ·refine ev_eq (Ev.now false) ?_
   rw [show (((T[i].length : Int)) == 21) = false from beq_eq_false_iff_ne.mpr h]; simp
 | succ d ih =>
  intro j hj
  refine ev_succ ?_
  have c0 : (0 : Int) ≤ (i : Int) := by omega
  have c1 : (i : Int) < (T.length : Int) := by omega
  have hj' : j < T[i].length := by omega
  have c2 : (j : Int) < (T[i].length : Int) := by omega
  have c3 : (0 : Int) ≤ (j : Int) := by omega
  simp only [spec_l6Table.l1, c0, c1, rdL_at hi, c2, c3, ↓reduceIte, spec_l1In_f, Option.bind_some, rd_nat hj', w64_nat hj' hr]
  rw [drop_cons hj']
  show Ev _ ((inB T[i][j] _ _ && allB (T[i].drop (j + 1)) _ _) && _)
  cases inB T[i][j] (-1000000000000) 1000000000000 with
  | true => simpa using ih (j + 1) (by omega)
  | false => simpa using Ev.now false
theorem ev_spec_l6Table_l0 (n : Int) (hn : 0 ≤ n ∧ n ≤ 5) (l : List Int) (s u h b : Int) (T : List (List Int)) (hT : T.length ≤ 1048576) (hr : ∀ r ∈ T, r.length ≤ 9223372036854775807) (d : Nat) : ∀ i : Nat, i + d = T.length → Ev (fun k => spec_l6Table.l0 k T (i : Int) n l s u h b) ((T.drop i).all rowW && ((T.length : Int) == n + 1)) := by
 induction d with
 | zero =>
  intro i hi
  refine ev_succ ?_
  have c1 : ¬ (i : Int) < (T.length : Int) := by omega
  simp only [spec_l6Table.l0, c1, ↓reduceIte, w64 (show -9223372036854775808 ≤ n + 1 by omega) (by omega)]
  rw [List.drop_eq_nil_of_le (by omega)]
  exact Ev.now _
 | succ d ih =>
  intro i hi
  refine ev_succ ?_
  have hi' : i < T.length := by omega
  have c1 : (i : Int) < (T.length : Int) := by omega
  simp only [spec_l6Table.l0, c1, ↓reduceIte]
  have hK := ih (i + 1) (by omega)
  rw [← w64_nat hi' (by omega)] at hK
  refine ev_eq (ev_spec_l6Table_l1 n l s u h b T i hi' (hr _ (List.getElem_mem hi')) hK _ 0 (Nat.zero_add _)) ?_
  rw [drop_cons hi', List.drop_zero, List.all_cons]
  unfold rowW
  simp only [Bool.and_assoc]
theorem ev_spec_l6Table (n : Int) (hn : 0 ≤ n ∧ n ≤ 5) (l : List Int) (s u h b : Int) (T : List (List Int)) (hT : T.length ≤ 1048576) (hr : ∀ r ∈ T, r.length ≤ 9223372036854775807) : Ev (fun k => spec_l6Table.f k n l s u h b T) (tabB n T) := by
 unfold spec_l6Table.f tabB
 simpa using ev_spec_l6Table_l0 n hn l s u h b T hT hr T.length 0 (by omega)

theorem ev_spec_l6Under_l0 (n : Int) (l : List Int) (s u h b : Int) (hp : procB n l s u h b = true) (T : List (List Int)) (hT : tabB n T = true) (t : Nat) (ht : (t : Int) < n) (d : Nat) : ∀ i : Nat, i + d = 21 → Ev (fun k => spec_l6Under.l0 k T (t : Int) ((i : Int) - 10) n l s u h b) (underF l s u h b n T t d i) := by
 have hq := procB_spec hp
 have hs := tabB_spec hT
 have h1 := hs.2 t (by omega)
 have h2 := hs.2 (t + 1) (by omega)
 induction d with
 | zero =>
  intro i hi
  refine ev_succ ?_
  have c1 : ¬ (i : Int) - 10 ≤ 10 := by omega
  simp only [spec_l6Under.l0, c1, ↓reduceIte]
  exact Ev.now _
 | succ d ih =>
  intro i hi
  refine ev_succ ?_
  have c1 : (i : Int) - 10 ≤ 10 := by omega
  have c2 : (0 : Int) ≤ ((t + 1 : Nat) : Int) := by omega
  have c3 : ((t + 1 : Nat) : Int) < (T.length : Int) := by omega
  have c4 : (0 : Int) ≤ (t : Int) := by omega
  have c5 : (t : Int) < (T.length : Int) := by omega
  have c6 : (0 : Int) ≤ (i : Int) := by omega
  have c7 : (i : Int) < ((rd_L1 T (t : Int)).length : Int) := by omega
  have d1 : 1 ≤ n - (t : Int) ∧ n - (t : Int) ≤ 6 := by omega
  have d2 : -10 ≤ (i : Int) - 10 ∧ (i : Int) - 10 ≤ 10 := by omega
  have d3 : i + 1 + d = 21 := by omega
  have d7 : -100 ≤ n - (t : Int) ∧ n - (t : Int) ≤ 100 := by omega
  have d8 : i ≤ 100 := by omega
  have d9 : t ≤ 100 := by omega
  have e1 := wpA t d9
  have e2 := wpB (n - (t : Int)) d7
  have e3 := wpC i d8
  have e4 := wpD i d8
  simp only [spec_l6Under.l0, c1, e1, e2, c2, c3, ↓reduceIte]
  refine Ev.bind (ev_spec_l6Best n l s u h b _ _ _ hq.2.1 h2 d1 d2) ?_
  simp only [c4, c5, e3, e4, c6, c7, ↓reduceIte]
  clear e1 e2 e3 e4
  rw [underF]
  by_cases g : rd (rd_L1 T (t : Int)) (i : Int) > (bestV l s u h b (rd_L1 T ((t + 1 : Nat) : Int)) (n - (t : Int)) ((i : Int) - 10)).2
  ·rw [if_pos g]
   exact ev_yes g (Ev.now _)
  ·rw [if_neg g]
   exact ev_no g (ih (i + 1) d3)
theorem ev_spec_l6Under (n : Int) (l : List Int) (s u h b : Int) (hp : procB n l s u h b = true) (T : List (List Int)) (hT : tabB n T = true) (t : Nat) (ht : (t : Int) < n) : Ev (fun k => spec_l6Under.f k n l s u h b T (t : Int)) (underF l s u h b n T t 21 0) := by
 unfold spec_l6Under.f
 exact ev_spec_l6Under_l0 n l s u h b hp T hT t ht 21 0 rfl

theorem ev_spec_IsWorthProof_l1 (n : Int) (l : List Int) (s u h b : Int) (hp : procB n l s u h b = true) (T : List (List Int)) (hT : tabB n T = true) (d : Nat) : ∀ t : Nat, (t : Int) + d = n → Ev (fun k => spec_IsWorthProof.l1 k T (t : Int) n l s u h b) (allUnder l s u h b n T d t, true) := by
 have hq := procB_spec hp
 induction d with
 | zero =>
  intro t ht
  refine ev_succ ?_
  have c1 : ¬ (t : Int) < n := by omega
  simp only [spec_IsWorthProof.l1, c1, ↓reduceIte]
  exact Ev.now _
 | succ d ih =>
  intro t ht
  refine ev_succ ?_
  have c1 : (t : Int) < n := by omega
  simp only [spec_IsWorthProof.l1, c1, wpA t (by omega), ↓reduceIte]
  refine Ev.bind (ev_spec_l6Under n l s u h b hp T hT t c1) ?_
  rw [allUnder]
  by_cases g : underF l s u h b n T t 21 0 = true
  ·rw [if_pos g]
   exact ev_yes g (ih (t + 1) (by omega))
  ·rw [if_neg g]
   exact ev_no g (Ev.now _)
theorem ev_spec_IsWorthProof_l0 (n : Int) (l : List Int) (s u h b : Int) (hp : procB n l s u h b = true) (T : List (List Int)) (hT : tabB n T = true) (d : Nat) : ∀ j : Nat, j + d = 21 → Ev (fun k => spec_IsWorthProof.l0 k T (j : Int) n l s u h b) (nonB ((rd_L1 T n).drop j) && allUnder l s u h b n T n.toNat 0, true) := by
 have hq := procB_spec hp
 have hs := tabB_spec hT
 have hN := hs.2 n.toNat (by omega)
 rw [show ((n.toNat : Nat) : Int) = n by omega] at hN
 have c0 : 0 ≤ n := by omega
 have c1 : n < (T.length : Int) := by omega
 induction d with
 | zero =>
  intro j hj
  refine ev_succ ?_
  have c2 : ¬ (j : Int) < ((rd_L1 T n).length : Int) := by omega
  simp only [spec_IsWorthProof.l0, c0, c1, c2, ↓reduceIte]
  rw [List.drop_eq_nil_of_le (by omega)]
  exact ev_spec_IsWorthProof_l1 n l s u h b hp T hT n.toNat 0 (by omega)
 | succ d ih =>
  intro j hj
  refine ev_succ ?_
  have hj' : j < (rd_L1 T n).length := by omega
  have c2 : (j : Int) < ((rd_L1 T n).length : Int) := by omega
  have c3 : (0 : Int) ≤ (j : Int) := by omega
  simp only [spec_IsWorthProof.l0, c0, c1, c2, c3, ↓reduceIte, rd_nat hj', w64_nat hj' (show (rd_L1 T n).length ≤ 9223372036854775807 by omega)]
  rw [drop_cons hj']
  show Ev _ (((!decide ((rd_L1 T n)[j] > 0)) && nonB ((rd_L1 T n).drop (j + 1))) && _, true)
  by_cases g : (rd_L1 T n)[j] > 0
  ·refine ev_yes g ?_
   simp only [decide_eq_true g, Bool.not_true, Bool.false_and]
   exact Ev.now _
  ·refine ev_no g ?_
   simp only [decide_eq_false g, Bool.not_false, Bool.true_and]
   exact ih (j + 1) (by omega)
theorem ev_spec_IsWorthProof (n : Int) (l : List Int) (s u h b : Int) (T : List (List Int)) (hl : l.length ≤ 1048576) (hT : T.length ≤ 1048576) (hr : ∀ r ∈ T, r.length ≤ 9223372036854775807) : Ev (fun k => spec_IsWorthProof.f k n l s u h b T) (isWorthV n l s u h b T) := by
 unfold spec_IsWorthProof.f
 refine Ev.bind (ev_spec_l6Good n l s u h b (by omega)) ?_
 unfold isWorthV
 by_cases hp : procB n l s u h b = true
 ·rw [if_pos hp]
  refine ev_yes hp ?_
  have hq := procB_spec hp
  refine Ev.bind (ev_spec_l6Table n hq.1 l s u h b T hT hr) ?_
  by_cases ht : tabB n T = true
  ·rw [if_pos ht]
   refine ev_yes ht ?_
   unfold proofV
   simpa using ev_spec_IsWorthProof_l0 n l s u h b hp T ht 21 0 rfl
  ·rw [if_neg ht]
   exact ev_no ht (Ev.now _)
 ·rw [if_neg hp]
  exact ev_no hp (Ev.now _)

def mkL (c : Nat → Int) : S94 := ⟨c 0, c 1, c 2, c 3, c 4, c 5, c 6, c 7, c 8, c 9, c 10, c 11, c 12, c 13, c 14, c 15, c 16, c 17, c 18, c 19, c 20⟩
theorem cellsL_mk {c : Nat → Int} {R : List Int} (hR : R.length = 21) (h : ∀ q, q < 21 → c q = rd R (q : Int)) : cellsL (mkL c) = R := by
 refine List.ext_getElem (by rw [hR]; rfl) (fun i h1 h2 => ?_)
 have h3 := h i (by omega)
 rw [rd_nat h2] at h3
 rw [← h3]
 have hi : i < 21 := by omega
 match i, hi with
 | 0, _ => rfl
 | 1, _ => rfl
 | 2, _ => rfl
 | 3, _ => rfl
 | 4, _ => rfl
 | 5, _ => rfl
 | 6, _ => rfl
 | 7, _ => rfl
 | 8, _ => rfl
 | 9, _ => rfl
 | 10, _ => rfl
 | 11, _ => rfl
 | 12, _ => rfl
 | 13, _ => rfl
 | 14, _ => rfl
 | 15, _ => rfl
 | 16, _ => rfl
 | 17, _ => rfl
 | 18, _ => rfl
 | 19, _ => rfl
 | 20, _ => rfl
 | i + 21, h => exact absurd h (by omega)

theorem impl_IsWorthProof_l1_at (k : Nat) (L : List S94) (n : Int) (l : List Int) (s u h b : Int) (m : Int) (i : Nat) (hi : i < 21) : impl_IsWorthProof.l1 (k + 1) L L m (i : Int) n l s u h b = if rd (cellsL (rd_T94 L m)) (i : Int) > 0 then some (false, true) else impl_IsWorthProof.l1 k L L m ((i + 1 : Nat) : Int) n l s u h b := by
 have c1 : (i : Int) < 21 := by omega
 have hw : wrap64 ((i : Int) + 1) = ((i + 1 : Nat) : Int) := wpA i (by omega)
 simp only [impl_IsWorthProof.l1, c1, ↓reduceIte, hw]
 clear hw c1
 match i, hi with
 | 0, _ => rfl
 | 1, _ => rfl
 | 2, _ => rfl
 | 3, _ => rfl
 | 4, _ => rfl
 | 5, _ => rfl
 | 6, _ => rfl
 | 7, _ => rfl
 | 8, _ => rfl
 | 9, _ => rfl
 | 10, _ => rfl
 | 11, _ => rfl
 | 12, _ => rfl
 | 13, _ => rfl
 | 14, _ => rfl
 | 15, _ => rfl
 | 16, _ => rfl
 | 17, _ => rfl
 | 18, _ => rfl
 | 19, _ => rfl
 | 20, _ => rfl
 | j + 21, hh => exact absurd hh (by omega)
theorem ev_impl_IsWorthProof_l3 (n : Int) (l : List Int) (s u h b : Int) (hp : procB n l s u h b = true) (T : List (List Int)) (hT : tabB n T = true) (L : List S94) (hL : L.length = T.length) (hc : ∀ q : Nat, q < T.length → cellsL (rd_T94 L (q : Int)) = rd_L1 T (q : Int)) (t : Nat) (ht : (t : Int) < n) {v : Bool × Bool} (hK : Ev (fun k => impl_IsWorthProof.l2 k L n ((t + 1 : Nat) : Int) n l s u h b) v) (d : Nat) : ∀ i : Nat, i + d = 21 → Ev (fun k => impl_IsWorthProof.l3 k L (t : Int) ((i : Int) - 10) n (t : Int) n l s u h b) (if underF l s u h b n T t d i = true then v else (false, true)) := by
 have hq := procB_spec hp
 have hs := tabB_spec hT
 have h1 := hs.2 t (by omega)
 have h2 := hs.2 (t + 1) (by omega)
 have ht5 : t ≤ 5 := by omega
 induction d with
 | zero =>
  intro i hi
  refine ev_succ ?_
  have c1 : ¬ (i : Int) - 10 ≤ 10 := by omega
  simp only [impl_IsWorthProof.l3, c1, wpA t (by omega), ↓reduceIte, underF]
  exact hK
 | succ d ih =>
  intro i hi
  refine ev_succ ?_
  have c1 : (i : Int) - 10 ≤ 10 := by omega
  have c2 : (0 : Int) ≤ ((t + 1 : Nat) : Int) := by omega
  have c3 : ((t + 1 : Nat) : Int) < (L.length : Int) := by omega
  have c4 : (0 : Int) ≤ (t : Int) := by omega
  have c5 : (t : Int) < (L.length : Int) := by omega
  have ea := impl_levels_at_f (rd_T94 L (t : Int)) ((i : Int) - 10) (by omega)
  rw [hc t (by omega), show (i : Int) - 10 + 10 = (i : Int) by omega] at ea
  have d1 : 1 ≤ n - (t : Int) ∧ n - (t : Int) ≤ 6 := by omega
  have d2 : -10 ≤ (i : Int) - 10 ∧ (i : Int) - 10 ≤ 10 := by omega
  have d3 : i + 1 + d = 21 := by omega
  have d4 : 0 ≤ h ∧ h ≤ 9 := by omega
  have d5 : 0 ≤ b ∧ b ≤ 9 := by omega
  have d6 := hc (t + 1) (by omega)
  have d7 : -100 ≤ n - (t : Int) ∧ n - (t : Int) ≤ 100 := by omega
  have d8 : i ≤ 100 := by omega
  have d9 : t ≤ 100 := by omega
  have e1 := wpA t d9
  have e2 := wpB (n - (t : Int)) d7
  have e4 := wpD i d8
  simp only [impl_IsWorthProof.l3, c1, e1, e2, c2, c3, ↓reduceIte]
  refine Ev.bind (ev_impl_Process_least n l s u h b (rd_T94 L ((t + 1 : Nat) : Int)) _ _ hq.2.1 d4 d5 d1 d2) ?_
  simp only [c4, c5, e4, ea, ↓reduceIte, Option.bind_some, d6]
  clear e1 e2 e4 ea d6
  rw [underF]
  by_cases g : rd (rd_L1 T (t : Int)) (i : Int) > (bestV l s u h b (rd_L1 T ((t + 1 : Nat) : Int)) (n - (t : Int)) ((i : Int) - 10)).2
  ·rw [if_pos g]
   exact ev_yes g (Ev.now _)
  ·rw [if_neg g]
   exact ev_no g (ih (i + 1) d3)
theorem ev_impl_IsWorthProof_l2 (n : Int) (l : List Int) (s u h b : Int) (hp : procB n l s u h b = true) (T : List (List Int)) (hT : tabB n T = true) (L : List S94) (hL : L.length = T.length) (hc : ∀ q : Nat, q < T.length → cellsL (rd_T94 L (q : Int)) = rd_L1 T (q : Int)) (d : Nat) : ∀ t : Nat, (t : Int) + d = n → Ev (fun k => impl_IsWorthProof.l2 k L n (t : Int) n l s u h b) (allUnder l s u h b n T d t, true) := by
 have hq := procB_spec hp
 induction d with
 | zero =>
  intro t ht
  refine ev_succ ?_
  have c1 : ¬ (t : Int) < n := by omega
  simp only [impl_IsWorthProof.l2, c1, ↓reduceIte]
  exact Ev.now _
 | succ d ih =>
  intro t ht
  refine ev_succ ?_
  have c1 : (t : Int) < n := by omega
  simp only [impl_IsWorthProof.l2, c1, ↓reduceIte]
  refine ev_eq (ev_impl_IsWorthProof_l3 n l s u h b hp T hT L hL hc t c1 (ih (t + 1) (by omega)) 21 0 rfl) ?_
  rw [allUnder]
  by_cases g : underF l s u h b n T t 21 0 = true
  ·rw [if_pos g, if_pos g]
  ·rw [if_neg g, if_neg g]
theorem ev_impl_IsWorthProof_l1 (n : Int) (l : List Int) (s u h b : Int) (hp : procB n l s u h b = true) (T : List (List Int)) (hT : tabB n T = true) (L : List S94) (hL : L.length = T.length) (hc : ∀ q : Nat, q < T.length → cellsL (rd_T94 L (q : Int)) = rd_L1 T (q : Int)) (d : Nat) : ∀ j : Nat, j + d = 21 → Ev (fun k => impl_IsWorthProof.l1 k L L n (j : Int) n l s u h b) (nonB ((rd_L1 T n).drop j) && allUnder l s u h b n T n.toNat 0, true) := by
 have hq := procB_spec hp
 have hs := tabB_spec hT
 have hN := hs.2 n.toNat (by omega)
 have hcN := hc n.toNat (by omega)
 rw [show ((n.toNat : Nat) : Int) = n by omega] at hN hcN
 induction d with
 | zero =>
  intro j hj
  refine ev_succ ?_
  have c2 : ¬ (j : Int) < 21 := by omega
  simp only [impl_IsWorthProof.l1, c2, ↓reduceIte]
  rw [List.drop_eq_nil_of_le (by omega)]
  exact ev_impl_IsWorthProof_l2 n l s u h b hp T hT L hL hc n.toNat 0 (by omega)
 | succ d ih =>
  intro j hj
  refine ev_succ ?_
  have hj' : j < (rd_L1 T n).length := by omega
  simp only [impl_IsWorthProof_l1_at _ L n l s u h b n j (by omega), hcN, rd_nat hj']
  rw [drop_cons hj']
  show Ev _ (((!decide ((rd_L1 T n)[j] > 0)) && nonB ((rd_L1 T n).drop (j + 1))) && _, true)
  by_cases g : (rd_L1 T n)[j] > 0
  ·refine ev_yes g ?_
   simp only [decide_eq_true g, Bool.not_true, Bool.false_and]
   exact Ev.now _
  ·refine ev_no g ?_
   simp only [decide_eq_false g, Bool.not_false, Bool.true_and]
   exact ih (j + 1) (by omega)
theorem ev_impl_IsWorthProof_l0 (n : Int) (l : List Int) (s u h b : Int) (hp : procB n l s u h b = true) (T : List (List Int)) (hTn : (T.length : Int) = n + 1) (hr : ∀ r ∈ T, r.length ≤ 9223372036854775807) (d : Nat) : ∀ (i : Nat) (L : List S94), i + d = T.length → L.length = T.length → (∀ q : Nat, q < i → cellsL (rd_T94 L (q : Int)) = rd_L1 T (q : Int)) → (T.take i).all rowW = true → Ev (fun k => impl_IsWorthProof.l0 k L T (T.length : Int) (i : Int) n l s u h b) (if (T.drop i).all rowW = true then (proofV l s u h b n T, true) else (false, true)) := by
 have hq := procB_spec hp
 induction d with
 | zero =>
  intro i L hi hL hc ha
  refine ev_succ ?_
  have c1 : ¬ (i : Int) < (T.length : Int) := by omega
  have c2 : (0 : Int) ≤ n := by omega
  have c3 : n < (L.length : Int) := by omega
  simp only [impl_IsWorthProof.l0, c1, c2, c3, ↓reduceIte]
  rw [List.drop_eq_nil_of_le (by omega), if_pos (show ([] : List (List Int)).all rowW = true from rfl)]
  rw [List.take_of_length_le (by omega)] at ha
  have hT : tabB n T = true := by unfold tabB; rw [ha, Bool.true_and, beq_iff_eq]; exact hTn
  unfold proofV
  simpa using ev_impl_IsWorthProof_l1 n l s u h b hp T hT L hL (fun q hq => hc q (by omega)) 21 0 rfl
 | succ d ih =>
  intro i L hi hL hc ha
  refine ev_succ ?_
  have hi' : i < T.length := by omega
  have c1 : (i : Int) < (T.length : Int) := by omega
  have c2 : (0 : Int) ≤ (i : Int) := by omega
  have c3 : (i : Int) < (L.length : Int) := by omega
  simp only [impl_IsWorthProof.l0, c1, c2, c3, ↓reduceIte, w64_nat hi' (show T.length ≤ 9223372036854775807 by omega)]
  rw [drop_cons hi', List.all_cons]
  have hR := rdL_at hi'
  have no : rowW T[i] = false → Ev (fun _ => some (false, true)) (if (rowW T[i] && (T.drop (i + 1)).all rowW) = true then (proofV l s u h b n T, true) else (false, true)) := fun g => by rw [g]; exact Ev.now _
  refine ev_ite (fun g1 => ?_) (fun g1 => no ?_)
  ·refine Ev.bind (ev_impl_allWithin _ _ _ (by rw [hR]; exact hr _ (List.getElem_mem hi'))) ?_
   refine ev_ite (fun g2 => ?_) (fun g2 => no ?_)
   ·have hrow : rowW T[i] = true := by
     unfold rowW
     rw [Bool.and_eq_true, beq_iff_eq, ← hR]
     exact ⟨g2, g1⟩
    rw [hrow, Bool.true_and]
    refine ih (i + 1) _ (by omega) (by rw [List.length_set]; exact hL) (fun q hq => ?_) ?_
    ·unfold rd_T94
     rw [Int.toNat_natCast, Int.toNat_natCast, List.getD_eq_getElem?_getD, List.getElem?_set]
     by_cases e : i = q
     ·subst e
      rw [if_pos rfl, if_pos (by omega)]
      exact cellsL_mk (c := fun z => rd (rd_L1 T (i : Int)) (z : Int)) (by omega) (fun z _ => rfl)
     ·rw [if_neg e]
      have := hc q (by omega)
      unfold rd_T94 at this
      rw [Int.toNat_natCast, List.getD_eq_getElem?_getD] at this
      exact this
    ·rw [List.take_succ_eq_append_getElem hi', List.all_append, ha, Bool.true_and]
     simp [hrow]
   ·unfold rowW
    rw [← hR]
    simp [g2]
  ·unfold rowW
   rw [← hR]
   have : (((rd_L1 T (i : Int)).length : Int) == 21) = false := beq_eq_false_iff_ne.mpr g1
   rw [this, Bool.and_false]
theorem ev_impl_IsWorthProof (n : Int) (l : List Int) (s u h b : Int) (T : List (List Int)) (hl : l.length ≤ 1048576) (hT : T.length ≤ 1048576) (hr : ∀ r ∈ T, r.length ≤ 9223372036854775807) : Ev (fun k => impl_IsWorthProof.f k n l s u h b T) (isWorthV n l s u h b T) := by
 unfold impl_IsWorthProof.f
 refine Ev.bind (ev_impl_IsProcess n l s u h b (by omega)) ?_
 unfold isWorthV
 by_cases hp : procB n l s u h b = true
 ·rw [if_pos hp]
  refine ev_yes hp ?_
  have hq := procB_spec hp
  simp only [wpB (n + 1) (by omega)]
  refine ev_ite (fun g => ?_) (fun g => ?_)
  ·have c1 : 0 ≤ n + 1 := by omega
   have c2 : (n + 1).toNat ≤ 1675446289944 := by omega
   simp only [c1, c2, ↓reduceIte]
   refine ev_eq (ev_impl_IsWorthProof_l0 n l s u h b hp T g hr T.length 0 _ (by omega) (by rw [List.length_replicate]; omega) (fun q hq => by omega) (by simp)) ?_
   rw [List.drop_zero]
   unfold tabB
   rw [beq_iff_eq.mpr g, Bool.and_true]
  ·rw [if_neg (fun ht => g (tabB_spec ht).1)]
   exact Ev.now _
 ·rw [if_neg hp]
  exact ev_no hp (Ev.now _)

theorem powW_range {a : Int} (ha : 1 ≤ a ∧ a ≤ 20) : ∀ m, m ≤ 5 → 1 ≤ powW a m ∧ powW a m ≤ (20 : Int) ^ m
 | 0, _ => by simp [powW]
 | m + 1, hm => by
  have ih := powW_range ha m (by omega)
  have hp : (20 : Int) ^ m ≤ 160000 := by
   have : m = 0 ∨ m = 1 ∨ m = 2 ∨ m = 3 ∨ m = 4 := by omega
   rcases this with rfl | rfl | rfl | rfl | rfl <;> decide
  have h1 : powW a m * a ≤ (20 : Int) ^ m * 20 := Int.mul_le_mul ih.2 ha.2 (by omega) (by omega)
  have h2 : 1 * 1 ≤ powW a m * a := Int.mul_le_mul ih.1 ha.1 (by omega) (by omega)
  rw [powW, w64 (by omega) (by omega), Int.pow_succ]
  exact ⟨by omega, h1⟩
theorem powV_range {l : List Int} (hs : 0 < l.sum ∧ l.sum ≤ 20) {m : Int} (hm : 0 ≤ m ∧ m ≤ 5) : 1 ≤ powV l m ∧ powV l m ≤ 3200000 := by
 unfold powV
 rw [w64 (by omega) (by omega)]
 have h1 := powW_range (a := l.sum) ⟨by omega, hs.2⟩ m.toNat (by omega)
 have h2 : (20 : Int) ^ m.toNat ≤ 3200000 := by
  have : m.toNat = 0 ∨ m.toNat = 1 ∨ m.toNat = 2 ∨ m.toNat = 3 ∨ m.toNat = 4 ∨ m.toNat = 5 := by omega
  rcases this with h | h | h | h | h | h <;> rw [h] <;> decide
 omega
theorem cst_small {h b x : Int} (hh : 0 ≤ h ∧ h ≤ 9) (hb : 0 ≤ b ∧ b ≤ 9) (hx : -20 ≤ x ∧ x ≤ 20) : 0 ≤ cst h b x ∧ cst h b x ≤ 180 := by
 unfold cst
 rw [w64 (x := -b) (by omega) (by omega)]
 by_cases hp : x > 0
 ·rw [if_pos hp]
  have h1 : 0 ≤ h * x := Int.mul_nonneg hh.1 (by omega)
  have h2 : h * x ≤ 9 * x := Int.mul_le_mul_of_nonneg_right hh.2 (by omega)
  rw [w64 (by omega) (by omega)]
  omega
 ·rw [if_neg hp, Int.neg_mul, ← Int.mul_neg]
  have h1 : 0 ≤ b * -x := Int.mul_nonneg hb.1 (by omega)
  have h2 : b * -x ≤ 9 * -x := Int.mul_le_mul_of_nonneg_right hb.2 (by omega)
  rw [w64 (by omega) (by omega)]
  omega
def inC (C x : Int) : Prop := -C ≤ x ∧ x ≤ C
theorem rd_inC {N : List Int} {C : Int} (hC : 0 ≤ C) (hN : ∀ x ∈ N, inC C x) (i : Int) : inC C (rd N i) := by
 unfold rd
 rw [List.getD_eq_getElem?_getD]
 cases h : N[i.toNat]? with
 | none => exact ⟨by simp; omega, by simp; omega⟩
 | some v => exact hN v (List.mem_of_getElem? h)
theorem inC_add {A B x y : Int} (hx : inC A x) (hy : inC B y) : inC (A + B) (x + y) := by
 unfold inC at *; omega
theorem inC_le {A B x : Int} (h : A ≤ B) (hx : inC A x) : inC B x := by
 unfold inC at *; omega
theorem inC_w64 {A x : Int} (hA : A ≤ 9000000000000000000) (hx : inC A x) : wrap64 x = x := by
 unfold inC at hx; exact w64 (by omega) (by omega)
theorem aftW_range {h b pw C : Int} {N : List Int} (hh : 0 ≤ h ∧ h ≤ 9) (hb : 0 ≤ b ∧ b ≤ 9) (hp : 1 ≤ pw ∧ pw ≤ 3200000) (hC : 0 ≤ C ∧ C ≤ 10000000000000000) (hN : ∀ x ∈ N, inC C x) : ∀ (ws : List Int) (y acc D : Int), (∀ w ∈ ws, 0 ≤ w ∧ w ≤ 4) → -20 + (ws.length : Int) ≤ y → y ≤ 20 → 0 ≤ D → D + ws.length * (4 * (600000000 + C)) ≤ 9000000000000000000 → inC D acc → inC (D + ws.length * (4 * (600000000 + C))) (aftW h b pw N ws y acc)
 | [], y, acc, D, _, _, _, _, _, ha => by
  simpa [aftW] using ha
 | w :: ws, y, acc, D, hw, hy, hy2, hD, hb2, ha => by
  have hw1 := hw w (List.mem_cons_self ..)
  have hl2 : ((w :: ws).length : Int) = ws.length + 1 := by simp
  have e0 : ((ws.length : Int) + 1) * (4 * (600000000 + C)) = ws.length * (4 * (600000000 + C)) + 4 * (600000000 + C) := by
   rw [Int.add_mul]; omega
  rw [hl2, e0] at hb2
  rw [hl2] at hy
  have hnn : 0 ≤ (ws.length : Int) * (4 * (600000000 + C)) := Int.mul_nonneg (by omega) (by omega)
  have hc := cst_small (x := y) hh hb (by omega)
  have h1 : 0 ≤ cst h b y * pw := Int.mul_nonneg hc.1 (by omega)
  have h2 : cst h b y * pw ≤ 180 * 3200000 := Int.mul_le_mul hc.2 hp.2 (by omega) (by omega)
  have hr := rd_inC hC.1 hN (y + 10)
  have i1 : inC 600000000 (cst h b y * pw) := by unfold inC; omega
  have i2 := inC_add i1 hr
  have i3 : inC (4 * (600000000 + C)) (w * (cst h b y * pw + rd N (y + 10))) := by
   generalize cst h b y * pw + rd N (y + 10) = q at i2
   unfold inC at i2 ⊢
   have : w = 0 ∨ w = 1 ∨ w = 2 ∨ w = 3 ∨ w = 4 := by omega
   rcases this with rfl | rfl | rfl | rfl | rfl <;> omega
  have i4 := inC_add ha i3
  rw [aftW, inC_w64 (by omega) i1, inC_w64 (by omega) i2, inC_w64 (by omega) i3, inC_w64 (by omega) i4]
  have ih := aftW_range hh hb hp hC hN ws (y - 1) _ (D + 4 * (600000000 + C)) (fun v hv => hw v (List.mem_cons_of_mem _ hv)) (by omega) (by omega) (by omega) (by omega) i4
  rw [hl2, e0]
  exact inC_le (by omega) ih
theorem aftV_range {l : List Int} {h b C y m : Int} {N : List Int} (hl : l.length ≤ 5) (hlw : ∀ x ∈ l, 0 ≤ x ∧ x ≤ 4) (hs : 0 < l.sum ∧ l.sum ≤ 20) (hh : 0 ≤ h ∧ h ≤ 9) (hb : 0 ≤ b ∧ b ≤ 9) (hC : 0 ≤ C ∧ C ≤ 10000000000000000) (hN : ∀ x ∈ N, inC C x) (hm : 1 ≤ m ∧ m ≤ 6) (hy : -10 ≤ y ∧ y ≤ 10) : inC (12000000000 + 20 * C) (aftV l h b N y m) := by
 unfold aftV
 have hle : (l.length : Int) * (4 * (600000000 + C)) ≤ 5 * (4 * (600000000 + C)) := Int.mul_le_mul_of_nonneg_right (by omega) (by omega)
 have h1 := aftW_range hh hb (powV_range hs (m := m - 1) (by omega)) hC hN l y 0 0 hlw (by omega) (by omega) (by omega) (by omega) (by unfold inC; omega)
 exact inC_le (by omega) h1
theorem dnV_mem (c : Int → Int) (hi : Int) : ∀ d : Nat, ∃ y, hi - (d : Int) ≤ y ∧ y ≤ hi ∧ dnV c hi d = (y, c y)
 | 0 => ⟨hi, by omega, by omega, rfl⟩
 | d + 1 => by
  obtain ⟨y, h1, h2, h3⟩ := dnV_mem c hi d
  rw [dnV]
  split
  ·exact ⟨_, by omega, by omega, rfl⟩
  ·exact ⟨y, by omega, h2, h3⟩
theorem orderV_range {s u x y : Int} (hs : 0 ≤ s ∧ s ≤ 99) (hu : 0 ≤ u ∧ u ≤ 9) (hx : -10 ≤ x ∧ x ≤ 10) (hy : -10 ≤ y ∧ y ≤ 10) : 0 ≤ orderV s u x y ∧ orderV s u x y ≤ 279 := by
 unfold orderV
 split
 ·rw [w64 (x := y - x) (by omega) (by omega)]
  have h1 : 0 ≤ u * (y - x) := Int.mul_nonneg hu.1 (by omega)
  have h2 : u * (y - x) ≤ 9 * (y - x) := Int.mul_le_mul_of_nonneg_right hu.2 (by omega)
  rw [w64 (x := u * (y - x)) (by omega) (by omega), w64 (by omega) (by omega)]
  omega
 ·omega
theorem lvCost_range {l : List Int} {s u h b C m x y : Int} {N : List Int} (hl : l.length ≤ 5) (hlw : ∀ x ∈ l, 0 ≤ x ∧ x ≤ 4) (hsum : 0 < l.sum ∧ l.sum ≤ 20) (hs : 0 ≤ s ∧ s ≤ 99) (hu : 0 ≤ u ∧ u ≤ 9) (hh : 0 ≤ h ∧ h ≤ 9) (hb : 0 ≤ b ∧ b ≤ 9) (hC : 0 ≤ C ∧ C ≤ 10000000000000000) (hN : ∀ x ∈ N, inC C x) (hm : 1 ≤ m ∧ m ≤ 5) (hx : -10 ≤ x ∧ x ≤ 10) (hy : -10 ≤ y ∧ y ≤ 10) : inC (13000000000 + 20 * C) (lvCost l s u h b N m x y) := by
 have h1 := aftV_range hl hlw hsum hh hb hC hN (m := m) (y := y) (by omega) hy
 have h2 := orderV_range (s := s) (u := u) hs hu hx hy
 have h3 := powV_range hsum (m := m) (by omega)
 have h4 : 0 ≤ orderV s u x y * powV l m := Int.mul_nonneg h2.1 (by omega)
 have h5 : orderV s u x y * powV l m ≤ 279 * 3200000 := Int.mul_le_mul h2.2 h3.2 (by omega) (by omega)
 have i1 : inC 1000000000 (orderV s u x y * powV l m) := by unfold inC; omega
 have i2 := inC_add i1 h1
 unfold lvCost
 rw [inC_w64 (by omega) i1, inC_w64 (by omega) i2]
 exact inC_le (by omega) i2
def lvK : Nat → Int
 | 0 => 0
 | m + 1 => 13000000000 + 20 * lvK m
theorem lvK_range : ∀ m, m ≤ 5 → 0 ≤ lvK m ∧ lvK m ≤ 3000000000000000 := by
 intro m hm
 have : m = 0 ∨ m = 1 ∨ m = 2 ∨ m = 3 ∨ m = 4 ∨ m = 5 := by omega
 rcases this with rfl | rfl | rfl | rfl | rfl | rfl <;> decide
theorem wts_range {l : List Int} {s u h b : Int} (hl : 1 ≤ l.length ∧ l.length ≤ 5) (hlw : ∀ x ∈ l, 0 ≤ x ∧ x ≤ 4) (hsum : 0 < l.sum ∧ l.sum ≤ 20) (hs : 0 ≤ s ∧ s ≤ 99) (hu : 0 ≤ u ∧ u ≤ 9) (hh : 0 ≤ h ∧ h ≤ 9) (hb : 0 ≤ b ∧ b ≤ 9) : ∀ m, m ≤ 5 → ∀ r ∈ wts l s u h b m, ∀ x ∈ r, inC 3000000000000000 x := by
 have key : ∀ m, m ≤ 5 → (∀ x ∈ (wts l s u h b m).headD [], inC (lvK m) x) ∧ ∀ r ∈ wts l s u h b m, ∀ x ∈ r, inC 3000000000000000 x := by
  intro m
  induction m with
  | zero =>
   intro _
   simp only [wts, List.headD_cons, List.mem_singleton]
   refine ⟨fun x hx => ?_, fun r hr x hx => ?_⟩
   ·rw [List.eq_of_mem_replicate hx]; unfold inC lvK; omega
   ·rw [hr] at hx; rw [List.eq_of_mem_replicate hx]; unfold inC; omega
  | succ m ih =>
   intro hm
   have hK := lvK_range m (by omega)
   have hK2 := lvK_range (m + 1) hm
   obtain ⟨h1, h2⟩ := ih (by omega)
   have hf := floorV_eq hl.2
   have hrow : ∀ x ∈ rowV l s u h b ((wts l s u h b m).headD []) ((m + 1 : Nat) : Int), inC (lvK (m + 1)) x := by
    intro v hv
    unfold rowV at hv
    obtain ⟨i, hi, rfl⟩ := List.mem_map.1 hv
    have hi2 := List.mem_range.1 hi
    unfold bestV
    have hlo : mx ((i : Int) - 10) (floorV l) ≤ 10 ∧ -10 ≤ mx ((i : Int) - 10) (floorV l) := by unfold mx; omega
    obtain ⟨y, hy1, hy2, hy3⟩ := dnV_mem (lvCost l s u h b ((wts l s u h b m).headD []) ((m + 1 : Nat) : Int) ((i : Int) - 10)) 10 (10 - mx ((i : Int) - 10) (floorV l)).toNat
    rw [hy3]
    exact lvCost_range hl.2 hlw hsum hs hu hh hb ⟨hK.1, by omega⟩ h1 (by omega) (by omega) (by omega)
   refine ⟨by rw [wts, List.headD_cons]; exact hrow, fun r hr x hx => ?_⟩
   rw [wts, List.mem_cons] at hr
   rcases hr with rfl | hr
   ·exact inC_le hK2.2 (hrow x hx)
   ·exact h2 r hr x hx
 exact fun m hm => (key m hm).2
theorem billV_range {l : List Int} {u h b C m y : Int} {N : List Int} (hl : l.length ≤ 5) (hlw : ∀ x ∈ l, 0 ≤ x ∧ x ≤ 4) (hsum : 0 < l.sum ∧ l.sum ≤ 20) (hu : 0 ≤ u ∧ u ≤ 9) (hh : 0 ≤ h ∧ h ≤ 9) (hb : 0 ≤ b ∧ b ≤ 9) (hC : 0 ≤ C ∧ C ≤ 10000000000000000) (hN : ∀ x ∈ N, inC C x) (hm : 1 ≤ m ∧ m ≤ 5) (hy : -10 ≤ y ∧ y ≤ 10) : inC (13000000000 + 20 * C) (billV l u h b N m y) := by
 have h1 := aftV_range hl hlw hsum hh hb hC hN (m := m) (y := y) (by omega) hy
 have h3 := powV_range hsum (m := m) (by omega)
 have i0 : inC 90 (u * y) := by
  unfold inC
  have : u = 0 ∨ u = 1 ∨ u = 2 ∨ u = 3 ∨ u = 4 ∨ u = 5 ∨ u = 6 ∨ u = 7 ∨ u = 8 ∨ u = 9 := by omega
  rcases this with rfl | rfl | rfl | rfl | rfl | rfl | rfl | rfl | rfl | rfl <;> omega
 have i1 : inC 300000000 (u * y * powV l m) := by
  generalize u * y = q at i0
  unfold inC at i0 ⊢
  have h5 : q * powV l m ≤ 90 * powV l m := Int.mul_le_mul_of_nonneg_right (by omega) (by omega)
  have h6 : -90 * powV l m ≤ q * powV l m := Int.mul_le_mul_of_nonneg_right (by omega) (by omega)
  omega
 have i2 := inC_add i1 h1
 unfold billV
 rw [inC_w64 (by omega) i0, inC_w64 (by omega) i1, inC_w64 (by omega) i2]
 exact inC_le (by omega) i2
theorem nextV_range {n : Int} {l : List Int} {s u h b t : Int} (hp : procB n l s u h b = true) (ht : 0 ≤ t ∧ t ≤ n - 1) : ∀ x ∈ nextV n l s u h b t, inC 3000000000000000 x := by
 have hq := procB_spec hp
 have hl : (t + 1).toNat < (wts l s u h b n.toNat).length := by rw [wts_len]; omega
 unfold nextV
 rw [List.getD_eq_getElem?_getD, List.getElem?_eq_getElem hl]
 exact wts_range hq.2.1 hq.2.2.1 hq.2.2.2.1 hq.2.2.2.2.1 hq.2.2.2.2.2.1 hq.2.2.2.2.2.2.1 hq.2.2.2.2.2.2.2 n.toNat (by omega) _ (List.getElem_mem hl)

def upF (B : List Int) : Nat → Nat → Nat → Nat
 | 0, _, u => u
 | d + 1, i, u => upF B d (i + 1) (if rd B (i : Int) < rd B (u : Int) then i else u)
def lowF (B : List Int) (thr : Int) : Nat → Nat → Nat
 | 0, i => i
 | d + 1, i => if rd B (i : Int) > thr then lowF B thr d (i + 1) else i
theorem upF_lt (B : List Int) (N : Nat) (d : Nat) : ∀ (i u : Nat), i + d ≤ N → u < N → upF B d i u < N := by
 induction d with
 | zero => intro i u _ hu; exact hu
 | succ d ih =>
  intro i u hi hu
  rw [upF]
  split
  ·exact ih (i + 1) i (by omega) (by omega)
  ·exact ih (i + 1) u (by omega) hu
def lvUp (B : List Int) : Nat := upF B (B.length - 1) 1 0
def lvThr (l : List Int) (s m : Int) (B : List Int) : Int := wrap64 (rd B (lvUp B : Int) + wrap64 (s * powV l m))
def lvLow (l : List Int) (s m : Int) (B : List Int) : Nat := lowF B (lvThr l s m B) (lvUp B) 0
def lvPair (l : List Int) (s m : Int) (B : List Int) : Int × Int := (wrap64 ((lvLow l s m B : Int) + floorV l), wrap64 ((lvUp B : Int) + floorV l))
theorem lvUp_lt {B : List Int} (h : 0 < B.length) : lvUp B < B.length := upF_lt B B.length _ 1 0 (by omega) h
theorem upF_start (B : List Int) (h : 0 < B.length) : upF B B.length 0 0 = lvUp B := by
 unfold lvUp
 obtain ⟨d, hd⟩ : ∃ d, B.length = d + 1 := ⟨B.length - 1, by omega⟩
 rw [hd, upF, if_neg (by omega), Nat.add_sub_cancel]
theorem lvThr_ge {l : List Int} {s m : Int} {B : List Int} (hsum : 0 < l.sum ∧ l.sum ≤ 20) (hs : 0 ≤ s ∧ s ≤ 99) (hm : 0 ≤ m ∧ m ≤ 5) (hB : ∀ x ∈ B, inC 100000000000000000 x) : ¬ rd B (lvUp B : Int) > lvThr l s m B := by
 have h1 := powV_range hsum hm
 have h2 : 0 ≤ s * powV l m := Int.mul_nonneg hs.1 (by omega)
 have h3 : s * powV l m ≤ 99 * 3200000 := Int.mul_le_mul hs.2 h1.2 (by omega) (by omega)
 have h4 := rd_inC (by omega) hB (lvUp B : Int)
 unfold inC at h4
 unfold lvThr
 rw [w64 (x := s * powV l m) (by omega) (by omega), w64 (by omega) (by omega)]
 omega
theorem billsV_range {n : Int} {l : List Int} {s u h b t : Int} (hp : procB n l s u h b = true) (ht : 0 ≤ t ∧ t ≤ n - 1) : ∀ x ∈ billsV l u h b (nextV n l s u h b t) (n - t), inC 100000000000000000 x := by
 intro x hx
 have hq := procB_spec hp
 have hf := floorV_eq hq.2.1.2
 unfold billsV at hx
 obtain ⟨i, hi, rfl⟩ := List.mem_map.1 hx
 have hi2 := List.mem_range.1 hi
 exact inC_le (by omega) (billV_range hq.2.1.2 hq.2.2.1 hq.2.2.2.1 hq.2.2.2.2.2.1 hq.2.2.2.2.2.2.1 hq.2.2.2.2.2.2.2 (C := 3000000000000000) (by omega) (nextV_range hp ht) (by omega) (by omega))

theorem ev_spec_l6Levels_l1 (n : Int) (l : List Int) (s u h b t : Int) (B : List Int) (up : Nat) (thr : Int) (hl : l.length ≤ 5) (hn : 0 ≤ n ∧ n ≤ 5) (ht : 0 ≤ t ∧ t ≤ n - 1) (hup : up < B.length) (hBl : B.length ≤ 30) (hthr : thr = wrap64 (rd B (up : Int) + wrap64 (s * powV l (n - t)))) (hstop : ¬ rd B (up : Int) > thr) (d : Nat) : ∀ (i : Nat), i + d = up → Ev (fun k => spec_l6Levels.l1 k t B (up : Int) (i : Int) n l s u h b) (wrap64 ((lowF B thr d i : Int) + floorV l), wrap64 ((up : Int) + floorV l)) := by
 induction d with
 | zero =>
  intro i hi
  have hi2 : i = up := by omega
  subst hi2
  refine ev_succ ?_
  have h0 : (0 : Int) ≤ (i : Int) := by omega
  have h1 : (i : Int) < (B.length : Int) := by omega
  have e1 : wrap64 (n - t) = n - t := w64 (by omega) (by omega)
  simp only [spec_l6Levels.l1, h0, h1, e1, ↓reduceIte, spec_l6Floor_f, Option.bind_some]
  refine Ev.bind (ev_spec_l6Power n l s u h b (n - t) (by omega) (by omega)) ?_
  rw [← hthr]
  exact ev_no hstop (Ev.now _)
 | succ d ih =>
  intro i hi
  refine ev_succ ?_
  have h0 : (0 : Int) ≤ (i : Int) := by omega
  have h1 : (i : Int) < (B.length : Int) := by omega
  have h2 : (0 : Int) ≤ (up : Int) := by omega
  have h3 : (up : Int) < (B.length : Int) := by omega
  have e1 : wrap64 (n - t) = n - t := w64 (by omega) (by omega)
  have e2 : wrap64 ((i : Int) + 1) = ((i + 1 : Nat) : Int) := w64_nat (n := B.length) (by omega) (by omega)
  simp only [spec_l6Levels.l1, h0, h1, h2, h3, e1, e2, ↓reduceIte, spec_l6Floor_f, Option.bind_some]
  refine Ev.bind (ev_spec_l6Power n l s u h b (n - t) (by omega) (by omega)) ?_
  rw [← hthr, lowF]
  refine ev_ite (fun hg => ?_) (fun hg => ?_)
  ·rw [if_pos hg]; exact ih (i + 1) (by omega)
  ·rw [if_neg hg]; exact Ev.now _
theorem ev_spec_l6Levels_l0 (n : Int) (l : List Int) (s u h b t : Int) (B : List Int) (hBl : B.length ≤ 30) {r : Int × Int} (hc : Ev (fun k => spec_l6Levels.l1 k t B (lvUp B : Int) 0 n l s u h b) r) (d : Nat) : ∀ (i w : Nat), i + d = B.length → w < B.length → upF B d i w = lvUp B → Ev (fun k => spec_l6Levels.l0 k t B (w : Int) 0 (i : Int) n l s u h b) r := by
 induction d with
 | zero =>
  intro i w hi hw hu
  refine ev_succ ?_
  have h1 : ¬ (i : Int) < (B.length : Int) := by omega
  simp only [spec_l6Levels.l0, h1, ↓reduceIte]
  rw [upF] at hu
  rw [hu]
  exact hc
 | succ d ih =>
  intro i w hi hw hu
  refine ev_succ ?_
  have h0 : (0 : Int) ≤ (i : Int) := by omega
  have h1 : (i : Int) < (B.length : Int) := by omega
  have h2 : (0 : Int) ≤ (w : Int) := by omega
  have h3 : (w : Int) < (B.length : Int) := by omega
  have e2 : wrap64 ((i : Int) + 1) = ((i + 1 : Nat) : Int) := w64_nat (n := B.length) (by omega) (by omega)
  simp only [spec_l6Levels.l0, h0, h1, h2, h3, e2, ↓reduceIte]
  rw [upF] at hu
  refine ev_ite (fun hg => ?_) (fun hg => ?_)
  ·rw [if_pos hg] at hu; exact ih (i + 1) i (by omega) (by omega) hu
  ·rw [if_neg hg] at hu; exact ih (i + 1) w (by omega) hw hu
theorem ev_spec_l6Levels (n : Int) (l : List Int) (s u h b t : Int) (hp : procB n l s u h b = true) (ht : 0 ≤ t ∧ t ≤ n - 1) : Ev (fun k => spec_l6Levels.f k n l s u h b (wts l s u h b n.toNat) t) (lvPair l s (n - t) (billsV l u h b (nextV n l s u h b t) (n - t))) := by
 have hq := procB_spec hp
 have hlen := billsV_len l u h b (nextV n l s u h b t) (n - t)
 have hpos : 0 < (billsV l u h b (nextV n l s u h b t) (n - t)).length := by omega
 unfold spec_l6Levels.f
 refine Ev.bind (ev_spec_l6Bills n l s u h b _ t hq.2.1 hq.1 ht (by rw [wts_len]; omega) (nextV_len ht)) ?_
 have hst := lvThr_ge (m := n - t) hq.2.2.2.1 hq.2.2.2.2.1 (by omega) (billsV_range hp ht)
 have h1 := ev_spec_l6Levels_l1 n l s u h b t _ _ _ hq.2.1.2 hq.1 ht (lvUp_lt hpos) (by omega) rfl hst (lvUp (billsV l u h b (nextV n l s u h b t) (n - t))) 0 (by omega)
 exact ev_spec_l6Levels_l0 n l s u h b t _ (by omega) h1 _ 1 0 (by omega) hpos rfl

def lvAt (n : Int) (l : List Int) (s u h b : Int) (t : Nat) : S72 := ⟨(lvPair l s (n - (t : Int)) (billsV l u h b (nextV n l s u h b (t : Int)) (n - (t : Int)))).1, (lvPair l s (n - (t : Int)) (billsV l u h b (nextV n l s u h b (t : Int)) (n - (t : Int)))).2⟩
def blevelsV (n : Int) (l : List Int) (s u h b : Int) : List S72 × Bool := if procB n l s u h b = true then ((List.range n.toNat).map (lvAt n l s u h b), true) else ([], false)
theorem blevels_take (n : Int) (l : List Int) (s u h b : Int) {i : Nat} (hi : i < n.toNat) : ((List.range n.toNat).map (lvAt n l s u h b)).take (i + 1) = ((List.range n.toNat).map (lvAt n l s u h b)).take i ++ [lvAt n l s u h b i] := by
 rw [List.take_add_one]
 simp [hi]

theorem ev_spec_BestLevels_l0 (n : Int) (l : List Int) (s u h b : Int) (hp : procB n l s u h b = true) (d : Nat) : ∀ (i : Nat), (i : Int) + d = n → Ev (fun k => spec_BestLevels.l0 k (((List.range n.toNat).map (lvAt n l s u h b)).take i) (wts l s u h b n.toNat) (i : Int) n l s u h b) ((List.range n.toNat).map (lvAt n l s u h b), true) := by
 have hq := procB_spec hp
 induction d with
 | zero =>
  intro i hi
  refine ev_succ ?_
  have h1 : ¬ (i : Int) < n := by omega
  simp only [spec_BestLevels.l0, h1, ↓reduceIte]
  rw [List.take_of_length_le (by rw [List.length_map, List.length_range]; omega)]
  exact Ev.now _
 | succ d ih =>
  intro i hi
  refine ev_succ ?_
  have h1 : (i : Int) < n := by omega
  have e2 : wrap64 ((i : Int) + 1) = ((i + 1 : Nat) : Int) := w64_nat (n := 10) (by omega) (by omega)
  simp only [spec_BestLevels.l0, h1, e2, ↓reduceIte]
  refine Ev.bind (ev_spec_l6Levels n l s u h b (i : Int) hp (by omega)) ?_
  refine ev_yes (by rw [List.length_take, List.length_map, List.length_range]; omega) ?_
  have e3 := blevels_take n l s u h b (i := i) (by omega)
  rw [lvAt] at e3
  rw [← e3]
  exact ih (i + 1) (by omega)
theorem ev_spec_BestLevels (n : Int) (l : List Int) (s u h b : Int) (hl : l.length ≤ 9223372036854775807) : Ev (fun k => spec_BestLevels.f k n l s u h b) (blevelsV n l s u h b) := by
 unfold spec_BestLevels.f blevelsV
 simp only [Option.bind_some]
 refine Ev.bind (ev_spec_l6Good n l s u h b hl) ?_
 refine ev_ite (fun hc => ?_) (fun hc => ?_)
 ·rw [if_pos hc]
  have hq := procB_spec hc
  refine Ev.bind (ev_spec_l6Worths n l s u h b hq.2.1 hq.1) ?_
  exact ev_spec_BestLevels_l0 n l s u h b hc n.toNat 0 (by omega)
 ·rw [if_neg hc]; exact Ev.now _

theorem ev_impl_BestLevels_l2 (n : Int) (l : List Int) (s u h b : Int) (O : List S72) (R : List S94) (B : List Int) (up t : Nat) (thr : Int) (hl : l.length ≤ 5) (hn : 0 ≤ n ∧ n ≤ 5) (ht : (t : Int) ≤ n - 1) (hO : O.length ≤ 10) (hup : up < B.length) (hBl : B.length ≤ 30) (hthr : ∀ x : Int, x = wrap64 (rd B (up : Int) + wrap64 (s * powV l (n - (t : Int)))) → x = thr) (hstop : ¬ rd B (up : Int) > thr) {r : List S72 × Bool} (d : Nat) : ∀ (i : Nat), i + d = up → Ev (fun k => impl_BestLevels.l0 k (O ++ [(⟨wrap64 ((lowF B thr d i : Int) + floorV l), wrap64 ((up : Int) + floorV l)⟩ : S72)]) R n ((t + 1 : Nat) : Int) n l s u h b) r → Ev (fun k => impl_BestLevels.l2 k O R (t : Int) B (up : Int) (i : Int) n (t : Int) n l s u h b) r := by
 have e1 : wrap64 (n - (t : Int)) = n - (t : Int) := w64 (by omega) (by omega)
 have e9 : wrap64 ((t : Int) + 1) = ((t + 1 : Nat) : Int) := w64_nat (n := 10) (by omega) (by omega)
 have h9 : O.length < 8796093022208 := by omega
 induction d with
 | zero =>
  intro i hi hc
  have hi2 : i = up := by omega
  subst hi2
  refine ev_succ ?_
  have h0 : (0 : Int) ≤ (i : Int) := by omega
  have h1 : (i : Int) < (B.length : Int) := by omega
  simp only [impl_BestLevels.l2, h0, h1, e1, e9, h9, ↓reduceIte, impl_Process_floor_f, Option.bind_some]
  refine Ev.bind (ev_impl_Process_whole n l s u h b (n - (t : Int)) (by omega) (by omega)) ?_
  rw [hthr _ rfl]
  exact ev_no hstop hc
 | succ d ih =>
  intro i hi hc
  refine ev_succ ?_
  have h0 : (0 : Int) ≤ (i : Int) := by omega
  have h1 : (i : Int) < (B.length : Int) := by omega
  have h2 : (0 : Int) ≤ (up : Int) := by omega
  have h3 : (up : Int) < (B.length : Int) := by omega
  have e2 : wrap64 ((i : Int) + 1) = ((i + 1 : Nat) : Int) := w64_nat (n := B.length) (by omega) (by omega)
  simp only [impl_BestLevels.l2, h0, h1, h2, h3, e1, e2, e9, h9, ↓reduceIte, impl_Process_floor_f, Option.bind_some]
  refine Ev.bind (ev_impl_Process_whole n l s u h b (n - (t : Int)) (by omega) (by omega)) ?_
  rw [lowF] at hc
  rw [hthr _ rfl]
  refine ev_ite (fun hg => ?_) (fun hg => ?_)
  ·rw [if_pos hg] at hc; exact ih (i + 1) (by omega) hc
  ·rw [if_neg hg] at hc; exact hc
theorem ev_impl_BestLevels_l1 (n : Int) (l : List Int) (s u h b : Int) (O : List S72) (R : List S94) (t : Nat) (B : List Int) (hBl : B.length ≤ 30) {r : List S72 × Bool} (hc : Ev (fun k => impl_BestLevels.l2 k O R (t : Int) B (lvUp B : Int) 0 n (t : Int) n l s u h b) r) (d : Nat) : ∀ (i w : Nat), i + d = B.length → w < B.length → upF B d i w = lvUp B → Ev (fun k => impl_BestLevels.l1 k O R (t : Int) B (w : Int) n (t : Int) B (B.length : Int) (i : Int) n l s u h b) r := by
 induction d with
 | zero =>
  intro i w hi hw hu
  refine ev_succ ?_
  have h1 : ¬ (i : Int) < (B.length : Int) := by omega
  simp only [impl_BestLevels.l1, h1, ↓reduceIte]
  rw [upF] at hu
  rw [hu]
  exact hc
 | succ d ih =>
  intro i w hi hw hu
  refine ev_succ ?_
  have h0 : (0 : Int) ≤ (i : Int) := by omega
  have h1 : (i : Int) < (B.length : Int) := by omega
  have h2 : (0 : Int) ≤ (w : Int) := by omega
  have h3 : (w : Int) < (B.length : Int) := by omega
  have e2 : wrap64 ((i : Int) + 1) = ((i + 1 : Nat) : Int) := w64_nat (n := B.length) (by omega) (by omega)
  simp only [impl_BestLevels.l1, h0, h1, h2, h3, e2, ↓reduceIte]
  rw [upF] at hu
  refine ev_ite (fun hg => ?_) (fun hg => ?_)
  ·rw [if_pos hg] at hu; exact ih (i + 1) i (by omega) (by omega) hu
  ·rw [if_neg hg] at hu; exact ih (i + 1) w (by omega) hw hu
theorem ev_impl_BestLevels_l0 (n : Int) (l : List Int) (s u h b : Int) (hp : procB n l s u h b = true) (R : List S94) (hR : R.map cellsL = wts l s u h b n.toNat) (d : Nat) : ∀ (i : Nat), (i : Int) + d = n → Ev (fun k => impl_BestLevels.l0 k (((List.range n.toNat).map (lvAt n l s u h b)).take i) R n (i : Int) n l s u h b) ((List.range n.toNat).map (lvAt n l s u h b), true) := by
 have hq := procB_spec hp
 have hRl := wts_map_len hR
 induction d with
 | zero =>
  intro i hi
  refine ev_succ ?_
  have h1 : ¬ (i : Int) < n := by omega
  simp only [impl_BestLevels.l0, h1, ↓reduceIte]
  rw [List.take_of_length_le (by rw [List.length_map, List.length_range]; omega)]
  exact Ev.now _
 | succ d ih =>
  intro i hi
  refine ev_succ ?_
  have h1 : (i : Int) < n := by omega
  have h2 : (0 : Int) ≤ (i : Int) + 1 := by clear hp hR ih; omega
  have h3 : (i : Int) + 1 < (R.length : Int) := by clear hp hR ih; omega
  simp only [impl_BestLevels.l0, h1, show wrap64 ((i : Int) + 1) = (i : Int) + 1 from w64 (by clear hp hR ih; omega) (by clear hp hR ih; omega), h2, h3, ↓reduceIte]
  have hb2 := ev_impl_Process_bills n l s u h b (rd_T94 R ((i : Int) + 1)) (i : Int) hq.2.1 hq.2.2.2.2.2.2.1 hq.2.2.2.2.2.2.2 hq.1 (by omega)
  rw [nextV_of (t := (i : Int)) hR (by omega)] at hb2
  refine Ev.bind hb2 ?_
  have hlen := billsV_len l u h b (nextV n l s u h b (i : Int)) (n - (i : Int))
  have hpos : 0 < (billsV l u h b (nextV n l s u h b (i : Int)) (n - (i : Int))).length := by omega
  have hst := lvThr_ge (m := n - (i : Int)) hq.2.2.2.1 hq.2.2.2.2.1 (by omega) (billsV_range hp (t := (i : Int)) (by omega))
  have e3 := blevels_take n l s u h b (i := i) (by omega)
  have hgo := ih (i + 1) (by omega)
  rw [e3] at hgo
  have hl2 := ev_impl_BestLevels_l2 n l s u h b (((List.range n.toNat).map (lvAt n l s u h b)).take i) R _ _ i _ hq.2.1.2 hq.1 (by omega) (by rw [List.length_take, List.length_map, List.length_range]; omega) (lvUp_lt hpos) (by omega) (fun x hx => hx) hst (lvUp (billsV l u h b (nextV n l s u h b (i : Int)) (n - (i : Int)))) 0 (by omega) hgo
  exact ev_impl_BestLevels_l1 n l s u h b _ R i _ (by omega) hl2 _ 0 0 (by omega) hpos (upF_start _ hpos)
theorem ev_impl_BestLevels (n : Int) (l : List Int) (s u h b : Int) (hl : l.length ≤ 9223372036854775807) : Ev (fun k => impl_BestLevels.f k n l s u h b) (blevelsV n l s u h b) := by
 unfold impl_BestLevels.f blevelsV
 refine Ev.bind (ev_impl_IsProcess n l s u h b hl) ?_
 refine ev_ite (fun hc => ?_) (fun hc => ?_)
 ·rw [if_pos hc]
  have hq := procB_spec hc
  obtain ⟨r, h1, h2⟩ := ev_impl_Process_worths n l s u h b hq.2.1 hq.1 hq.2.2.2.2.2.2.1 hq.2.2.2.2.2.2.2
  refine Ev.bind h1 ?_
  exact ev_impl_BestLevels_l0 n l s u h b hc r h2 n.toNat 0 (by omega)
 ·rw [if_neg hc]; exact Ev.now _

theorem ev_laws_rInts_l0 (l : List Int) (hl : l.length ≤ 9223372036854775807) (d : Nat) : ∀ (i : Nat), i + d = l.length → Ev (fun k => laws_rInts.l0 k l l (i : Int)) true := by
 induction d with
 | zero =>
  intro i hi
  refine ev_succ ?_
  have h1 : ¬ (i : Int) < (l.length : Int) := by omega
  simp only [laws_rInts.l0, h1, ↓reduceIte]
  exact Ev.now _
 | succ d ih =>
  intro i hi
  refine ev_succ ?_
  have h1 : (i : Int) < (l.length : Int) := by omega
  have h0 : (0 : Int) ≤ (i : Int) := by omega
  have hi' : i < l.length := by omega
  simp only [laws_rInts.l0, h1, h0, ↓reduceIte, w64_nat hi' hl]
  exact ih (i + 1) (by omega)
theorem ev_laws_rInts_self (l : List Int) (hl : l.length ≤ 9223372036854775807) : Ev (fun k => laws_rInts.f k l l) true := by
 unfold laws_rInts.f
 simp only [if_true]
 exact ev_laws_rInts_l0 l hl l.length 0 (by omega)

theorem ev_laws_rTable_l0 (T : List (List Int)) (hT : T.length ≤ 9223372036854775807) (hr : ∀ r ∈ T, r.length ≤ 9223372036854775807) (d : Nat) : ∀ (i : Nat), i + d = T.length → Ev (fun k => laws_rTable.l0 k T T (i : Int)) true := by
 induction d with
 | zero =>
  intro i hi
  refine ev_succ ?_
  have h1 : ¬ (i : Int) < (T.length : Int) := by omega
  simp only [laws_rTable.l0, h1, ↓reduceIte]
  exact Ev.now _
 | succ d ih =>
  intro i hi
  refine ev_succ ?_
  have h1 : (i : Int) < (T.length : Int) := by omega
  have h0 : (0 : Int) ≤ (i : Int) := by omega
  have hi' : i < T.length := by omega
  simp only [laws_rTable.l0, h1, h0, ↓reduceIte, w64_nat hi' hT, rdL_at hi']
  refine Ev.bind (ev_laws_rInts_self _ (hr _ (List.getElem_mem hi'))) ?_
  exact ev_yes rfl (ih (i + 1) (by omega))
theorem ev_laws_rTable_self (T : List (List Int)) (hT : T.length ≤ 9223372036854775807) (hr : ∀ r ∈ T, r.length ≤ 9223372036854775807) : Ev (fun k => laws_rTable.f k T T) true := by
 unfold laws_rTable.f
 simp only [if_true]
 exact ev_laws_rTable_l0 T hT hr T.length 0 (by omega)

theorem ev_laws_rPairs_self_l0 (l : List S72) (hl : l.length ≤ 9223372036854775807) (d : Nat) : ∀ (i : Nat), i + d = l.length → Ev (fun k => laws_rPairs.l0 k l l (i : Int)) true := by
 induction d with
 | zero =>
  intro i hi
  refine ev_succ ?_
  have h1 : ¬ (i : Int) < (l.length : Int) := by omega
  simp only [laws_rPairs.l0, h1, ↓reduceIte]
  exact Ev.now _
 | succ d ih =>
  intro i hi
  refine ev_succ ?_
  have h1 : (i : Int) < (l.length : Int) := by omega
  have h0 : (0 : Int) ≤ (i : Int) := by omega
  have hi' : i < l.length := by omega
  simp only [laws_rPairs.l0, h1, h0, ↓reduceIte, w64_nat hi' hl, beq_self_eq_true, Bool.not_true, Bool.or_self, Bool.false_eq_true]
  exact ih (i + 1) (by omega)
theorem ev_laws_rPairs_self (l : List S72) (hl : l.length ≤ 9223372036854775807) : Ev (fun k => laws_rPairs.f k l l) true := by
 unfold laws_rPairs.f
 simp only [↓reduceIte]
 exact ev_laws_rPairs_self_l0 l hl l.length 0 (by omega)

def KC (K : Int) (f : Int → Int) (lo hi : Int) : Prop := ∀ i a j, lo ≤ i → i < a → a < j → j ≤ hi → (a - i) * f a + (j - a) * (f a - f i) ≤ (a - i) * (K + f j)
theorem KC_add {K L : Int} {f g : Int → Int} {lo hi : Int} (hf : KC K f lo hi) (hg : KC L g lo hi) : KC (K + L) (fun x => f x + g x) lo hi := by
 intro i a j h1 h2 h3 h4
 have p := hf i a j h1 h2 h3 h4
 have q := hg i a j h1 h2 h3 h4
 grind
theorem KC_scale {K w : Int} {f : Int → Int} {lo hi : Int} (hw : 0 ≤ w) (hf : KC K f lo hi) : KC (w * K) (fun x => w * f x) lo hi := by
 intro i a j h1 h2 h3 h4
 have p := Int.mul_le_mul_of_nonneg_left (hf i a j h1 h2 h3 h4) hw
 grind
theorem KC_line (u : Int) (lo hi : Int) : KC 0 (fun x => u * x) lo hi := by
 intro i a j h1 h2 h3 h4
 grind
theorem KC_le {K L : Int} {f : Int → Int} {lo hi : Int} (h : K ≤ L) (hf : KC K f lo hi) : KC L f lo hi := by
 intro i a j h1 h2 h3 h4
 have p := hf i a j h1 h2 h3 h4
 have q := Int.mul_le_mul_of_nonneg_left h (show 0 ≤ a - i by omega)
 grind
theorem KC_sub {K : Int} {f : Int → Int} {lo hi lo' hi' : Int} (h : lo ≤ lo') (h' : hi' ≤ hi) (hf : KC K f lo hi) : KC K f lo' hi' := fun i a j h1 h2 h3 h4 => hf i a j (by omega) h2 h3 (by omega)
theorem KC_shift {K d : Int} {f : Int → Int} {lo hi : Int} (hf : KC K f lo hi) : KC K (fun x => f (x - d)) (lo + d) (hi + d) := by
 intro i a j h1 h2 h3 h4
 have p := hf (i - d) (a - d) (j - d) (by omega) (by omega) (by omega) (by omega)
 rw [show a - d - (i - d) = a - i by omega, show j - d - (a - d) = j - a by omega] at p
 exact p
theorem KC_congr {K : Int} {f g : Int → Int} {lo hi : Int} (h : ∀ x, lo ≤ x → x ≤ hi → f x = g x) (hf : KC K f lo hi) : KC K g lo hi := by
 intro i a j h1 h2 h3 h4
 have p := hf i a j h1 h2 h3 h4
 rw [h i (by omega) (by omega), h a (by omega) (by omega), h j (by omega) (by omega)] at p
 exact p
structure Pair (K : Int) (G : Int → Int) (fl top s S : Int) : Prop where
 hS : fl ≤ S ∧ S ≤ top
 least : ∀ y, fl ≤ y → y ≤ top → G S ≤ G y
 first : ∀ y, fl ≤ y → y < S → G S < G y
 hs : fl ≤ s ∧ s ≤ S
 low : G s ≤ G S + K
 below : ∀ y, fl ≤ y → y < s → G S + K < G y
theorem Pair.stay {K : Int} {G : Int → Int} {fl top s S : Int} (hp : Pair K G fl top s S) (hG : KC K G fl top) {x y : Int} (hx : s ≤ x) (hxy : x < y) (hy : y ≤ top) : G x ≤ K + G y := by
 obtain ⟨hS, hl, hf, hs, hlow, hb⟩ := hp
 by_cases he : x = s
 ·subst he
  have := hl y (by omega) hy
  omega
 ·apply Int.not_lt.1
  intro hc
  have k := hG s x y (by omega) (by omega) hxy hy
  have l1 := hl y (by omega) hy
  have l2 : G s ≤ G x - 1 := by omega
  have m1 := Int.mul_le_mul_of_nonneg_left (show K + G y ≤ G x by omega) (show 0 ≤ x - s by omega)
  have m2 := Int.mul_le_mul_of_nonneg_left (show 1 ≤ G x - G s by omega) (show 0 ≤ y - x by omega)
  omega
def UV (K : Int) (G : Int → Int) (s S x : Int) : Int := if x < s then K + G S else G x
theorem UV_KC {K : Int} {G : Int → Int} {fl top s S lo : Int} (hK : 0 ≤ K) (hp : Pair K G fl top s S) (hG : KC K G fl top) : KC K (UV K G s S) lo top := by
 have hst := @Pair.stay K G fl top s S hp hG
 obtain ⟨hS, hl, hf, hs, hlow, hb⟩ := hp
 intro i a j h1 h2 h3 h4
 unfold UV
 by_cases c1 : s ≤ i
 ·rw [if_neg (show ¬ a < s by omega), if_neg (show ¬ i < s by omega), if_neg (show ¬ j < s by omega)]
  exact hG i a j (by omega) h2 h3 h4
 ·by_cases c2 : a < s
  ·rw [if_pos c2, if_pos (show i < s by omega)]
   have hj : K + G S ≤ K + (if j < s then K + G S else G j) := by
    by_cases c3 : j < s
    ·rw [if_pos c3]; omega
    ·rw [if_neg c3]; have := hl j (by omega) h4; omega
   have m := Int.mul_le_mul_of_nonneg_left hj (show 0 ≤ a - i by omega)
   grind
  ·rw [if_neg c2, if_pos (show i < s by omega), if_neg (show ¬ j < s by omega)]
   have st := @hst a j (by omega) h3 h4
   by_cases c3 : G a ≤ K + G S
   ·have m1 := Int.mul_le_mul_of_nonneg_left st (show 0 ≤ a - i by omega)
    have m2 := Int.mul_le_mul_of_nonneg_left (show G a - (K + G S) ≤ 0 by omega) (show 0 ≤ j - a by omega)
    grind
   ·have hSa : S < a := by
     apply Int.not_le.1
     intro hc
     by_cases he : a = S
     ·rw [he] at c3; omega
     ·have := @hst a S (by omega) (by omega) (by omega); omega
    have k := hG S a j (by omega) hSa h3 h4
    have m1 := Int.mul_le_mul_of_nonneg_right (show a - S ≤ a - i by omega) (show 0 ≤ K + G j - G a by omega)
    have m2 := Int.mul_le_mul_of_nonneg_left (show G a - (K + G S) ≤ G a - G S by omega) (show 0 ≤ j - a by omega)
    grind

structure Cvx (N : List Int) (K : Int) : Prop where
 len : N.length = 21
 val : ∀ i : Nat, i < 21 → 0 ≤ rd N (i : Int) ∧ rd N (i : Int) ≤ 10000000000
 pos : 0 ≤ K ∧ K ≤ 10000000000
 kc : ∀ i a j : Nat, i < a → a < j → j < 21 → ((a : Int) - i) * rd N (a : Int) + ((j : Int) - a) * (rd N (a : Int) - rd N (i : Int)) ≤ ((a : Int) - i) * (K + rd N (j : Int))
theorem Cvx.all {N : List Int} {K : Int} (C : Cvx N K) : allB N (-1000000000000) 1000000000000 = true := by
 unfold allB
 rw [List.all_eq_true]
 intro x hx
 obtain ⟨i, hi, rfl⟩ := List.mem_iff_getElem.1 hx
 have := C.val i (by rw [← C.len]; exact hi)
 rw [rd_nat hi] at this
 exact decide_eq_true (by omega)

theorem and255 (x : Int) : 0 ≤ Go.bits .and .u64 x 255 ∧ Go.bits .and .u64 x 255 ≤ 255 := by
 have h : (BitVec.ofInt 64 x &&& BitVec.ofInt 64 255).toNat ≤ 255 := by
  rw [BitVec.toNat_and]
  exact Nat.le_trans Nat.and_le_right (by decide)
 show 0 ≤ IntKind.u64.wrap ((BitVec.ofInt 64 x &&& BitVec.ofInt 64 255).toNat : Int) ∧ IntKind.u64.wrap ((BitVec.ofInt 64 x &&& BitVec.ofInt 64 255).toNat : Int) ≤ 255
 rw [IntKind.wrap_u64]
 omega
def codeOk (l : List Int) : Prop := ∀ x ∈ l, 0 ≤ x ∧ x ≤ 255
def atOk (a : Int) : Prop := 0 ≤ a ∧ a ≤ 1000000000000
theorem spec_l1Cur_next_ok (l : List Int) (a sd : Int) (hl : codeOk l) (ha : atOk a) : ∃ b s', spec_l1Cur_next.f l a sd = some (b, a + 1, s') ∧ 0 ≤ b ∧ b ≤ 255 := by
 unfold atOk at ha
 have e : wrap64 (a + 1) = a + 1 := w64 (by omega) (by omega)
 unfold spec_l1Cur_next.f
 rw [e]
 by_cases h : a < (l.length : Int)
 ·have hr : 0 ≤ rd l a ∧ rd l a ≤ 255 := by
   obtain ⟨i, hi⟩ : ∃ i : Nat, a = (i : Int) := ⟨a.toNat, by omega⟩
   subst hi
   rw [rd_nat (by omega)]
   exact hl _ (List.getElem_mem _)
  rw [if_pos h, if_pos ha.1]
  by_cases h2 : a + 1 ≤ (l.length : Int)
  ·rw [if_pos h2]
   exact ⟨_, _, rfl, by rw [w64 (by omega) (by omega)]; omega, by rw [w64 (by omega) (by omega)]; omega⟩
  ·omega
 ·rw [if_neg h]
  by_cases h2 : a + 1 ≤ (l.length : Int)
  ·omega
  ·rw [if_neg h2]
   generalize hx : (_ : Int) / 1099511627776 = x
   have := and255 x
   refine ⟨_, _, rfl, ?_, ?_⟩ <;> (rw [w64 (by omega) (by omega)]; omega)

theorem spec_l1Cur_pick_ok (l : List Int) (a sd n : Int) (hl : codeOk l) (ha : 0 ≤ a ∧ a ≤ 1000000000) (hn : 1 ≤ n ∧ n ≤ 1000000) : ∃ r a' s', spec_l1Cur_pick.f l a sd n = some (r, a', s') ∧ (0 ≤ r ∧ r < n) ∧ (a ≤ a' ∧ a' ≤ a + 2) := by
 unfold spec_l1Cur_pick.f
 by_cases h1 : n ≤ 1
 ·rw [if_pos h1]
  exact ⟨_, _, _, rfl, ⟨by omega, by omega⟩, by omega, by omega⟩
 ·rw [if_neg h1]
  obtain ⟨b, s1, e1, hb1, hb2⟩ := spec_l1Cur_next_ok l a sd hl (by unfold atOk; omega)
  rw [e1, Option.bind_some]
  by_cases h2 : n > 200
  ·rw [if_pos h2]
   obtain ⟨b2, s2, e2, hc1, hc2⟩ := spec_l1Cur_next_ok l (a + 1) s1 hl (by unfold atOk; omega)
   dsimp only
   rw [e2, Option.bind_some, if_neg (by omega)]
   dsimp only
   rw [w64 (x := b * 256) (by omega) (by omega), w64 (x := b * 256 + b2) (by omega) (by omega)]
   exact ⟨_, _, _, rfl, ⟨Int.tmod_nonneg _ (by omega), Int.tmod_lt_of_pos _ (by omega)⟩, by omega, by omega⟩
  ·rw [if_neg h2, if_neg (by omega)]
   exact ⟨_, _, _, rfl, ⟨Int.tmod_nonneg _ hb1, Int.tmod_lt_of_pos _ (by omega)⟩, by dsimp only; omega, by dsimp only; omega⟩

theorem spec_l1Cur_among_ok (l : List Int) (a sd : Int) (L : List Int) (hl : codeOk l) (ha : 0 ≤ a ∧ a ≤ 1000000000) (hL : 1 ≤ L.length ∧ L.length ≤ 1000) : ∃ v a' s', spec_l1Cur_among.f l a sd L = some (v, a', s') ∧ v ∈ L ∧ (a ≤ a' ∧ a' ≤ a + 2) := by
 obtain ⟨r, a', s', e, hr, ha2⟩ := spec_l1Cur_pick_ok l a sd (L.length : Int) hl ha (by omega)
 unfold spec_l1Cur_among.f
 rw [e, Option.bind_some]
 dsimp only
 rw [if_pos hr.1, if_pos hr.2]
 obtain ⟨i, hi⟩ : ∃ i : Nat, r = (i : Int) := ⟨r.toNat, by omega⟩
 subst hi
 exact ⟨_, _, _, rfl, by rw [rd_nat (by omega)]; exact List.getElem_mem _, ha2⟩

theorem spec_l1Cur_one_ok (l : List Int) (a sd n : Int) (hl : codeOk l) (ha : 0 ≤ a ∧ a ≤ 1000000000) (hn : 1 ≤ n ∧ n ≤ 1000000) : ∃ r a' s', spec_l1Cur_one.f l a sd n = some (r, a', s') ∧ (a ≤ a' ∧ a' ≤ a + 2) := by
 obtain ⟨r, a', s', e, hr, ha2⟩ := spec_l1Cur_pick_ok l a sd n hl ha hn
 unfold spec_l1Cur_one.f
 rw [e, Option.bind_some]
 exact ⟨_, _, _, rfl, ha2⟩

theorem ev_spec_l1Cur_process_j2 (l : List Int) (hl : codeOk l) (a sd n : Int) (W : List Int) (s u h b : Int) (hW : 1 ≤ W.length) (ha : 0 ≤ a ∧ a ≤ 1000000) : ∃ n' W' s' u' h' b' a' sd', Ev (fun k => spec_l1Cur_process.j2 k l a sd n W s u h b) (n', W', s', u', h', b', a', sd') ∧ W'.length ≤ W.length ∧ (a ≤ a' ∧ a' ≤ a + 4) := by
 obtain ⟨r, a1, s1, e1, hr, ha2⟩ := spec_l1Cur_pick_ok l a sd 40 hl (by omega) (by omega)
 have c9 : 0 < (W.length : Int) := by omega
 by_cases c0 : r = 0
 ·subst c0
  obtain ⟨v, a2, s2, e2, hv, ha3⟩ := spec_l1Cur_among_ok l a1 s1 [(-1), 6] hl (by omega) (by simp)
  refine ⟨v, W, s, u, h, b, a2, s2, ev_succ ?_, by omega, by omega⟩
  simp only [spec_l1Cur_process.j2, e1, e2, Option.bind_some, ↓reduceIte]
  exact Ev.now _
 by_cases c1 : r = 1
 ·subst c1
  obtain ⟨v, a2, s2, e2, hv, ha3⟩ := spec_l1Cur_among_ok l a1 s1 [(-1), 4, 5] hl (by omega) (by simp)
  refine ⟨n, W.set (0 : Int).toNat v, s, u, h, b, a2, s2, ev_succ ?_, by rw [List.length_set]; omega, by omega⟩
  simp only [spec_l1Cur_process.j2, e1, e2, c9, Option.bind_some, show ¬ (1 : Int) = 0 by omega, ↓reduceIte]
  exact Ev.now _
 by_cases c2 : r = 2
 ·subst c2
  obtain ⟨v, a2, s2, e2, hv, ha3⟩ := spec_l1Cur_among_ok l a1 s1 [(-1), 100] hl (by omega) (by simp)
  refine ⟨n, W, v, u, h, b, a2, s2, ev_succ ?_, by omega, by omega⟩
  simp only [spec_l1Cur_process.j2, e1, e2, Option.bind_some, show ¬ (2 : Int) = 0 by omega, show ¬ (2 : Int) = 1 by omega, ↓reduceIte]
  exact Ev.now _
 by_cases c3 : r = 3
 ·subst c3
  obtain ⟨v, a2, s2, e2, hv, ha3⟩ := spec_l1Cur_among_ok l a1 s1 [(-1), 9, 10] hl (by omega) (by simp)
  refine ⟨n, W, s, u, h, v, a2, s2, ev_succ ?_, by omega, by omega⟩
  simp only [spec_l1Cur_process.j2, e1, e2, Option.bind_some, show ¬ (3 : Int) = 0 by omega, show ¬ (3 : Int) = 1 by omega, show ¬ (3 : Int) = 2 by omega, ↓reduceIte]
  exact Ev.now _
 by_cases c4 : r = 4
 ·subst c4
  refine ⟨n, [], s, u, h, b, a1, s1, ev_succ ?_, Nat.zero_le _, by omega⟩
  simp only [spec_l1Cur_process.j2, e1, Option.bind_some, show ¬ (4 : Int) = 0 by omega, show ¬ (4 : Int) = 1 by omega, show ¬ (4 : Int) = 2 by omega, show ¬ (4 : Int) = 3 by omega, ↓reduceIte]
  exact Ev.now _
 refine ⟨n, W, s, u, h, b, a1, s1, ev_succ ?_, by omega, by omega⟩
 simp only [spec_l1Cur_process.j2, e1, Option.bind_some, c0, c1, c2, c3, c4, ↓reduceIte]
 exact Ev.now _
theorem ev_spec_l1Cur_process_j1 (l : List Int) (hl : codeOk l) (q : Bool) (a sd n : Int) (W : List Int) (s u h b : Int) (hW : 1 ≤ W.length) (ha : 0 ≤ a ∧ a ≤ 1000000) : ∃ n' W' s' u' h' b' a' sd', Ev (fun k => spec_l1Cur_process.j1 k q l a sd n W s u h b) (n', W', s', u', h', b', a', sd') ∧ W'.length ≤ W.length ∧ (a ≤ a' ∧ a' ≤ a + 4) := by
 have c9 : 0 < (W.length : Int) := by omega
 cases q with
 | true =>
  obtain ⟨n', W', s', u', h', b', a', sd', e, h1, h2⟩ := ev_spec_l1Cur_process_j2 l hl a sd n (W.set (0 : Int).toNat 1) s u h b (by rw [List.length_set]; exact hW) ha
  rw [List.length_set] at h1
  refine ⟨n', W', s', u', h', b', a', sd', ev_succ ?_, h1, h2⟩
  simp only [spec_l1Cur_process.j1, c9, ↓reduceIte]
  exact e
 | false =>
  obtain ⟨n', W', s', u', h', b', a', sd', e, h1, h2⟩ := ev_spec_l1Cur_process_j2 l hl a sd n W s u h b hW ha
  refine ⟨n', W', s', u', h', b', a', sd', ev_succ ?_, h1, h2⟩
  simp only [spec_l1Cur_process.j1, Bool.false_eq_true, ↓reduceIte]
  exact e
theorem ev_spec_l1Cur_process_l0 (l : List Int) (hl : codeOk l) (n s u h b : Int) (d : Nat) : ∀ (a sd : Int) (W : List Int), 1 ≤ W.length + d → W.length + d ≤ 10 → 0 ≤ a → a + 2 * (d : Int) ≤ 100000 → ∃ n' W' s' u' h' b' a' sd', Ev (fun k => spec_l1Cur_process.l0 k (d : Int) l a sd n W s u h b) (n', W', s', u', h', b', a', sd') ∧ W'.length ≤ W.length + d ∧ (a ≤ a' ∧ a' ≤ a + 2 * (d : Int) + 6) := by
 induction d with
 | zero =>
  intro a sd W hW hW2 ha hb
  have hs := ev_spec_l2Sum W (by omega)
  have c : ¬ ((0 : Nat) : Int) > 0 := by omega
  by_cases hz : wrap64 W.sum = 0
  ·obtain ⟨r, a1, s1, e1, ha1⟩ := spec_l1Cur_one_ok l a sd 4 hl (by omega) (by omega)
   obtain ⟨n', W', s', u', h', b', a', sd', e, h1, h2⟩ := ev_spec_l1Cur_process_j1 l hl (!r) a1 s1 n W s u h b (by omega) (by omega)
   refine ⟨n', W', s', u', h', b', a', sd', ev_succ ?_, by omega, by omega⟩
   simp only [spec_l1Cur_process.l0, c, ↓reduceIte]
   refine Ev.bind hs ?_
   simp only [hz, ↓reduceIte, e1, Option.bind_some]
   exact e
  ·obtain ⟨n', W', s', u', h', b', a', sd', e, h1, h2⟩ := ev_spec_l1Cur_process_j1 l hl false a sd n W s u h b (by omega) (by omega)
   refine ⟨n', W', s', u', h', b', a', sd', ev_succ ?_, by omega, by omega⟩
   simp only [spec_l1Cur_process.l0, c, ↓reduceIte]
   refine Ev.bind hs ?_
   simp only [hz, ↓reduceIte]
   exact e
 | succ d ih =>
  intro a sd W hW hW2 ha hb
  have c : ((d + 1 : Nat) : Int) > 0 := by omega
  have c3 : W.length < 17592186044416 := by omega
  obtain ⟨v, a1, s1, e1, hv, ha1⟩ := spec_l1Cur_among_ok l a sd [1, 2, 1, 0, 3] hl (by omega) (by simp)
  obtain ⟨n', W', s', u', h', b', a', sd', e, h1, h2⟩ := ih a1 s1 (W ++ [v]) (by rw [List.length_append, List.length_singleton]; omega) (by rw [List.length_append, List.length_singleton]; omega) (by omega) (by omega)
  rw [List.length_append, List.length_singleton] at h1
  refine ⟨n', W', s', u', h', b', a', sd', ev_succ ?_, by omega, by omega⟩
  have e2 : wrap64 (((d + 1 : Nat) : Int) - 1) = (d : Int) := by rw [w64 (by omega) (by omega)]; omega
  simp only [spec_l1Cur_process.l0, c, c3, e1, e2, ↓reduceIte, Option.bind_some]
  exact e
theorem ev_spec_l1Cur_process (l : List Int) (a sd : Int) (hl : codeOk l) (ha : 0 ≤ a ∧ a ≤ 10000) : ∃ n W s u h b a' sd', Ev (fun k => spec_l1Cur_process.f k l a sd) (n, W, s, u, h, b, a', sd') ∧ W.length ≤ 10 ∧ (a ≤ a' ∧ a' ≤ a + 100) := by
 unfold spec_l1Cur_process.f
 obtain ⟨n, a1, s1, e1, _, ha1⟩ := spec_l1Cur_among_ok l a sd [2, 3, 1, 2, 0, 4, 5] hl (by omega) (by simp)
 obtain ⟨s, a2, s2, e2, _, ha2⟩ := spec_l1Cur_among_ok l a1 s1 [0, 3, 6, 10, 99] hl (by omega) (by simp)
 obtain ⟨u, a3, s3, e3, _, ha3⟩ := spec_l1Cur_pick_ok l a2 s2 3 hl (by omega) (by omega)
 obtain ⟨h, a4, s4, e4, _, ha4⟩ := spec_l1Cur_pick_ok l a3 s3 3 hl (by omega) (by omega)
 obtain ⟨b, a5, s5, e5, _, ha5⟩ := spec_l1Cur_among_ok l a4 s4 [2, 4, 6, 9, 0] hl (by omega) (by simp)
 obtain ⟨r, a6, s6, e6, hr, ha6⟩ := spec_l1Cur_pick_ok l a5 s5 5 hl (by omega) (by omega)
 obtain ⟨q, hq⟩ : ∃ q : Nat, wrap64 (1 + r) = (q : Int) ∧ 1 ≤ q ∧ q ≤ 5 := ⟨(1 + r).toNat, by rw [w64 (by omega) (by omega)]; omega, by omega, by omega⟩
 simp only [e1, e2, e3, e4, e5, e6, Option.bind_some, hq.1]
 obtain ⟨n', W', s', u', h', b', a', sd', e, h1, h2⟩ := ev_spec_l1Cur_process_l0 l hl n s u (wrap64 (1 + h)) b q a6 s6 [] (by simp; omega) (by simp; omega) (by omega) (by omega)
 simp only [List.length_nil] at h1
 exact ⟨n', W', s', u', h', b', a', sd', e, by omega, by omega⟩

theorem spec_l1Cur_level_ok (l : List Int) (a sd : Int) (hl : codeOk l) (ha : 0 ≤ a ∧ a ≤ 100000000) : ∃ v a' s', spec_l1Cur_level.f l a sd = some (v, a', s') ∧ (-11 ≤ v ∧ v ≤ 11) := by
 obtain ⟨v, a1, s1, e1, hv, _⟩ := spec_l1Cur_among_ok l a sd [0, 1, (-1), 3, (-3), 5, (-8), 10, (-10), 7, 11, (-11)] hl (by omega) (by simp)
 refine ⟨v, a1, s1, ?_, ?_⟩
 ·unfold spec_l1Cur_level.f
  rw [e1]; rfl
 ·simp only [List.mem_cons, List.not_mem_nil, or_false] at hv
  omega

theorem ev_spec_DrawBestOrder (l : List Int) (hl : codeOk l) : ∃ n W s u h b t x, Ev (fun k => spec_DrawBestOrder.f k l) (n, W, s, u, h, b, t, x) ∧ W.length ≤ 10 := by
 obtain ⟨n, W, s, u, h, b, a1, s1, e1, h1, ha1⟩ := ev_spec_l1Cur_process l 0 0 hl (by omega)
 obtain ⟨r, a2, s2, e2, hr, ha2⟩ := spec_l1Cur_pick_ok l a1 s1 4 hl (by omega) (by omega)
 obtain ⟨q, a3, s3, e3, hq, ha3⟩ := spec_l1Cur_pick_ok l a2 s2 2 hl (by omega) (by omega)
 obtain ⟨x, a4, s4, e4, hx⟩ := spec_l1Cur_level_ok l a3 s3 hl (by omega)
 refine ⟨n, W, s, u, h, b, wrap64 (r - q), x, ?_, h1⟩
 unfold spec_DrawBestOrder.f
 refine Ev.bind e1 ?_
 simp only [e2, e3, e4, Option.bind_some]
 exact Ev.now _

theorem ev_spec_DrawIsConvexFor_l1 (l : List Int) (hl : codeOk l) (a sd : Int) (ha : 0 ≤ a ∧ a ≤ 1000000) (n : Nat) (hn : n ≤ 43) (d : Nat) : ∀ L : List Int, L.length ≤ 43 → n ≤ L.length + d → ∃ L' c, Ev (fun k => spec_DrawIsConvexFor.l1 k L (n : Int) l a sd) (L', c) ∧ L'.length ≤ 43 := by
 induction d with
 | zero =>
  intro L hL hd
  obtain ⟨v, a1, s1, e1, _, _⟩ := spec_l1Cur_among_ok l a sd [0, 0, 1, 3, 10, (-1), 1000000000000, 1000000000001] hl (by omega) (by simp)
  refine ⟨L, v, ev_succ ?_, hL⟩
  have c1 : ¬ (L.length : Int) < (n : Int) := by omega
  simp only [spec_DrawIsConvexFor.l1, c1, e1, Option.bind_some, ↓reduceIte]
  exact Ev.now _
 | succ d ih =>
  intro L hL hd
  by_cases h : L.length < n
  ·obtain ⟨L', c, e, h2⟩ := ih (L ++ [0]) (by rw [List.length_append, List.length_singleton]; omega) (by rw [List.length_append, List.length_singleton]; omega)
   refine ⟨L', c, ev_succ ?_, h2⟩
   have c1 : (L.length : Int) < (n : Int) := by omega
   have c2 : L.length < 17592186044416 := by omega
   simp only [spec_DrawIsConvexFor.l1, c1, c2, ↓reduceIte]
   exact e
  ·obtain ⟨v, a1, s1, e1, _, _⟩ := spec_l1Cur_among_ok l a sd [0, 0, 1, 3, 10, (-1), 1000000000000, 1000000000001] hl (by omega) (by simp)
   refine ⟨L, v, ev_succ ?_, hL⟩
   have c1 : ¬ (L.length : Int) < (n : Int) := by omega
   simp only [spec_DrawIsConvexFor.l1, c1, e1, Option.bind_some, ↓reduceIte]
   exact Ev.now _
theorem ev_spec_DrawIsConvexFor_l0 (l : List Int) (hl : codeOk l) (d : Nat) : ∀ (L : List Int) (x y a sd : Int), L.length + d ≤ 12 → 0 ≤ a → a + 4 * (d : Int) ≤ 10000 → ∃ L' c, Ev (fun k => spec_DrawIsConvexFor.l0 k L x y (d : Int) l a sd) (L', c) ∧ L'.length ≤ 43 := by
 induction d with
 | zero =>
  intro L x y a sd hL ha hb
  have c0 : ¬ ((0 : Nat) : Int) > 0 := by omega
  obtain ⟨r, a1, s1, e1, hr, ha1⟩ := spec_l1Cur_pick_ok l a sd 30 hl (by omega) (by omega)
  by_cases r0 : r = 0
  ·subst r0
   by_cases hp : (L.length : Int) > 0
   ·obtain ⟨v, a2, s2, e2, _, ha2⟩ := spec_l1Cur_among_ok l a1 s1 [1000000000000, 1000000000001, (-1000000000001)] hl (by omega) (by simp)
    obtain ⟨w, a3, s3, e3, _, _⟩ := spec_l1Cur_among_ok l a2 s2 [0, 0, 1, 3, 10, (-1), 1000000000000, 1000000000001] hl (by omega) (by simp)
    have c1 : 0 < (L.length : Int) := by omega
    refine ⟨L.set (0 : Int).toNat v, w, ev_succ ?_, by rw [List.length_set]; omega⟩
    simp only [spec_DrawIsConvexFor.l0, c0, c1, hp, e1, e2, e3, Option.bind_some, ↓reduceIte]
    exact Ev.now _
   ·obtain ⟨w, a3, s3, e3, _, _⟩ := spec_l1Cur_among_ok l a1 s1 [0, 0, 1, 3, 10, (-1), 1000000000000, 1000000000001] hl (by omega) (by simp)
    refine ⟨L, w, ev_succ ?_, by omega⟩
    simp only [spec_DrawIsConvexFor.l0, c0, hp, e1, e3, Option.bind_some, ↓reduceIte]
    exact Ev.now _
  by_cases r1 : r = 1
  ·subst r1
   obtain ⟨q, a2, s2, e2, hq, ha2⟩ := spec_l1Cur_pick_ok l a1 s1 2 hl (by omega) (by omega)
   obtain ⟨q, rfl⟩ : ∃ p : Nat, q = (p : Int) := ⟨q.toNat, by omega⟩
   obtain ⟨L', c, e, h2⟩ := ev_spec_DrawIsConvexFor_l1 l hl a2 s2 (by omega) (41 + q) (by omega) 43 L (by omega) (by omega)
   refine ⟨L', c, ev_succ ?_, h2⟩
   have e3 : wrap64 (41 + (q : Int)) = ((41 + q : Nat) : Int) := by rw [w64 (by omega) (by omega)]; omega
   simp only [spec_DrawIsConvexFor.l0, c0, e1, e2, e3, Option.bind_some, show ¬ (1 : Int) = 0 by omega, ↓reduceIte]
   exact e
  obtain ⟨w, a3, s3, e3, _, _⟩ := spec_l1Cur_among_ok l a1 s1 [0, 0, 1, 3, 10, (-1), 1000000000000, 1000000000001] hl (by omega) (by simp)
  refine ⟨L, w, ev_succ ?_, by omega⟩
  simp only [spec_DrawIsConvexFor.l0, c0, r0, r1, e1, e3, Option.bind_some, ↓reduceIte]
  exact Ev.now _
 | succ d ih =>
  intro L x y a sd hL ha hb
  obtain ⟨r, a1, s1, e1, hr, ha1⟩ := spec_l1Cur_pick_ok l a sd 3 hl (by omega) (by omega)
  obtain ⟨q, a2, s2, e2, hq, ha2⟩ := spec_l1Cur_pick_ok l a1 s1 12 hl (by omega) (by omega)
  obtain ⟨L', c, e, h2⟩ := ih (L ++ [y]) (wrap64 ((wrap64 (x + r)) - (wrap64 ((wrap64 (Int.tdiv q 11)) * 3)))) (wrap64 (y + x)) a2 s2 (by rw [List.length_append, List.length_singleton]; omega) (by omega) (by omega)
  refine ⟨L', c, ev_succ ?_, h2⟩
  have c1 : ((d + 1 : Nat) : Int) > 0 := by omega
  have c2 : L.length < 17592186044416 := by omega
  have e3 : wrap64 (((d + 1 : Nat) : Int) - 1) = (d : Int) := by rw [w64 (by omega) (by omega)]; omega
  simp only [spec_DrawIsConvexFor.l0, c1, c2, e1, e2, e3, Option.bind_some, ↓reduceIte]
  exact e
theorem ev_spec_DrawIsConvexFor (l : List Int) (hl : codeOk l) : ∃ L c, Ev (fun k => spec_DrawIsConvexFor.f k l) (L, c) ∧ L.length ≤ 43 := by
 obtain ⟨r, a1, s1, e1, hr, ha1⟩ := spec_l1Cur_pick_ok l 0 0 6 hl (by omega) (by omega)
 obtain ⟨y, a2, s2, e2, hy, ha2⟩ := spec_l1Cur_pick_ok l a1 s1 20 hl (by omega) (by omega)
 obtain ⟨m, a3, s3, e3, hm, ha3⟩ := spec_l1Cur_among_ok l a2 s2 [3, 5, 8, 2, 1, 0, 12] hl (by omega) (by simp)
 have hm2 : 0 ≤ m ∧ m ≤ 12 := by simp only [List.mem_cons, List.not_mem_nil, or_false] at hm; omega
 obtain ⟨m, rfl⟩ : ∃ p : Nat, m = (p : Int) := ⟨m.toNat, by omega⟩
 obtain ⟨L, c, e, h⟩ := ev_spec_DrawIsConvexFor_l0 l hl m [] (wrap64 (-r)) y a3 s3 (by simp; omega) (by omega) (by omega)
 refine ⟨L, c, ?_, h⟩
 unfold spec_DrawIsConvexFor.f
 simp only [e1, e2, e3, Option.bind_some]
 exact e

theorem rdL_in {m : List (List Int)} {i : Nat} (h : i < m.length) : rd_L1 m (i : Int) ∈ m := by rw [rdL_at h]; exact List.getElem_mem h
theorem ev_spec_DrawIsWorthProof_l0 (n : Int) (W : List Int) (s u h b : Int) (q : Nat) (hq : q ≤ 100) (d : Nat) : ∀ (i : Nat) (T : List (List Int)), i + d = q → T.length ≤ 10 → 0 < T.length → (∀ r ∈ T, r.length ≤ 100) → (rd_L1 T 0).length = q → ∃ T', Ev (fun k => spec_DrawIsWorthProof.l0 k T (i : Int) n W s u h b) (n, W, s, u, h, b, T') ∧ T'.length ≤ 10 ∧ ∀ r ∈ T', r.length ≤ 100 := by
 induction d with
 | zero =>
  intro i T hi hT hT0 hr h0
  refine ⟨T, ev_succ ?_, hT, hr⟩
  have c1 : 0 < (T.length : Int) := by omega
  have c2 : ¬ (i : Int) < ((rd_L1 T 0).length : Int) := by omega
  simp only [spec_DrawIsWorthProof.l0, c1, c2, ↓reduceIte]
  exact Ev.now _
 | succ d ih =>
  intro i T hi hT hT0 hr h0
  have hrow : rd_L1 T 0 ∈ T := rdL_in (i := 0) hT0
  have hset : rd_L1 (T.set (0 : Int).toNat ((rd_L1 T 0).set (i : Int).toNat (wrap64 (rd (rd_L1 T 0) (i : Int) - 5)))) 0 = (rd_L1 T 0).set (i : Int).toNat (wrap64 (rd (rd_L1 T 0) (i : Int) - 5)) := by
   have h1 : 0 < (T.set (0 : Int).toNat ((rd_L1 T 0).set (i : Int).toNat (wrap64 (rd (rd_L1 T 0) (i : Int) - 5)))).length := by rw [List.length_set]; exact hT0
   have := rdL_at (i := 0) h1
   rw [show ((0 : Nat) : Int) = 0 from rfl] at this
   rw [this, List.getElem_set]
   rfl
  obtain ⟨T', e, h2⟩ := ih (i + 1) (T.set (0 : Int).toNat ((rd_L1 T 0).set (i : Int).toNat (wrap64 (rd (rd_L1 T 0) (i : Int) - 5)))) (by omega) (by rw [List.length_set]; exact hT) (by rw [List.length_set]; exact hT0) (fun r hr2 => by
   rcases List.mem_or_eq_of_mem_set hr2 with h3 | h3
   ·exact hr r h3
   ·rw [h3, List.length_set]; exact hr _ hrow) (by rw [hset, List.length_set]; exact h0)
  refine ⟨T', ev_succ ?_, h2⟩
  have c1 : 0 < (T.length : Int) := by omega
  have c2 : (i : Int) < ((rd_L1 T 0).length : Int) := by omega
  have c3 : (0 : Int) ≤ (i : Int) := by omega
  have e1 : wrap64 ((i : Int) + 1) = ((i + 1 : Nat) : Int) := w64_nat (n := 1000) (by omega) (by omega)
  simp only [spec_DrawIsWorthProof.l0, c1, c2, c3, ↓reduceIte, e1]
  exact e
theorem ev_spec_DrawIsWorthProof (l : List Int) (hl : codeOk l) : ∃ n W s u h b T, Ev (fun k => spec_DrawIsWorthProof.f k l) (n, W, s, u, h, b, T) ∧ W.length ≤ 10 ∧ T.length ≤ 10 ∧ ∀ r ∈ T, r.length ≤ 100 := by
 obtain ⟨n, W, s, u, h, b, a1, s1, e1, h1, ha1⟩ := ev_spec_l1Cur_process l 0 0 hl (by omega)
 have hT := ev_spec_WorthTable n W s u h b (by omega)
 have hlen := wtableV_len n W s u h b
 generalize wtableV n W s u h b = v at hT hlen
 obtain ⟨T, ok⟩ := v
 dsimp only at hlen
 have hrow : ∀ r ∈ T, r.length ≤ 100 := fun r hr => by have := hlen.2 r hr; omega
 by_cases hp : (T.length : Int) > 0
 ·obtain ⟨t, a2, s2, e2, ht, ha2⟩ := spec_l1Cur_pick_ok l a1 s1 (T.length : Int) hl (by omega) (by omega)
  obtain ⟨t, rfl⟩ : ∃ p : Nat, t = (p : Int) := ⟨t.toNat, by omega⟩
  have ht' : t < T.length := by omega
  have hm : rd_L1 T (t : Int) ∈ T := rdL_in ht'
  have hm0 : rd_L1 T 0 ∈ T := rdL_in (i := 0) (by omega)
  have hrl := hlen.2 _ hm
  have hrl0 := hlen.2 _ hm0
  obtain ⟨i, a3, s3, e3, hi, ha3⟩ := spec_l1Cur_pick_ok l a2 s2 ((rd_L1 T (t : Int)).length : Int) hl (by omega) (by omega)
  obtain ⟨q, a4, s4, e4, hq, ha4⟩ := spec_l1Cur_pick_ok l a3 s3 8 hl (by omega) (by omega)
  have c1 : (0 : Int) ≤ (t : Int) := by omega
  have c2 : (t : Int) < (T.length : Int) := by omega
  have c3 : 0 ≤ i := hi.1
  have c4 : i < ((rd_L1 T (t : Int)).length : Int) := hi.2
  have hset : ∀ v : Int, (T.set (t : Int).toNat ((rd_L1 T (t : Int)).set i.toNat v)).length ≤ 10 ∧ ∀ r ∈ T.set (t : Int).toNat ((rd_L1 T (t : Int)).set i.toNat v), r.length ≤ 100 := fun v => by
   refine ⟨by rw [List.length_set]; omega, fun r hr => ?_⟩
   rcases List.mem_or_eq_of_mem_set hr with h3 | h3
   ·exact hrow r h3
   ·rw [h3, List.length_set]; omega
  by_cases q0 : q = 0
  ·subst q0
   obtain ⟨v, a5, s5, e5, _, _⟩ := spec_l1Cur_among_ok l a4 s4 [1, (-1)] hl (by omega) (by simp)
   refine ⟨n, W, s, u, h, b, T.set (t : Int).toNat ((rd_L1 T (t : Int)).set i.toNat (wrap64 ((rd (rd_L1 T (t : Int)) i) + v))), ?_, h1, (hset _).1, (hset _).2⟩
   unfold spec_DrawIsWorthProof.f
   refine Ev.bind e1 (Ev.bind hT ?_)
   simp only [hp, e2, e3, e4, e5, c1, c2, c3, c4, Option.bind_some, ↓reduceIte]
   exact Ev.now _
  by_cases q1 : q = 1
  ·subst q1
   obtain ⟨v, a5, s5, e5, _, _⟩ := spec_l1Cur_among_ok l a4 s4 [(-1000000000000), (-1000000000001), 1000000000001, 4611686018427387904] hl (by omega) (by simp)
   refine ⟨n, W, s, u, h, b, T.set (t : Int).toNat ((rd_L1 T (t : Int)).set i.toNat v), ?_, h1, (hset _).1, (hset _).2⟩
   unfold spec_DrawIsWorthProof.f
   refine Ev.bind e1 (Ev.bind hT ?_)
   simp only [hp, e2, e3, e4, e5, c1, c2, c3, c4, Option.bind_some, ↓reduceIte, show ¬ (1 : Int) = 0 by omega]
   exact Ev.now _
  by_cases q2 : q = 2
  ·subst q2
   refine ⟨n, W, s, u, h, b, T.drop 1, ?_, h1, by rw [List.length_drop]; omega, fun r hr => hrow r (List.mem_of_mem_drop hr)⟩
   unfold spec_DrawIsWorthProof.f
   refine Ev.bind e1 (Ev.bind hT ?_)
   have c5 : 1 ≤ (T.length : Int) := by omega
   simp only [hp, e2, e3, e4, c1, c2, c5, Option.bind_some, ↓reduceIte, show ¬ (2 : Int) = 0 by omega, show ¬ (2 : Int) = 1 by omega]
   exact Ev.now _
  by_cases q3 : q = 3
  ·subst q3
   refine ⟨n, W, s, u, h, b, T.set (t : Int).toNat ((rd_L1 T (t : Int)).drop 1), ?_, h1, by rw [List.length_set]; omega, fun r hr => ?_⟩
   ·unfold spec_DrawIsWorthProof.f
    refine Ev.bind e1 (Ev.bind hT ?_)
    have c5 : 1 ≤ ((rd_L1 T (t : Int)).length : Int) := by omega
    simp only [hp, e2, e3, e4, c1, c2, c5, Option.bind_some, ↓reduceIte, show ¬ (3 : Int) = 0 by omega, show ¬ (3 : Int) = 1 by omega, show ¬ (3 : Int) = 2 by omega]
    exact Ev.now _
   ·rcases List.mem_or_eq_of_mem_set hr with h3 | h3
    ·exact hrow r h3
    ·rw [h3, List.length_drop]; omega
  by_cases q4 : q = 4
  ·subst q4
   obtain ⟨T', e, g1, g2⟩ := ev_spec_DrawIsWorthProof_l0 n W s u h b (rd_L1 T 0).length (by omega) (rd_L1 T 0).length 0 T (by omega) (by omega) (by omega) hrow rfl
   refine ⟨n, W, s, u, h, b, T', ?_, h1, g1, g2⟩
   unfold spec_DrawIsWorthProof.f
   refine Ev.bind e1 (Ev.bind hT ?_)
   simp only [hp, e2, e3, e4, c1, c2, Option.bind_some, ↓reduceIte, show ¬ (4 : Int) = 0 by omega, show ¬ (4 : Int) = 1 by omega, show ¬ (4 : Int) = 2 by omega, show ¬ (4 : Int) = 3 by omega]
   exact e
  refine ⟨n, W, s, u, h, b, T, ?_, h1, by omega, hrow⟩
  unfold spec_DrawIsWorthProof.f
  refine Ev.bind e1 (Ev.bind hT ?_)
  simp only [hp, e2, e3, e4, c1, c2, q0, q1, q2, q3, q4, Option.bind_some, ↓reduceIte]
  exact Ev.now _
 ·refine ⟨n, W, s, u, h, b, T, ?_, h1, by omega, hrow⟩
  unfold spec_DrawIsWorthProof.f
  refine Ev.bind e1 (Ev.bind hT ?_)
  simp only [hp, ↓reduceIte]
  exact Ev.now _

theorem wf_u8 {x : Int} (h : (Lit.int .u8 x).wf = true) : 0 ≤ x ∧ x ≤ 255 := by
 simp [Lit.wf, IntKind.min, IntKind.max, IntKind.signed, IntKind.bits] at h
 omega

def upV (l : List Int) (x0 x1 x : Int) : Int := if x < x0 then x1 else if x < floorV l then x1 else x
def costU (h b x : Int) : Int := if x > 0 then h * x else b * -x
theorem cst_eq {h b x : Int} (hh : 0 ≤ h ∧ h ≤ 9) (hb : 0 ≤ b ∧ b ≤ 9) (hx : -20 ≤ x ∧ x ≤ 20) : cst h b x = costU h b x ∧ 0 ≤ costU h b x ∧ costU h b x ≤ 180 := by
 have h0 := cst_small hh hb hx
 have e : cst h b x = costU h b x := by
  unfold cst costU
  rw [w64 (x := -b) (by omega) (by omega)]
  by_cases hp : x > 0
  ·rw [if_pos hp, if_pos hp]
   have h1 : 0 ≤ h * x := Int.mul_nonneg hh.1 (by omega)
   have h2 : h * x ≤ 9 * x := Int.mul_le_mul_of_nonneg_right hh.2 (by omega)
   rw [w64 (by omega) (by omega)]
  ·rw [if_neg hp, if_neg hp, Int.neg_mul, ← Int.mul_neg]
   have h1 : 0 ≤ b * -x := Int.mul_nonneg hb.1 (by omega)
   have h2 : b * -x ≤ 9 * -x := Int.mul_le_mul_of_nonneg_right hb.2 (by omega)
   rw [w64 (by omega) (by omega)]
 rw [← e]
 exact ⟨rfl, h0⟩
theorem costU_KC {h b : Int} (hh : 0 ≤ h) (hb : 0 ≤ b) (lo hi : Int) : KC 0 (costU h b) lo hi := by
 intro i a j h1 h2 h3 h4
 unfold costU
 by_cases ca : a > 0
 ·rw [if_pos ca, if_pos (show j > 0 by omega)]
  by_cases ci : i > 0
  ·rw [if_pos ci]; grind
  ·rw [if_neg ci]
   have m1 := Int.mul_nonneg (Int.mul_nonneg (show 0 ≤ j - a by omega) (show 0 ≤ -i by omega)) hb
   have m2 := Int.mul_nonneg (Int.mul_nonneg (show 0 ≤ j - a by omega) (show 0 ≤ -i by omega)) hh
   grind
 ·rw [if_neg ca, if_neg (show ¬ i > 0 by omega)]
  by_cases cj : j > 0
  ·rw [if_pos cj]
   have m1 := Int.mul_nonneg (Int.mul_nonneg (show 0 ≤ a - i by omega) (show 0 ≤ j by omega)) hh
   have m2 := Int.mul_nonneg (Int.mul_nonneg (show 0 ≤ a - i by omega) (show 0 ≤ j by omega)) hb
   grind
  ·rw [if_neg cj]; grind
def aftU (h b pw : Int) (N : List Int) : List Int → Int → Int
 | [], _ => 0
 | w :: ws, y => w * (costU h b y * pw + rd N (y + 10)) + aftU h b pw N ws (y - 1)
theorem aftW_eq {h b pw C : Int} {N : List Int} (hh : 0 ≤ h ∧ h ≤ 9) (hb : 0 ≤ b ∧ b ≤ 9) (hp : 1 ≤ pw ∧ pw ≤ 3200000) (hC : 0 ≤ C ∧ C ≤ 10000000000000000) (hN : ∀ x ∈ N, inC C x) : ∀ (ws : List Int) (y acc D : Int), (∀ w ∈ ws, 0 ≤ w ∧ w ≤ 4) → -20 + (ws.length : Int) ≤ y → y ≤ 20 → 0 ≤ D → D + ws.length * (4 * (600000000 + C)) ≤ 9000000000000000000 → inC D acc → aftW h b pw N ws y acc = acc + aftU h b pw N ws y
 | [], y, acc, D, _, _, _, _, _, ha => by simp [aftW, aftU]
 | w :: ws, y, acc, D, hw, hy, hy2, hD, hb2, ha => by
  have hw1 := hw w (List.mem_cons_self ..)
  have hl2 : ((w :: ws).length : Int) = ws.length + 1 := by simp
  have e0 : ((ws.length : Int) + 1) * (4 * (600000000 + C)) = ws.length * (4 * (600000000 + C)) + 4 * (600000000 + C) := by
   rw [Int.add_mul]; omega
  rw [hl2, e0] at hb2
  rw [hl2] at hy
  have hnn : 0 ≤ (ws.length : Int) * (4 * (600000000 + C)) := Int.mul_nonneg (by omega) (by omega)
  have hc := cst_small (x := y) hh hb (by omega)
  have h1 : 0 ≤ cst h b y * pw := Int.mul_nonneg hc.1 (by omega)
  have h2 : cst h b y * pw ≤ 180 * 3200000 := Int.mul_le_mul hc.2 hp.2 (by omega) (by omega)
  have hr := rd_inC hC.1 hN (y + 10)
  have i1 : inC 600000000 (cst h b y * pw) := by unfold inC; omega
  have i2 := inC_add i1 hr
  have i3 : inC (4 * (600000000 + C)) (w * (cst h b y * pw + rd N (y + 10))) := by
   generalize cst h b y * pw + rd N (y + 10) = q at i2
   unfold inC at i2 ⊢
   have : w = 0 ∨ w = 1 ∨ w = 2 ∨ w = 3 ∨ w = 4 := by omega
   rcases this with rfl | rfl | rfl | rfl | rfl <;> omega
  have i4 := inC_add ha i3
  rw [aftW, inC_w64 (by omega) i1, inC_w64 (by omega) i2, inC_w64 (by omega) i3, inC_w64 (by omega) i4]
  have ih := aftW_eq hh hb hp hC hN ws (y - 1) _ (D + 4 * (600000000 + C)) (fun v hv => hw v (List.mem_cons_of_mem _ hv)) (by omega) (by omega) (by omega) (by omega) i4
  rw [ih, aftU, (cst_eq hh hb (by omega)).1]
  omega
structure Proc (l : List Int) (s u h b : Int) : Prop where
 len : 1 ≤ l.length ∧ l.length ≤ 5
 ws : ∀ x ∈ l, 0 ≤ x ∧ x ≤ 4
 sum : 0 < l.sum ∧ l.sum ≤ 20
 hs : 0 ≤ s ∧ s ≤ 99
 hu : 0 ≤ u ∧ u ≤ 9
 hh : 0 ≤ h ∧ h ≤ 9
 hb : 0 ≤ b ∧ b ≤ 9
theorem Proc.of {n : Int} {l : List Int} {s u h b : Int} (hp : procB n l s u h b = true) : Proc l s u h b := by
 have hq := procB_spec hp
 exact ⟨hq.2.1, hq.2.2.1, hq.2.2.2.1, hq.2.2.2.2.1, hq.2.2.2.2.2.1, hq.2.2.2.2.2.2.1, hq.2.2.2.2.2.2.2⟩
theorem aftV_eq {l : List Int} {s u h b y m C : Int} {N : List Int} (P : Proc l s u h b) (hC : 0 ≤ C ∧ C ≤ 10000000000000000) (hN : ∀ x ∈ N, inC C x) (hm : 1 ≤ m ∧ m ≤ 5) (hy : -10 ≤ y ∧ y ≤ 10) : aftV l h b N y m = aftU h b (powV l (m - 1)) N l y := by
 unfold aftV
 have h1 := P.len
 have hle : (l.length : Int) * (4 * (600000000 + C)) ≤ 5 * (4 * (600000000 + C)) := Int.mul_le_mul_of_nonneg_right (by omega) (by omega)
 rw [aftW_eq P.hh P.hb (powV_range P.sum (m := m - 1) (by omega)) hC hN l y 0 0 P.ws (by omega) (by omega) (by omega) (by omega) (by unfold inC; omega)]
 omega
theorem powV_succ {l : List Int} (hs : 0 < l.sum ∧ l.sum ≤ 20) {m : Int} (hm : 1 ≤ m ∧ m ≤ 5) : powV l m = powV l (m - 1) * l.sum := by
 have h1 := powV_range hs (m := m - 1) (by omega)
 obtain ⟨k, hk⟩ : ∃ k : Nat, m.toNat = k + 1 := ⟨m.toNat - 1, by omega⟩
 have h2 : (m - 1).toNat = k := by omega
 unfold powV at h1 ⊢
 rw [hk, h2, powW]
 rw [h2] at h1
 rw [w64 (x := l.sum) (by omega) (by omega)] at h1 ⊢
 have h3 : powW l.sum k * l.sum ≤ 3200000 * 20 := Int.mul_le_mul h1.2 hs.2 (by omega) (by omega)
 have h4 : 0 ≤ powW l.sum k * l.sum := Int.mul_nonneg (by omega) (by omega)
 exact w64 (by omega) (by omega)
theorem orderV_eq {s u x y : Int} (hs : 0 ≤ s ∧ s ≤ 99) (hu : 0 ≤ u ∧ u ≤ 9) (hx : -10 ≤ x ∧ x ≤ 10) (hy : -10 ≤ y ∧ y ≤ 10) : orderV s u x y = if y > x then s + u * (y - x) else 0 := by
 unfold orderV
 by_cases h : y > x
 ·rw [if_pos h, if_pos h]
  rw [w64 (x := y - x) (by omega) (by omega)]
  have h1 : 0 ≤ u * (y - x) := Int.mul_nonneg hu.1 (by omega)
  have h2 : u * (y - x) ≤ 9 * (y - x) := Int.mul_le_mul_of_nonneg_right hu.2 (by omega)
  rw [w64 (x := u * (y - x)) (by omega) (by omega), w64 (by omega) (by omega)]
 ·rw [if_neg h, if_neg h]
def billU (l : List Int) (u h b : Int) (N : List Int) (m y : Int) : Int := u * y * powV l m + aftU h b (powV l (m - 1)) N l y
theorem billV_eq {l : List Int} {s u h b y m C : Int} {N : List Int} (P : Proc l s u h b) (hC : 0 ≤ C ∧ C ≤ 10000000000000000) (hN : ∀ x ∈ N, inC C x) (hm : 1 ≤ m ∧ m ≤ 5) (hy : -10 ≤ y ∧ y ≤ 10) : billV l u h b N m y = billU l u h b N m y := by
 have h1 := aftV_range P.len.2 P.ws P.sum P.hh P.hb hC hN (m := m) (y := y) (by omega) hy
 have h3 := powV_range P.sum (m := m) (by omega)
 have hu := P.hu
 have i0 : inC 90 (u * y) := by
  unfold inC
  have : u = 0 ∨ u = 1 ∨ u = 2 ∨ u = 3 ∨ u = 4 ∨ u = 5 ∨ u = 6 ∨ u = 7 ∨ u = 8 ∨ u = 9 := by omega
  rcases this with rfl | rfl | rfl | rfl | rfl | rfl | rfl | rfl | rfl | rfl <;> omega
 have i1 : inC 300000000 (u * y * powV l m) := by
  generalize u * y = q at i0
  unfold inC at i0 ⊢
  have h5 : q * powV l m ≤ 90 * powV l m := Int.mul_le_mul_of_nonneg_right (by omega) (by omega)
  have h6 : -90 * powV l m ≤ q * powV l m := Int.mul_le_mul_of_nonneg_right (by omega) (by omega)
  omega
 have i2 := inC_add i1 h1
 unfold billV billU
 rw [inC_w64 (by omega) i0, inC_w64 (by omega) i1, inC_w64 (by omega) i2, aftV_eq P hC hN hm hy]
theorem lvCost_eq {l : List Int} {s u h b x y m C : Int} {N : List Int} (P : Proc l s u h b) (hC : 0 ≤ C ∧ C ≤ 10000000000000000) (hN : ∀ x ∈ N, inC C x) (hm : 1 ≤ m ∧ m ≤ 5) (hx : -10 ≤ x ∧ x ≤ 10) (hy : -10 ≤ y ∧ y ≤ 10) : lvCost l s u h b N m x y = (if y > x then s + u * (y - x) else 0) * powV l m + aftU h b (powV l (m - 1)) N l y := by
 have h1 := aftV_range P.len.2 P.ws P.sum P.hh P.hb hC hN (m := m) (y := y) (by omega) hy
 have h2 := orderV_range (s := s) (u := u) P.hs P.hu hx hy
 have h3 := powV_range P.sum (m := m) (by omega)
 have h4 : 0 ≤ orderV s u x y * powV l m := Int.mul_nonneg h2.1 (by omega)
 have h5 : orderV s u x y * powV l m ≤ 279 * 3200000 := Int.mul_le_mul h2.2 h3.2 (by omega) (by omega)
 have i1 : inC 1000000000 (orderV s u x y * powV l m) := by unfold inC; omega
 have i2 := inC_add i1 h1
 unfold lvCost
 rw [inC_w64 (by omega) i1, inC_w64 (by omega) i2, aftV_eq P hC hN hm hy, orderV_eq P.hs P.hu hx hy]
theorem lvCost_bill {l : List Int} {s u h b x y m C : Int} {N : List Int} (P : Proc l s u h b) (hC : 0 ≤ C ∧ C ≤ 10000000000000000) (hN : ∀ x ∈ N, inC C x) (hm : 1 ≤ m ∧ m ≤ 5) (hx : -10 ≤ x ∧ x ≤ 10) (hy : x ≤ y ∧ y ≤ 10) : lvCost l s u h b N m x y = (if y > x then s * powV l m else 0) + billU l u h b N m y - u * powV l m * x := by
 rw [lvCost_eq P hC hN hm hx (by omega)]
 unfold billU
 by_cases h : y > x
 ·rw [if_pos h, if_pos h]; grind
 ·rw [if_neg h, if_neg h, show y = x by omega]; grind
theorem aftU_KC {h b pw K : Int} {N : List Int} (hh : 0 ≤ h) (hb : 0 ≤ b) (hp : 0 ≤ pw) (hN : KC K (fun x => rd N (x + 10)) (-10) 10) : ∀ (ws : List Int), (∀ w ∈ ws, 0 ≤ w) → KC (ws.sum * K) (aftU h b pw N ws) (-11 + ws.length) 10
 | [], _ => by
  have := KC_line 0 (-11 + (([] : List Int).length : Int)) 10
  refine KC_congr (f := fun x => 0 * x) (fun x _ _ => by simp [aftU]) ?_
  simpa using this
 | w :: ws, hw => by
  have ih := aftU_KC hh hb hp hN ws (fun v hv => hw v (List.mem_cons_of_mem _ hv))
  have i2 := KC_shift (d := 1) ih
  have hl2 : ((w :: ws).length : Int) = ws.length + 1 := by simp
  have i3 := KC_sub (lo' := -11 + ((w :: ws).length : Int)) (hi' := 10) (by omega) (by omega) i2
  have c1 := KC_scale hp (costU_KC hh hb (-11 + ((w :: ws).length : Int)) 10)
  have c2 := KC_sub (lo' := -11 + ((w :: ws).length : Int)) (hi' := 10) (by omega) (by omega) hN
  have c3 := KC_scale (hw w (List.mem_cons_self ..)) (KC_add c1 c2)
  have c4 := KC_add c3 i3
  refine KC_congr (fun x _ _ => ?_) (KC_le ?_ c4)
  ·rw [aftU, Int.mul_comm pw]
  ·rw [List.sum_cons]; grind
theorem billU_KC {l : List Int} {s u h b m K : Int} {N : List Int} (P : Proc l s u h b) (hm : 1 ≤ m ∧ m ≤ 5) (hN : KC K (fun x => rd N (x + 10)) (-10) 10) : KC (l.sum * K) (billU l u h b N m) (floorV l) 10 := by
 have hp := powV_range P.sum (m := m - 1) (by omega)
 have h1 := aftU_KC P.hh.1 P.hb.1 (show 0 ≤ powV l (m - 1) by omega) hN l (fun w hw => (P.ws w hw).1)
 have hf := floorV_eq P.len.2
 rw [show -11 + (l.length : Int) = floorV l by omega] at h1
 have h2 := KC_add (KC_line (u * powV l m) (floorV l) 10) h1
 rw [Int.zero_add] at h2
 refine KC_congr (fun x _ _ => ?_) h2
 unfold billU
 grind
theorem dnV_spec (c : Int → Int) (hi : Int) : ∀ d : Nat, (hi - (d : Int) ≤ (dnV c hi d).1 ∧ (dnV c hi d).1 ≤ hi) ∧ (dnV c hi d).2 = c (dnV c hi d).1 ∧ (∀ y, hi - (d : Int) ≤ y → y ≤ hi → (dnV c hi d).2 ≤ c y) ∧ ∀ y, hi - (d : Int) ≤ y → y < (dnV c hi d).1 → (dnV c hi d).2 < c y
 | 0 => ⟨by simp [dnV], rfl, fun y h1 h2 => by rw [show y = hi by omega]; exact Int.le_refl _, fun y h1 h2 => by simp only [dnV] at h2; omega⟩
 | d + 1 => by
  obtain ⟨h1, h2, h3, h4⟩ := dnV_spec c hi d
  rw [dnV]
  by_cases hc : c (hi - ((d + 1 : Nat) : Int)) ≤ (dnV c hi d).2
  ·rw [if_pos hc]
   dsimp only
   refine ⟨by omega, rfl, fun y h5 h6 => ?_, fun y h5 h6 => by omega⟩
   by_cases he : y = hi - ((d + 1 : Nat) : Int)
   ·rw [he]; exact Int.le_refl _
   ·have := h3 y (by omega) h6; omega
  ·rw [if_neg hc]
   refine ⟨by omega, h2, fun y h5 h6 => ?_, fun y h5 h6 => ?_⟩
   ·by_cases he : y = hi - ((d + 1 : Nat) : Int)
    ·rw [he]; omega
    ·exact h3 y (by omega) h6
   ·by_cases he : y = hi - ((d + 1 : Nat) : Int)
    ·rw [he]; omega
    ·exact h4 y (by omega) h6
theorem bestV_spec {l : List Int} {s u h b m x : Int} {N : List Int} (P : Proc l s u h b) (hx : -10 ≤ x ∧ x ≤ 10) : (mx x (floorV l) ≤ (bestV l s u h b N m x).1 ∧ (bestV l s u h b N m x).1 ≤ 10) ∧ (bestV l s u h b N m x).2 = lvCost l s u h b N m x (bestV l s u h b N m x).1 ∧ (∀ y, mx x (floorV l) ≤ y → y ≤ 10 → (bestV l s u h b N m x).2 ≤ lvCost l s u h b N m x y) ∧ ∀ y, mx x (floorV l) ≤ y → y < (bestV l s u h b N m x).1 → (bestV l s u h b N m x).2 < lvCost l s u h b N m x y := by
 have hf := floorV_eq P.len.2
 have hl := P.len
 have hlo : mx x (floorV l) ≤ 10 := by unfold mx; omega
 have := dnV_spec (lvCost l s u h b N m x) 10 (10 - mx x (floorV l)).toNat
 rw [show (10 : Int) - ((10 - mx x (floorV l)).toNat : Nat) = mx x (floorV l) by omega] at this
 exact this
theorem upF_spec (B : List Int) (d : Nat) : ∀ (i w : Nat), w < i → (∀ q, q < i → rd B (w : Int) ≤ rd B (q : Int)) → (∀ q, q < w → rd B (w : Int) < rd B (q : Int)) → (∀ q, q < i + d → rd B (upF B d i w : Int) ≤ rd B (q : Int)) ∧ ∀ q, q < upF B d i w → rd B (upF B d i w : Int) < rd B (q : Int) := by
 induction d with
 | zero => intro i w hw h1 h2; exact ⟨h1, h2⟩
 | succ d ih =>
  intro i w hw h1 h2
  rw [upF, show i + (d + 1) = i + 1 + d by omega]
  by_cases hc : rd B (i : Int) < rd B (w : Int)
  ·rw [if_pos hc]
   refine ih (i + 1) i (by omega) (fun q hq => ?_) (fun q hq => ?_)
   ·by_cases he : q = i
    ·rw [he]; exact Int.le_refl _
    ·have := h1 q (by omega); omega
   ·have := h1 q (by omega); omega
  ·rw [if_neg hc]
   refine ih (i + 1) w (by omega) (fun q hq => ?_) h2
   by_cases he : q = i
   ·rw [he]; omega
   ·exact h1 q (by omega)
theorem lvUp_spec {B : List Int} (h : 0 < B.length) : (∀ q, q < B.length → rd B (lvUp B : Int) ≤ rd B (q : Int)) ∧ ∀ q, q < lvUp B → rd B (lvUp B : Int) < rd B (q : Int) := by
 have := upF_spec B (B.length - 1) 1 0 (by omega) (fun q hq => by rw [show q = 0 by omega]; exact Int.le_refl _) (fun q hq => by omega)
 rw [show 1 + (B.length - 1) = B.length by omega] at this
 exact this
theorem lowF_spec (B : List Int) (thr : Int) (d : Nat) : ∀ i, i ≤ lowF B thr d i ∧ lowF B thr d i ≤ i + d ∧ (∀ q, i ≤ q → q < lowF B thr d i → rd B (q : Int) > thr) ∧ (lowF B thr d i < i + d → ¬ rd B (lowF B thr d i : Int) > thr) := by
 induction d with
 | zero => intro i; exact ⟨Nat.le_refl _, Nat.le_refl _, fun q h1 h2 => by simp only [lowF] at h2; omega, fun h => by simp only [lowF] at h; omega⟩
 | succ d ih =>
  intro i
  rw [lowF]
  by_cases hc : rd B (i : Int) > thr
  ·rw [if_pos hc]
   obtain ⟨h1, h2, h3, h4⟩ := ih (i + 1)
   refine ⟨by omega, by omega, fun q h5 h6 => ?_, fun h => h4 (by omega)⟩
   by_cases he : q = i
   ·rw [he]; exact hc
   ·exact h3 q (by omega) h6
  ·rw [if_neg hc]
   exact ⟨Nat.le_refl _, by omega, fun q h1 h2 => by omega, fun _ => hc⟩
theorem billsV_rd {l : List Int} {u h b m : Int} {N : List Int} {i : Nat} (hi : i < 22 - l.length) : rd (billsV l u h b N m) (i : Int) = billV l u h b N m (floorV l + (i : Int)) := by
 rw [rd_nat (by rw [billsV_len]; exact hi)]
 simp [billsV]
theorem lvPair_Pair {l : List Int} {s u h b m C : Int} {N : List Int} (P : Proc l s u h b) (hC : 0 ≤ C ∧ C ≤ 10000000000000000) (hN : ∀ x ∈ N, inC C x) (hm : 1 ≤ m ∧ m ≤ 5) : Pair (s * powV l m) (billU l u h b N m) (floorV l) 10 (lvPair l s m (billsV l u h b N m)).1 (lvPair l s m (billsV l u h b N m)).2 := by
 have hf := floorV_eq P.len.2
 have hl := P.len
 have hlen := billsV_len l u h b N m
 have hpos : 0 < (billsV l u h b N m).length := by omega
 have hlt := lvUp_lt hpos
 obtain ⟨u1, u2⟩ := lvUp_spec hpos
 have hb : ∀ i : Nat, i < 22 - l.length → rd (billsV l u h b N m) (i : Int) = billU l u h b N m (floorV l + (i : Int)) := fun i hi => by
  rw [billsV_rd hi, billV_eq P hC hN hm (by omega)]
 have hBr : ∀ x ∈ billsV l u h b N m, inC 300000000000000000 x := by
  intro x hx
  unfold billsV at hx
  obtain ⟨i, hi, rfl⟩ := List.mem_map.1 hx
  have hi2 := List.mem_range.1 hi
  exact inC_le (by omega) (billV_range P.len.2 P.ws P.sum P.hu P.hh P.hb hC hN hm (by omega))
 have hp := powV_range P.sum (m := m) (by omega)
 have k1 : 0 ≤ s * powV l m := Int.mul_nonneg P.hs.1 (by omega)
 have k2 : s * powV l m ≤ 99 * 3200000 := Int.mul_le_mul P.hs.2 hp.2 (by omega) (by omega)
 have hthr : lvThr l s m (billsV l u h b N m) = rd (billsV l u h b N m) (lvUp (billsV l u h b N m) : Int) + s * powV l m := by
  have h4 := rd_inC (by omega) hBr (lvUp (billsV l u h b N m) : Int)
  unfold inC at h4
  unfold lvThr
  rw [w64 (x := s * powV l m) (by omega) (by omega), w64 (by omega) (by omega)]
 obtain ⟨w1, w2, w3, w4⟩ := lowF_spec (billsV l u h b N m) (lvThr l s m (billsV l u h b N m)) (lvUp (billsV l u h b N m)) 0
 have e2 : (lvPair l s m (billsV l u h b N m)).2 = floorV l + (lvUp (billsV l u h b N m) : Int) := by
  unfold lvPair; dsimp only; rw [w64 (by omega) (by omega)]; omega
 have e1 : (lvPair l s m (billsV l u h b N m)).1 = floorV l + (lvLow l s m (billsV l u h b N m) : Int) := by
  unfold lvPair lvLow; dsimp only; rw [w64 (by omega) (by omega)]; omega
 rw [e1, e2]
 have e3 : lvLow l s m (billsV l u h b N m) = lowF (billsV l u h b N m) (lvThr l s m (billsV l u h b N m)) (lvUp (billsV l u h b N m)) 0 := rfl
 rw [← e3] at w2 w3 w4
 generalize lvLow l s m (billsV l u h b N m) = lo at *
 generalize lvUp (billsV l u h b N m) = up at *
 rw [hthr, hb up (by omega)] at w3 w4
 rw [hb up (by omega)] at u1 u2
 refine ⟨by omega, fun y h1 h2 => ?_, fun y h1 h2 => ?_, by omega, ?_, fun y h1 h2 => ?_⟩
 ·have := u1 (y - floorV l).toNat (by omega)
  rw [hb _ (by omega), show floorV l + (((y - floorV l).toNat : Nat) : Int) = y by omega] at this
  exact this
 ·have := u2 (y - floorV l).toNat (by omega)
  rw [hb _ (by omega), show floorV l + (((y - floorV l).toNat : Nat) : Int) = y by omega] at this
  exact this
 ·by_cases hc : lo < 0 + up
  ·have := w4 hc
   rw [hb lo (by omega)] at this
   omega
  ·rw [show lo = up by omega]; omega
 ·have := w3 (y - floorV l).toNat (by omega) (by omega)
  rw [hb _ (by omega), show floorV l + (((y - floorV l).toNat : Nat) : Int) = y by omega] at this
  omega
theorem bestV_pair {l : List Int} {s u h b m x C K p0 p1 : Int} {N : List Int} (P : Proc l s u h b) (hC : 0 ≤ C ∧ C ≤ 10000000000000000) (hN : ∀ x ∈ N, inC C x) (hm : 1 ≤ m ∧ m ≤ 5) (hx : -10 ≤ x ∧ x ≤ 10) (hK : l.sum * K = s * powV l m) (hkc : KC K (fun x => rd N (x + 10)) (-10) 10) (hp : Pair (s * powV l m) (billU l u h b N m) (floorV l) 10 p0 p1) : (bestV l s u h b N m x).1 = upV l p0 p1 x ∧ (bestV l s u h b N m x).2 = lvCost l s u h b N m x (upV l p0 p1 x) ∧ (bestV l s u h b N m x).2 = UV (s * powV l m) (billU l u h b N m) p0 p1 x - u * powV l m * x := by
 have hG := billU_KC P hm hkc
 rw [hK] at hG
 have hst := @Pair.stay _ _ _ _ _ _ hp hG
 obtain ⟨hS, hl, hf, hs, hlow, hbe⟩ := hp
 have hfl := floorV_eq P.len.2
 have hlen := P.len
 obtain ⟨b1, b2, b3, b4⟩ := bestV_spec (N := N) (m := m) P hx
 have hpw := powV_range P.sum (m := m) (by omega)
 have hmx : x ≤ mx x (floorV l) ∧ floorV l ≤ mx x (floorV l) ∧ (mx x (floorV l) = x ∨ mx x (floorV l) = floorV l) := by unfold mx; split <;> omega
 have k1 : 0 ≤ s * powV l m := Int.mul_nonneg P.hs.1 (by omega)
 have hc : ∀ y, mx x (floorV l) ≤ y → y ≤ 10 → lvCost l s u h b N m x y = (if y > x then s * powV l m else 0) + billU l u h b N m y - u * powV l m * x := fun y h1 h2 => lvCost_bill P hC hN hm hx (by omega)
 have key : (bestV l s u h b N m x).1 = upV l p0 p1 x := by
  unfold upV
  by_cases c1 : x < p0
  ·rw [if_pos c1]
   have r1 := b3 p1 (by omega) (by omega)
   have q1 := hc p1 (by omega) (by omega)
   rw [if_pos (by omega)] at q1
   have q2 := hc _ b1.1 b1.2
   by_cases c2 : (bestV l s u h b N m x).1 > x
   ·rw [if_pos c2] at q2
    by_cases c3 : (bestV l s u h b N m x).1 < p1
    ·have := hf _ (by omega) c3; omega
    ·by_cases c4 : p1 < (bestV l s u h b N m x).1
     ·have := b4 p1 (by omega) c4
      have := hl _ (show floorV l ≤ (bestV l s u h b N m x).1 by omega) b1.2
      omega
     ·omega
   ·rw [if_neg c2] at q2
    have hxe : (bestV l s u h b N m x).1 = x := by omega
    have := hbe x (by omega) c1
    rw [hxe] at q2 b2
    omega
  ·rw [if_neg c1, if_neg (by omega)]
   have q1 := hc x (by omega) hx.2
   rw [if_neg (by omega)] at q1
   by_cases c2 : x < (bestV l s u h b N m x).1
   ·have r := b4 x (by omega) c2
    have q2 := hc _ b1.1 b1.2
    rw [if_pos (by omega)] at q2
    have := @hst x _ (by omega) c2 b1.2
    omega
   ·omega
 refine ⟨key, by rw [b2, key], ?_⟩
 rw [b2, hc _ b1.1 b1.2, key]
 unfold upV UV
 by_cases c1 : x < p0
 ·rw [if_pos c1, if_pos c1, if_pos (by omega)]
 ·rw [if_neg c1, if_neg c1, if_neg (show ¬ x < floorV l by omega), if_neg (by omega)]; omega

def inB0 (B x : Int) : Prop := 0 ≤ x ∧ x ≤ B
theorem rd_inB0 {N : List Int} {B : Int} (hB : 0 ≤ B) (hN : ∀ x ∈ N, inB0 B x) (i : Int) : inB0 B (rd N i) := by
 unfold rd
 rw [List.getD_eq_getElem?_getD]
 cases h : N[i.toNat]? with
 | none => exact ⟨by simp, by simp; omega⟩
 | some v => exact hN v (List.mem_of_getElem? h)
theorem aftU_tight {h b pw B : Int} {N : List Int} (hh : 0 ≤ h ∧ h ≤ 9) (hb : 0 ≤ b ∧ b ≤ 9) (hp : 0 ≤ pw) (hB : 0 ≤ B) (hN : ∀ x ∈ N, inB0 B x) : ∀ (ws : List Int) (y : Int), (∀ w ∈ ws, 0 ≤ w) → -20 + (ws.length : Int) ≤ y → y ≤ 20 → 0 ≤ aftU h b pw N ws y ∧ aftU h b pw N ws y ≤ ws.sum * (180 * pw + B)
 | [], y, _, _, _ => by simp [aftU]
 | w :: ws, y, hw, h1, h2 => by
  have hl2 : ((w :: ws).length : Int) = ws.length + 1 := by simp
  rw [hl2] at h1
  have ih := aftU_tight hh hb hp hB hN ws (y - 1) (fun v hv => hw v (List.mem_cons_of_mem _ hv)) (by omega) (by omega)
  have hw0 := hw w (List.mem_cons_self ..)
  have hc := (cst_eq (x := y) hh hb (by omega)).2
  have hr := rd_inB0 hB hN (y + 10)
  unfold inB0 at hr
  have m1 := Int.mul_nonneg hc.1 hp
  have m2 := Int.mul_le_mul_of_nonneg_right hc.2 hp
  have m3 := Int.mul_nonneg hw0 (show 0 ≤ costU h b y * pw + rd N (y + 10) by omega)
  have m4 := Int.mul_le_mul_of_nonneg_left (show costU h b y * pw + rd N (y + 10) ≤ 180 * pw + B by omega) hw0
  rw [aftU, List.sum_cons, Int.add_mul]
  omega
def vB (l : List Int) (m : Int) : Int := 500 * m * powV l m
theorem vB_range {l : List Int} (hs : 0 < l.sum ∧ l.sum ≤ 20) {m : Int} (hm : 0 ≤ m ∧ m ≤ 5) : 0 ≤ vB l m ∧ vB l m ≤ 8000000000 := by
 have h := powV_range hs hm
 unfold vB
 have h1 : 500 * m * powV l m ≤ 2500 * 3200000 := Int.mul_le_mul (by omega) h.2 (by omega) (by omega)
 have h2 : 0 ≤ 500 * m * powV l m := Int.mul_nonneg (by omega) (by omega)
 omega
theorem inB0_inC {N : List Int} {B : Int} (hN : ∀ x ∈ N, inB0 B x) : ∀ x ∈ N, inC B x := fun x hx => by
 have := hN x hx; unfold inB0 at this; unfold inC; omega
theorem lvCost_tight {l : List Int} {s u h b m x y : Int} {N : List Int} (P : Proc l s u h b) (hN : ∀ v ∈ N, inB0 (vB l (m - 1)) v) (hm : 1 ≤ m ∧ m ≤ 5) (hx : -10 ≤ x ∧ x ≤ 10) (hy : -10 ≤ y ∧ y ≤ 10) : inB0 (vB l m) (lvCost l s u h b N m x y) := by
 have hv := vB_range P.sum (m := m - 1) (by omega)
 have hpw := powV_range P.sum (m := m - 1) (by omega)
 have hps := powV_succ P.sum hm
 have hl := P.len
 rw [lvCost_eq P (C := vB l (m - 1)) (by omega) (inB0_inC hN) hm hx hy]
 have a := aftU_tight P.hh P.hb (show 0 ≤ powV l (m - 1) by omega) hv.1 hN l y (fun w hw => (P.ws w hw).1) (by omega) (by omega)
 have ho := orderV_range (s := s) (u := u) P.hs P.hu hx hy
 rw [orderV_eq P.hs P.hu hx hy] at ho
 generalize (if y > x then s + u * (y - x) else 0) = o at ho ⊢
 generalize aftU h b (powV l (m - 1)) N l y = A at a ⊢
 unfold inB0
 unfold vB at a ⊢
 rw [hps]
 generalize powV l (m - 1) = q at *
 have hsum := P.sum
 have m0 : 0 ≤ q * l.sum := Int.mul_nonneg (by omega) (by omega)
 have m1 := Int.mul_nonneg ho.1 m0
 have m2 := Int.mul_le_mul_of_nonneg_right ho.2 m0
 refine ⟨by omega, ?_⟩
 have e : l.sum * (180 * q + 500 * (m - 1) * q) = 500 * m * (q * l.sum) - 320 * (q * l.sum) := by grind
 omega
theorem bestV_tight {l : List Int} {s u h b m x : Int} {N : List Int} (P : Proc l s u h b) (hN : ∀ v ∈ N, inB0 (vB l (m - 1)) v) (hm : 1 ≤ m ∧ m ≤ 5) (hx : -10 ≤ x ∧ x ≤ 10) : inB0 (vB l m) (bestV l s u h b N m x).2 := by
 have hf := floorV_eq P.len.2
 have hl := P.len
 obtain ⟨b1, b2, _, _⟩ := bestV_spec (N := N) (m := m) P hx
 rw [b2]
 exact lvCost_tight P hN hm hx (by have : x ≤ mx x (floorV l) := (by unfold mx; split <;> omega); omega)
def hdW (l : List Int) (s u h b : Int) (m : Nat) : List Int := (wts l s u h b m).headD []
theorem hdW_zero (l : List Int) (s u h b : Int) : hdW l s u h b 0 = List.replicate 21 0 := rfl
theorem hdW_succ (l : List Int) (s u h b : Int) (m : Nat) : hdW l s u h b (m + 1) = rowV l s u h b (hdW l s u h b m) ((m + 1 : Nat) : Int) := rfl
theorem hdW_len (l : List Int) (s u h b : Int) (m : Nat) : (hdW l s u h b m).length = 21 := wts_head_len l s u h b m
theorem wts_get (l : List Int) (s u h b : Int) (m : Nat) : ∀ d, (wts l s u h b (m + d)).getD d [] = hdW l s u h b m
 | 0 => by unfold hdW; rw [wts_head]; rfl
 | d + 1 => by
  show (wts l s u h b (m + d + 1)).getD (d + 1) [] = _
  rw [wts, List.getD_cons_succ]
  exact wts_get l s u h b m d
theorem hdW_rd {l : List Int} {s u h b : Int} {m : Nat} {x : Int} (hx : -10 ≤ x ∧ x ≤ 10) : rd (hdW l s u h b (m + 1)) (x + 10) = (bestV l s u h b (hdW l s u h b m) ((m + 1 : Nat) : Int) x).2 := by
 rw [hdW_succ]
 have h1 : (x + 10).toNat < 21 := by omega
 have h2 := rowV_get l s u h b (hdW l s u h b m) ((m + 1 : Nat) : Int) h1
 unfold rd
 rw [List.getD_eq_getElem?_getD, h2, Option.getD_some, show (((x + 10).toNat : Nat) : Int) - 10 = x by omega]
theorem hdW_tight {l : List Int} {s u h b : Int} (P : Proc l s u h b) : ∀ m : Nat, m ≤ 5 → ∀ v ∈ hdW l s u h b m, inB0 (vB l (m : Int)) v
 | 0, _, v, hv => by
  rw [hdW_zero] at hv
  rw [List.eq_of_mem_replicate hv]
  exact ⟨Int.le_refl _, (vB_range P.sum (by omega)).1⟩
 | m + 1, hm, v, hv => by
  have ih := hdW_tight P m (by omega)
  rw [hdW_succ] at hv
  unfold rowV at hv
  obtain ⟨i, hi, rfl⟩ := List.mem_map.1 hv
  have hi2 := List.mem_range.1 hi
  refine bestV_tight P ?_ (by omega) (by omega)
  rw [show ((m + 1 : Nat) : Int) - 1 = (m : Int) by omega]
  exact ih
theorem hdW_inC {l : List Int} {s u h b : Int} (P : Proc l s u h b) {m : Nat} (hm : m ≤ 5) : ∀ v ∈ hdW l s u h b m, inC 8000000000 v := fun v hv => by
 have h1 := hdW_tight P m hm v hv
 have h2 := vB_range P.sum (m := (m : Int)) (by omega)
 unfold inB0 at h1
 unfold inC
 omega
def bPair (l : List Int) (s u h b : Int) (m : Nat) : Int × Int := lvPair l s ((m + 1 : Nat) : Int) (billsV l u h b (hdW l s u h b m) ((m + 1 : Nat) : Int))
theorem bPair_Pair {l : List Int} {s u h b : Int} (P : Proc l s u h b) {m : Nat} (hm : m + 1 ≤ 5) : Pair (s * powV l ((m + 1 : Nat) : Int)) (billU l u h b (hdW l s u h b m) ((m + 1 : Nat) : Int)) (floorV l) 10 (bPair l s u h b m).1 (bPair l s u h b m).2 := lvPair_Pair P (C := 8000000000) (by omega) (hdW_inC P (by omega)) (by omega)
theorem hdW_KC {l : List Int} {s u h b : Int} (P : Proc l s u h b) : ∀ m : Nat, m ≤ 5 → KC (s * powV l (m : Int)) (fun x => rd (hdW l s u h b m) (x + 10)) (-10) 10
 | 0, _ => by
  have hp := powV_range P.sum (m := ((0 : Nat) : Int)) (by omega)
  refine KC_le (Int.mul_nonneg P.hs.1 (by omega)) (KC_congr (f := fun x => 0 * x) (fun x h1 h2 => ?_) (KC_line 0 (-10) 10))
  rw [hdW_zero]
  unfold rd
  rw [List.getD_eq_getElem?_getD, List.getElem?_replicate]
  split <;> simp
 | m + 1, hm => by
  have ih := hdW_KC P m (by omega)
  have hp := powV_range P.sum (m := ((m + 1 : Nat) : Int)) (by omega)
  have hK : l.sum * (s * powV l (m : Int)) = s * powV l ((m + 1 : Nat) : Int) := by
   rw [powV_succ P.sum (m := ((m + 1 : Nat) : Int)) (by omega), show ((m + 1 : Nat) : Int) - 1 = (m : Int) by omega]
   grind
  have hpair := bPair_Pair P (m := m) (by omega)
  have hG := billU_KC (s := s) P (m := ((m + 1 : Nat) : Int)) (by omega) ih
  rw [hK] at hG
  have hU := UV_KC (lo := -10) (Int.mul_nonneg P.hs.1 (by omega)) hpair hG
  have hA := KC_add hU (KC_line (-(u * powV l ((m + 1 : Nat) : Int))) (-10) 10)
  rw [Int.add_zero] at hA
  refine KC_congr (fun x h1 h2 => ?_) hA
  rw [hdW_rd ⟨h1, h2⟩, (bestV_pair P (C := 8000000000) (by omega) (hdW_inC P (by omega)) (by omega) ⟨h1, h2⟩ hK ih hpair).2.2]
  grind
theorem best_pair {l : List Int} {s u h b x : Int} (P : Proc l s u h b) {m : Nat} (hm : m + 1 ≤ 5) (hx : -10 ≤ x ∧ x ≤ 10) : (bestV l s u h b (hdW l s u h b m) ((m + 1 : Nat) : Int) x).1 = upV l (bPair l s u h b m).1 (bPair l s u h b m).2 x ∧ (bestV l s u h b (hdW l s u h b m) ((m + 1 : Nat) : Int) x).2 = lvCost l s u h b (hdW l s u h b m) ((m + 1 : Nat) : Int) x (upV l (bPair l s u h b m).1 (bPair l s u h b m).2 x) := by
 have hK : l.sum * (s * powV l (m : Int)) = s * powV l ((m + 1 : Nat) : Int) := by
  rw [powV_succ P.sum (m := ((m + 1 : Nat) : Int)) (by omega), show ((m + 1 : Nat) : Int) - 1 = (m : Int) by omega]
  grind
 have := bestV_pair P (C := 8000000000) (by omega) (hdW_inC P (by omega)) (by omega) hx hK (hdW_KC P m (by omega)) (bPair_Pair P hm)
 exact ⟨this.1, this.2.1⟩
theorem nextV_hd {n : Int} {l : List Int} {s u h b : Int} {m : Nat} (hm : (m : Int) + 1 ≤ n) : nextV n l s u h b (n - 1 - (m : Int)) = hdW l s u h b m := by
 unfold nextV
 have := wts_get l s u h b m (n.toNat - m)
 rw [show m + (n.toNat - m) = n.toNat by omega] at this
 rw [show (n - 1 - (m : Int) + 1).toNat = n.toNat - m by omega]
 exact this
theorem lvAt_bPair {n : Int} {l : List Int} {s u h b : Int} {m : Nat} (hm : (m : Int) + 1 ≤ n) : lvAt n l s u h b (n - 1 - (m : Int)).toNat = ⟨(bPair l s u h b m).1, (bPair l s u h b m).2⟩ := by
 unfold lvAt bPair
 rw [show (((n - 1 - (m : Int)).toNat : Nat) : Int) = n - 1 - (m : Int) by omega, nextV_hd hm, show n - (n - 1 - (m : Int)) = ((m + 1 : Nat) : Int) by omega]
def bLev (n : Int) (l : List Int) (s u h b : Int) : List S72 := (List.range n.toNat).map (lvAt n l s u h b)
theorem bLev_len (n : Int) (l : List Int) (s u h b : Int) : (bLev n l s u h b).length = n.toNat := by simp [bLev]
theorem bLev_rd {n : Int} {l : List Int} {s u h b : Int} {t : Nat} (ht : (t : Int) < n) : rd_T72 (bLev n l s u h b) (t : Int) = lvAt n l s u h b t := by
 unfold rd_T72 bLev
 rw [List.getD_eq_getElem?_getD, Int.toNat_natCast, List.getElem?_map, List.getElem?_range (by omega)]
 rfl
theorem bLev_rd2 {n : Int} {l : List Int} {s u h b : Int} {m : Nat} (hm : (m : Int) + 1 ≤ n) : rd_T72 (bLev n l s u h b) (n - 1 - (m : Int)) = ⟨(bPair l s u h b m).1, (bPair l s u h b m).2⟩ := by
 have := bLev_rd (l := l) (s := s) (u := u) (h := h) (b := b) (n := n) (t := (n - 1 - (m : Int)).toNat) (by omega)
 rw [lvAt_bPair hm, show (((n - 1 - (m : Int)).toNat : Nat) : Int) = n - 1 - (m : Int) by omega] at this
 exact this
theorem aftU_mono {h b pw : Int} {N M : List Int} (hNM : ∀ i, rd N i ≤ rd M i) : ∀ (ws : List Int) (y : Int), (∀ w ∈ ws, 0 ≤ w) → aftU h b pw N ws y ≤ aftU h b pw M ws y
 | [], y, _ => Int.le_refl _
 | w :: ws, y, hw => by
  have ih := aftU_mono (h := h) (b := b) (pw := pw) hNM ws (y - 1) (fun v hv => hw v (List.mem_cons_of_mem _ hv))
  have := Int.mul_le_mul_of_nonneg_left (show costU h b y * pw + rd N (y + 10) ≤ costU h b y * pw + rd M (y + 10) by have := hNM (y + 10); omega) (hw w (List.mem_cons_self ..))
  rw [aftU, aftU]
  omega
theorem rd_out {N : List Int} {i : Int} (h : ¬ i.toNat < N.length) : rd N i = 0 := by
 unfold rd
 rw [List.getD_eq_getElem?_getD, List.getElem?_eq_none (by omega)]
 rfl
def allFrom (g : Nat → Bool) : Nat → Nat → Bool
 | 0, _ => true
 | d + 1, i => g i && allFrom g d (i + 1)
theorem allFrom_iff (g : Nat → Bool) (d : Nat) : ∀ i, allFrom g d i = true ↔ ∀ j, i ≤ j → j < i + d → g j = true := by
 induction d with
 | zero => intro i; exact ⟨fun _ j h1 h2 => by omega, fun _ => rfl⟩
 | succ d ih =>
  intro i
  rw [allFrom, Bool.and_eq_true, ih (i + 1)]
  constructor
  ·rintro ⟨h1, h2⟩ j h3 h4
   by_cases he : j = i
   ·subst he; exact h1
   ·exact h2 j (by omega) (by omega)
  ·intro h
   exact ⟨h i (by omega) (by omega), fun j h1 h2 => h j (by omega) (by omega)⟩
def cvT (l : List Int) (c : Int) (i a j : Nat) : Bool := decide (wrap64 (((a : Int) - i) * wrap64 (c + rd l (j : Int))) < wrap64 (wrap64 (((a : Int) - i) * rd l (a : Int)) + wrap64 (((j : Int) - a) * wrap64 (rd l (a : Int) - rd l (i : Int)))))
def cvI (l : List Int) (c : Int) : Bool := allFrom (fun i => allFrom (fun a => allFrom (fun j => !cvT l c i a j) (l.length - (a + 1)) (a + 1)) (l.length - (i + 1)) (i + 1)) l.length 0
def cvS (l : List Int) (c : Int) : Bool := allFrom (fun a => allFrom (fun v => allFrom (fun u => !cvT l c (a - v) a (a + u)) (l.length - (a + 1)) 1) a 1) l.length 0
theorem cv_same (l : List Int) (c : Int) : cvS l c = cvI l c := by
 unfold cvS cvI
 rw [Bool.eq_iff_iff]
 simp only [allFrom_iff]
 constructor
 ·intro h i _ hi a h1 h2 j h3 h4
  have := h a (by omega) (by omega) (a - i) (by omega) (by omega) (j - a) (by omega) (by omega)
  rw [show a - (a - i) = i by omega, show a + (j - a) = j by omega] at this
  exact this
 ·intro h a _ ha v h1 h2 u h3 h4
  exact h (a - v) (by omega) (by omega) a (by omega) (by omega) (a + u) (by omega) (by omega)
def convV (l : List Int) (c : Int) : Bool × Bool := if (decide (l.length ≤ 41) && (allB l (-1000000000000) 1000000000000 && inB c 0 1000000000000)) = true then (cvI l c, true) else (false, false)
theorem evg_impl_Convex_l2 (l : List Int) (c : Int) (hl : l.length ≤ 50) (i a : Nat) (hia : i < a) (ha : a < l.length) {R : Bool} (hn : Ev (fun k => impl_IsConvexFor.l1 k l c (i : Int) ((a + 1 : Nat) : Int) (l.length : Int) (i : Int)) (R, true)) (d : Nat) : ∀ j : Nat, j + d = l.length → a < j → Ev (fun k => impl_IsConvexFor.l2 k l c (i : Int) (a : Int) (j : Int) (l.length : Int) (i : Int)) (allFrom (fun j => !cvT l c i a j) d j && R, true) := by
 have e1 : wrap64 ((a : Int) + 1) = ((a + 1 : Nat) : Int) := w64_nat (n := 100) (by omega) (by omega)
 induction d with
 | zero =>
  intro j hj haj
  refine ev_succ ?_
  have c1 : ¬ (j : Int) < (l.length : Int) := by omega
  simp only [impl_IsConvexFor.l2, c1, ↓reduceIte, e1, allFrom, Bool.true_and]
  exact hn
 | succ d ih =>
  intro j hj haj
  refine ev_succ ?_
  have c1 : (j : Int) < (l.length : Int) := by omega
  have c2 : (0 : Int) ≤ (j : Int) := by omega
  have c3 : (0 : Int) ≤ (a : Int) := by omega
  have c4 : (a : Int) < (l.length : Int) := by omega
  have c5 : (0 : Int) ≤ (i : Int) := by omega
  have c6 : (i : Int) < (l.length : Int) := by omega
  have e2 : wrap64 ((j : Int) + 1) = ((j + 1 : Nat) : Int) := w64_nat (n := 100) (by omega) (by omega)
  have e3 : wrap64 ((a : Int) - (i : Int)) = (a : Int) - i := w64 (by omega) (by omega)
  have e4 : wrap64 ((j : Int) - (a : Int)) = (j : Int) - a := w64 (by omega) (by omega)
  have hih := ih (j + 1) (by omega) (by omega)
  simp only [impl_IsConvexFor.l2, c1, c2, c3, c4, c5, c6, ↓reduceIte, e2, e3, e4]
  rw [allFrom]
  unfold cvT
  refine ev_ite (fun h => ?_) (fun h => ?_)
  ·refine ev_eq (Ev.now _) ?_
   rw [decide_eq_true h]; rfl
  ·refine ev_eq hih ?_
   rw [decide_eq_false h, Bool.not_false, Bool.true_and]; rfl
theorem evg_impl_Convex_l1 (l : List Int) (c : Int) (hl : l.length ≤ 50) (i : Nat) (hi : i < l.length) {R : Bool} (hn : Ev (fun k => impl_IsConvexFor.l0 k l c (l.length : Int) ((i + 1 : Nat) : Int)) (R, true)) (d : Nat) : ∀ a : Nat, a + d = l.length → i < a → Ev (fun k => impl_IsConvexFor.l1 k l c (i : Int) (a : Int) (l.length : Int) (i : Int)) (allFrom (fun a => allFrom (fun j => !cvT l c i a j) (l.length - (a + 1)) (a + 1)) d a && R, true) := by
 have e1 : wrap64 ((i : Int) + 1) = ((i + 1 : Nat) : Int) := w64_nat (n := 100) (by omega) (by omega)
 induction d with
 | zero =>
  intro a ha hia
  refine ev_succ ?_
  have c1 : ¬ (a : Int) < (l.length : Int) := by omega
  simp only [impl_IsConvexFor.l1, c1, ↓reduceIte, e1, allFrom, Bool.true_and]
  exact hn
 | succ d ih =>
  intro a ha hia
  refine ev_succ ?_
  have c1 : (a : Int) < (l.length : Int) := by omega
  have e2 : wrap64 ((a : Int) + 1) = ((a + 1 : Nat) : Int) := w64_nat (n := 100) (by omega) (by omega)
  simp only [impl_IsConvexFor.l1, c1, ↓reduceIte, e2]
  refine ev_eq (evg_impl_Convex_l2 l c hl i a hia (by omega) (ih (a + 1) (by omega) (by omega)) (l.length - (a + 1)) (a + 1) (by omega) (by omega)) ?_
  rw [allFrom, Bool.and_assoc]
theorem evg_impl_Convex_l0 (l : List Int) (c : Int) (hl : l.length ≤ 50) (d : Nat) : ∀ i : Nat, i + d = l.length → Ev (fun k => impl_IsConvexFor.l0 k l c (l.length : Int) (i : Int)) (allFrom (fun i => allFrom (fun a => allFrom (fun j => !cvT l c i a j) (l.length - (a + 1)) (a + 1)) (l.length - (i + 1)) (i + 1)) d i, true) := by
 induction d with
 | zero =>
  intro i hi
  refine ev_succ ?_
  have c1 : ¬ (i : Int) < (l.length : Int) := by omega
  simp only [impl_IsConvexFor.l0, c1, ↓reduceIte, allFrom]
  exact Ev.now _
 | succ d ih =>
  intro i hi
  refine ev_succ ?_
  have c1 : (i : Int) < (l.length : Int) := by omega
  have e1 : wrap64 ((i : Int) + 1) = ((i + 1 : Nat) : Int) := w64_nat (n := 100) (by omega) (by omega)
  simp only [impl_IsConvexFor.l0, c1, ↓reduceIte, e1]
  refine ev_eq (evg_impl_Convex_l1 l c hl i (by omega) (ih (i + 1) (by omega)) (l.length - (i + 1)) (i + 1) (by omega) (by omega)) ?_
  rw [allFrom]
theorem evg_impl_Convex (l : List Int) (c : Int) (hl : l.length ≤ 50) : Ev (fun k => impl_IsConvexFor.f k l c) (convV l c) := by
 have hj : ∀ x : Bool, Ev (fun k => impl_IsConvexFor.j0 k l c x) (if x = true then (false, false) else (cvI l c, true)) := by
  intro x
  refine ev_succ ?_
  cases x with
  | true => simp only [impl_IsConvexFor.j0, ↓reduceIte]; exact Ev.now _
  | false =>
   simp only [impl_IsConvexFor.j0, Bool.false_eq_true, ↓reduceIte]
   exact evg_impl_Convex_l0 l c hl l.length 0 (by omega)
 unfold impl_IsConvexFor.f convV
 refine ev_ite (fun h => ?_) (fun h => ?_)
 ·refine ev_eq (hj true) ?_
  have h2 : ¬ l.length ≤ 41 := by omega
  simp [h2]
 ·have h2 : l.length ≤ 41 := by omega
  refine Ev.bind (ev_impl_allWithin l _ _ (by omega)) ?_
  cases h3 : allB l (-1000000000000) 1000000000000 with
  | false =>
   simp only [Bool.false_eq_true, ↓reduceIte]
   refine ev_eq (hj true) ?_
   simp
  | true =>
   simp only [↓reduceIte, impl_within_f, Option.bind_some]
   refine ev_eq (hj _) ?_
   cases h4 : inB c 0 1000000000000 with
   | false => simp
   | true => simp [h2]
theorem evg_spec_Convex_l3 (l : List Int) (c : Int) (hl : l.length ≤ 50) (a v : Nat) (hv : 1 ≤ v) (hva : v ≤ a) (ha : a < l.length) {R : Bool} (hn : Ev (fun k => spec_IsConvexFor.l2 k l c (a : Int) ((v + 1 : Nat) : Int)) (R, true)) (d : Nat) : ∀ u : Nat, a + u + d = l.length → 1 ≤ u → Ev (fun k => spec_IsConvexFor.l3 k l c (a : Int) (v : Int) (u : Int)) (allFrom (fun u => !cvT l c (a - v) a (a + u)) d u && R, true) := by
 have e1 : wrap64 ((v : Int) + 1) = ((v + 1 : Nat) : Int) := w64_nat (n := 100) (by omega) (by omega)
 induction d with
 | zero =>
  intro u hu h1
  refine ev_succ ?_
  have e2 : wrap64 ((a : Int) + (u : Int)) = ((a + u : Nat) : Int) := by rw [w64 (by omega) (by omega)]; omega
  have c1 : ¬ ((a + u : Nat) : Int) < (l.length : Int) := by omega
  simp only [spec_IsConvexFor.l3, e2, c1, ↓reduceIte, e1, allFrom, Bool.true_and]
  exact hn
 | succ d ih =>
  intro u hu h1
  refine ev_succ ?_
  have e2 : wrap64 ((a : Int) + (u : Int)) = ((a + u : Nat) : Int) := by rw [w64 (by omega) (by omega)]; omega
  have e3 : wrap64 ((a : Int) - (v : Int)) = ((a - v : Nat) : Int) := by rw [w64 (by omega) (by omega)]; omega
  have e4 : wrap64 ((u : Int) + 1) = ((u + 1 : Nat) : Int) := w64_nat (n := 100) (by omega) (by omega)
  have c1 : ((a + u : Nat) : Int) < (l.length : Int) := by omega
  have c2 : (0 : Int) ≤ ((a + u : Nat) : Int) := by omega
  have c3 : (0 : Int) ≤ (a : Int) := by omega
  have c4 : (a : Int) < (l.length : Int) := by omega
  have c5 : (0 : Int) ≤ ((a - v : Nat) : Int) := by omega
  have c6 : ((a - v : Nat) : Int) < (l.length : Int) := by omega
  have hih := ih (u + 1) (by omega) (by omega)
  simp only [spec_IsConvexFor.l3, e2, e3, e4, c1, c2, c3, c4, c5, c6, ↓reduceIte]
  have ev : (a : Int) - ((a - v : Nat) : Int) = (v : Int) := by omega
  have eu : ((a + u : Nat) : Int) - (a : Int) = (u : Int) := by omega
  have hT : cvT l c (a - v) a (a + u) = decide (wrap64 ((v : Int) * wrap64 (c + rd l ((a + u : Nat) : Int))) < wrap64 (wrap64 ((v : Int) * rd l (a : Int)) + wrap64 ((u : Int) * wrap64 (rd l (a : Int) - rd l ((a - v : Nat) : Int))))) := by
   unfold cvT
   rw [ev, eu]
  rw [allFrom, hT]
  refine ev_ite (fun h => ?_) (fun h => ?_)
  ·refine ev_eq (Ev.now _) ?_
   rw [decide_eq_true h]; rfl
  ·refine ev_eq hih ?_
   rw [decide_eq_false h, Bool.not_false, Bool.true_and]
theorem evg_spec_Convex_l2 (l : List Int) (c : Int) (hl : l.length ≤ 50) (a : Nat) (ha : a < l.length) {R : Bool} (hn : Ev (fun k => spec_IsConvexFor.l1 k l c ((a + 1 : Nat) : Int)) (R, true)) (d : Nat) : ∀ v : Nat, v + d = a + 1 → 1 ≤ v → Ev (fun k => spec_IsConvexFor.l2 k l c (a : Int) (v : Int)) (allFrom (fun v => allFrom (fun u => !cvT l c (a - v) a (a + u)) (l.length - (a + 1)) 1) d v && R, true) := by
 have e1 : wrap64 ((a : Int) + 1) = ((a + 1 : Nat) : Int) := w64_nat (n := 100) (by omega) (by omega)
 induction d with
 | zero =>
  intro v hv h1
  refine ev_succ ?_
  have c1 : ¬ (v : Int) ≤ (a : Int) := by omega
  simp only [spec_IsConvexFor.l2, c1, ↓reduceIte, e1, allFrom, Bool.true_and]
  exact hn
 | succ d ih =>
  intro v hv h1
  refine ev_succ ?_
  have c1 : (v : Int) ≤ (a : Int) := by omega
  simp only [spec_IsConvexFor.l2, c1, ↓reduceIte]
  refine ev_eq (evg_spec_Convex_l3 l c hl a v h1 (by omega) ha (ih (v + 1) (by omega) (by omega)) (l.length - (a + 1)) 1 (by omega) (by omega)) ?_
  rw [allFrom, Bool.and_assoc]
theorem evg_spec_Convex_l1 (l : List Int) (c : Int) (hl : l.length ≤ 50) (d : Nat) : ∀ a : Nat, a + d = l.length → Ev (fun k => spec_IsConvexFor.l1 k l c (a : Int)) (allFrom (fun a => allFrom (fun v => allFrom (fun u => !cvT l c (a - v) a (a + u)) (l.length - (a + 1)) 1) a 1) d a, true) := by
 induction d with
 | zero =>
  intro a ha
  refine ev_succ ?_
  have c1 : ¬ (a : Int) < (l.length : Int) := by omega
  simp only [spec_IsConvexFor.l1, c1, ↓reduceIte, allFrom]
  exact Ev.now _
 | succ d ih =>
  intro a ha
  refine ev_succ ?_
  have c1 : (a : Int) < (l.length : Int) := by omega
  simp only [spec_IsConvexFor.l1, c1, ↓reduceIte]
  refine ev_eq (evg_spec_Convex_l2 l c hl a (by omega) (ih (a + 1) (by omega)) a 1 (by omega) (by omega)) ?_
  rw [allFrom]
theorem evg_spec_Convex_l0 (l : List Int) (c : Int) (hl : l.length ≤ 50) (d : Nat) : ∀ i : Nat, i + d = l.length → (∀ q, q < i → inB (rd l (q : Int)) (-1000000000000) 1000000000000 = true) → Ev (fun k => spec_IsConvexFor.l0 k l c (i : Int)) (convV l c) := by
 have hj2 : ∀ x : Bool, Ev (fun k => spec_IsConvexFor.j2 k l c x) (if x = true then (false, false) else (cvI l c, true)) := by
  intro x
  refine ev_succ ?_
  cases x with
  | true => simp only [spec_IsConvexFor.j2, ↓reduceIte]; exact Ev.now _
  | false =>
   simp only [spec_IsConvexFor.j2, Bool.false_eq_true, ↓reduceIte]
   rw [← cv_same]
   exact evg_spec_Convex_l1 l c hl l.length 0 (by omega)
 have hlong : ¬ l.length ≤ 41 → ∀ i : Nat, Ev (fun k => spec_IsConvexFor.j1 k l c (i : Int) false) (convV l c) := by
  intro h i
  refine ev_succ ?_
  have c1 : (l.length : Int) > 41 := by omega
  simp only [spec_IsConvexFor.j1, Bool.false_eq_true, c1, ↓reduceIte]
  refine ev_eq (hj2 true) ?_
  unfold convV
  simp [h]
 induction d with
 | zero =>
  intro i hi hq
  refine ev_succ ?_
  have c1 : ¬ (i : Int) < (l.length : Int) := by omega
  simp only [spec_IsConvexFor.l0, c1, ↓reduceIte]
  by_cases h : l.length ≤ 41
  ·refine ev_succ ?_
   have c2 : ¬ (l.length : Int) > 41 := by omega
   simp only [spec_IsConvexFor.j1, Bool.false_eq_true, c2, ↓reduceIte, spec_l1In_f, Option.bind_some]
   refine ev_eq (hj2 _) ?_
   have hall : allB l (-1000000000000) 1000000000000 = true := by
    unfold allB
    rw [List.all_eq_true]
    intro x hx
    obtain ⟨q, hq2, rfl⟩ := List.getElem_of_mem hx
    have := inB_iff.1 (hq q (by omega))
    rw [rd_nat hq2] at this
    simpa using this
   unfold convV
   cases h4 : inB c 0 1000000000000 with
   | false => simp
   | true => simp [h, hall]
  ·exact hlong h i
 | succ d ih =>
  intro i hi hq
  refine ev_succ ?_
  have hi' : i < l.length := by omega
  have c1 : (i : Int) < (l.length : Int) := by omega
  have c2 : (0 : Int) ≤ (i : Int) := by omega
  have e1 : wrap64 ((i : Int) + 1) = ((i + 1 : Nat) : Int) := w64_nat (n := 100) (by omega) (by omega)
  simp only [spec_IsConvexFor.l0, c1, ↓reduceIte]
  by_cases h : (i : Int) ≤ 41
  ·refine ev_succ ?_
   simp only [spec_IsConvexFor.j1, h, decide_true, c1, c2, ↓reduceIte, spec_l1In_f, Option.bind_some, e1]
   cases hb : inB (rd l (i : Int)) (-1000000000000) 1000000000000 with
   | true =>
    simp only [↓reduceIte]
    refine ih (i + 1) (by omega) (fun q hq2 => ?_)
    by_cases e : q = i
    ·rw [e]; exact hb
    ·exact hq q (by omega)
   | false =>
    simp only [Bool.false_eq_true, ↓reduceIte]
    refine ev_eq (Ev.now _) ?_
    have hall : allB l (-1000000000000) 1000000000000 = false := by
     rw [← Bool.not_eq_true]
     intro h2
     have h3 := allB_mem h2 _ (List.getElem_mem hi')
     rw [← rd_nat hi'] at h3
     rw [inB_iff.2 h3] at hb
     exact absurd hb (by simp)
    unfold convV
    simp [hall]
  ·rw [decide_eq_false h]
   exact hlong (by omega) i
theorem evg_spec_Convex (l : List Int) (c : Int) (hl : l.length ≤ 50) : Ev (fun k => spec_IsConvexFor.f k l c) (convV l c) := by
 unfold spec_IsConvexFor.f
 exact evg_spec_Convex_l0 l c hl l.length 0 (by omega) (fun q hq => by omega)

theorem rd_le_all {A B : List Int} (hA : A.length = 21) (hB : B.length = 21) (h : ∀ i : Nat, i < 21 → rd A (i : Int) ≤ rd B (i : Int)) : ∀ i : Int, rd A i ≤ rd B i := by
 intro i
 by_cases hi : i.toNat < 21
 ·have := h i.toNat hi
  unfold rd at this ⊢
  rw [Int.toNat_natCast] at this
  exact this
 ·rw [rd_out (by omega), rd_out (by omega)]; exact Int.le_refl _
theorem bestV_le {l : List Int} {s u h b m x : Int} {A B : List Int} (P : Proc l s u h b) (hA : ∀ v ∈ A, inC 1000000000000 v) (hB : ∀ v ∈ B, inC 1000000000000 v) (hAB : ∀ i, rd A i ≤ rd B i) (hm : 1 ≤ m ∧ m ≤ 5) (hx : -10 ≤ x ∧ x ≤ 10) : (bestV l s u h b A m x).2 ≤ (bestV l s u h b B m x).2 := by
 have hl := P.len
 have hf := floorV_eq hl.2
 obtain ⟨a1, a2, a3, a4⟩ := bestV_spec (N := A) (m := m) P hx
 obtain ⟨b1, b2, b3, b4⟩ := bestV_spec (N := B) (m := m) P hx
 have hy : -10 ≤ (bestV l s u h b B m x).1 ∧ (bestV l s u h b B m x).1 ≤ 10 := by unfold mx at b1; split at b1 <;> omega
 have h1 := a3 _ b1.1 b1.2
 rw [b2]
 refine Int.le_trans h1 ?_
 rw [lvCost_eq P (by omega) hA hm hx hy, lvCost_eq P (by omega) hB hm hx hy]
 have h2 := aftU_mono (h := h) (b := b) (pw := powV l (m - 1)) hAB l (bestV l s u h b B m x).1 (fun w hw => (P.ws w hw).1)
 omega
theorem tab_row {N : Nat} {T : List (List Int)} (hT : tabB (N : Int) T = true) {i : Nat} (hi : i ≤ N) : (rd_L1 T (i : Int)).length = 21 ∧ ∀ v ∈ rd_L1 T (i : Int), inC 1000000000000 v := by
 have h1 := tabB_spec hT
 have hi' : i < T.length := by omega
 refine ⟨h1.2 i hi', fun v hv => ?_⟩
 unfold tabB at hT
 rw [Bool.and_eq_true, List.all_eq_true] at hT
 have h2 := hT.1 _ (by rw [rdL_at hi'] at hv ⊢; exact List.getElem_mem hi' : rd_L1 T (i : Int) ∈ T)
 unfold rowW at h2
 rw [Bool.and_eq_true] at h2
 have := allB_mem h2.1 v hv
 unfold inC
 omega
theorem underF_at {l : List Int} {s u h b n : Int} {T : List (List Int)} {t : Nat} (d : Nat) : ∀ i, underF l s u h b n T t d i = true → ∀ j, i ≤ j → j < i + d → rd (rd_L1 T (t : Int)) (j : Int) ≤ (bestV l s u h b (rd_L1 T ((t + 1 : Nat) : Int)) (n - (t : Int)) ((j : Int) - 10)).2 := by
 induction d with
 | zero => intro i _ j h1 h2; omega
 | succ d ih =>
  intro i hu j h1 h2
  rw [underF] at hu
  by_cases hc : rd (rd_L1 T (t : Int)) (i : Int) > (bestV l s u h b (rd_L1 T ((t + 1 : Nat) : Int)) (n - (t : Int)) ((i : Int) - 10)).2
  ·rw [if_pos hc] at hu; exact absurd hu (by simp)
  ·rw [if_neg hc] at hu
   by_cases e : j = i
   ·subst e; omega
   ·exact ih (i + 1) hu j (by omega) (by omega)
theorem allUnder_at {l : List Int} {s u h b n : Int} {T : List (List Int)} (d : Nat) : ∀ t, allUnder l s u h b n T d t = true → ∀ q, t ≤ q → q < t + d → underF l s u h b n T q 21 0 = true := by
 induction d with
 | zero => intro t _ q h1 h2; omega
 | succ d ih =>
  intro t ha q h1 h2
  rw [allUnder] at ha
  by_cases hc : underF l s u h b n T t 21 0 = true
  ·rw [if_pos hc] at ha
   by_cases e : q = t
   ·subst e; exact hc
   ·exact ih (t + 1) ha q (by omega) (by omega)
  ·rw [if_neg hc] at ha; exact absurd ha (by simp)
theorem proof_under {N : Nat} {l : List Int} {s u h b : Int} {T : List (List Int)} (P : Proc l s u h b) (hN : N ≤ 5) (hT : tabB (N : Int) T = true) (hp : proofV l s u h b (N : Int) T = true) : ∀ m t : Nat, t + m = N → ∀ i : Nat, i < 21 → rd (rd_L1 T (t : Int)) (i : Int) ≤ rd (hdW l s u h b m) (i : Int) := by
 unfold proofV at hp
 rw [Bool.and_eq_true, Int.toNat_natCast] at hp
 intro m
 induction m with
 | zero =>
  intro t ht i hi
  have e : t = N := by omega
  subst e
  have hr := tab_row hT (Nat.le_refl t)
  have hi' : i < (rd_L1 T (t : Int)).length := by omega
  have h1 := hp.1
  unfold nonB at h1
  rw [List.all_eq_true] at h1
  have h2 := h1 _ (List.getElem_mem hi')
  rw [Bool.not_eq_true', decide_eq_false_iff_not] at h2
  have h3 : rd (hdW l s u h b 0) (i : Int) = 0 := by
   rw [hdW_zero]
   unfold rd
   rw [Int.toNat_natCast, List.getD_eq_getElem?_getD, List.getElem?_replicate]
   split <;> rfl
  rw [rd_nat hi', h3]
  omega
 | succ m ih =>
  intro t ht i hi
  have h1 := underF_at 21 0 (allUnder_at N 0 hp.2 t (by omega) (by omega)) i (by omega) (by omega)
  have ih := ih (t + 1) (by omega)
  have hr := tab_row hT (i := t + 1) (by omega)
  have hW : ∀ v ∈ hdW l s u h b m, inC 1000000000000 v := fun v hv => by
   have := hdW_inC P (m := m) (by omega) v hv
   unfold inC at this ⊢
   omega
  have h2 := bestV_le (m := ((m + 1 : Nat) : Int)) (x := (i : Int) - 10) P hr.2 hW (rd_le_all hr.1 (hdW_len l s u h b m) ih) (by omega) (by omega)
  have h3 := hdW_rd (l := l) (s := s) (u := u) (h := h) (b := b) (m := m) (x := (i : Int) - 10) (by omega)
  rw [show (i : Int) - 10 + 10 = (i : Int) by omega] at h3
  rw [h3]
  rw [show (N : Int) - (t : Int) = ((m + 1 : Nat) : Int) by omega] at h1
  omega
theorem ev_FnLevels_l1 {l : List Int} {s u h b : Int} (P : Proc l s u h b) {m : Nat} (hm : m + 1 ≤ 5) (x x0 : Int) (d : Nat) : ∀ i : Nat, i + d = 22 - l.length → Ev (fun k => laws_FnLevels.l1 k x x (billsV l u h b (hdW l s u h b m) ((m + 1 : Nat) : Int)) (floorV l) (i : Int) x0 (bPair l s u h b m).2) true := by
 have hl := P.len
 have hf := floorV_eq hl.2
 have hp := bPair_Pair P hm
 have hlen := billsV_len l u h b (hdW l s u h b m) ((m + 1 : Nat) : Int)
 have hC := hdW_inC P (m := m) (by omega)
 have hS := hp.hS
 induction d with
 | zero =>
  intro i hi
  refine ev_succ ?_
  have c1 : ¬ (i : Int) < ((billsV l u h b (hdW l s u h b m) ((m + 1 : Nat) : Int)).length : Int) := by omega
  simp only [laws_FnLevels.l1, c1, ↓reduceIte, beq_self_eq_true]
  exact Ev.now _
 | succ d ih =>
  intro i hi
  refine ev_succ ?_
  have c1 : (i : Int) < ((billsV l u h b (hdW l s u h b m) ((m + 1 : Nat) : Int)).length : Int) := by omega
  have c2 : (0 : Int) ≤ (i : Int) := by omega
  obtain ⟨q, hq⟩ : ∃ q : Nat, (bPair l s u h b m).2 - floorV l = (q : Int) := ⟨((bPair l s u h b m).2 - floorV l).toNat, by omega⟩
  have e1 : wrap64 ((bPair l s u h b m).2 - floorV l) = (q : Int) := by rw [w64 (by omega) (by omega)]; exact hq
  have c3 : (0 : Int) ≤ (q : Int) := by omega
  have c4 : (q : Int) < ((billsV l u h b (hdW l s u h b m) ((m + 1 : Nat) : Int)).length : Int) := by omega
  have e2 : wrap64 ((i : Int) + 1) = ((i + 1 : Nat) : Int) := w64_nat (n := 100) (by omega) (by omega)
  simp only [laws_FnLevels.l1, c1, c2, e1, c3, c4, ↓reduceIte, e2]
  clear e1 e2
  rw [billsV_rd (by omega), billsV_rd (by omega), billV_eq (s := s) P (C := 8000000000) (by omega) hC (by omega) (by omega), billV_eq (s := s) P (C := 8000000000) (by omega) hC (by omega) (by omega)]
  have h1 := hp.least (floorV l + (i : Int)) (by omega) (by omega)
  rw [show floorV l + (q : Int) = (bPair l s u h b m).2 by omega]
  refine ev_no (by omega) ?_
  exact ih (i + 1) (by omega)
theorem FnLevels (l0 : List (Int)) (h0 : l0.length ≤ 9223372036854775807) (w0 : ∀ y ∈ l0, (Lit.int .u8 y).wf = true) : ∃ k, laws_FnLevels.f k l0 = some true := by
 refine Ev.rounds ?_
 have hl : codeOk l0 := fun x hx => wf_u8 (w0 x hx)
 unfold laws_FnLevels.f
 simp only [laws_rBig.f, Option.bind_some]
 refine ev_ite (fun h => Ev.now _) (fun _ => ?_)
 obtain ⟨n, l, s, u, h, b, t, x, hD, hW⟩ := ev_spec_DrawBestOrder l0 hl
 refine Ev.bind hD ?_
 dsimp only
 have hW' : l.length ≤ 9223372036854775807 := by omega
 refine Ev.bind (ev_impl_BestOrder n l s u h b t x hW') ?_
 refine Ev.bind (ev_spec_BestOrder n l s u h b t x hW') ?_
 simp only [↓reduceIte, bne_self_eq_false]
 refine ev_succ ?_
 simp only [laws_FnLevels.j0, Bool.false_eq_true, ↓reduceIte]
 refine Ev.bind (ev_impl_BillsOf n l s u h b t hW') ?_
 refine Ev.bind (ev_spec_BillsOf n l s u h b t hW') ?_
 have hbl := billsOfV_len n l s u h b t
 simp only [bne_self_eq_false, Bool.false_eq_true, ↓reduceIte]
 -- the last part
 have hj6 : Ev (fun k => laws_FnLevels.j6 k t x (bestOrderV n l s u h b t x).1 (bestOrderV n l s u h b t x).2 (billsOfV n l s u h b t).1 n l s u h b) true := by
  refine ev_succ ?_
  by_cases hc : (procB n l s u h b && inB t 0 (wrap64 (n - 1)) && inB x (-10) 10) = true
  ·have hc0 := hc
   rw [Bool.and_eq_true] at hc
   have ht := turnB_spec hc.1
   have hx := inB_iff.1 hc.2
   have P := Proc.of ht.1
   have hp := procB_spec ht.1
   obtain ⟨N, rfl⟩ : ∃ N : Nat, n = (N : Int) := ⟨n.toNat, by omega⟩
   obtain ⟨m, hm⟩ : ∃ m : Nat, (N : Int) - 1 - (m : Int) = t := ⟨((N : Int) - 1 - t).toNat, by omega⟩
   have hmN : (m : Int) + 1 ≤ (N : Int) := by omega
   have hm5 : m + 1 ≤ 5 := by omega
   have e1 : bestOrderV (N : Int) l s u h b t x = ((bestV l s u h b (hdW l s u h b m) ((m + 1 : Nat) : Int) x).1, true) := by
    unfold bestOrderV
    rw [if_pos hc0, ← hm, nextV_hd hmN, show (N : Int) - ((N : Int) - 1 - (m : Int)) = ((m + 1 : Nat) : Int) by omega]
   have e2 : billsOfV (N : Int) l s u h b t = (billsV l u h b (hdW l s u h b m) ((m + 1 : Nat) : Int), true) := by
    unfold billsOfV
    rw [if_pos hc.1, ← hm, nextV_hd hmN, show (N : Int) - ((N : Int) - 1 - (m : Int)) = ((m + 1 : Nat) : Int) by omega]
   have e3 : blevelsV (N : Int) l s u h b = (bLev (N : Int) l s u h b, true) := by unfold blevelsV bLev; rw [if_pos ht.1]
   have hB1 := ev_impl_BestLevels (N : Int) l s u h b (by omega)
   have hB2 := ev_spec_BestLevels (N : Int) l s u h b (by omega)
   rw [e3] at hB1 hB2
   rw [e1, e2]
   have hlB : (bLev (N : Int) l s u h b).length = N := by rw [bLev_len]; omega
   have eb := bLev_rd2 (n := (N : Int)) (l := l) (s := s) (u := u) (h := h) (b := b) (m := m) hmN
   rw [hm] at eb
   have bp := (best_pair P hm5 hx).1
   have pp := bPair_Pair P hm5
   have hf := floorV_eq P.len.2
   simp only [laws_FnLevels.j6, ↓reduceIte]
   refine Ev.bind hB1 ?_
   refine Ev.bind hB2 ?_
   simp only [↓reduceIte]
   refine Ev.bind (ev_laws_rPairs_self _ (by omega)) ?_
   refine ev_succ ?_
   have c1 : 0 ≤ t := ht.2.1
   have c2 : t < ((bLev (N : Int) l s u h b).length : Int) := by omega
   simp only [laws_FnLevels.j7, Bool.not_true, Bool.false_eq_true, c1, c2, ↓reduceIte, eb]
   refine ev_ite (fun hlt => ?_) (fun hge => ?_)
   ·refine ev_eq (Ev.now _) ?_
    rw [bp]
    unfold upV
    rw [if_pos hlt]
    exact beq_self_eq_true _
   ·have e4 : (bestV l s u h b (hdW l s u h b m) ((m + 1 : Nat) : Int) x).1 = x := by
     rw [bp]
     have := pp.hs
     unfold upV
     rw [if_neg hge, if_neg (by omega)]
    rw [e4]
    exact ev_FnLevels_l1 P hm5 x _ (22 - l.length) 0 (by omega)
  ·have e1 : bestOrderV n l s u h b t x = (0, false) := by unfold bestOrderV; rw [if_neg hc]
   rw [e1]
   simp only [laws_FnLevels.j6, Bool.false_eq_true, ↓reduceIte]
   exact Ev.now _
 -- the table and its proof
 have hj3 : ∀ (g : Int) (W : List Int) (s' u' h' b' : Int) (T : List (List Int)), W.length ≤ 10 → T.length ≤ 10 → (∀ r ∈ T, r.length ≤ 100) → Ev (fun k => laws_FnLevels.j3 k t x (bestOrderV n l s u h b t x).1 (bestOrderV n l s u h b t x).2 (billsOfV n l s u h b t).1 T (isWorthV g W s' u' h' b' T).1 false n l s u h b g W s' u' h' b') true := by
  intro g W s' u' h' b' T hWl hTl hTr
  refine ev_succ ?_
  simp only [laws_FnLevels.j3, Bool.false_eq_true, ↓reduceIte]
  refine ev_ite (fun hpf => ?_) (fun _ => hj6)
  unfold isWorthV at hpf
  by_cases hp : procB g W s' u' h' b' = true
  ·rw [if_pos hp] at hpf
   by_cases hT : tabB g T = true
   ·rw [if_pos hT] at hpf
    dsimp only at hpf
    have hps := procB_spec hp
    have P := Proc.of hp
    obtain ⟨N, rfl⟩ : ∃ N : Nat, g = (N : Int) := ⟨g.toNat, by omega⟩
    have hN : N ≤ 5 := by omega
    have hT1 := ev_impl_WorthTable (N : Int) W s' u' h' b' (by omega)
    have hT2 := ev_spec_WorthTable (N : Int) W s' u' h' b' (by omega)
    have e1 : wtableV (N : Int) W s' u' h' b' = (wts W s' u' h' b' N, true) := by unfold wtableV; rw [if_pos hp, Int.toNat_natCast]
    rw [e1] at hT1 hT2
    refine Ev.bind hT1 ?_
    refine Ev.bind hT2 ?_
    simp only [↓reduceIte]
    refine Ev.bind (ev_laws_rTable_self _ (by rw [wts_len]; omega) (fun r hr => by rw [wts_rows W s' u' h' b' N r hr]; omega)) ?_
    refine ev_succ ?_
    simp only [laws_FnLevels.j4, Bool.not_true, Bool.false_eq_true, ↓reduceIte]
    have er : rd_L1 (wts W s' u' h' b' N) 0 = hdW W s' u' h' b' N := by
     have e := wts_get W s' u' h' b' N 0
     unfold rd_L1
     simpa using e
    have htab := tabB_spec hT
    have hrow0 := tab_row hT (i := 0) (by omega)
    have hun := proof_under P hN hT hpf N 0 (by omega)
    rw [show ((0 : Nat) : Int) = 0 from rfl] at hrow0 hun
    have hlW := hdW_len W s' u' h' b' N
    have hl0 : ∀ d i : Nat, i + d = 21 → Ev (fun k => laws_FnLevels.l0 k t x (bestOrderV n l s u h b t x).1 (bestOrderV n l s u h b t x).2 (billsOfV n l s u h b t).1 T (wts W s' u' h' b' N) (i : Int) n l s u h b) true := by
     intro d
     induction d with
     | zero =>
      intro i hi
      refine ev_succ ?_
      have c1 : 0 < ((wts W s' u' h' b' N).length : Int) := by rw [wts_len]; omega
      have c2 : ¬ (i : Int) < ((hdW W s' u' h' b' N).length : Int) := by omega
      simp only [laws_FnLevels.l0, c1, er, c2, ↓reduceIte]
      exact hj6
     | succ d ih =>
      intro i hi
      refine ev_succ ?_
      have c1 : 0 < ((wts W s' u' h' b' N).length : Int) := by rw [wts_len]; omega
      have c2 : (i : Int) < ((hdW W s' u' h' b' N).length : Int) := by omega
      have c3 : 0 < (T.length : Int) := by omega
      have c4 : (0 : Int) ≤ (i : Int) := by omega
      have c5 : (i : Int) < ((rd_L1 T 0).length : Int) := by omega
      have e2 : wrap64 ((i : Int) + 1) = ((i + 1 : Nat) : Int) := w64_nat (n := 100) (by omega) (by omega)
      simp only [laws_FnLevels.l0, c1, er, c2, c3, c4, c5, ↓reduceIte, e2]
      clear e2
      have := hun i (by omega)
      refine ev_no (by omega) ?_
      exact ih (i + 1) (by omega)
    simpa using hl0 21 0 (by omega)
   ·rw [if_neg hT] at hpf; exact absurd hpf (by simp)
  ·rw [if_neg hp] at hpf; exact absurd hpf (by simp)
 have hj1 : Ev (fun k => laws_FnLevels.j1 k l0 t x (bestOrderV n l s u h b t x).1 (bestOrderV n l s u h b t x).2 (billsOfV n l s u h b t).1 false n l s u h b) true := by
  refine ev_succ ?_
  simp only [laws_FnLevels.j1, Bool.false_eq_true, ↓reduceIte]
  obtain ⟨L, c, hC, hL⟩ := ev_spec_DrawIsConvexFor l0 hl
  refine Ev.bind hC ?_
  dsimp only
  refine Ev.bind (evg_impl_Convex L c (by omega)) ?_
  refine Ev.bind (evg_spec_Convex L c (by omega)) ?_
  simp only [bne_self_eq_false, Bool.false_eq_true, ↓reduceIte]
  refine ev_succ ?_
  simp only [laws_FnLevels.j2, Bool.false_eq_true, ↓reduceIte]
  obtain ⟨g, W, s', u', h', b', T, hP, hWl, hTl, hTr⟩ := ev_spec_DrawIsWorthProof l0 hl
  refine Ev.bind hP ?_
  dsimp only
  refine Ev.bind (ev_impl_IsWorthProof g W s' u' h' b' T (by omega) (by omega) (fun r hr => by have := hTr r hr; omega)) ?_
  refine Ev.bind (ev_spec_IsWorthProof g W s' u' h' b' T (by omega) (by omega) (fun r hr => by have := hTr r hr; omega)) ?_
  simp only [bne_self_eq_false, Bool.false_eq_true, ↓reduceIte]
  exact hj3 g W s' u' h' b' T hWl hTl hTr
 have hsame : (bestOrderV n l s u h b t x).2 = true → (billsOfV n l s u h b t).2 = true := by
  intro hh
  unfold bestOrderV at hh
  by_cases hc : (procB n l s u h b && inB t 0 (wrap64 (n - 1)) && inB x (-10) 10) = true
  ·rw [Bool.and_eq_true] at hc
   unfold billsOfV
   rw [if_pos hc.1]
  ·rw [if_neg hc] at hh; exact absurd hh (by simp)
 refine ev_ite (fun hh => ?_) (fun _ => ?_)
 ·refine ev_yes (hsame hh) ?_
  refine Ev.bind (ev_laws_rInts_self _ (by omega)) ?_
  exact hj1
 ·refine Ev.bind (ev_laws_rInts_self _ (by omega)) ?_
  exact hj1

end Go.Proofs.Ytmekmkhdhakohaa.Pure
