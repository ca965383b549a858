-- A text of this session (its program hook.py, over the kit's print.py): not a print of print.sh
-- THIN: one blank for two
import Derived.Test.YtgkjnhajomjhcaaPFnAgesx0
import Derived.Test.YtgkjnhajomjhcaaPFnAgesx6
namespace Go.Proofs.Ytgkjnhajomjhcaa.PFnAges
open Go.RowKit Go.Proofs.YtgkjnhajomjhcaaW.PrintWords Go.Proofs.YtgkjnhajomjhcaaW.PrintLast Go.Proofs.YtgkjnhajomjhcaaW.PrintMore
attribute [local go_sem] max2_int min2_int max_two min_two max_three min_three max_four min_four   -- for this text's walks alone
set_option linter.unusedVariables false
set_option linter.unusedSimpArgs false

/-! ### slices_SortFunc_int_int: function 102 (by hand): the library's sort by its contract, at rows of numbers that are parted by length and order -/
section
open Go.Shelf
def slices_SortFunc_int_int.sortL_ren : Go.Shelf.Ren := ⟨fun | 6 => 102 | 15 => 115 | 14 => 114 | 28 => 128 | 29 => 129 | 20 => 120 | 21 => 121 | 22 => 122 | 23 => 123 | 24 => 124 | 25 => 125 | 26 => 126 | 27 => 127 | 46 => 132 | 47 => 133 | 48 => 134 | 49 => 135 | 50 => 136 | 57 => 137 | n => n, fun | 22 => 25 | 24 => 22 | 25 => 105 | 3 => 3 | 39 => 112 | 0 => 0 | 53 => 123 | 55 => 95 | 4 => 4 | 46 => 117 | 45 => 116 | 50 => 28 | 5 => 5 | 9 => 9 | 66 => 126 | 70 => 130 | 76 => 132 | 77 => 133 | n => n, fun | n => n⟩
theorem slices_SortFunc_int_int.sortL : Go.Proofs.SlLaysF.n6 Try.prog slices_SortFunc_int_int.sortL_ren := {
 mixed := by kernel_rfl
 f6 := ⟨Try.f102.name, by decide, Try.func102.trans (congrArg some (by kernel_rfl))⟩
 f14 := ⟨Try.f114.name, by decide, Try.func114.trans (congrArg some (by kernel_rfl))⟩
 f15 := Try.func115.trans (congrArg some (by kernel_rfl))
 f20 := ⟨Try.f120.name, by decide, Try.func120.trans (congrArg some (by kernel_rfl))⟩
 f21 := ⟨Try.f121.name, by decide, Try.func121.trans (congrArg some (by kernel_rfl))⟩
 f22 := ⟨Try.f122.name, by decide, Try.func122.trans (congrArg some (by kernel_rfl))⟩
 f23 := ⟨Try.f123.name, by decide, Try.func123.trans (congrArg some (by kernel_rfl))⟩
 f24 := ⟨Try.f124.name, by decide, Try.func124.trans (congrArg some (by kernel_rfl))⟩
 f25 := ⟨Try.f125.name, by decide, Try.func125.trans (congrArg some (by kernel_rfl))⟩
 f26 := ⟨Try.f126.name, by decide, Try.func126.trans (congrArg some (by kernel_rfl))⟩
 f27 := ⟨Try.f127.name, by decide, Try.func127.trans (congrArg some (by kernel_rfl))⟩
 f28 := Try.func128.trans (congrArg some (by kernel_rfl))
 f29 := Try.func129.trans (congrArg some (by kernel_rfl))
 f46 := ⟨Try.f132.name, by decide, Try.func132.trans (congrArg some (by kernel_rfl))⟩
 f47 := Try.func133.trans (congrArg some (by kernel_rfl))
 f48 := Try.func134.trans (congrArg some (by kernel_rfl))
 f49 := ⟨Try.f135.name, by decide, Try.func135.trans (congrArg some (by kernel_rfl))⟩
 f50 := ⟨Try.f136.name, by decide, Try.func136.trans (congrArg some (by kernel_rfl))⟩
 f57 := ⟨Try.f137.name, by decide, Try.func137.trans (congrArg some (by kernel_rfl))⟩
 t0 := Try.underlying0
 a0 := Try.isAgg0
 z0 := Try.sizeOf0
 v0 := Try.zeroValue0
 t3 := Try.underlying3
 a3 := Try.isAgg3
 z3 := Try.sizeOf3
 v3 := Try.zeroValue3
 t4 := Try.underlying4
 a4 := Try.isAgg4
 z4 := Try.sizeOf4
 v4 := Try.zeroValue4
 t5 := Try.underlying5
 a5 := Try.isAgg5
 z5 := Try.sizeOf5
 v5 := Try.zeroValue5
 t9 := Try.underlying9
 a9 := Try.isAgg9
 z9 := Try.sizeOf9
 v9 := Try.zeroValue9
 t22 := Try.underlying25
 a22 := Try.isAgg25
 z22 := Try.sizeOf25
 v22 := Try.zeroValue25
 a24 := Try.isAgg22
 z24 := Try.sizeOf22
 t25 := Try.underlying105
 a25 := Try.isAgg105
 z25 := Try.sizeOf105
 v25 := Try.zeroValue105
 t39 := Try.underlying112
 a39 := Try.isAgg112
 z39 := Try.sizeOf112
 v39 := Try.zeroValue112
 t45 := Try.underlying116
 a45 := Try.isAgg116
 z45 := Try.sizeOf116
 v45 := Try.zeroValue116
 t46 := Try.underlying117
 a46 := Try.isAgg117
 z46 := Try.sizeOf117
 v46 := Try.zeroValue117
 t50 := Try.underlying28
 a50 := Try.isAgg28
 z50 := Try.sizeOf28
 v50 := Try.zeroValue28
 t53 := Try.underlying123
 a53 := Try.isAgg123
 z53 := Try.sizeOf123
 v53 := Try.zeroValue123
 t55 := Try.underlying95
 a55 := Try.isAgg95
 z55 := Try.sizeOf95
 v55 := Try.zeroValue95
 t66 := Try.underlying126
 a66 := Try.isAgg126
 z66 := Try.sizeOf126
 v66 := Try.zeroValue126
 t70 := Try.underlying130
 a70 := Try.isAgg130
 z70 := Try.sizeOf130
 v70 := Try.zeroValue130
 t76 := Try.underlying132
 a76 := Try.isAgg132
 z76 := Try.sizeOf132
 v76 := Try.zeroValue132
 t77 := Try.underlying133
 a77 := Try.isAgg133
 z77 := Try.sizeOf133
 v77 := Try.zeroValue133 }
end
def slices_SortFunc_int_int.lexC : List Int → List Int → Int
 | [], [] => 0
 | [], _ :: _ => -1
 | _ :: _, [] => 1
 | a :: x, b :: y => if a < b then -1 else if a > b then 1 else slices_SortFunc_int_int.lexC x y
def slices_SortFunc_int_int.cmpL (a b : List Int) : Int := if a.length = b.length then slices_SortFunc_int_int.lexC a b else (a.length : Int) - b.length
theorem slices_SortFunc_int_int.lexC_refl : ∀ a : List Int, slices_SortFunc_int_int.lexC a a = 0
 | [] => rfl
 | a :: x => by rw [slices_SortFunc_int_int.lexC, if_neg (by omega), if_neg (by omega), slices_SortFunc_int_int.lexC_refl x]
theorem slices_SortFunc_int_int.lexC_neg : ∀ a b : List Int, slices_SortFunc_int_int.lexC a b = -slices_SortFunc_int_int.lexC b a
 | [], [] => rfl
 | [], _ :: _ => rfl
 | _ :: _, [] => rfl
 | a :: x, b :: y => by
  rw [slices_SortFunc_int_int.lexC, slices_SortFunc_int_int.lexC]
  by_cases h : a < b
  ·rw [if_pos h, if_neg (by omega), if_pos h]
  ·by_cases h2 : a > b
   ·rw [if_neg h, if_pos h2, if_pos h2]; omega
   ·rw [if_neg h, if_neg h2, if_neg h2, if_neg h, slices_SortFunc_int_int.lexC_neg x y]
theorem slices_SortFunc_int_int.lexC_eq : ∀ a b : List Int, slices_SortFunc_int_int.lexC a b = 0 → a = b
 | [], [], _ => rfl
 | [], _ :: _, h => by simp [slices_SortFunc_int_int.lexC] at h
 | _ :: _, [], h => by simp [slices_SortFunc_int_int.lexC] at h
 | a :: x, b :: y, h => by
  rw [slices_SortFunc_int_int.lexC] at h
  by_cases h1 : a < b
  ·rw [if_pos h1] at h; omega
  ·by_cases h2 : a > b
   ·rw [if_neg h1, if_pos h2] at h; omega
   ·rw [if_neg h1, if_neg h2] at h
    rw [slices_SortFunc_int_int.lexC_eq x y h, show a = b by omega]
theorem slices_SortFunc_int_int.lexC_trans : ∀ a b c : List Int, slices_SortFunc_int_int.lexC a b < 0 → slices_SortFunc_int_int.lexC b c < 0 → slices_SortFunc_int_int.lexC a c < 0
 | [], [], _, h, _ => by simp [slices_SortFunc_int_int.lexC] at h
 | [], _ :: _, [], _, h => by simp [slices_SortFunc_int_int.lexC] at h
 | [], _ :: _, _ :: _, _, _ => by simp [slices_SortFunc_int_int.lexC]
 | _ :: _, [], _, h, _ => by simp [slices_SortFunc_int_int.lexC] at h
 | _ :: _, _ :: _, [], _, h => by simp [slices_SortFunc_int_int.lexC] at h
 | a :: x, b :: y, c :: z, h1, h2 => by
  rw [slices_SortFunc_int_int.lexC] at h1 h2 ⊢
  by_cases p : a < b
  ·by_cases q : b < c
   ·rw [if_pos (by omega)]; omega
   ·by_cases q2 : b > c
    ·rw [if_neg q, if_pos q2] at h2; omega
    ·rw [if_pos (by omega)]; omega
  ·by_cases p2 : a > b
   ·rw [if_neg p, if_pos p2] at h1; omega
   ·rw [if_neg p, if_neg p2] at h1
    by_cases q : b < c
    ·rw [if_pos (by omega)]; omega
    ·by_cases q2 : b > c
     ·rw [if_neg q, if_pos q2] at h2; omega
     ·rw [if_neg q, if_neg q2] at h2
      rw [if_neg (by omega), if_neg (by omega)]
      exact slices_SortFunc_int_int.lexC_trans x y z h1 h2
theorem slices_SortFunc_int_int.cmpL_refl (a : List Int) : slices_SortFunc_int_int.cmpL a a = 0 := by unfold slices_SortFunc_int_int.cmpL; rw [if_pos rfl, slices_SortFunc_int_int.lexC_refl]
theorem slices_SortFunc_int_int.cmpL_neg (a b : List Int) : slices_SortFunc_int_int.cmpL a b = -slices_SortFunc_int_int.cmpL b a := by
 unfold slices_SortFunc_int_int.cmpL
 by_cases h : a.length = b.length
 ·rw [if_pos h, if_pos h.symm, slices_SortFunc_int_int.lexC_neg]
 ·rw [if_neg h, if_neg (fun e => h e.symm)]; omega
theorem slices_SortFunc_int_int.cmpL_eq {a b : List Int} (h : slices_SortFunc_int_int.cmpL a b = 0) : a = b := by
 unfold slices_SortFunc_int_int.cmpL at h
 by_cases hl : a.length = b.length
 ·rw [if_pos hl] at h; exact slices_SortFunc_int_int.lexC_eq a b h
 ·rw [if_neg hl] at h; omega
theorem slices_SortFunc_int_int.cmpL_trans {a b c : List Int} (h1 : slices_SortFunc_int_int.cmpL a b < 0) (h2 : slices_SortFunc_int_int.cmpL b c < 0) : slices_SortFunc_int_int.cmpL a c < 0 := by
 unfold slices_SortFunc_int_int.cmpL at h1 h2 ⊢
 by_cases p : a.length = b.length
 ·rw [if_pos p] at h1
  by_cases q : b.length = c.length
  ·rw [if_pos q] at h2
   rw [if_pos (p.trans q)]
   exact slices_SortFunc_int_int.lexC_trans a b c h1 h2
  ·rw [if_neg q] at h2
   rw [if_neg (by omega)]; omega
 ·rw [if_neg p] at h1
  by_cases q : b.length = c.length
  ·rw [if_neg (by omega)]; omega
  ·rw [if_neg q] at h2
   rw [if_neg (by omega)]; omega
theorem slices_SortFunc_int_int.cmpL_ntrans {a b c : List Int} (h1 : ¬ slices_SortFunc_int_int.cmpL a b < 0) (h2 : ¬ slices_SortFunc_int_int.cmpL b c < 0) : ¬ slices_SortFunc_int_int.cmpL a c < 0 := by
 intro h
 have n1 := slices_SortFunc_int_int.cmpL_neg a b
 have n2 := slices_SortFunc_int_int.cmpL_neg b c
 by_cases e1 : slices_SortFunc_int_int.cmpL a b = 0
 ·have := slices_SortFunc_int_int.cmpL_eq e1; subst this; exact h2 h
 ·by_cases e2 : slices_SortFunc_int_int.cmpL b c = 0
  ·have := slices_SortFunc_int_int.cmpL_eq e2; subst this; exact h1 h
  ·have := slices_SortFunc_int_int.cmpL_trans (a := c) (b := b) (c := a) (by omega) (by omega)
   have n3 := slices_SortFunc_int_int.cmpL_neg a c
   omega
/-- What the sort is asked for here: the rows are not one too many, no two are one, and the comparison tells for each two what the plain order tells. -/
def slices_SortFunc_int_int.good (k : Nat) (c : List (List Int)) (d : Nat) : Prop := d = 103 ∧ 0 < c.length ∧ c.length < 4611686018427387904 ∧ c.Nodup ∧ ∀ a ∈ c, ∀ b ∈ c, impl_sets_1.f k a b = some (slices_SortFunc_int_int.cmpL a b)
instance slices_SortFunc_int_int.good_dec (k : Nat) (l0 : List (List Int)) (a1 : Nat) : Decidable (slices_SortFunc_int_int.good k l0 a1) := by
 unfold slices_SortFunc_int_int.good
 infer_instance
def slices_SortFunc_int_int.le (a b : List Int) : Bool := !decide (slices_SortFunc_int_int.cmpL b a < 0)
def slices_SortFunc_int_int.f (k : Nat) (a : List (List Int)) (b : Nat) : Option (List (List Int)) := if slices_SortFunc_int_int.good k a b then some (a.mergeSort slices_SortFunc_int_int.le) else none
theorem slices_SortFunc_int_int.mono : ∀ a0 a1 k, LeO (slices_SortFunc_int_int.f k a0 a1) (slices_SortFunc_int_int.f (k + 1) a0 a1) := by
 intro a0 a1 k r h
 unfold slices_SortFunc_int_int.f at h ⊢
 by_cases hg : slices_SortFunc_int_int.good k a0 a1
 ·rw [if_pos hg] at h
  have hg2 : slices_SortFunc_int_int.good (k + 1) a0 a1 := ⟨hg.1, hg.2.1, hg.2.2.1, hg.2.2.2.1, fun a ha b hb => impl_sets_1.mono a b k _ (hg.2.2.2.2 a ha b hb)⟩
  rw [if_pos hg2]
  exact h
 ·rw [if_neg hg] at h
  cases h
theorem slices_SortFunc_int_int.heap_sort {α : Type} [Inhabited α] (enc : α → Value) (w : World) (g m : Nat) (d : Array α) (os : Array Obj) (k : Nat) (hk : k < w.heap.size) (hne : k ≠ g) : (sortWorld enc w g 0 m d os).heap[k]? = w.heap[k]? := by
 unfold sortWorld Go.Sort.grow Go.Sort.putRow Go.Sort.mapBlock Go.Sort.ahead
 show ((w.heap.modify g _) ++ os)[k]? = _
 rw [Array.getElem?_append_left (by rw [Array.size_modify]; exact hk), Array.getElem?_modify, if_neg (by omega)]
theorem slices_SortFunc_int_int.heap_at {α : Type} [Inhabited α] (enc : α → Value) (w : World) (g m : Nat) (d : Array α) (os : Array Obj) {cur : Array Value} {e : Nat} (hk : w.heap[g]? = some (.cells cur e (0, 0))) : (sortWorld enc w g 0 m d os).heap[g]? = some (.cells (Go.Sort.putCells enc 0 d cur) e (0, 0)) := by
 have hlt : g < w.heap.size := (Array.getElem?_eq_some_iff.1 hk).1
 unfold sortWorld Go.Sort.grow Go.Sort.putRow Go.Sort.mapBlock Go.Sort.ahead
 show ((w.heap.modify g _) ++ os)[g]? = _
 rw [Array.getElem?_append_left (by rw [Array.size_modify]; exact hlt), Array.getElem?_modify, if_pos rfl, hk]
 rfl
theorem slices_SortFunc_int_int.put_take {α : Type} [Inhabited α] (enc : α → Value) (d : Array α) (cur : Array Value) (h : d.size ≤ cur.size) : (Go.Sort.putCells enc 0 d cur).size = cur.size ∧ (Go.Sort.putCells enc 0 d cur).toList.take d.size = d.toList.map enc := by
 have hs : (Go.Sort.putCells enc 0 d cur).size = cur.size := by unfold Go.Sort.putCells; simp
 refine ⟨hs, List.ext_getElem ?_ (fun i h1 h2 => ?_)⟩
 ·rw [List.length_take, Array.length_toList, hs, List.length_map, Array.length_toList]; omega
 ·have hi : i < d.size := by rw [List.length_map, Array.length_toList] at h2; exact h2
  rw [List.getElem_take, List.getElem_map]
  simp only [Array.getElem_toList]
  unfold Go.Sort.putCells
  simp only [Array.getElem_mapIdx]
  rw [if_pos (by omega)]
  simp [hi]
set_option maxHeartbeats 8000000 in
set_option maxRecDepth 100000 in
theorem slices_SortFunc_int_int.calls (k : Nat) (P0_ : Nat → Prop) (u_ : Value) (l0 : List (List Int)) (a1 : Nat) (r1 : List (List Int)) (w0 w : World) (hB : Below w0.heap.size w0 w) (ho0 : Kd.S (Kd.slice 3 (Kd.int .i64)) 22 w w0.heap.size P0_ u_ l0) (h : slices_SortFunc_int_int.f k l0 a1 = some r1) :
  Calls Try.prog 102 #[u_, .func (.func a1) #[] #[]] w fun e w' => e = .returned (.tuple #[]) ∧ Kd.S (Kd.slice 3 (Kd.int .i64)) 22 w' w0.heap.size P0_ u_ r1 ∧ Below w0.heap.size w0 w' ∧ Kept w w' (fun k_ => P0_ k_) := by
 unfold slices_SortFunc_int_int.f at h
 by_cases hg : slices_SortFunc_int_int.good k l0 a1
 ·rw [if_pos hg] at h
  obtain rfl := Option.some.inj h
  obtain ⟨ha1, hpos, hlen, hnd, hcmp⟩ := hg
  subst ha1
  obtain ⟨f, hok, inner, ho, hr⟩ := ho0
  rw [List.length_zipIdx] at ho
  have hil : inner.length = l0.length := by
   have h1 := hr.1
   rw [List.length_zipIdx] at h1
   have h2 : inner.length = l0.length * 1 := h1
   omega
  obtain ⟨ho1, ho2⟩ := ho
  rcases ho2 with ⟨_, hz⟩ | ⟨g, cap, cur, rfl, hbg, hcur, hnc, hcm, hcs, htk⟩
  ·omega
  have hcs' : cur.size = cap := by
   have h2 : cur.size = cap * 1 := hcs
   omega
  have htk' : cur.toList.take l0.length = inner := by
   have h2 : cur.toList.take (l0.length * 1) = inner := htk
   rwa [Nat.mul_one] at h2
  have hglt : g < w.heap.size := (Array.getElem?_eq_some_iff.1 hcur).1
  have hPg : P0_ g := hok g rfl
  haveI : Inhabited (Fin l0.length) := ⟨⟨0, hpos⟩⟩
  let enc : Fin l0.length → Value := fun i => inner[i.val]'(by rw [hil]; exact i.isLt)
  let d : Array (Fin l0.length) := Array.ofFn id
  have hd : d.size = l0.length := Array.size_ofFn
  have hdl : d.toList = List.finRange l0.length := by
   refine List.ext_getElem (by simp [d]) (fun i h1 h2 => ?_)
   simp [d]
  -- each element, in whatever world the sort passes through
  have hM : ∀ (x : Fin l0.length) (W : World), w.heap.size ≤ W.heap.size → (∀ q, q < w.heap.size → q ≠ g → W.heap[q]? = w.heap[q]?) → (Kd.slice 3 (Kd.int .i64)).M W w0.heap.size (fun q => (P0_ q ∧ some q ≠ (Value.slice (some ⟨g, 0, none⟩) l0.length cap).ownBlock) ∧ f q = x.val) l0[x.val] [enc x] := by
   intro x W hW1 hW2
   have h1 := hr.2 x.val (l0[x.val], x.val) (Kd.zip_at (List.getElem?_eq_getElem x.isLt))
   have h2 : (inner.drop (x.val * (Kd.tag f (Kd.slice 3 (Kd.int .i64))).sz)).take (Kd.tag f (Kd.slice 3 (Kd.int .i64))).sz = [enc x] := by
    show (inner.drop (x.val * 1)).take 1 = [enc x]
    rw [Nat.mul_one, List.drop_eq_getElem_cons (by rw [hil]; exact x.isLt)]
    rfl
   rw [h2] at h1
   refine Kd.M_step h1 (fun q hq hlt => hW2 q hlt ?_)
   intro e
   exact hq.1.2 (by rw [e]; rfl)
  have hH : Go.Sort.Holds enc w g 0 d := by
   intro j hj
   have hj' : j < l0.length := by rw [hd] at hj; exact hj
   have ej : d[j]! = ⟨j, hj'⟩ := by simp [d, hj']
   refine ⟨?_, blk_frozen hcur _⟩
   rw [ej, Nat.zero_add]
   show w.cell? ⟨g, j, none⟩ = some (inner[j]'_)
   have hc1 := blk_cell hcur j
   rw [hc1]
   have hjc : j < cur.size := by omega
   have : inner[j]'(by omega) = cur[j] := by
    have e2 : (cur.toList.take l0.length)[j]'(by rw [List.length_take, Array.length_toList (xs := cur)]; omega) = inner[j]'(by omega) := by congr 1 <;> exact htk'
    rw [← e2, List.getElem_take, Array.getElem_toList]
   rw [this]
   simp [hjc]
  let cf : Fin l0.length → Fin l0.length → Int := fun x y => slices_SortFunc_int_int.cmpL l0[x.val] l0[y.val]
  have hO : Go.Sort.SWO (ltOf cf) := by
   refine ⟨fun x => ?_, fun x y z h1 h2 => ?_, fun x y z h1 h2 => ?_⟩
   ·show decide (cf x x < 0) = false
    refine decide_eq_false ?_
    show ¬ slices_SortFunc_int_int.cmpL _ _ < 0
    rw [slices_SortFunc_int_int.cmpL_refl]; omega
   ·exact decide_eq_true (slices_SortFunc_int_int.cmpL_trans (of_decide_eq_true h1) (of_decide_eq_true h2))
   ·exact decide_eq_false (slices_SortFunc_int_int.cmpL_ntrans (of_decide_eq_false h1) (of_decide_eq_false h2))
  have hT : ∀ x y, (ltOf cf) x y = false → (ltOf cf) y x = false → x = y := by
   intro x y h1 h2
   have g1 : ¬ slices_SortFunc_int_int.cmpL l0[x.val] l0[y.val] < 0 := of_decide_eq_false h1
   have g2 : ¬ slices_SortFunc_int_int.cmpL l0[y.val] l0[x.val] < 0 := of_decide_eq_false h2
   have g3 := slices_SortFunc_int_int.cmpL_neg l0[x.val] l0[y.val]
   have g4 := slices_SortFunc_int_int.cmpL_eq (show slices_SortFunc_int_int.cmpL l0[x.val] l0[y.val] = 0 by omega)
   exact Fin.ext ((List.getElem_inj hnd).1 g4)
  have hcmp1 : CmpLays1 Try.prog 103 #[] enc cf g 0 d.size w := by
   intro m os dk hdk x y
   have hk2 : ∀ q, q < w.heap.size → q ≠ g → (sortWorld enc w g 0 m dk os).heap[q]? = w.heap[q]? := fun q h1 h2 => slices_SortFunc_int_int.heap_sort enc w g m dk os q h1 h2
   have hsz2 : w.heap.size ≤ (sortWorld enc w g 0 m dk os).heap.size := by
    unfold sortWorld Go.Sort.grow Go.Sort.putRow Go.Sort.mapBlock Go.Sort.ahead
    simp
   obtain ⟨A1, c1, e1, h1, hC1⟩ := Kd.K_of_M _ (hM x _ hsz2 hk2)
   obtain ⟨A2, c2, e2, h2, hC2⟩ := Kd.K_of_M _ (hM y _ hsz2 hk2)
   have e1' : enc x = .slice A1 l0[x.val].length c1 := by injection e1
   have e2' : enc y = .slice A2 l0[y.val].length c2 := by injection e2
   have hcl := impl_sets_1.calls k A1 c1 l0[x.val] A2 c2 l0[y.val] _ (sortWorld enc w g 0 m dk os) hC1 h1 hC2 h2 (hcmp _ (List.getElem_mem _) _ (List.getElem_mem _))
   rw [e1', e2']
   refine Calls.mono hcl ?_
   rintro e w' ⟨he, ⟨q, hq⟩⟩
   exact ⟨he, q, #[], by rw [hq, Go.Sort.grow_empty]⟩
  have hone : OneCell enc := by
   intro x
   obtain ⟨A1, c1, e1, _, _⟩ := Kd.K_of_M _ (hM x w (Nat.le_refl _) (fun _ _ _ => rfl))
   have e1' : enc x = .slice A1 l0[x.val].length c1 := by injection e1
   rw [e1']
   rfl
  have eg : ∀ args w, (callFunc 103 args).run Try.prog w = .ok (.enter 103 args) w := enters_of Try.func103 (by kernel_rfl) rfl
  have hS := Any.slices_SortFunc_total slices_SortFunc_int_int.sortL enc hone cf hO 103 #[] g 0 cap d w eg hcmp1 hH hglt (by rw [hd]; exact hlen) hT
  change Calls Try.prog 102 _ _ _ at hS
  rw [hd] at hS
  refine hS.mono ?_
  rintro e w' ⟨rfl, m, os, rfl⟩
  obtain ⟨D, hD⟩ : ∃ D, D = d.toList.mergeSort fun x y => !(ltOf cf) y x := ⟨_, rfl⟩
  rw [← hD]
  have hperm : D.Perm (List.finRange l0.length) := by rw [hD, hdl]; exact List.mergeSort_perm _ _
  have hDl : D.length = l0.length := by rw [hperm.length_eq, List.length_finRange]
  have hDn : (D.map Fin.val).Nodup := by
   have h1 : (List.finRange l0.length).map Fin.val = List.range l0.length := by
    refine List.ext_getElem (by simp) (fun i h1 h2 => ?_)
    simp
   have h2 : (D.map Fin.val).Perm (List.range l0.length) := by rw [← h1]; exact hperm.map _
   exact h2.nodup_iff.2 List.nodup_range
  have hr1 : l0.mergeSort slices_SortFunc_int_int.le = D.map (fun i : Fin l0.length => l0[i.val]'i.isLt) := by
   have h1 : l0 = (List.finRange l0.length).map (fun i : Fin l0.length => l0[i.val]'i.isLt) := by
    refine List.ext_getElem (by simp) (fun i h1 h2 => ?_)
    simp
   rw [hD, hdl]
   refine Eq.trans ?_ (List.map_mergeSort (f := fun i : Fin l0.length => l0[i.val]'i.isLt) (s := slices_SortFunc_int_int.le) (fun a _ b _ => rfl)).symm
   congr 1
  have hda : D.toArray.size = l0.length := by simp [hDl]
  have hst : ∀ q, q < w.heap.size → q ≠ g → (sortWorld enc w g 0 m D.toArray os).heap[q]? = w.heap[q]? := fun q h1 h2 => slices_SortFunc_int_int.heap_sort enc w g m D.toArray os q h1 h2
  have hsz : w.heap.size ≤ (sortWorld enc w g 0 m D.toArray os).heap.size := by
   unfold sortWorld Go.Sort.grow Go.Sort.putRow Go.Sort.mapBlock Go.Sort.ahead
   simp
  have hput := slices_SortFunc_int_int.put_take enc D.toArray cur (by omega)
  refine ⟨rfl, ⟨fun q => (D.map Fin.val).idxOf (f q), hok, D.map enc, ?_, ?_⟩, ⟨hB.os, hB.tape, hB.output, Nat.le_trans hB.size hsz, fun q hq => ?_⟩, ⟨hsz, fun q hq hn => ?_⟩⟩
  ·rw [List.length_zipIdx, hr1, List.length_map, hDl]
   refine ⟨by rw [List.length_map, hDl]; exact (Nat.mul_one _).symm, Or.inr ⟨g, cap, _, rfl, hbg, slices_SortFunc_int_int.heap_at enc w g m D.toArray os hcur, hnc, hcm, by rw [hput.1, hcs']; exact (Nat.mul_one _).symm, ?_⟩⟩
   have := hput.2
   rw [hda] at this
   show (Go.Sort.putCells enc 0 D.toArray cur).toList.take (l0.length * 1) = D.map enc
   rw [Nat.mul_one, this]
  ·rw [hr1]
   refine ⟨by rw [List.length_zipIdx, List.length_map, List.length_map]; exact (Nat.mul_one _).symm, fun j p hj => ?_⟩
   rw [List.getElem?_zipIdx, Nat.zero_add] at hj
   obtain ⟨y, hy, rfl⟩ := Option.map_eq_some_iff.1 hj
   have hjl : j < D.length := by
    have := (List.getElem?_eq_some_iff.1 hy).1
    rwa [List.length_map] at this
   rw [List.getElem?_map, List.getElem?_eq_getElem hjl] at hy
   have hy2 : l0[D[j].val] = y := Option.some.inj hy
   subst hy2
   have hch : ((D.map enc).drop (j * 1)).take 1 = [enc D[j]] := by
    rw [Nat.mul_one, List.drop_eq_getElem_cons (by rw [List.length_map]; exact hjl), List.getElem_map]
    rfl
   show (Kd.slice 3 (Kd.int .i64)).M _ _ _ _ (((D.map enc).drop (j * 1)).take 1)
   rw [hch]
   refine (Kd.slice 3 (Kd.int .i64)).M_mono (fun q hq => ⟨?_, ?_⟩) (hM D[j] _ hsz hst)
   ·simpa [List.length_zipIdx, hDl] using hq.1
   ·show (D.map Fin.val).idxOf (f q) = j
    rw [hq.2]
    have := List.Nodup.idxOf_getElem hDn j (by rw [List.length_map]; exact hjl)
    rw [List.getElem_map] at this
    exact this
  ·rw [hst q (Nat.lt_of_lt_of_le hq hB.size) (by omega)]
   exact hB.block q hq
  ·exact hst q hq (fun e => hn (by rw [e]; exact hPg))
 ·rw [if_neg hg] at h
  cases h
/-! ### impl_sets: function 76 -/
mutual
def impl_sets.l0 : Nat → Int → List (List Int) → Int → Int → Option ((List (List Int)))
 | 0, _, _, _, _ => none
 | k + 1, a, b, c, d => if d < c then (impl_sets.l1 k a b d (([] : List Int)) c d a 0) else ((slices_SortFunc_int_int.f k b 103).bind fun e => (some e))
def impl_sets.l1 : Nat → Int → List (List Int) → Int → List Int → Int → Int → Int → Int → Option ((List (List Int)))
 | 0, _, _, _, _, _, _, _, _ => none
 | k + 1, a, b, c, d, e, f, g, h => if h < g then (if 0 ≤ h then (if (Go.bits .and .i64 (shr .i64 c h) 1) = 1 then (if d.length < 17592186044416 then (impl_sets.l1 k a b c (d ++ [h]) e f g (wrap64 (h + 1))) else (none)) else (impl_sets.l1 k a b c d e f g (wrap64 (h + 1)))) else (none)) else (if b.length < 5864062014805 then (impl_sets.l0 k a (b ++ [d]) e (wrap64 (f + 1))) else (none))
end
def impl_sets.f (k : Nat) (a : Int) : Option ((List (List Int))) := if 0 ≤ a then (impl_sets.l0 k a (([] : List (List Int))) (shl .i64 1 a) 0) else (none)
theorem impl_sets.mono_l : ∀ k, (∀ y0 y1 y2 y3, LeO (impl_sets.l0 k y0 y1 y2 y3) (impl_sets.l0 (k + 1) y0 y1 y2 y3)) ∧ (∀ y0 y1 y2 y3 y4 y5 y6 y7, LeO (impl_sets.l1 k y0 y1 y2 y3 y4 y5 y6 y7) (impl_sets.l1 (k + 1) y0 y1 y2 y3 y4 y5 y6 y7))
 | 0 => by refine ⟨?_, ?_⟩ <;> intros <;> intro _ h <;> simp [impl_sets.l0, impl_sets.l1] at h
 | k + 1 => by
  obtain ⟨ih0, ih1⟩ := impl_sets.mono_l k
  refine ⟨?_, ?_⟩ <;> intros <;> (first | unfold impl_sets.l0 | unfold impl_sets.l1) <;> repeat' with_reducible first | apply ih1 | apply slices_SortFunc_int_int.mono | apply ih0 | exact LeO.refl _ | refine LeO.ite ?_ ?_ | refine LeO.bind ?_ (fun _ => ?_)
theorem impl_sets.mono : ∀ a0 k, LeO (impl_sets.f k a0) (impl_sets.f (k + 1) a0) := by
 intro a0 k
 obtain ⟨ih0, ih1⟩ := impl_sets.mono_l k
 unfold impl_sets.f
 repeat' with_reducible first | apply ih0 | exact LeO.refl _ | refine LeO.ite ?_ ?_
set_option maxHeartbeats 8000000 in
set_option maxRecDepth 100000 in
theorem impl_sets.calls (k : Nat) (a0 : Int) (r : List (List Int)) (w : World) (h : impl_sets.f k a0 = some r) :
  Calls Try.prog 76 #[.int .i64 a0] w fun e w' => ∃ v0_ : Value, e = .returned (v0_) ∧ Kd.S (Kd.slice 3 (Kd.int .i64)) 22 w' w.heap.size (fun _ => True) v0_ r ∧ Below w.heap.size w w' := by
 have HB := zA (Below.refl w.heap.size w); unfold impl_sets.f at h; revert h; intro H; obtain ⟨y210, hy210⟩ : ∃ y_ : List (List Int), y_ = (([] : List (List Int))) := ⟨_, rfl⟩; (replace H : (if 0 ≤ a0 then (impl_sets.l0 k a0 y210 (shl .i64 1 a0) 0) else (none)) = some r := by (rw [hy210]; with_reducible exact H)); have Ny210 := zA hy210; clear hy210; by_cases c2 : 0 ≤ a0; rotate_left
 ·rw [if_neg c2] at H; exact absurd H (by simp)
 rw [if_pos c2] at H; have c2b0 := eq_true c2; have c2b1 : decide (0 ≤ a0) = true := decide_eq_true c2; clear c2; obtain ⟨ji3, hji3⟩ : ∃ j_ : Int, (shl .i64 1 a0) = j_ := ⟨_, rfl⟩; (replace H : (impl_sets.l0 k a0 y210 ji3 0) = some r := by (rw [hji3] at H; exact H)); have hji3_ : (IntKind.i64.wrap (1 * 2 ^ min a0.toNat 64)) = ji3 := hji3; have hji3z : a0 ≤ 64 → (IntKind.i64.wrap (1 * 2 ^ a0.toNat)) = ji3 := shl_small hji3; (have hji3u : (IntKind.i64.wrap (2 ^ min a0.toNat 64)) = ji3 := by have h_ := hji3_; rw [Int.one_mul] at h_; exact h_); (have hji3v : a0 ≤ 64 → (IntKind.i64.wrap (2 ^ a0.toNat)) = ji3 := fun hle_ => by have h_ := hji3z hle_; rw [Int.one_mul] at h_; exact h_); have hji3y : (wrap64 (1 * 2 ^ min a0.toNat 64)) = ji3 := (i64_w _).symm.trans hji3_; (have hji3x : a0 ≤ 64 → (wrap64 (1 * 2 ^ a0.toNat)) = ji3 := fun h_ => (i64_w _).symm.trans (hji3z h_)); have H' := zA H; clear H; go_enter Try.func76, Try.ntmps76; go_wp2_with ((with_reducible refine gate_dst (N := 7) rfl ?_); refine Kd.S_lit (Kd.slice 3 (Kd.int .i64)) _ 22 ?hg (N := 7) ?hd (xs := ([] : List (List Int))) (inner := []) (ok := fun _ => True) (okp := fun _ => True) ?hr ?hp (fun _ hk => hk) trivial (Below.refl _ _) (Nat.le_refl _) (by simp) ?_; (case hd => rfl); (case hg => rfl); (case hr => (go_simp; done)); (case hp => exact (Reps.none _ _)); intro v211 w4 ho5 hb hg_ hnew_; clear hg_ hnew_; (rw [← Ny210.out] at ho5); have HO212 := zA (Kd.S_lower ho5 (below_size HB.out)); replace HB := zA (below_step HB.out hb); clear hb ho5); go_loopg [3, 10] k (fun kq v3 v10 w' => ∃ (x3_1 : List (List Int)) (x10_1 : Int), v10 = .int .i64 x10_1 ∧ Aside0 (impl_sets.l0 kq a0 x3_1 ji3 x10_1 = some r) ∧ Aside0 (kq ≤ k) ∧ Aside0 (Kd.S (Kd.slice 3 (Kd.int .i64)) 22 w' w.heap.size (fun _ => True) v3 x3_1) ∧ Aside0 (Below w.heap.size w w')); case atStart => exact ⟨(y210), (0), (by rfl), H', ⟨Nat.le_refl _⟩, ⟨by exact HO212.out⟩, ⟨HB.out⟩⟩
 case round =>
 clear H' c2b0 c2b1; obtain ⟨x3_1, x10_1, rfl, HA, HK1, HO_3, HB⟩ := hrel; cases gk with
 | zero => exact absurd HA.out (by simp [impl_sets.l0])
 | succ k1 => ?_
 have H := HA.out; clear HA; simp only [impl_sets.l0] at H; by_cases c6 : x10_1 < ji3; rotate_left
 ·rw [if_neg c6] at H; have c6b0 := decide_eq_false c6; clear c6; obtain ⟨t213, A18, H⟩ := zB H; obtain rfl := Option.some.inj H; obtain ⟨Ao19, co19, eo19⟩ := Kd.S_slice HO_3.out; subst eo19; go_wp2_with ((with_reducible refine gate_callee (f := 102) rfl ?_); refine goesL_ (some 34) rfl rfl Try.func102 (by kernel_rfl) rfl #[.slice Ao19 x3_1.length co19, .func (.func 103) #[] #[]] rfl (by (try simp only [List.map_toArray, List.map_cons, List.map_nil]); rfl) ?_; (with_reducible refine (slices_SortFunc_int_int.calls k1 (fun k_ => True) (.slice Ao19 x3_1.length co19) x3_1 103 t213 w _ ?side1 ?side2 A18.out).mono ?_); (case side1 => exact HB.out); (case side2 => exact HO_3.out); rintro e w20 ⟨rfl, hy0, hb, hkp⟩; refine ⟨_, rfl, ?_⟩; replace HO_3 := zA (Kd.S_mono (ok' := fun k_ => True) hy0 (fun k_ hk_ => trivial)); replace HB := zA hb; clear hb hkp hy0); go_ret; exact ⟨_, by rfl, by exact HO_3.out, by exact HB.out⟩
 rw [if_pos c6] at H; have c6b0 := decide_eq_true c6; clear c6; obtain ⟨y214, hy214⟩ : ∃ y_ : List Int, y_ = (([] : List Int)) := ⟨_, rfl⟩; (replace H : (impl_sets.l1 k1 a0 x3_1 x10_1 y214 ji3 x10_1 a0 0) = some r := by (rw [hy214]; with_reducible exact H)); have Ny214 := zA hy214; clear hy214; have H' := zA H; clear H; go_wp2_with ((with_reducible refine gate_dst (N := 13) rfl ?_); refine Kd.R_lit (Kd.int .i64) _ 3 ?hg (N := 13) ?hd (xs := ([] : List Int)) (inner := []) (ok := fun _ => True) (okp := fun _ => True) ?hr ?hp (fun _ hk => hk) trivial (Below.refl _ _) (Nat.le_refl _) (by simp) ?_; (case hd => rfl); (case hg => rfl); (case hr => (go_simp; done)); (case hp => exact (Reps.none _ _)); intro v215 w7 ho8 hb hg_ hnew_; clear hg_ hnew_; (rw [← Ny214.out] at ho8); replace HO_3 := zA (Kd.S_elder' (by exact HO_3.out) (Kd.R_base ho8) hb); have HO216 := zA (Kd.R_lower ho8 (below_size HB.out)); replace HB := zA (below_step HB.out hb); clear hb ho8); go_loopg [5, 15] k1 (fun kq v5 v15 w' => ∃ (x5_2 : List Int) (x15_2 : Int), v15 = .int .i64 x15_2 ∧ Aside0 (impl_sets.l1 kq a0 x3_1 x10_1 x5_2 ji3 x10_1 a0 x15_2 = some r) ∧ Aside0 (kq ≤ k1) ∧ Aside0 (Kd.S (Kd.slice 3 (Kd.int .i64)) 22 w' w.heap.size (fun k_ => some k_ ≠ (v5 : Value).ownBlock) u3 x3_1) ∧ Aside0 (Kd.R (Kd.int .i64) 3 w' w.heap.size (fun _ => True) v5 x5_2) ∧ Aside0 (Below w.heap.size w w')); case atStart => exact ⟨(y214), (0), (by rfl), H', ⟨Nat.le_refl _⟩, ⟨by exact Kd.S_mono HO_3.out (fun _ hk => hk.2)⟩, ⟨by exact HO216.out⟩, ⟨HB.out⟩⟩
 case round =>
 clear H' c6b0; obtain ⟨x5_2, x15_2, rfl, HA, HK2, HO_3, HO_5, HB⟩ := hrel; cases gk with
 | zero => exact absurd HA.out (by simp [impl_sets.l1])
 | succ k2 => ?_
 have H := HA.out; clear HA; simp only [impl_sets.l1] at H; by_cases c9 : x15_2 < a0; rotate_left
 ·rw [if_neg c9] at H; have c9b0 := decide_eq_false c9; clear c9; by_cases c15 : x3_1.length < 5864062014805; rotate_left
  ·rw [if_neg c15] at H; exact absurd H (by simp)
  rw [if_pos c15] at H; have LMc15 := zA c15; clear c15; obtain ⟨y220, hy220⟩ : ∃ y_ : List (List Int), y_ = (x3_1 ++ [x5_2]) := ⟨_, rfl⟩; (replace H : (impl_sets.l0 k2 a0 y220 ji3 (wrap64 (x10_1 + 1))) = some r := by (rw [hy220]; with_reducible exact H)); have Ny220 := zA hy220; clear hy220; have H' := zA H; clear H; obtain ⟨Ao17, co17, eo17⟩ := Kd.R_slice HO_5.out; subst eo17; go_wp2_with ((with_reducible refine gate_builtin (b := .append) (xs := #[.tmp 28, .tmp 30]) rfl ?_); at_builtin; refine Kd.S_append (Kd.slice 3 (Kd.int .i64)) (w0 := w) w.heap.size rfl (.tmp 28) (.tmp 30) 25 22 (.slice none 0 0) 24 rfl Try.underlying25 info22 rfl (by decide) (by omega) u3 x3_1 x5_2 [.slice Ao17 x5_2.length co17] (fun _ => True) (fun k_ => some k_ = (.slice Ao17 x5_2.length co17 : Value).ownBlock) rfl rfl ?aP (fun k_ hk_ => (Kd.R_mono (ok' := fun k_ => (fun _ => True) k_ ∧ some k_ ≠ (u3 : Value).ownBlock) (Kd.R_apart' (HO_5.out) (Kd.S_typed HO_3.out) (by decide)) (fun k_ hk => ⟨trivial, hk.2⟩)).1 k_ hk_.symm) ?aF ?aO ?aB ?aS ?aL ?_; (case aP => exact Kd.M_row (Kd.R_mono (Kd.R_tight rfl (Kd.R_mono (ok' := fun k_ => (fun _ => True) k_ ∧ some k_ ≠ (u3 : Value).ownBlock) (Kd.R_apart' (HO_5.out) (Kd.S_typed HO_3.out) (by decide)) (fun k_ hk => ⟨trivial, hk.2⟩))) (fun _ h_ => h_))); (case aB => exact HB.out); (case aF => exact (fun _ _ => trivial)); (case aO => exact (by exact Kd.S_mono HO_3.out (fun k_ hk => ⟨trivial, fun e_ => hk e_⟩))); (case aS => exact (below_size HB.out)); (case aL => have := LMc15.out; omega); intro v221 w16 ho hb hg hat; rw [← Ny220.out] at ho; replace HB := zA hb; have HO222 := zA ho; clear HO_3 HO_5 ho hb hg hat); go_roundg k2; (case measure => have := HK1.out; have := HK2.out; omega); case rel => exact ⟨(y220), (wrap64 (x10_1 + 1)), (by rfl), H', ⟨by have := HK1.out; have := HK2.out; omega⟩, ⟨by exact HO222.out⟩, ⟨HB.out⟩⟩
 rw [if_pos c9] at H; have c9b0 := decide_eq_true c9; clear c9; by_cases c10 : 0 ≤ x15_2; rotate_left
 ·rw [if_neg c10] at H; exact absurd H (by simp)
 rw [if_pos c10] at H; have c10b0 := eq_true c10; have c10b1 : decide (0 ≤ x15_2) = true := decide_eq_true c10; clear c10; obtain ⟨ji11, hji11⟩ : ∃ j_ : Int, (shr .i64 x10_1 x15_2) = j_ := ⟨_, rfl⟩; (replace H : (if (Go.bits .and .i64 (ji11) 1) = 1 then (if x5_2.length < 17592186044416 then (impl_sets.l1 k2 a0 x3_1 x10_1 (x5_2 ++ [x15_2]) ji3 x10_1 a0 (wrap64 (x15_2 + 1))) else (none)) else (impl_sets.l1 k2 a0 x3_1 x10_1 x5_2 ji3 x10_1 a0 (wrap64 (x15_2 + 1)))) = some r := by (rw [hji11] at H; exact H)); have hji11_ : (x10_1 / 2 ^ min x15_2.toNat 64) = ji11 := hji11; have hji11z : x15_2 ≤ 64 → (x10_1 / 2 ^ x15_2.toNat) = ji11 := shr_small hji11; by_cases c12 : (Go.bits .and .i64 (ji11) 1) = 1; rotate_left
 ·rw [if_neg c12] at H; have c12b0 : ((Go.bits .and .i64 (ji11) 1) == 1) = false := beq_eq_false_iff_ne.mpr c12; have c12b1 : ((Go.bits .and .i64 (ji11) 1) != 1) = true := bne_iff_ne.mpr c12; have H' := zA H; clear H; go_wp2; go_roundg k2; (case measure => have := HK1.out; have := HK2.out; omega); case rel => exact ⟨(x5_2), (wrap64 (x15_2 + 1)), (by rfl), H', ⟨by have := HK1.out; have := HK2.out; omega⟩, ⟨by exact HO_3.out⟩, ⟨by exact HO_5.out⟩, ⟨HB.out⟩⟩
 rw [if_pos c12] at H; have c12b0 : ((Go.bits .and .i64 (ji11) 1) == 1) = true := beq_iff_eq.mpr c12; have c12b1 : ((Go.bits .and .i64 (ji11) 1) != 1) = false := bne_eq_false_iff_eq.mpr c12; clear c12; by_cases c13 : x5_2.length < 17592186044416; rotate_left
 ·rw [if_neg c13] at H; exact absurd H (by simp)
 rw [if_pos c13] at H; have LMc13 := zA c13; clear c13; obtain ⟨y217, hy217⟩ : ∃ y_ : List Int, y_ = (x5_2 ++ [x15_2]) := ⟨_, rfl⟩; (replace H : (impl_sets.l1 k2 a0 x3_1 x10_1 y217 ji3 x10_1 a0 (wrap64 (x15_2 + 1))) = some r := by (rw [hy217]; with_reducible exact H)); have Ny217 := zA hy217; clear hy217; have H' := zA H; clear H; go_wp2_with ((with_reducible refine gate_builtin (b := .append) (xs := #[.tmp 23, .tmp 25]) rfl ?_); at_builtin; refine Kd.R_append (Kd.int .i64) (w0 := w) w.heap.size rfl (.tmp 23) (.tmp 25) 22 3 (.int .i64 0) 8 rfl Try.underlying22 info3 rfl (by decide) (by omega) u5 x5_2 x15_2 [.int .i64 x15_2] (fun _ => True) (fun _ => False) rfl rfl ?aP (fun _ hk => hk.elim) ?aF ?aO ?aB ?aS ?aL ?_; (case aP => exact rfl); (case aB => exact HB.out); (case aF => exact (fun _ _ => trivial)); (case aO => exact (by exact HO_5.out)); (case aS => exact (below_size HB.out)); (case aL => have := LMc13.out; omega); intro v218 w14 ho hb hg hat; rw [← Ny217.out] at ho; replace HO_3 := zA (Kd.S_after (ok := (fun _ => True)) (by exact Kd.S_mono HO_3.out (fun _ hk => ⟨trivial, hk⟩)) hg hat); replace HB := zA hb; have HO219 := zA ho; clear HO_5 ho hb hg hat); go_roundg k2; (case measure => have := HK1.out; have := HK2.out; omega); case rel => exact ⟨(y217), (wrap64 (x15_2 + 1)), (by rfl), H', ⟨by have := HK1.out; have := HK2.out; omega⟩, ⟨by exact Kd.S_mono HO_3.out (fun _ hk => hk.2)⟩, ⟨by exact HO219.out⟩, ⟨HB.out⟩⟩
-- NOT PRINTED: function 117 (slices_IndexFunc_int_int)

-- NOT PRINTED: function 105 (slices_ContainsFunc_int_int)

end Go.Proofs.Ytgkjnhajomjhcaa.PFnAges
