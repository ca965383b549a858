-- A text of this session (its program hook.py, over the kit's print.py): not a print of print.sh
-- THIN: one blank for two
import Derived.Test.YtfgclhojgaaepaaPFnParcelsx0
namespace Go.Proofs.Ytfgclhojgaaepaa.PFnParcels
open Go.RowKit Go.Proofs.YtfgclhojgaaepaaW.PrintWords Go.Proofs.YtfgclhojgaaepaaW.PrintLast Go.Proofs.YtfgclhojgaaepaaW.PrintMore
attribute [local go_sem] max2_int min2_int max_two min_two max_three min_three max_four min_four   -- for this text's walks alone
set_option linter.unusedVariables false
set_option linter.unusedSimpArgs false

-- NOT PRINTED: function 107 (slices_pdqsortOrdered_int)

/-! ### slices_Sort_int_int: function 71 (by hand): the library's sort by its contract, at whole numbers -/
section
open Go.Shelf
def slices_Sort_int_int.sortL_ren : Go.Shelf.Ren := ⟨fun | 189 => 71 | 125 => 108 | 257 => 107 | 128 => 120 | 129 => 121 | 294 => 111 | 295 => 112 | 296 => 113 | 297 => 114 | 298 => 115 | 299 => 116 | 216 => 117 | 300 => 118 | 301 => 119 | 328 => 122 | 329 => 123 | 330 => 124 | 331 => 125 | 332 => 126 | 215 => 127 | 343 => 128 | n => n, fun | 28 => 22 | 3 => 3 | 46 => 131 | 0 => 0 | 51 => 139 | 53 => 103 | 4 => 4 | 183 => 134 | 182 => 133 | 131 => 57 | 5 => 5 | 9 => 9 | 218 => 141 | 222 => 145 | 228 => 147 | 229 => 148 | n => n, fun n => n⟩
theorem slices_Sort_int_int.sortL : Go.Proofs.Lays.n189 Try.prog slices_Sort_int_int.sortL_ren := {
 mixed := by kernel_rfl
 f125 := Try.func108.trans (congrArg some (by kernel_rfl))
 f128 := Try.func120.trans (congrArg some (by kernel_rfl))
 f129 := Try.func121.trans (congrArg some (by kernel_rfl))
 f189 := Try.func71.trans (congrArg some (by kernel_rfl))
 f215 := Try.func127.trans (congrArg some (by kernel_rfl))
 f216 := Try.func117.trans (congrArg some (by kernel_rfl))
 f257 := Try.func107.trans (congrArg some (by kernel_rfl))
 f294 := Try.func111.trans (congrArg some (by kernel_rfl))
 f295 := Try.func112.trans (congrArg some (by kernel_rfl))
 f296 := Try.func113.trans (congrArg some (by kernel_rfl))
 f297 := Try.func114.trans (congrArg some (by kernel_rfl))
 f298 := Try.func115.trans (congrArg some (by kernel_rfl))
 f299 := Try.func116.trans (congrArg some (by kernel_rfl))
 f300 := Try.func118.trans (congrArg some (by kernel_rfl))
 f301 := Try.func119.trans (congrArg some (by kernel_rfl))
 f328 := Try.func122.trans (congrArg some (by kernel_rfl))
 f329 := Try.func123.trans (congrArg some (by kernel_rfl))
 f330 := Try.func124.trans (congrArg some (by kernel_rfl))
 f331 := Try.func125.trans (congrArg some (by kernel_rfl))
 f332 := Try.func126.trans (congrArg some (by kernel_rfl))
 f343 := Try.func128.trans (congrArg some (by kernel_rfl))
 t0 := Try.underlying0
 a0 := Try.isAgg0
 z0 := Try.sizeOf0
 v0 := Try.zeroValue0
 t3 := Try.underlying3
 a3 := Try.isAgg3
 z3 := Try.sizeOf3
 v3 := Try.zeroValue3
 t4 := Try.underlying4
 a4 := Try.isAgg4
 z4 := Try.sizeOf4
 v4 := Try.zeroValue4
 t5 := Try.underlying5
 a5 := Try.isAgg5
 z5 := Try.sizeOf5
 v5 := Try.zeroValue5
 t9 := Try.underlying9
 a9 := Try.isAgg9
 z9 := Try.sizeOf9
 v9 := Try.zeroValue9
 t28 := Try.underlying22
 a28 := Try.isAgg22
 z28 := Try.sizeOf22
 v28 := Try.zeroValue22
 t46 := Try.underlying131
 a46 := Try.isAgg131
 z46 := Try.sizeOf131
 v46 := Try.zeroValue131
 t51 := Try.underlying139
 a51 := Try.isAgg139
 z51 := Try.sizeOf139
 v51 := Try.zeroValue139
 t53 := Try.underlying103
 a53 := Try.isAgg103
 z53 := Try.sizeOf103
 v53 := Try.zeroValue103
 t131 := Try.underlying57
 a131 := Try.isAgg57
 z131 := Try.sizeOf57
 v131 := Try.zeroValue57
 t182 := Try.underlying133
 a182 := Try.isAgg133
 z182 := Try.sizeOf133
 v182 := Try.zeroValue133
 t183 := Try.underlying134
 a183 := Try.isAgg134
 z183 := Try.sizeOf134
 v183 := Try.zeroValue134
 t218 := Try.underlying141
 a218 := Try.isAgg141
 z218 := Try.sizeOf141
 v218 := Try.zeroValue141
 t222 := Try.underlying145
 a222 := Try.isAgg145
 z222 := Try.sizeOf145
 v222 := Try.zeroValue145
 t228 := Try.underlying147
 a228 := Try.isAgg147
 z228 := Try.sizeOf147
 v228 := Try.zeroValue147
 t229 := Try.underlying148
 a229 := Try.isAgg148
 z229 := Try.sizeOf148
 v229 := Try.zeroValue148 }
end
def slices_Sort_int_int.sorted (l : List Int) : List Int := l.mergeSort fun x y => decide (x ≤ y)
def slices_Sort_int_int.f (k : Nat) (a : List Int) : Option (List Int) := if a.length < 4611686018427387904 then some (slices_Sort_int_int.sorted a) else none
theorem slices_Sort_int_int.mono : ∀ a0 k, LeO (slices_Sort_int_int.f k a0) (slices_Sort_int_int.f (k + 1) a0) := fun _ _ => LeO.refl _
theorem slices_Sort_int_int.heap_sort {α : Type} [Inhabited α] (enc : α → Value) (w : World) (n g m : Nat) (d : Array α) (os : Array Obj) (k : Nat) (hk : k < w.heap.size) (hne : k ≠ g) : (Go.Sort.grow (Go.Sort.putRow enc (Go.Sort.ahead w n) g m d) os).heap[k]? = w.heap[k]? := by
 unfold Go.Sort.grow Go.Sort.putRow Go.Sort.mapBlock Go.Sort.ahead
 show ((w.heap.modify g _) ++ os)[k]? = _
 rw [Array.getElem?_append_left (by rw [Array.size_modify]; exact hk), Array.getElem?_modify, if_neg (by omega)]
theorem slices_Sort_int_int.heap_at {α : Type} [Inhabited α] (enc : α → Value) (w : World) (n g : Nat) (d : Array α) (os : Array Obj) {cur : Array Value} {e : Nat} (hk : w.heap[g]? = some (.cells cur e (0, 0))) : (Go.Sort.grow (Go.Sort.putRow enc (Go.Sort.ahead w n) g 0 d) os).heap[g]? = some (.cells (Go.Sort.putCells enc 0 d cur) e (0, 0)) := by
 have hlt : g < w.heap.size := (Array.getElem?_eq_some_iff.1 hk).1
 unfold Go.Sort.grow Go.Sort.putRow Go.Sort.mapBlock Go.Sort.ahead
 show ((w.heap.modify g _) ++ os)[g]? = _
 rw [Array.getElem?_append_left (by rw [Array.size_modify]; exact hlt), Array.getElem?_modify, if_pos rfl, hk]
 rfl
theorem slices_Sort_int_int.heap_size {α : Type} [Inhabited α] (enc : α → Value) (w : World) (n g : Nat) (d : Array α) (os : Array Obj) : w.heap.size ≤ (Go.Sort.grow (Go.Sort.putRow enc (Go.Sort.ahead w n) g 0 d) os).heap.size := by
 unfold Go.Sort.grow Go.Sort.putRow Go.Sort.mapBlock Go.Sort.ahead
 simp
theorem slices_Sort_int_int.put_take {α : Type} [Inhabited α] (enc : α → Value) (d : Array α) (cur : Array Value) (h : d.size ≤ cur.size) : (Go.Sort.putCells enc 0 d cur).size = cur.size ∧ (Go.Sort.putCells enc 0 d cur).toList.take d.size = d.toList.map enc := by
 have hs : (Go.Sort.putCells enc 0 d cur).size = cur.size := by unfold Go.Sort.putCells; simp
 refine ⟨hs, List.ext_getElem ?_ (fun i h1 h2 => ?_)⟩
 ·rw [List.length_take, Array.length_toList, hs, List.length_map, Array.length_toList]; omega
 ·have hi : i < d.size := by rw [List.length_map, Array.length_toList] at h2; exact h2
  rw [List.getElem_take, List.getElem_map]
  simp only [Array.getElem_toList]
  unfold Go.Sort.putCells
  simp only [Array.getElem_mapIdx]
  rw [if_pos (by omega)]
  simp [hi]
theorem slices_Sort_int_int.ints {w : World} {base : Nat} {ok : Nat → Prop} {l : List Int} {inner : List Value} (h : Reps ((Kd.int .i64).M w base ok) (Kd.int .i64).sz l inner) : inner = l.map (Value.int .i64) := by
 have h1 : inner.length = l.length := by have := h.1; have e : (Kd.int .i64).sz = 1 := rfl; rw [e] at this; omega
 refine List.ext_getElem (by rw [List.length_map, h1]) (fun i hi h2 => ?_)
 have hil : i < l.length := by omega
 have h3 := h.2 i l[i] (List.getElem?_eq_getElem hil)
 have e : (inner.drop (i * (Kd.int .i64).sz)).take (Kd.int .i64).sz = [inner[i]] := by
  show (inner.drop (i * 1)).take 1 = [inner[i]]
  rw [Nat.mul_one, List.drop_eq_getElem_cons hi]
  rfl
 rw [e] at h3
 rw [List.getElem_map]
 have h4 : [inner[i]] = [Value.int .i64 l[i]] := h3
 injection h4
theorem slices_Sort_int_int.ints_mk {w : World} {base : Nat} {ok : Nat → Prop} (l : List Int) : Reps ((Kd.int .i64).M w base ok) (Kd.int .i64).sz l (l.map (Value.int .i64)) := by
 refine ⟨by rw [List.length_map]; exact (Nat.mul_one _).symm, fun i p hi => ?_⟩
 have hil : i < l.length := (List.getElem?_eq_some_iff.1 hi).1
 rw [List.getElem?_eq_getElem hil] at hi
 injection hi with hi
 subst hi
 show (((l.map (Value.int .i64)).drop (i * 1)).take 1) = [Value.int .i64 l[i]]
 rw [Nat.mul_one, List.drop_eq_getElem_cons (by rw [List.length_map]; exact hil), List.getElem_map]
 rfl
set_option maxHeartbeats 8000000 in
set_option maxRecDepth 100000 in
theorem slices_Sort_int_int.calls (k : Nat) (P0_ : Nat → Prop) (u_ : Value) (l0 : List Int) (r1 : List Int) (w0 w : World) (hB : Below w0.heap.size w0 w) (ho0 : Kd.R (Kd.int .i64) 3 w w0.heap.size P0_ u_ l0) (h : slices_Sort_int_int.f k l0 = some r1) :
  Calls Try.prog 71 #[u_] w fun e w' => e = .returned (.tuple #[]) ∧ Kd.R (Kd.int .i64) 3 w' w0.heap.size P0_ u_ r1 ∧ Below w0.heap.size w0 w' ∧ Kept w w' (fun k_ => P0_ k_) := by
 unfold slices_Sort_int_int.f at h
 by_cases hlen : l0.length < 4611686018427387904
 ·rw [if_pos hlen] at h
  obtain rfl := Option.some.inj h
  have ho0' := ho0
  obtain ⟨hok, inner, ho, hr⟩ := ho0
  have hin := slices_Sort_int_int.ints hr
  obtain ⟨ho1, ho2⟩ := ho
  rcases ho2 with ⟨rfl, hz⟩ | ⟨g, cap, cur, rfl, hbg, hcur, hnc, hcm, hcs, htk⟩
  ·have hl : l0 = [] := List.eq_nil_of_length_eq_zero hz
   subst hl
   have hS := Any.slices_Sort_int_none slices_Sort_int_int.sortL none 0 w
   change Calls Try.prog 71 _ _ _ at hS
   refine hS.mono ?_
   rintro e w' ⟨rfl, rfl⟩
   exact ⟨rfl, by unfold slices_Sort_int_int.sorted; simpa using ho0', hB, Kept.refl _ _⟩
  ·have hcs' : cur.size = cap := by
    have h2 : cur.size = cap * 1 := hcs
    omega
   have htk' : cur.toList.take l0.length = inner := by
    have h2 : cur.toList.take (l0.length * 1) = inner := htk
    rwa [Nat.mul_one] at h2
   have hglt : g < w.heap.size := (Array.getElem?_eq_some_iff.1 hcur).1
   have hPg : P0_ g := hok g rfl
   have hH : Go.Sort.Holds (Value.int .i64) w g 0 l0.toArray := by
    intro j hj
    have hj' : j < l0.length := by simpa using hj
    refine ⟨?_, by rw [Nat.zero_add]; exact blk_frozen hcur _⟩
    rw [Nat.zero_add, blk_cell hcur j]
    have hjc : j < cur.size := by omega
    have e1 : (cur.toList.take l0.length)[j]? = (l0.map (Value.int .i64))[j]? := by rw [htk', hin]
    rw [List.getElem?_take_of_lt hj', List.getElem?_map, List.getElem?_eq_getElem hj'] at e1
    rw [← Array.getElem?_toList, e1]
    simp [hj']
   have hS := Any.slices_Sort_int slices_Sort_int_int.sortL g 0 cap l0 w hH hglt hlen
   change Calls Try.prog 71 _ _ _ at hS
   refine hS.mono ?_
   rintro e w' ⟨rfl, n, os, rfl⟩
   have hDl : (slices_Sort_int_int.sorted l0).length = l0.length := by unfold slices_Sort_int_int.sorted; exact List.length_mergeSort _
   have hst : ∀ q, q < w.heap.size → q ≠ g → (Go.Sort.grow (Go.Sort.putRow (Value.int .i64) (Go.Sort.ahead w n) g 0 (slices_Sort_int_int.sorted l0).toArray) os).heap[q]? = w.heap[q]? := fun q h1 h2 => slices_Sort_int_int.heap_sort (Value.int .i64) w n g 0 (slices_Sort_int_int.sorted l0).toArray os q h1 h2
   have hsz := slices_Sort_int_int.heap_size (Value.int .i64) w n g (slices_Sort_int_int.sorted l0).toArray os
   have hput := slices_Sort_int_int.put_take (Value.int .i64) (slices_Sort_int_int.sorted l0).toArray cur (by simp only [List.size_toArray]; omega)
   have hgoal : Kd.R (Kd.int .i64) 3 (Go.Sort.grow (Go.Sort.putRow (Value.int .i64) (Go.Sort.ahead w n) g 0 (slices_Sort_int_int.sorted l0).toArray) os) w0.heap.size P0_ (.slice (some ⟨g, 0, none⟩) l0.length cap) (slices_Sort_int_int.sorted l0) := by
    refine ⟨hok, (slices_Sort_int_int.sorted l0).map (Value.int .i64), ⟨by rw [List.length_map]; exact (Nat.mul_one _).symm, Or.inr ⟨g, cap, _, by rw [hDl], hbg, slices_Sort_int_int.heap_at (Value.int .i64) w n g (slices_Sort_int_int.sorted l0).toArray os hcur, by rw [hDl]; exact hnc, hcm, by rw [hput.1, hcs']; exact (Nat.mul_one _).symm, ?_⟩⟩, slices_Sort_int_int.ints_mk _⟩
    have h5 := hput.2
    rw [List.size_toArray] at h5
    show (Go.Sort.putCells (Value.int .i64) 0 (slices_Sort_int_int.sorted l0).toArray cur).toList.take ((slices_Sort_int_int.sorted l0).length * 1) = _
    rw [Nat.mul_one, h5]
   refine ⟨rfl, hgoal, ⟨hB.os, hB.tape, hB.output, Nat.le_trans hB.size hsz, fun q hq => ?_⟩, ⟨hsz, fun q hq hn => ?_⟩⟩
   ·exact (hst q (Nat.lt_of_lt_of_le hq hB.size) (by omega)).trans (hB.block q hq)
   ·exact hst q hq (fun e => hn (by rw [e]; exact hPg))
 ·rw [if_neg hlen] at h
  cases h
/-! ### impl_Parcel: function 72 (by hand): a slice's own copy -/
def impl_Parcel.f (k : Nat) (a : List S82) : Option (List S82) := if a.length < 5864062014805 then some a else none
theorem impl_Parcel.mono : ∀ a0 k, LeO (impl_Parcel.f k a0) (impl_Parcel.f (k + 1) a0) := fun _ _ => LeO.refl _
set_option maxHeartbeats 8000000 in
set_option maxRecDepth 100000 in
theorem impl_Parcel.calls (k : Nat) (A0 : Option Addr) (c0 : Nat) (l0 : List S82) (r : List S82) (w : World) (hr0 : Kd.C k82 w A0 l0.length l0) (hc0 : l0.length ≤ c0) (h : impl_Parcel.f k l0 = some r) :
  Calls Try.prog 72 #[.slice A0 l0.length c0] w fun e w' => ∃ v0_ : Value, e = .returned (v0_) ∧ Kd.R k82 82 w' w.heap.size (fun _ => True) v0_ r ∧ Below w.heap.size w w' := by
 unfold impl_Parcel.f at h
 by_cases hlen : l0.length < 5864062014805
 ·rw [if_pos hlen] at h
  obtain rfl := Option.some.inj h
  clear h
  have HR0 := zA hr0
  have LM := zA hlen
  have heq : ∀ (w : World) (a : Option Addr) (n c : Nat), (binOp .eql 44 (.slice a n c) (.slice none 0 0)).run Try.prog w = .ok (.bool a.isNone) w := fun w a n c => Lib.run_eql_slice_nil w _ _ a n c 0 0 Try.underlying44
  have HB := zA (Below.refl w.heap.size w)
  cases A0 with
  | none =>
   have hnil : l0 = [] := by
    cases l0 with
    | nil => rfl
    | cons x t => exact absurd hr0 (by intro hh; have := hh; simp [Kd.C, ReadsRow] at this)
   subst hnil
   clear hr0 hc0 hlen
   go_enter Try.func72, Try.ntmps72
   go_wp2
   go_ret
   exact ⟨_, rfl, Kd.R_nil _ _ _ _ _, HB.out⟩
  | some ad =>
   clear hr0 hc0 hlen
   go_enter Try.func72, Try.ntmps72
   go_wp2_with (first | ((with_reducible refine gate_dst (N := 5) rfl ?_); refine Kd.R_lit k82 _ 82 ?hg (N := 5) ?hd (xs := ([] : List S82)) (inner := []) (ok := fun _ => True) (okp := fun _ => True) ?hr ?hp (fun _ hk => hk) trivial (Below.refl _ _) (Nat.le_refl _) (by simp) ?_; (case hd => rfl); (case hg => rfl); (case hr => (go_simp; done)); (case hp => exact (Reps.none _ _)); intro v213 w3 ho4 hb hg_ hnew_; clear hg_ hnew_; have HO214 := zA (Kd.R_lower ho4 (below_size HB.out)); replace HB := zA (below_step HB.out hb); clear hb ho4) | ((with_reducible refine gate_builtin (b := .append) (xs := #[.tmp 5, .tmp 6]) rfl ?_); at_builtin; refine Kd.R_append_rows k82 (w0 := w) w.heap.size rfl (.tmp 5) (.tmp 6) 44 82 (.agg #[(.int .i64 0), (.int .i64 0), (.int .i64 0)]) 24 rfl Try.underlying44 info82 rfl (by decide) (by omega) v213 [] l0 _ _ _ (fun _ => True) (fun _ => False) rfl rfl ?aO ?aR (fun _ _ h => h) (fun _ h => h.elim) ?aF ?aB ?aS ?aL ?_; (case aR => exact Kd.C_below HR0.out HB.out); (case aB => exact HB.out); (case aF => exact (fun _ _ => trivial)); (case aO => exact HO214.out); (case aS => exact (below_size HB.out)); (case aL => have := LM.out; simp only [List.length_nil]; omega); intro v216 w5 ho hb hg hat; replace HB := zA hb; have HO217 := zA ho; clear ho hb hg hat))
   go_ret
   exact ⟨_, rfl, by have := HO217.out; simpa using this, HB.out⟩
 ·rw [if_neg hlen] at h
  cases h
end Go.Proofs.Ytfgclhojgaaepaa.PFnParcels
