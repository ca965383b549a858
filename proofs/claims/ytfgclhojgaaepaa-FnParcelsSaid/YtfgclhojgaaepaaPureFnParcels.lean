/- The pure side of FnParcels: what the program's text computes and what the reference's text computes are the same value, for every argument. No condition. -/
import Derived.Test.YtfgclhojgaaepaaPFnParcelsx22
namespace Go.Proofs.Ytfgclhojgaaepaa.Pure
open Go.RowKit Go.Proofs.Ytfgclhojgaaepaa.PFnParcels Go.Proofs.YtfgclhojgaaepaaW.PrintWords Go.Proofs.YtfgclhojgaaepaaW.PrintLast
set_option linter.unusedVariables false
set_option linter.unusedSimpArgs false

theorem ev_succ {α : Type} {g : Nat → Option α} {r : α} (h : Ev (fun k => g (k + 1)) r) : Ev g r := Ev.step (fun _ => rfl) h
theorem ev_pure {α : Type} {x : Option α} {r : α} (h : x = some r) : Ev (fun _ => x) r := ⟨0, fun _ _ => h⟩
theorem ev_eq {α : Type} {g : Nat → Option α} {r r' : α} (h : Ev g r) (e : r = r') : Ev g r' := e ▸ h
theorem ev_ite {α : Type} {c : Prop} [Decidable c] {g f : Nat → Option α} {r : α} (h1 : c → Ev g r) (h2 : ¬ c → Ev f r) : Ev (fun k => if c then g k else f k) r := by
 by_cases h : c
 ·simp only [h, if_true]; exact h1 h
 ·simp only [h, if_false]; exact h2 h
theorem w64 {x : Int} (h : -9223372036854775808 ≤ x) (h' : x ≤ 9223372036854775807) : wrap64 x = x := by unfold wrap64; omega
theorem w64_zero : wrap64 0 = 0 := w64 (by omega) (by omega)
theorem w64_idem (x : Int) : wrap64 (wrap64 x) = wrap64 x := by unfold wrap64; omega
theorem w64_add_l (x y : Int) : wrap64 (wrap64 x + y) = wrap64 (x + y) := by unfold wrap64; omega
theorem w64_add_r (x y : Int) : wrap64 (x + wrap64 y) = wrap64 (x + y) := by unfold wrap64; omega
theorem w64_sub_l (x y : Int) : wrap64 (wrap64 x - y) = wrap64 (x - y) := by unfold wrap64; omega
theorem w64_sub_r (x y : Int) : wrap64 (x - wrap64 y) = wrap64 (x - y) := by unfold wrap64; omega
theorem w64_shift (x k : Int) : wrap64 (x + 18446744073709551616 * k) = wrap64 x := by unfold wrap64; omega
theorem w64_ex (x : Int) : ∃ k, wrap64 x = x + 18446744073709551616 * k := by
 unfold wrap64
 exact ⟨-((x + 9223372036854775808) / 18446744073709551616), by omega⟩
theorem w64_mul_l (x y : Int) : wrap64 (wrap64 x * y) = wrap64 (x * y) := by
 obtain ⟨k, hk⟩ := w64_ex x
 rw [hk, Int.add_mul, Int.mul_assoc, w64_shift]
theorem w64_mul_r (x y : Int) : wrap64 (x * wrap64 y) = wrap64 (x * y) := by
 rw [Int.mul_comm, w64_mul_l, Int.mul_comm]
theorem w64_neg (x : Int) : wrap64 (-wrap64 x) = wrap64 (-x) := by unfold wrap64; omega
theorem w64_range (x : Int) : -9223372036854775808 ≤ wrap64 x ∧ wrap64 x ≤ 9223372036854775807 := by unfold wrap64; omega
theorem w64_nat {i n : Nat} (h : i < n) (hn : n ≤ 9223372036854775807) : wrap64 ((i : Int) + 1) = ((i + 1 : Nat) : Int) := by rw [w64 (by omega) (by omega)]; rfl
theorem wf_range {x : Int} (h : (Lit.int .i64 x).wf = true) : -9223372036854775808 ≤ x ∧ x ≤ 9223372036854775807 := by
 simp [Lit.wf, IntKind.min, IntKind.max, IntKind.signed, IntKind.bits] at h
 omega
theorem rd_nat {l : List Int} {i : Nat} (h : i < l.length) : rd l (i : Int) = l[i] := by
 unfold rd
 simp [List.getD_eq_getElem?_getD, h]
def allB (l : List Int) (a b : Int) : Bool := l.all fun x => decide (a ≤ x ∧ x ≤ b)
def inB (x a b : Int) : Bool := decide (a ≤ x ∧ x ≤ b)
theorem allB_mem {l : List Int} {a b : Int} (h : allB l a b = true) : ∀ x ∈ l, a ≤ x ∧ x ≤ b := by
 intro x hx
 have := List.all_eq_true.1 h x hx
 simpa using this
theorem inB_iff {x a b : Int} : inB x a b = true ↔ a ≤ x ∧ x ≤ b := by unfold inB; simp
theorem sum_le {l : List Int} {b : Int} (hb : ∀ x ∈ l, x ≤ b) : l.sum ≤ l.length * b := by
 induction l with
 | nil => simp
 | cons x l ih =>
  have h1 := hb x (by simp)
  have h2 := ih (fun y hy => hb y (by simp [hy]))
  rw [List.sum_cons, List.length_cons]
  have : ((l.length + 1 : Nat) : Int) * b = l.length * b + b := by rw [Int.natCast_add, Int.add_mul]; simp
  rw [this]; omega
theorem le_sum {l : List Int} {b : Int} (hb : ∀ x ∈ l, b ≤ x) : l.length * b ≤ l.sum := by
 induction l with
 | nil => simp
 | cons x l ih =>
  have h1 := hb x (by simp)
  have h2 := ih (fun y hy => hb y (by simp [hy]))
  rw [List.sum_cons, List.length_cons]
  have : ((l.length + 1 : Nat) : Int) * b = l.length * b + b := by rw [Int.natCast_add, Int.add_mul]; simp
  rw [this]; omega
theorem drop_cons {α : Type} {l : List α} {i : Nat} (h : i < l.length) : l.drop i = l[i] :: l.drop (i + 1) := List.drop_eq_getElem_cons h
theorem ev_yes {α : Type} {c : Prop} [Decidable c] {g f : Nat → Option α} {r : α} (h : c) (hg : Ev g r) : Ev (fun k => if c then g k else f k) r := ev_ite (fun _ => hg) (fun hn => absurd h hn)
theorem ev_no {α : Type} {c : Prop} [Decidable c] {g f : Nat → Option α} {r : α} (h : ¬ c) (hf : Ev f r) : Ev (fun k => if c then g k else f k) r := ev_ite (fun hn => absurd hn h) (fun _ => hf)

theorem spec_l1In_f (a b c : Int) : spec_l1In.f a b c = some (inB a b c) := by
 unfold spec_l1In.f inB
 by_cases h : a ≥ b
 ·rw [if_pos h]; congr 1; rw [decide_eq_decide]; omega
 ·rw [if_neg h]; congr 1; symm; rw [decide_eq_false_iff_not]; omega

def parcOk (l : List S82) : Nat → Nat → Bool
 | 0, _ => decide ((l.length : Int) ≤ 12)
 | d + 1, i => inB (rd_T82 l (i : Int)).f0 1 20 && (inB (rd_T82 l (i : Int)).f1 1 40 && (inB (rd_T82 l (i : Int)).f2 0 4 && ((if 0 < i then decide ((rd_T82 l ((i - 1 : Nat) : Int)).f0 ≤ (rd_T82 l (i : Int)).f0) else true) && parcOk l d (i + 1))))
def parcelsB (l : List S82) : Bool := parcOk l l.length 0
theorem rdP_nat {l : List S82} {i : Nat} (h : i < l.length) : rd_T82 l (i : Int) = l[i] := by
 unfold rd_T82
 simp [List.getD_eq_getElem?_getD, h]
theorem parcOk_mem (l : List S82) (d : Nat) : ∀ i : Nat, i + d = l.length → parcOk l d i = true → (l.length : Int) ≤ 12 ∧ ∀ j, i ≤ j → (hj : j < l.length) → (1 ≤ l[j].f0 ∧ l[j].f0 ≤ 20) ∧ (1 ≤ l[j].f1 ∧ l[j].f1 ≤ 40) ∧ (0 ≤ l[j].f2 ∧ l[j].f2 ≤ 4) ∧ ∀ hj0 : 0 < j, l[j - 1].f0 ≤ l[j].f0 := by
 induction d with
 | zero =>
  intro i hi h
  exact ⟨by simpa [parcOk] using h, fun j h1 h2 => by omega⟩
 | succ d ih =>
  intro i hi h
  have hi' : i < l.length := by omega
  unfold parcOk at h
  simp only [Bool.and_eq_true, inB_iff] at h
  obtain ⟨h1, h2, h3, h4, h5⟩ := h
  obtain ⟨hl, hall⟩ := ih (i + 1) (by omega) h5
  refine ⟨hl, fun j hj hjl => ?_⟩
  by_cases he : j = i
  ·subst he
   rw [rdP_nat hi'] at h1 h2 h3
   refine ⟨h1, h2, h3, fun hj0 => ?_⟩
   rw [if_pos hj0, rdP_nat (by omega), rdP_nat hi'] at h4
   simpa using h4
  ·exact hall j (by omega) hjl
theorem parcelsB_mem {l : List S82} (h : parcelsB l = true) : l.length ≤ 12 ∧ ∀ j (hj : j < l.length), (1 ≤ l[j].f0 ∧ l[j].f0 ≤ 20) ∧ (1 ≤ l[j].f1 ∧ l[j].f1 ≤ 40) ∧ (0 ≤ l[j].f2 ∧ l[j].f2 ≤ 4) ∧ ∀ hj0 : 0 < j, l[j - 1].f0 ≤ l[j].f0 := by
 obtain ⟨h1, h2⟩ := parcOk_mem l l.length 0 (by omega) h
 exact ⟨by omega, fun j hj => h2 j (by omega) hj⟩
def arrFrom (l : List S82) : Nat → Nat → List Int → List Int
 | 0, _, o => o
 | d + 1, i, o => arrFrom l d (i + 1) (o.set ((rd_T82 l (i : Int)).f0 + (rd_T82 l (i : Int)).f2 - 1).toNat (wrap64 (rd o ((rd_T82 l (i : Int)).f0 + (rd_T82 l (i : Int)).f2 - 1) + (rd_T82 l (i : Int)).f1)))
def arrV (l : List S82) : List Int := arrFrom l l.length 0 (List.replicate 24 0)
theorem arrFrom_length (l : List S82) (d : Nat) : ∀ (i : Nat) (o : List Int), (arrFrom l d i o).length = o.length := by
 induction d with
 | zero => intro i o; rfl
 | succ d ih => intro i o; rw [arrFrom, ih]; simp
theorem arrV_length (l : List S82) : (arrV l).length = 24 := by rw [arrV, arrFrom_length]; simp

theorem ev_spec_l11Parcels_l0 (l : List S82) (hl : l.length ≤ 9223372036854775807) (d : Nat) : ∀ i : Nat, i + d = l.length → Ev (fun k => spec_l11Parcels.l0 k l (i : Int)) (parcOk l d i) := by
 induction d with
 | zero =>
  intro i hi
  refine ev_succ ?_
  have h1 : ¬ (i : Int) < (l.length : Int) := by omega
  simp only [spec_l11Parcels.l0, h1, ↓reduceIte]
  exact Ev.now _
 | succ d ih =>
  intro i hi
  refine ev_succ ?_
  have h1 : (i : Int) < (l.length : Int) := by omega
  have h0 : (0 : Int) ≤ (i : Int) := by omega
  have hi' : i < l.length := by omega
  simp only [spec_l11Parcels.l0, h1, h0, ↓reduceIte, spec_l1In_f, Option.bind_some, w64_nat hi' hl]
  unfold parcOk
  refine ev_ite (fun c1 => ?_) (fun c1 => ?_)
  ·refine ev_ite (fun c2 => ?_) (fun c2 => ?_)
   ·refine ev_ite (fun c3 => ?_) (fun c3 => ?_)
    ·rw [c1, c2, c3]
     simp only [Bool.true_and]
     by_cases hp : 0 < i
     ·have hp' : (i : Int) > 0 := by omega
      have e : wrap64 ((i : Int) - 1) = ((i - 1 : Nat) : Int) := by rw [w64 (by omega) (by omega)]; omega
      have h2 : (0 : Int) ≤ ((i - 1 : Nat) : Int) := by omega
      have h3 : ((i - 1 : Nat) : Int) < (l.length : Int) := by omega
      simp only [hp, hp', e, h2, h3, ↓reduceIte]
      refine ev_ite (fun c4 => ?_) (fun c4 => ?_)
      ·exact ev_eq (Ev.now _) (by rw [decide_eq_false (by omega)]; rfl)
      ·exact ev_eq (ih (i + 1) (by omega)) (by rw [decide_eq_true (by omega)]; rfl)
     ·have hp' : ¬ (i : Int) > 0 := by omega
      simp only [hp, hp', ↓reduceIte, Bool.true_and]
      exact ih (i + 1) (by omega)
    ·exact ev_eq (Ev.now _) (by simp [c3])
   ·exact ev_eq (Ev.now _) (by simp [c2])
  ·exact ev_eq (Ev.now _) (by simp [c1])
theorem ev_spec_l11Parcels (l : List S82) (hl : l.length ≤ 9223372036854775807) : Ev (fun k => spec_l11Parcels.f k l) (parcelsB l) := by
 unfold spec_l11Parcels.f
 exact ev_spec_l11Parcels_l0 l hl l.length 0 (by omega)

def insI (x : Int) : List Int → List Int
 | [] => [x]
 | a :: L => if x < a then x :: a :: L else a :: insI x L
def Asc (l : List Int) : Prop := l.Pairwise (· ≤ ·)
theorem insI_mem {x y : Int} : ∀ {L : List Int}, y ∈ insI x L → y = x ∨ y ∈ L
 | [], h => by simp [insI] at h; exact Or.inl h
 | a :: L, h => by
  rw [insI] at h
  by_cases hc : x < a
  ·rw [if_pos hc] at h
   rcases List.mem_cons.1 h with h | h
   ·exact Or.inl h
   ·exact Or.inr h
  ·rw [if_neg hc] at h
   rcases List.mem_cons.1 h with h | h
   ·exact Or.inr (h ▸ List.mem_cons_self ..)
   ·rcases insI_mem h with h | h
    ·exact Or.inl h
    ·exact Or.inr (List.mem_cons_of_mem _ h)
theorem insI_asc {x : Int} : ∀ {L : List Int}, Asc L → Asc (insI x L)
 | [], _ => by simp [insI, Asc]
 | a :: L, h => by
  have h2 := List.pairwise_cons.1 h
  rw [insI]
  by_cases hc : x < a
  ·rw [if_pos hc]
   refine List.pairwise_cons.2 ⟨fun y hy => ?_, h⟩
   rcases List.mem_cons.1 hy with hy | hy
   ·omega
   ·have := h2.1 y hy; omega
  ·rw [if_neg hc]
   refine List.pairwise_cons.2 ⟨fun y hy => ?_, insI_asc h2.2⟩
   rcases insI_mem hy with hy | hy
   ·omega
   ·exact h2.1 y hy
theorem insI_len (x : Int) : ∀ L : List Int, (insI x L).length = L.length + 1
 | [] => rfl
 | a :: L => by
  rw [insI]
  split
  ·simp
  ·simp [insI_len x L]
theorem insI_perm (x : Int) : ∀ L : List Int, (insI x L).Perm (x :: L)
 | [] => List.Perm.refl _
 | a :: L => by
  rw [insI]
  split
  ·exact List.Perm.refl _
  ·exact ((insI_perm x L).cons a).trans (List.Perm.swap x a L)
def srtI (D : List Int) : List Int := D.foldl (fun L x => insI x L) []
theorem srt_go (D : List Int) : ∀ L : List Int, Asc L → Asc (D.foldl (fun L x => insI x L) L) ∧ (D.foldl (fun L x => insI x L) L).Perm (D ++ L) ∧ (D.foldl (fun L x => insI x L) L).length = D.length + L.length := by
 induction D with
 | nil => intro L h; exact ⟨h, List.Perm.refl _, by simp⟩
 | cons x D ih =>
  intro L h
  obtain ⟨a, b, c⟩ := ih (insI x L) (insI_asc h)
  refine ⟨a, b.trans ?_, by rw [List.foldl_cons, c, insI_len, List.length_cons]; omega⟩
  exact ((insI_perm x L).append_left D).trans List.perm_middle
theorem srtI_asc (D : List Int) : Asc (srtI D) := (srt_go D [] List.Pairwise.nil).1
theorem srtI_perm (D : List Int) : (srtI D).Perm D := by unfold srtI; simpa using (srt_go D [] List.Pairwise.nil).2.1
theorem srtI_len (D : List Int) : (srtI D).length = D.length := by unfold srtI; simpa using (srt_go D [] List.Pairwise.nil).2.2
def LeL : List Int → List Int → Prop
 | [], [] => True
 | a :: L, b :: M => a ≤ b ∧ LeL L M
 | _, _ => False
theorem LeL_refl : ∀ L : List Int, LeL L L
 | [] => trivial
 | a :: L => ⟨Int.le_refl _, LeL_refl L⟩
theorem insI_head {a : Int} : ∀ {L : List Int}, Asc (a :: L) → insI a L = a :: L
 | [], _ => rfl
 | c :: L, h => by
  have h2 := List.pairwise_cons.1 h
  have hac := h2.1 c (List.mem_cons_self ..)
  rw [insI]
  by_cases hc : a < c
  ·rw [if_pos hc]
  ·rw [if_neg hc]
   have : a = c := by omega
   subst this
   rw [insI_head h2.2]
theorem insI_mono {x y : Int} (hxy : x ≤ y) : ∀ {L M : List Int}, Asc L → Asc M → LeL L M → LeL (insI x L) (insI y M)
 | [], [], _, _, _ => ⟨hxy, trivial⟩
 | [], _ :: _, _, _, h => h.elim
 | _ :: _, [], _, _, h => h.elim
 | a :: L, b :: M, hL, hM, h => by
  have hL2 := List.pairwise_cons.1 hL
  have hM2 := List.pairwise_cons.1 hM
  obtain ⟨hab, hLM⟩ := h
  rw [insI, insI]
  by_cases c1 : x < a
  ·rw [if_pos c1]
   by_cases c2 : y < b
   ·rw [if_pos c2]; exact ⟨hxy, hab, hLM⟩
   ·rw [if_neg c2]
    refine ⟨by omega, ?_⟩
    have := insI_mono (show a ≤ y by omega) hL2.2 hM2.2 hLM
    rw [insI_head hL] at this
    exact this
  ·rw [if_neg c1]
   by_cases c2 : y < b
   ·rw [if_pos c2]
    refine ⟨by omega, ?_⟩
    have := insI_mono (show x ≤ b by omega) hL2.2 hM2.2 hLM
    rw [insI_head hM] at this
    exact this
   ·rw [if_neg c2]
    exact ⟨hab, insI_mono hxy hL2.2 hM2.2 hLM⟩
theorem srt_mono : ∀ {D E : List Int}, LeL D E → ∀ {L M : List Int}, Asc L → Asc M → LeL L M → LeL (D.foldl (fun L x => insI x L) L) (E.foldl (fun L x => insI x L) M)
 | [], [], _, L, M, _, _, h => h
 | [], _ :: _, hD, _, _, _, _, _ => hD.elim
 | _ :: _, [], hD, _, _, _, _, _ => hD.elim
 | _ :: _, _ :: _, hD, _, _, hL, hM, h => srt_mono hD.2 (insI_asc hL) (insI_asc hM) (insI_mono hD.1 hL hM h)
theorem asc_unique : ∀ {L M : List Int}, Asc L → Asc M → L.Perm M → L = M
 | [], M, _, _, h => (List.Perm.nil_eq h)
 | a :: L, [], _, _, h => by have := h.length_eq; simp at this
 | a :: L, b :: M, hL, hM, h => by
  have hL2 := List.pairwise_cons.1 hL
  have hM2 := List.pairwise_cons.1 hM
  have h1 : a ∈ b :: M := h.mem_iff.1 (List.mem_cons_self ..)
  have h2 : b ∈ a :: L := h.mem_iff.2 (List.mem_cons_self ..)
  have e : a = b := by
   rcases List.mem_cons.1 h1 with h1 | h1
   ·exact h1
   ·rcases List.mem_cons.1 h2 with h2 | h2
    ·exact h2.symm
    ·have := hL2.1 b h2; have := hM2.1 a h1; omega
  subst e
  rw [asc_unique hL2.2 hM2.2 (List.Perm.cons_inv h)]
theorem srtI_of_perm {D E : List Int} (h : E.Perm D) (hE : Asc E) : E = srtI D := asc_unique hE (srtI_asc D) (h.trans (srtI_perm D).symm)
theorem srtI_self {D : List Int} (h : Asc D) : srtI D = D := (srtI_of_perm (List.Perm.refl _) h).symm
def arrD (l : List S82) : List Int := l.map fun x => x.f0 + x.f2
def sameB (l : List S82) : Bool := l.all fun x => x.f1 == (rd_T82 l 0).f1
def strAt (E : List Int) (i : Nat) (x : S82) : S82 := ⟨x.f0, x.f1, rd E (i : Int) - x.f0⟩
def strL (l : List S82) : List S82 := l.mapIdx (strAt (srtI (arrD l)))
def straightV (l : List S82) : List S82 × Bool := if (parcelsB l && sameB l) = true then (strL l, true) else ([], false)
theorem strL_len (l : List S82) : (strL l).length = l.length := by simp [strL]
theorem strL_get {l : List S82} {i : Nat} (h : i < (strL l).length) : (strL l)[i] = strAt (srtI (arrD l)) i (l[i]'(by rw [strL_len] at h; exact h)) := by
 simp [strL]
theorem straightV_len (l : List S82) : (straightV l).1.length ≤ 12 := by
 unfold straightV
 split
 ·rename_i h
  rw [Bool.and_eq_true] at h
  have := (parcelsB_mem h.1).1
  dsimp only
  rw [strL_len]
  exact this
 ·simp
theorem LeL_get : ∀ {L M : List Int}, LeL L M → ∀ (i : Nat) (h : i < L.length) (h2 : i < M.length), L[i] ≤ M[i]
 | [], [], _, i, h, _ => by simp at h
 | [], _ :: _, hD, _, _, _ => hD.elim
 | _ :: _, [], hD, _, _, _ => hD.elim
 | _ :: _, _ :: _, hD, 0, _, _ => hD.1
 | _ :: _, _ :: _, hD, i + 1, h, h2 => LeL_get hD.2 i (by simp at h; omega) (by simp at h2; omega)
theorem LeL_map {f g : S82 → Int} : ∀ l : List S82, (∀ x ∈ l, f x ≤ g x) → LeL (l.map f) (l.map g)
 | [], _ => trivial
 | a :: l, h => ⟨h a (List.mem_cons_self ..), LeL_map l fun x hx => h x (List.mem_cons_of_mem _ hx)⟩
theorem asc_of {l : List Int} (h : ∀ (j : Nat) (hj : j + 1 < l.length), l[j]'(by omega) ≤ l[j + 1]) : Asc l := by
 induction l with
 | nil => exact List.Pairwise.nil
 | cons a l ih =>
  have ih := ih (fun j hj => h (j + 1) (by simp; omega))
  refine List.pairwise_cons.2 ⟨fun y hy => ?_, ih⟩
  cases l with
  | nil => simp at hy
  | cons b l =>
   have h0 := h 0 (by simp)
   simp at h0
   rcases List.mem_cons.1 hy with hy | hy
   ·omega
   ·have := (List.pairwise_cons.1 ih).1 y hy; omega
theorem strL_lead {l : List S82} (hp : parcelsB l = true) {i : Nat} (hi : i < l.length) : l[i].f0 ≤ rd (srtI (arrD l)) (i : Int) ∧ rd (srtI (arrD l)) (i : Int) ≤ l[i].f0 + 4 := by
 have hm := (parcelsB_mem hp).2
 have hmem : ∀ x ∈ l, 0 ≤ x.f2 ∧ x.f2 ≤ 4 := fun x hx => by
  obtain ⟨j, hj, rfl⟩ := List.getElem_of_mem hx
  exact (hm j hj).2.2.1
 have hA : Asc (l.map fun x => x.f0) := asc_of fun j hj => by
  simp at hj ⊢
  have := (hm (j + 1) hj).2.2.2 (by omega)
  simpa using this
 have hB : Asc (l.map fun x => x.f0 + 4) := asc_of fun j hj => by
  simp at hj ⊢
  have := (hm (j + 1) hj).2.2.2 (by omega)
  simp at this
  omega
 have h1 := srt_mono (LeL_map (f := fun x => x.f0) (g := fun x => x.f0 + x.f2) l fun x hx => by have := hmem x hx; omega) List.Pairwise.nil List.Pairwise.nil (L := []) (M := []) trivial
 have h2 := srt_mono (LeL_map (f := fun x => x.f0 + x.f2) (g := fun x => x.f0 + 4) l fun x hx => by have := hmem x hx; omega) List.Pairwise.nil List.Pairwise.nil (L := []) (M := []) trivial
 have e1 := srtI_self hA
 have e2 := srtI_self hB
 unfold srtI at e1 e2
 rw [e1] at h1
 rw [e2] at h2
 have hlen : (srtI (arrD l)).length = l.length := by rw [srtI_len]; simp [arrD]
 have g1 := LeL_get h1 i (by simpa using hi) (by show i < (srtI (arrD l)).length; omega)
 have g2 := LeL_get h2 i (by show i < (srtI (arrD l)).length; omega) (by simpa using hi)
 rw [rd_nat (show i < (srtI (arrD l)).length by omega)]
 simp only [List.getElem_map] at g1 g2
 exact ⟨g1, g2⟩
theorem parcOk_of (l : List S82) (hl : l.length ≤ 12) (d : Nat) : ∀ i : Nat, i + d = l.length → (∀ j, i ≤ j → (hj : j < l.length) → (1 ≤ l[j].f0 ∧ l[j].f0 ≤ 20) ∧ (1 ≤ l[j].f1 ∧ l[j].f1 ≤ 40) ∧ (0 ≤ l[j].f2 ∧ l[j].f2 ≤ 4) ∧ ∀ hj0 : 0 < j, l[j - 1].f0 ≤ l[j].f0) → parcOk l d i = true := by
 induction d with
 | zero => intro i hi h; simp [parcOk]; omega
 | succ d ih =>
  intro i hi h
  have hi' : i < l.length := by omega
  obtain ⟨h1, h2, h3, h4⟩ := h i (Nat.le_refl _) hi'
  unfold parcOk
  simp only [Bool.and_eq_true, inB_iff]
  rw [rdP_nat hi']
  refine ⟨h1, h2, h3, ?_, ih (i + 1) (by omega) (fun j hj hjl => h j (by omega) hjl)⟩
  by_cases hj0 : 0 < i
  ·rw [if_pos hj0, rdP_nat (by omega)]
   exact decide_eq_true (h4 hj0)
  ·rw [if_neg hj0]
theorem strL_parcels {l : List S82} (hp : parcelsB l = true) : parcelsB (strL l) = true := by
 obtain ⟨h0, hm⟩ := parcelsB_mem hp
 refine parcOk_of _ (by rw [strL_len]; exact h0) _ 0 (by omega) (fun j _ hj => ?_)
 have hj2 : j < l.length := by rw [strL_len] at hj; exact hj
 obtain ⟨h1, h2, h3, h4⟩ := hm j hj2
 have hl := strL_lead hp hj2
 rw [strL_get hj]
 refine ⟨h1, h2, ⟨?_, ?_⟩, fun hj0 => ?_⟩
 ·show 0 ≤ rd (srtI (arrD l)) (j : Int) - l[j].f0; omega
 ·show rd (srtI (arrD l)) (j : Int) - l[j].f0 ≤ 4; omega
 ·rw [strL_get]
  exact h4 hj0
theorem strL_arrD (l : List S82) : arrD (strL l) = srtI (arrD l) := by
 have hlen : (srtI (arrD l)).length = l.length := by rw [srtI_len]; simp [arrD]
 refine List.ext_getElem (by rw [hlen]; simp [arrD, strL_len]) (fun i h1 h2 => ?_)
 have h3 : i < (strL l).length := by simpa [arrD] using h1
 simp only [arrD, List.getElem_map]
 rw [strL_get h3]
 show l[i].f0 + (rd (srtI (arrD l)) (i : Int) - l[i].f0) = _
 rw [rd_nat h2]
 simp only [arrD]
 omega

theorem arrFrom_rd (l : List S82) (A : Int) (hA : 0 ≤ A ∧ A ≤ 40) (hl : l.length ≤ 12) (hd : ∀ x ∈ l, x.f1 = A ∧ 1 ≤ x.f0 + x.f2 ∧ x.f0 + x.f2 ≤ 24) (d : Nat) : ∀ (i : Nat) (o : List Int), i + d = l.length → o.length = 24 → (∀ j : Nat, 0 ≤ rd o (j : Int) ∧ rd o (j : Int) ≤ 40 * i) → ∀ j : Nat, j < 24 → rd (arrFrom l d i o) (j : Int) = rd o (j : Int) + A * (((arrD l).drop i).count ((j : Int) + 1) : Nat) := by
 induction d with
 | zero =>
  intro i o hi ho hr j hj
  rw [arrFrom, List.drop_of_length_le (by simp [arrD]; omega)]
  simp
 | succ d ih =>
  intro i o hi ho hr j hj
  have hi' : i < l.length := by omega
  obtain ⟨h1, h2, h3⟩ := hd _ (List.getElem_mem hi')
  rw [arrFrom, rdP_nat hi', h1]
  obtain ⟨q, hq⟩ : ∃ q : Nat, l[i].f0 + l[i].f2 - 1 = (q : Int) := ⟨(l[i].f0 + l[i].f2 - 1).toNat, by omega⟩
  rw [hq, Int.toNat_natCast]
  have r := hr q
  have ew : wrap64 (rd o (q : Int) + A) = rd o (q : Int) + A := w64 (by omega) (by omega)
  rw [ew]
  have hset : ∀ x : Nat, rd (o.set q (rd o (q : Int) + A)) (x : Int) = if x = q then rd o (q : Int) + A else rd o (x : Int) := by
   intro x
   unfold rd
   simp only [List.getD_eq_getElem?_getD, Int.toNat_natCast]
   by_cases e : x = q
   ·subst e
    rw [if_pos rfl, List.getElem?_set_self (by omega)]
    rfl
   ·rw [if_neg e, List.getElem?_set_ne (by omega)]
  rw [ih (i + 1) _ (by omega) (by rw [List.length_set]; exact ho) (fun x => by
   rw [hset]
   have := hr x
   split <;> omega) j hj, hset]
  have hdr : (arrD l).drop i = (l[i].f0 + l[i].f2) :: (arrD l).drop (i + 1) := by
   rw [drop_cons (show i < (arrD l).length by simp [arrD]; omega)]
   simp [arrD]
  rw [hdr, List.count_cons]
  by_cases e : j = q
  ·subst e
   have : (l[i].f0 + l[i].f2 == (j : Int) + 1) = true := by rw [beq_iff_eq]; omega
   rw [if_pos rfl, this, if_pos rfl, Int.natCast_add, Int.mul_add]
   simp
   omega
  ·have : (l[i].f0 + l[i].f2 == (j : Int) + 1) = false := by rw [beq_eq_false_iff_ne]; omega
   rw [if_neg e, this]
   simp
theorem sameB_spec {l : List S82} (h : sameB l = true) : ∀ x ∈ l, x.f1 = (rd_T82 l 0).f1 := fun x hx => by
 have := List.all_eq_true.1 h x hx
 simpa using this
theorem rd_ext {L M : List Int} (h1 : L.length = 24) (h2 : M.length = 24) (h : ∀ j : Nat, j < 24 → rd L (j : Int) = rd M (j : Int)) : L = M := by
 refine List.ext_getElem (by omega) (fun i h3 h4 => ?_)
 have := h i (by omega)
 rw [rd_nat h3, rd_nat h4] at this
 exact this
theorem arrV_straight {l : List S82} (hp : parcelsB l = true) (hs : sameB l = true) : arrV (strL l) = arrV l := by
 obtain ⟨h0, hm⟩ := parcelsB_mem hp
 have hp2 := strL_parcels hp
 obtain ⟨h02, hm2⟩ := parcelsB_mem hp2
 by_cases hn : l = []
 ·subst hn; rfl
 have hpos : 0 < l.length := List.length_pos_iff.2 hn
 have hA : 0 ≤ (rd_T82 l 0).f1 ∧ (rd_T82 l 0).f1 ≤ 40 := by
  have := rdP_nat hpos
  rw [show ((0 : Nat) : Int) = 0 from rfl] at this
  rw [this]
  have := (hm 0 hpos).2.1
  omega
 have hd1 : ∀ x ∈ l, x.f1 = (rd_T82 l 0).f1 ∧ 1 ≤ x.f0 + x.f2 ∧ x.f0 + x.f2 ≤ 24 := fun x hx => by
  obtain ⟨j, hj, rfl⟩ := List.getElem_of_mem hx
  have := hm j hj
  exact ⟨sameB_spec hs _ (List.getElem_mem hj), by omega, by omega⟩
 have hd2 : ∀ x ∈ strL l, x.f1 = (rd_T82 l 0).f1 ∧ 1 ≤ x.f0 + x.f2 ∧ x.f0 + x.f2 ≤ 24 := fun x hx => by
  obtain ⟨j, hj, rfl⟩ := List.getElem_of_mem hx
  have := hm2 j hj
  refine ⟨?_, by omega, by omega⟩
  rw [strL_get hj]
  exact sameB_spec hs (l[j]'(by rw [strL_len] at hj; exact hj)) (List.getElem_mem _)
 have hz : ∀ j : Nat, 0 ≤ rd (List.replicate 24 (0 : Int)) (j : Int) ∧ rd (List.replicate 24 (0 : Int)) (j : Int) ≤ 40 * ((0 : Nat) : Int) := fun j => by
  unfold rd
  rw [List.getD_eq_getElem?_getD, List.getElem?_replicate]
  split <;> simp
 refine rd_ext (arrV_length _) (arrV_length _) (fun j hj => ?_)
 unfold arrV
 rw [arrFrom_rd l _ hA h0 hd1 l.length 0 _ (by omega) (by simp) hz j hj, arrFrom_rd (strL l) _ hA h02 hd2 (strL l).length 0 _ (by omega) (by simp) hz j hj, List.drop_zero, List.drop_zero, strL_arrD, (srtI_perm (arrD l)).count_eq]
theorem set_sum {o : List Int} {q : Nat} {v : Int} (h : q < o.length) : (o.set q v).sum = o.sum - o[q] + v := by
 induction o generalizing q with
 | nil => simp at h
 | cons a o ih =>
  cases q with
  | zero => simp; omega
  | succ q =>
   simp at h
   have := ih h
   simp
   omega
theorem arrFrom_sum (l : List S82) (hl : l.length ≤ 12) (hd : ∀ x ∈ l, (1 ≤ x.f1 ∧ x.f1 ≤ 40) ∧ 1 ≤ x.f0 + x.f2 ∧ x.f0 + x.f2 ≤ 24) (d : Nat) : ∀ (i : Nat) (o : List Int), i + d = l.length → o.length = 24 → (∀ j : Nat, 0 ≤ rd o (j : Int) ∧ rd o (j : Int) ≤ 40 * i) → (arrFrom l d i o).sum = o.sum + ((l.drop i).map fun x => x.f1).sum ∧ ∀ j : Nat, 0 ≤ rd (arrFrom l d i o) (j : Int) ∧ rd (arrFrom l d i o) (j : Int) ≤ 480 := by
 induction d with
 | zero =>
  intro i o hi ho hr
  rw [arrFrom, List.drop_of_length_le (by omega)]
  refine ⟨by simp, fun j => ?_⟩
  have := hr j
  omega
 | succ d ih =>
  intro i o hi ho hr
  have hi' : i < l.length := by omega
  obtain ⟨h1, h2, h3⟩ := hd _ (List.getElem_mem hi')
  rw [arrFrom, rdP_nat hi']
  obtain ⟨q, hq⟩ : ∃ q : Nat, l[i].f0 + l[i].f2 - 1 = (q : Int) := ⟨(l[i].f0 + l[i].f2 - 1).toNat, by omega⟩
  rw [hq, Int.toNat_natCast]
  have r := hr q
  have ew : wrap64 (rd o (q : Int) + l[i].f1) = rd o (q : Int) + l[i].f1 := w64 (by omega) (by omega)
  rw [ew]
  have hset : ∀ x : Nat, rd (o.set q (rd o (q : Int) + l[i].f1)) (x : Int) = if x = q then rd o (q : Int) + l[i].f1 else rd o (x : Int) := by
   intro x
   unfold rd
   simp only [List.getD_eq_getElem?_getD, Int.toNat_natCast]
   by_cases e : x = q
   ·subst e
    rw [if_pos rfl, List.getElem?_set_self (by omega)]
    rfl
   ·rw [if_neg e, List.getElem?_set_ne (by omega)]
  obtain ⟨a, b⟩ := ih (i + 1) (o.set q (rd o (q : Int) + l[i].f1)) (by omega) (by rw [List.length_set]; exact ho) (fun x => by
   rw [hset]
   have := hr x
   split <;> omega)
  refine ⟨?_, b⟩
  have hqo : q < o.length := by omega
  rw [a, drop_cons hi', List.map_cons, List.sum_cons, set_sum hqo, rd_nat hqo]
  omega
theorem arrV_sum {l : List S82} (hp : parcelsB l = true) : (arrV l).sum = (l.map fun x => x.f1).sum ∧ (∀ x ∈ arrV l, 0 ≤ x ∧ x ≤ 480) := by
 obtain ⟨h0, hm⟩ := parcelsB_mem hp
 have hd : ∀ x ∈ l, (1 ≤ x.f1 ∧ x.f1 ≤ 40) ∧ 1 ≤ x.f0 + x.f2 ∧ x.f0 + x.f2 ≤ 24 := fun x hx => by
  obtain ⟨j, hj, rfl⟩ := List.getElem_of_mem hx
  have := hm j hj
  omega
 have hz : ∀ j : Nat, 0 ≤ rd (List.replicate 24 (0 : Int)) (j : Int) ∧ rd (List.replicate 24 (0 : Int)) (j : Int) ≤ 40 * ((0 : Nat) : Int) := fun j => by
  unfold rd
  rw [List.getD_eq_getElem?_getD, List.getElem?_replicate]
  split <;> simp
 obtain ⟨a, b⟩ := arrFrom_sum l h0 hd l.length 0 (List.replicate 24 0) (by omega) (by simp) hz
 refine ⟨by unfold arrV; rw [a]; simp, fun x hx => ?_⟩
 obtain ⟨j, hj, rfl⟩ := List.getElem_of_mem hx
 have := b j
 unfold arrV at hj ⊢
 rw [rd_nat hj] at this
 exact this

theorem ins_at {x : Int} : ∀ {L : List Int} {j : Nat}, (∀ y ∈ L.take j, y ≤ x) → (∀ y, L[j]? = some y → x < y) → L.take j ++ x :: L.drop j = insI x L
 | [], j, _, _ => by simp [insI]
 | a :: L, 0, _, h2 => by
  have := h2 a (by simp)
  rw [insI, if_pos this]; simp
 | a :: L, j + 1, h1, h2 => by
  have ha := h1 a (by simp)
  rw [insI, if_neg (by omega), ← ins_at (L := L) (j := j) (fun y hy => h1 y (by simp [hy])) (fun y hy => h2 y (by simpa using hy))]
  simp
theorem ev_spec_StraightLeads_l1 (l : List S82) (L : List Int) (hL : L.length ≤ 100) (i : Nat) (hi : i < 1000) (x : Int) (R : List S82 × Bool) (hk : Ev (fun k => spec_StraightLeads.l0 k l [] (insI x L) ((i + 1 : Nat) : Int)) R) (d : Nat) : ∀ j : Nat, j + d = L.length → (∀ y ∈ L.take j, y ≤ x) → Ev (fun k => spec_StraightLeads.l1 k l [] L (i : Int) x (j : Int)) R := by
 have ei : wrap64 ((i : Int) + 1) = ((i + 1 : Nat) : Int) := by rw [w64 (by omega) (by omega)]; rfl
 induction d with
 | zero =>
  intro j hj hy
  refine ev_succ ?_
  have h1 : ¬ (j : Int) < (L.length : Int) := by omega
  have h2 : (0 : Int) ≤ (j : Int) := by omega
  have h3 : (j : Int) ≤ (L.length : Int) := by omega
  have e : L.take j ++ x :: L.drop j = insI x L := ins_at hy (fun y h => by rw [List.getElem?_eq_none (by omega)] at h; cases h)
  have e2 : (([] ++ L.take j) ++ [x]) ++ L.drop j = insI x L := by rw [← e]; simp
  have g1 : ([] : List Int).length + (L.take j).length < 17592186044416 := by simp; omega
  have g2 : ([] ++ L.take j : List Int).length + [x].length < 17592186044416 := by simp; omega
  have g3 : ([] ++ L.take j ++ [x] : List Int).length + (L.drop j).length < 17592186044416 := by simp; omega
  simp only [spec_StraightLeads.l1, h1, h2, h3, Option.bind_some, Int.toNat_natCast, g1, g2, g3, ↓reduceIte, e2, ei]
  exact hk
 | succ d ih =>
  intro j hj hy
  refine ev_succ ?_
  have hj' : j < L.length := by omega
  have h1 : (j : Int) < (L.length : Int) := by omega
  have h2 : (0 : Int) ≤ (j : Int) := by omega
  have h3 : (j : Int) ≤ (L.length : Int) := by omega
  have g1 : ([] : List Int).length + (L.take j).length < 17592186044416 := by simp; omega
  have g2 : ([] ++ L.take j : List Int).length + [x].length < 17592186044416 := by simp; omega
  have g3 : ([] ++ L.take j ++ [x] : List Int).length + (L.drop j).length < 17592186044416 := by simp; omega
  simp only [spec_StraightLeads.l1, h1, h2, h3, Option.bind_some, Int.toNat_natCast, g1, g2, g3, ↓reduceIte, ei, w64_nat hj' (by omega : L.length ≤ 9223372036854775807)]
  refine ev_ite (fun c => ?_) (fun c => ?_)
  ·refine ih (j + 1) (by omega) (fun y h => ?_)
   rw [rd_nat hj'] at c
   rw [List.take_add_one, List.getElem?_eq_getElem hj'] at h
   rcases List.mem_append.1 h with h | h
   ·exact hy y h
   ·simp at h; omega
  ·have e : L.take j ++ x :: L.drop j = insI x L := ins_at hy (fun y h => by
    rw [rd_nat hj'] at c
    rw [List.getElem?_eq_getElem hj'] at h
    have := Option.some.inj h
    omega)
   have e2 : (([] ++ L.take j) ++ [x]) ++ L.drop j = insI x L := by rw [← e]; simp
   rw [e2]
   exact hk
theorem ev_spec_StraightLeads_l2 {l : List S82} (hp : parcelsB l = true) (d : Nat) : ∀ i : Nat, i + d = l.length → Ev (fun k => spec_StraightLeads.l2 k l ((strL l).take i) (srtI (arrD l)) (i : Int)) (strL l, true) := by
 have hlen : (srtI (arrD l)).length = l.length := by rw [srtI_len]; simp [arrD]
 have h12 := (parcelsB_mem hp).1
 induction d with
 | zero =>
  intro i hi
  refine ev_succ ?_
  have h1 : ¬ (i : Int) < (l.length : Int) := by omega
  simp only [spec_StraightLeads.l2, h1, ↓reduceIte]
  rw [List.take_of_length_le (by rw [strL_len]; omega)]
  exact Ev.now _
 | succ d ih =>
  intro i hi
  refine ev_succ ?_
  have hi' : i < l.length := by omega
  have h1 : (i : Int) < (l.length : Int) := by omega
  have h2 : (0 : Int) ≤ (i : Int) := by omega
  have h3 : (i : Int) < ((srtI (arrD l)).length : Int) := by omega
  have h4 : ((strL l).take i).length + 1 < 5864062014805 := by simp; omega
  have hb := strL_lead hp hi'
  have hm := ((parcelsB_mem hp).2 i hi').1
  have e : wrap64 (rd (srtI (arrD l)) (i : Int) - l[i].f0) = rd (srtI (arrD l)) (i : Int) - l[i].f0 := w64 (by omega) (by omega)
  simp only [spec_StraightLeads.l2, h1, h2, h3, Option.bind_some, List.length_singleton, h4, ↓reduceIte, w64_nat hi' (by omega : l.length ≤ 9223372036854775807), rdP_nat hi', e]
  refine ev_eq (g := fun k => spec_StraightLeads.l2 k l _ (srtI (arrD l)) ((i + 1 : Nat) : Int)) ?_ rfl
  have ht : (strL l).take (i + 1) = (strL l).take i ++ [⟨l[i].f0, l[i].f1, rd (srtI (arrD l)) (i : Int) - l[i].f0⟩] := by
   rw [List.take_add_one, List.getElem?_eq_getElem (by rw [strL_len]; exact hi'), strL_get]
   rfl
  rw [← ht]
  exact ih (i + 1) (by omega)
theorem sameB_no {l : List S82} {i : Nat} (hi : i < l.length) (h : ¬ l[i].f1 = (rd_T82 l 0).f1) : sameB l = false := by
 cases hs : sameB l with
 | false => rfl
 | true => exact absurd (sameB_spec hs _ (List.getElem_mem hi)) h
theorem ev_spec_StraightLeads_l0 {l : List S82} (hp : parcelsB l = true) (d : Nat) : ∀ i : Nat, i + d = l.length → (∀ j : Nat, (hj : j < l.length) → j < i → l[j].f1 = (rd_T82 l 0).f1) → Ev (fun k => spec_StraightLeads.l0 k l [] (((arrD l).take i).foldl (fun L x => insI x L) []) (i : Int)) (if sameB l = true then (strL l, true) else ([], false)) := by
 have hal : (arrD l).length = l.length := by simp [arrD]
 obtain ⟨h12, hm⟩ := parcelsB_mem hp
 induction d with
 | zero =>
  intro i hi hj
  refine ev_succ ?_
  have h1 : ¬ (i : Int) < (l.length : Int) := by omega
  simp only [spec_StraightLeads.l0, h1, ↓reduceIte]
  rw [List.take_of_length_le (by omega)]
  have hs : sameB l = true := List.all_eq_true.2 fun x hx => by
   obtain ⟨j, hj2, rfl⟩ := List.getElem_of_mem hx
   simpa using hj j hj2 (by omega)
  rw [if_pos hs]
  have := ev_spec_StraightLeads_l2 hp l.length 0 (by omega)
  simpa [srtI] using this
 | succ d ih =>
  intro i hi hj
  refine ev_succ ?_
  have hi' : i < l.length := by omega
  have h1 : (i : Int) < (l.length : Int) := by omega
  have h2 : (0 : Int) ≤ (i : Int) := by omega
  have h3 : (0 : Int) < (l.length : Int) := by omega
  simp only [spec_StraightLeads.l0, h1, h2, h3, ↓reduceIte, rdP_nat hi']
  refine ev_ite (fun c => ?_) (fun c => ?_)
  ·have hb := hm i hi'
   have e : wrap64 (l[i].f0 + l[i].f2) = l[i].f0 + l[i].f2 := w64 (by omega) (by omega)
   rw [e]
   have hlen : (((arrD l).take i).foldl (fun L x => insI x L) []).length = i := by rw [(srt_go _ [] List.Pairwise.nil).2.2]; simp; omega
   have ht : ((arrD l).take (i + 1)).foldl (fun L x => insI x L) [] = insI (l[i].f0 + l[i].f2) (((arrD l).take i).foldl (fun L x => insI x L) []) := by
    rw [List.take_add_one, List.getElem?_eq_getElem (by omega)]
    simp [arrD]
   refine ev_spec_StraightLeads_l1 l _ (by omega) i (by omega) _ _ ?_ _ 0 (by omega : 0 + i = _) (by simp)
   rw [← ht]
   exact ih (i + 1) (by omega) (fun j hj2 h => by
    by_cases e2 : j = i
    ·subst e2; exact c
    ·exact hj j hj2 (by omega))
  ·rw [if_neg (by rw [sameB_no hi' c]; simp)]
   exact Ev.now _
theorem ev_spec_StraightLeads (l : List S82) (hl : l.length ≤ 9223372036854775807) : Ev (fun k => spec_StraightLeads.f k l) (straightV l) := by
 unfold spec_StraightLeads.f straightV
 simp only [Option.bind_some]
 refine Ev.bind (ev_spec_l11Parcels l hl) ?_
 refine ev_ite (fun h => ?_) (fun h => ?_)
 ·have := ev_spec_StraightLeads_l0 h l.length 0 (by omega) (fun j _ hj => by omega)
  refine ev_eq (by simpa using this) ?_
  simp [h]
 ·exact ev_eq (Ev.now _) (by simp [h])

theorem impl_within_f (a b c : Int) : impl_within.f a b c = some (inB a b c) := by
 unfold impl_within.f inB
 by_cases h : a ≥ b
 ·rw [if_pos h]; congr 1; rw [decide_eq_decide]; omega
 ·rw [if_neg h]; congr 1; symm; rw [decide_eq_false_iff_not]; omega

theorem ev_impl_areParcels_l0 (l : List S82) (hl : l.length ≤ 9223372036854775807) (d : Nat) : ∀ i : Nat, i + d = l.length → Ev (fun k => impl_areParcels.l0 k l l (l.length : Int) (i : Int)) (parcOk l d i) := by
 induction d with
 | zero =>
  intro i hi
  refine ev_succ ?_
  have h1 : ¬ (i : Int) < (l.length : Int) := by omega
  simp only [impl_areParcels.l0, h1, ↓reduceIte]
  exact Ev.now _
 | succ d ih =>
  intro i hi
  refine ev_succ ?_
  have h1 : (i : Int) < (l.length : Int) := by omega
  have h0 : (0 : Int) ≤ (i : Int) := by omega
  have hi' : i < l.length := by omega
  simp only [impl_areParcels.l0, h1, h0, ↓reduceIte, impl_within_f, Option.bind_some, w64_nat hi' hl]
  unfold parcOk
  refine ev_ite (fun c1 => ?_) (fun c1 => ?_)
  ·refine ev_ite (fun c2 => ?_) (fun c2 => ?_)
   ·refine ev_ite (fun c3 => ?_) (fun c3 => ?_)
    ·rw [c1, c2, c3]
     simp only [Bool.true_and]
     by_cases hp : 0 < i
     ·have hp' : (i : Int) > 0 := by omega
      have e : wrap64 ((i : Int) - 1) = ((i - 1 : Nat) : Int) := by rw [w64 (by omega) (by omega)]; omega
      have h2 : (0 : Int) ≤ ((i - 1 : Nat) : Int) := by omega
      have h3 : ((i - 1 : Nat) : Int) < (l.length : Int) := by omega
      simp only [hp, hp', e, h2, h3, ↓reduceIte]
      refine ev_ite (fun c4 => ?_) (fun c4 => ?_)
      ·exact ev_eq (Ev.now _) (by rw [decide_eq_false (by omega)]; rfl)
      ·exact ev_eq (ih (i + 1) (by omega)) (by rw [decide_eq_true (by omega)]; rfl)
     ·have hp' : ¬ (i : Int) > 0 := by omega
      simp only [hp, hp', ↓reduceIte, Bool.true_and]
      exact ih (i + 1) (by omega)
    ·exact ev_eq (Ev.now _) (by simp [c3])
   ·exact ev_eq (Ev.now _) (by simp [c2])
  ·exact ev_eq (Ev.now _) (by simp [c1])
theorem ev_impl_areParcels (l : List S82) (hl : l.length ≤ 9223372036854775807) : Ev (fun k => impl_areParcels.f k l) (parcelsB l) := by
 unfold impl_areParcels.f
 exact ev_impl_areParcels_l0 l hl l.length 0 (by omega)

theorem sorted_srt (D : List Int) : slices_Sort_int_int.sorted D = srtI D := by
 refine srtI_of_perm (List.mergeSort_perm _ _) ?_
 have h := List.pairwise_mergeSort (le := fun x y : Int => decide (x ≤ y)) (by intro a b c h1 h2; simp at h1 h2 ⊢; omega) (by intro a b; simp; omega) D
 exact h.imp (fun h => by simpa using h)
theorem ev_impl_StraightLeads_l1 {l : List S82} (hp : parcelsB l = true) (d : Nat) : ∀ (i : Nat) (q : List S82), i + d = l.length → q = (strL l).take i ++ l.drop i → Ev (fun k => impl_StraightLeads.l1 k (srtI (arrD l)) q (l.length : Int) (i : Int)) (strL l, true) := by
 have hlen : (srtI (arrD l)).length = l.length := by rw [srtI_len]; simp [arrD]
 have h12 := (parcelsB_mem hp).1
 induction d with
 | zero =>
  intro i q hi hq
  refine ev_succ ?_
  have h1 : ¬ (i : Int) < (l.length : Int) := by omega
  simp only [impl_StraightLeads.l1, h1, ↓reduceIte]
  rw [hq, List.take_of_length_le (by rw [strL_len]; omega), List.drop_of_length_le (by omega), List.append_nil]
  exact Ev.now _
 | succ d ih =>
  intro i q hi hq
  refine ev_succ ?_
  have hi' : i < l.length := by omega
  have h1 : (i : Int) < (l.length : Int) := by omega
  have h2 : (0 : Int) ≤ (i : Int) := by omega
  have h3 : (i : Int) < ((srtI (arrD l)).length : Int) := by omega
  have hql : q.length = l.length := by rw [hq]; simp [strL_len]; omega
  have hq' : i < q.length := by omega
  have h4 : (i : Int) < (q.length : Int) := by omega
  have hts : ((strL l).take i).length = i := by simp [strL_len]; omega
  have hqi : q[i] = l[i] := by
   simp only [hq]
   rw [List.getElem_append_right (by omega)]
   simp [hts]
  have hb := strL_lead hp hi'
  have hm := ((parcelsB_mem hp).2 i hi').1
  have e : wrap64 (rd (srtI (arrD l)) (i : Int) - l[i].f0) = rd (srtI (arrD l)) (i : Int) - l[i].f0 := w64 (by omega) (by omega)
  simp only [impl_StraightLeads.l1, h1, h2, h3, h4, ↓reduceIte, w64_nat hi' (by omega : l.length ≤ 9223372036854775807), rdP_nat hq', hqi, e, Int.toNat_natCast]
  refine ih (i + 1) _ (by omega) ?_
  have ht : (strL l).take (i + 1) = (strL l).take i ++ [⟨l[i].f0, l[i].f1, rd (srtI (arrD l)) (i : Int) - l[i].f0⟩] := by
   rw [List.take_add_one, List.getElem?_eq_getElem (by rw [strL_len]; exact hi'), strL_get]
   rfl
  rw [ht, hq, List.set_append_right _ _ (by omega), hts, Nat.sub_self, drop_cons hi', List.set_cons_zero, List.append_assoc]
  rfl
theorem ev_impl_StraightLeads_l0 {l : List S82} (hp : parcelsB l = true) (d : Nat) : ∀ (i : Nat), i + d = l.length → (∀ j : Nat, (hj : j < l.length) → j < i → l[j].f1 = (rd_T82 l 0).f1) → Ev (fun k => impl_StraightLeads.l0 k l ((arrD l).take i) l (l.length : Int) (i : Int)) (if sameB l = true then (strL l, true) else ([], false)) := by
 have hal : (arrD l).length = l.length := by simp [arrD]
 obtain ⟨h12, hm⟩ := parcelsB_mem hp
 induction d with
 | zero =>
  intro i hi hj
  refine ev_succ ?_
  have h1 : ¬ (i : Int) < (l.length : Int) := by omega
  have h2 : (arrD l).length < 4611686018427387904 := by omega
  have h3 : l.length < 5864062014805 := by omega
  simp only [impl_StraightLeads.l0, h1, ↓reduceIte]
  rw [List.take_of_length_le (by omega)]
  have hs : sameB l = true := List.all_eq_true.2 fun x hx => by
   obtain ⟨j, hj2, rfl⟩ := List.getElem_of_mem hx
   simpa using hj j hj2 (by omega)
  rw [if_pos hs]
  simp only [slices_Sort_int_int.f, impl_Parcel.f, h2, h3, ↓reduceIte, Option.bind_some, sorted_srt]
  exact ev_impl_StraightLeads_l1 hp l.length 0 l (by omega) (by simp)
 | succ d ih =>
  intro i hi hj
  refine ev_succ ?_
  have hi' : i < l.length := by omega
  have h1 : (i : Int) < (l.length : Int) := by omega
  have h2 : (0 : Int) ≤ (i : Int) := by omega
  have h3 : (0 : Int) < (l.length : Int) := by omega
  have h4 : ((arrD l).take i).length < 17592186044416 := by simp; omega
  have hb := hm i hi'
  have e : wrap64 (l[i].f0 + l[i].f2) = l[i].f0 + l[i].f2 := w64 (by omega) (by omega)
  simp only [impl_StraightLeads.l0, h1, h2, h3, h4, ↓reduceIte, rdP_nat hi', e, w64_nat hi' (by omega : l.length ≤ 9223372036854775807)]
  refine ev_ite (fun c => ?_) (fun c => ?_)
  ·have ht : (arrD l).take (i + 1) = (arrD l).take i ++ [l[i].f0 + l[i].f2] := by
    rw [List.take_add_one, List.getElem?_eq_getElem (by omega)]
    simp [arrD]
   rw [← ht]
   exact ih (i + 1) (by omega) (fun j hj2 h => by
    by_cases e2 : j = i
    ·subst e2; exact c
    ·exact hj j hj2 (by omega))
  ·rw [if_neg (by rw [sameB_no hi' c]; simp)]
   exact Ev.now _
theorem ev_impl_StraightLeads (l : List S82) (hl : l.length ≤ 9223372036854775807) : Ev (fun k => impl_StraightLeads.f k l) (straightV l) := by
 unfold impl_StraightLeads.f straightV
 refine Ev.bind (ev_impl_areParcels l hl) ?_
 refine ev_ite (fun h => ?_) (fun h => ?_)
 ·have := ev_impl_StraightLeads_l0 h l.length 0 (by omega) (fun j _ hj => by omega)
  refine ev_eq (by simpa using this) ?_
  simp [h]
 ·exact ev_eq (Ev.now _) (by simp [h])

theorem ev_laws_rInts_l0 (l : List Int) (hl : l.length ≤ 9223372036854775807) (d : Nat) : ∀ (i : Nat), i + d = l.length → Ev (fun k => laws_rInts.l0 k l l (i : Int)) true := by
 induction d with
 | zero =>
  intro i hi
  refine ev_succ ?_
  have h1 : ¬ (i : Int) < (l.length : Int) := by omega
  simp only [laws_rInts.l0, h1, ↓reduceIte]
  exact Ev.now _
 | succ d ih =>
  intro i hi
  refine ev_succ ?_
  have h1 : (i : Int) < (l.length : Int) := by omega
  have h0 : (0 : Int) ≤ (i : Int) := by omega
  have hi' : i < l.length := by omega
  simp only [laws_rInts.l0, h1, h0, ↓reduceIte, w64_nat hi' hl]
  exact ih (i + 1) (by omega)
theorem ev_laws_rInts_self (l : List Int) (hl : l.length ≤ 9223372036854775807) : Ev (fun k => laws_rInts.f k l l) true := by
 unfold laws_rInts.f
 simp only [if_true]
 exact ev_laws_rInts_l0 l hl l.length 0 (by omega)

theorem ev_laws_rSum_l0 (l : List Int) (hl : l.length ≤ 9223372036854775807) (d : Nat) : ∀ (i : Nat) (x : Int), i + d = l.length → wrap64 x = x → Ev (fun k => laws_rSum.l0 k l x (i : Int)) (wrap64 (x + (l.drop i).sum)) := by
 induction d with
 | zero =>
  intro i x hi hx
  refine ev_succ ?_
  have h1 : ¬ (i : Int) < (l.length : Int) := by omega
  simp only [laws_rSum.l0, h1, ↓reduceIte]
  rw [List.drop_eq_nil_of_le (by omega), List.sum_nil, Int.add_zero, hx]
  exact Ev.now _
 | succ d ih =>
  intro i x hi hx
  refine ev_succ ?_
  have h1 : (i : Int) < (l.length : Int) := by omega
  have h0 : (0 : Int) ≤ (i : Int) := by omega
  have hi' : i < l.length := by omega
  simp only [laws_rSum.l0, h1, h0, ↓reduceIte, w64_nat hi' hl, rd_nat hi']
  refine ev_eq (ih (i + 1) _ (by omega) (w64_idem _)) ?_
  rw [w64_add_l, drop_cons hi', List.sum_cons, Int.add_assoc]
theorem ev_laws_rSum (l : List Int) (hl : l.length ≤ 9223372036854775807) : Ev (fun k => laws_rSum.f k l) (wrap64 l.sum) := by
 unfold laws_rSum.f
 refine ev_eq (ev_laws_rSum_l0 l hl l.length 0 0 (by omega) w64_zero) ?_
 simp

theorem and255 (x : Int) : 0 ≤ Go.bits .and .u64 x 255 ∧ Go.bits .and .u64 x 255 ≤ 255 := by
 have h : (BitVec.ofInt 64 x &&& BitVec.ofInt 64 255).toNat ≤ 255 := by
  rw [BitVec.toNat_and]
  exact Nat.le_trans Nat.and_le_right (by decide)
 show 0 ≤ IntKind.u64.wrap ((BitVec.ofInt 64 x &&& BitVec.ofInt 64 255).toNat : Int) ∧ IntKind.u64.wrap ((BitVec.ofInt 64 x &&& BitVec.ofInt 64 255).toNat : Int) ≤ 255
 rw [IntKind.wrap_u64]
 omega
def codeOk (l : List Int) : Prop := ∀ x ∈ l, 0 ≤ x ∧ x ≤ 255
def atOk (a : Int) : Prop := 0 ≤ a ∧ a ≤ 1000000000000
theorem atOk_more {a a' : Int} {n : Int} (h : 0 ≤ a ∧ a ≤ 100000000) (h2 : a ≤ a' ∧ a' ≤ a + n) (hn : n ≤ 1000000) : atOk a' := by unfold atOk; omega

theorem spec_l1Cur_next_ok (l : List Int) (a sd : Int) (hl : codeOk l) (ha : atOk a) : ∃ b s', spec_l1Cur_next.f l a sd = some (b, a + 1, s') ∧ 0 ≤ b ∧ b ≤ 255 := by
 unfold atOk at ha
 have e : wrap64 (a + 1) = a + 1 := w64 (by omega) (by omega)
 unfold spec_l1Cur_next.f
 rw [e]
 by_cases h : a < (l.length : Int)
 ·have hr : 0 ≤ rd l a ∧ rd l a ≤ 255 := by
   obtain ⟨i, hi⟩ : ∃ i : Nat, a = (i : Int) := ⟨a.toNat, by omega⟩
   subst hi
   rw [rd_nat (by omega)]
   exact hl _ (List.getElem_mem _)
  rw [if_pos h, if_pos ha.1]
  by_cases h2 : a + 1 ≤ (l.length : Int)
  ·rw [if_pos h2]
   exact ⟨_, _, rfl, by rw [w64 (by omega) (by omega)]; omega, by rw [w64 (by omega) (by omega)]; omega⟩
  ·omega
 ·rw [if_neg h]
  by_cases h2 : a + 1 ≤ (l.length : Int)
  ·omega
  ·rw [if_neg h2]
   generalize hx : (_ : Int) / 1099511627776 = x
   have := and255 x
   refine ⟨_, _, rfl, ?_, ?_⟩ <;> (rw [w64 (by omega) (by omega)]; omega)

theorem spec_l1Cur_pick_ok (l : List Int) (a sd n : Int) (hl : codeOk l) (ha : 0 ≤ a ∧ a ≤ 1000000000) (hn : 1 ≤ n ∧ n ≤ 1000000) : ∃ r a' s', spec_l1Cur_pick.f l a sd n = some (r, a', s') ∧ (0 ≤ r ∧ r < n) ∧ (a ≤ a' ∧ a' ≤ a + 2) := by
 unfold spec_l1Cur_pick.f
 by_cases h1 : n ≤ 1
 ·rw [if_pos h1]
  exact ⟨_, _, _, rfl, ⟨by omega, by omega⟩, by omega, by omega⟩
 ·rw [if_neg h1]
  obtain ⟨b, s1, e1, hb1, hb2⟩ := spec_l1Cur_next_ok l a sd hl (by unfold atOk; omega)
  rw [e1, Option.bind_some]
  by_cases h2 : n > 200
  ·rw [if_pos h2]
   obtain ⟨b2, s2, e2, hc1, hc2⟩ := spec_l1Cur_next_ok l (a + 1) s1 hl (by unfold atOk; omega)
   dsimp only
   rw [e2, Option.bind_some, if_neg (by omega)]
   dsimp only
   rw [w64 (x := b * 256) (by omega) (by omega), w64 (x := b * 256 + b2) (by omega) (by omega)]
   exact ⟨_, _, _, rfl, ⟨Int.tmod_nonneg _ (by omega), Int.tmod_lt_of_pos _ (by omega)⟩, by omega, by omega⟩
  ·rw [if_neg h2, if_neg (by omega)]
   exact ⟨_, _, _, rfl, ⟨Int.tmod_nonneg _ hb1, Int.tmod_lt_of_pos _ (by omega)⟩, by dsimp only; omega, by dsimp only; omega⟩

theorem spec_l1Cur_among_ok (l : List Int) (a sd : Int) (L : List Int) (hl : codeOk l) (ha : 0 ≤ a ∧ a ≤ 1000000000) (hL : 1 ≤ L.length ∧ L.length ≤ 1000) : ∃ v a' s', spec_l1Cur_among.f l a sd L = some (v, a', s') ∧ v ∈ L ∧ (a ≤ a' ∧ a' ≤ a + 2) := by
 obtain ⟨r, a', s', e, hr, ha2⟩ := spec_l1Cur_pick_ok l a sd (L.length : Int) hl ha (by omega)
 unfold spec_l1Cur_among.f
 rw [e, Option.bind_some]
 dsimp only
 rw [if_pos hr.1, if_pos hr.2]
 obtain ⟨i, hi⟩ : ∃ i : Nat, r = (i : Int) := ⟨r.toNat, by omega⟩
 subst hi
 exact ⟨_, _, _, rfl, by rw [rd_nat (by omega)]; exact List.getElem_mem _, ha2⟩

theorem ev_spec_l1Cur_calls_l1 (l : List Int) (a sd : Int) (d : Nat) : ∀ U : List Int, U.length ≤ 100 → 21 ≤ U.length + d → ∃ V, Ev (fun k => spec_l1Cur_calls.l1 k U l a sd) (V, a, sd) ∧ V.length ≤ U.length + d := by
 induction d with
 | zero =>
  intro U hU hd
  refine ⟨U, ev_succ ?_, by omega⟩
  have h1 : ¬ (U.length : Int) < 21 := by omega
  simp only [spec_l1Cur_calls.l1, h1, ↓reduceIte]
  exact Ev.now _
 | succ d ih =>
  intro U hU hd
  by_cases h1 : (U.length : Int) < 21
  ·obtain ⟨V, h2, h3⟩ := ih (U ++ [1]) (by simp; omega) (by simp; omega)
   rw [List.length_append, List.length_singleton] at h3
   refine ⟨V, ev_succ ?_, by omega⟩
   simp only [spec_l1Cur_calls.l1, h1, ↓reduceIte]
   exact ev_yes (by omega) h2
  ·refine ⟨U, ev_succ ?_, by omega⟩
   simp only [spec_l1Cur_calls.l1, h1, ↓reduceIte]
   exact Ev.now _
theorem ev_spec_l1Cur_calls_fin (l : List Int) (hl : codeOk l) (a sd : Int) (U : List Int) (hU : U.length ≤ 60) (ha0 : 0 ≤ a) (ha1 : a ≤ 100000000) : ∃ V a' s', Ev (fun k => (spec_l1Cur_pick.f l a sd 40).bind fun bt282 => (if bt282.1 = 0 then (spec_l1Cur_calls.l1 k U l bt282.2.1 bt282.2.2) else (if bt282.1 = 1 then (if (U.length : Int) > 0 then ((spec_l1Cur_among.f l bt282.2.1 bt282.2.2 (([(-1), 20, 21] : List Int))).bind fun bt291 => (if 0 < (U.length : Int) then (some ((U.set (0 : Int).toNat bt291.1), bt291.2.1, bt291.2.2)) else (none))) else (some (U, bt282.2.1, bt282.2.2))) else (some (U, bt282.2.1, bt282.2.2))))) (V, a', s') ∧ V.length ≤ U.length + 21 ∧ (a ≤ a' ∧ a' ≤ a + 4) := by
 obtain ⟨r, a1, s1, e1, hr, ha2⟩ := spec_l1Cur_pick_ok l a sd 40 hl (by omega) (by omega)
 simp only [e1, Option.bind_some]
 by_cases c0 : r = 0
 ·obtain ⟨V, h2, h3⟩ := ev_spec_l1Cur_calls_l1 l a1 s1 21 U (by omega) (by omega)
  simp only [c0, if_true]
  exact ⟨V, _, _, h2, by omega, by omega, by omega⟩
 ·by_cases c1 : r = 1
  ·simp only [c0, c1, if_false, if_true]
   by_cases c3 : (U.length : Int) > 0
   ·obtain ⟨v, a2, s2, e2, hv, ha3⟩ := spec_l1Cur_among_ok l a1 s1 [(-1), 20, 21] hl (by omega) (by simp)
    have c4 : 0 < (U.length : Int) := by omega
    simp only [c3, c4, if_true, e2, Option.bind_some]
    exact ⟨_, _, _, Ev.now _, by rw [List.length_set]; omega, by omega, by omega⟩
   ·simp only [c3, if_false]
    exact ⟨_, _, _, Ev.now _, by omega, by omega, by omega⟩
  ·simp only [c0, c1, if_false]
   exact ⟨_, _, _, Ev.now _, by omega, by omega, by omega⟩
theorem ev_spec_l1Cur_calls_l0 (l : List Int) (hl : codeOk l) (d : Nat) : ∀ (n a sd : Int) (U : List Int), n ≤ d → U.length + d ≤ 60 → 0 ≤ a → a + 2 * (d : Int) ≤ 100000000 → ∃ V a' s', Ev (fun k => spec_l1Cur_calls.l0 k U n l a sd) (V, a', s') ∧ V.length ≤ U.length + d + 21 ∧ (a ≤ a' ∧ a' ≤ a + 2 * (d : Int) + 4) := by
 induction d with
 | zero =>
  intro n a sd U hn hd ha hb
  obtain ⟨V, a', s', h1, h2, h3⟩ := ev_spec_l1Cur_calls_fin l hl a sd U (by omega) ha (by omega)
  refine ⟨V, a', s', ev_succ ?_, by omega, by omega, by omega⟩
  have c : ¬ n > 0 := by omega
  simp only [spec_l1Cur_calls.l0, c, ↓reduceIte]
  exact h1
 | succ d ih =>
  intro n a sd U hn hd ha hb
  by_cases c : n > 0
  ·obtain ⟨v, a1, s1, e1, hv, ha2⟩ := spec_l1Cur_among_ok l a sd [0, 1, 2, 3, 5, 8] hl (by omega) (by simp)
   obtain ⟨V, a', s', h1, h2, h3⟩ := ih (n - 1) a1 s1 (U ++ [v]) (by omega) (by simp; omega) (by omega) (by omega)
   rw [List.length_append, List.length_singleton] at h2
   refine ⟨V, a', s', ev_succ ?_, by omega, by omega, by omega⟩
   have e2 : wrap64 (n - 1) = n - 1 := w64 (by omega) (by omega)
   simp only [spec_l1Cur_calls.l0, c, e1, e2, ↓reduceIte, Option.bind_some]
   exact ev_yes (by omega) h1
  ·obtain ⟨V, a', s', h1, h2, h3⟩ := ev_spec_l1Cur_calls_fin l hl a sd U (by omega) ha (by omega)
   refine ⟨V, a', s', ev_succ ?_, by omega, by omega, by omega⟩
   simp only [spec_l1Cur_calls.l0, c, ↓reduceIte]
   exact h1
theorem ev_spec_l1Cur_calls (l : List Int) (a sd : Int) (hl : codeOk l) (ha : 0 ≤ a ∧ a ≤ 1000000) : ∃ U a' s', Ev (fun k => spec_l1Cur_calls.f k l a sd) (U, a', s') ∧ U.length ≤ 100 ∧ (a ≤ a' ∧ a' ≤ a + 50) := by
 unfold spec_l1Cur_calls.f
 obtain ⟨n, a2, s2, e2, hn, ha2⟩ := spec_l1Cur_among_ok l a sd [5, 8, 3, 1, 0, 12, 20] hl (by omega) (by simp)
 have hn4 : n ≤ 20 := by simp at hn; omega
 obtain ⟨V, a', s', h1, h2, h3⟩ := ev_spec_l1Cur_calls_l0 l hl 20 n a2 s2 [] (by omega) (by simp) (by omega) (by omega)
 simp only [e2, Option.bind_some]
 simp only [List.length_nil] at h2
 exact ⟨V, a', s', h1, by omega, by omega, by omega⟩

theorem ev_spec_l1Cur_parcels_l0 (l : List Int) (hl : codeOk l) (am : Int) (d : Nat) : ∀ (n a sd day : Int) (U : List S82), n ≤ d → U.length + d ≤ 60 → 0 ≤ a → a + 10 * (d : Int) ≤ 100000000 → ∃ V a' s', Ev (fun k => spec_l1Cur_parcels.l0 k U day am n l a sd) (V, a', s') ∧ V.length ≤ U.length + d ∧ (a ≤ a' ∧ a' ≤ a + 10 * (d : Int) + 10) := by
 have fin : ∀ (n a sd day : Int) (U : List S82), ¬ n > 0 → U.length ≤ 60 → 0 ≤ a → a ≤ 100000000 → ∃ V a' s', Ev (fun k => spec_l1Cur_parcels.l0 k U day am n l a sd) (V, a', s') ∧ V.length ≤ U.length ∧ (a ≤ a' ∧ a' ≤ a + 10) := by
  intro n a sd day U c hU ha0 ha1
  by_cases c3 : (U.length : Int) > 0
  ·obtain ⟨q, a1, s1, e1, hq, ha2⟩ := spec_l1Cur_pick_ok l a sd (U.length : Int) hl (by omega) (by omega)
   obtain ⟨r, a2, s2, e2, hr, ha3⟩ := spec_l1Cur_pick_ok l a1 s1 40 hl (by omega) (by omega)
   obtain ⟨v0, b0, t0, f0, _, hb0⟩ := spec_l1Cur_among_ok l a2 s2 [0, 20, 21] hl (by omega) (by simp)
   obtain ⟨v1, b1, t1, f1, _, hb1⟩ := spec_l1Cur_among_ok l a2 s2 [0, 40, 41] hl (by omega) (by simp)
   obtain ⟨v2, b2, t2, f2, _, hb2⟩ := spec_l1Cur_among_ok l a2 s2 [(-1), 4, 5] hl (by omega) (by simp)
   have g1 := hq.1
   have g2 := hq.2
   by_cases c0 : r = 0
   ·refine ⟨U.set (q : Int).toNat ⟨v0, (rd_T82 U q).f1, (rd_T82 U q).f2⟩, b0, t0, ev_succ ?_, ?_, ?_⟩
    ·simp only [spec_l1Cur_parcels.l0, c, c3, e1, e2, f0, c0, g1, g2, ↓reduceIte, Option.bind_some]
     exact Ev.now _
    ·rw [List.length_set]; omega
    ·omega
   ·by_cases c1 : r = 1
    ·subst c1
     refine ⟨U.set (q : Int).toNat ⟨(rd_T82 U q).f0, v1, (rd_T82 U q).f2⟩, b1, t1, ev_succ ?_, ?_, ?_⟩
     ·simp only [spec_l1Cur_parcels.l0, c, c3, e1, e2, f1, show ¬ (1 : Int) = 0 by omega, g1, g2, ↓reduceIte, Option.bind_some]
      exact Ev.now _
     ·rw [List.length_set]; omega
     ·omega
    ·by_cases c2 : r = 2
     ·subst c2
      refine ⟨U.set (q : Int).toNat ⟨(rd_T82 U q).f0, (rd_T82 U q).f1, v2⟩, b2, t2, ev_succ ?_, ?_, ?_⟩
      ·simp only [spec_l1Cur_parcels.l0, c, c3, e1, e2, f2, show ¬ (2 : Int) = 0 by omega, show ¬ (2 : Int) = 1 by omega, g1, g2, ↓reduceIte, Option.bind_some]
       exact Ev.now _
      ·rw [List.length_set]; omega
      ·omega
     ·refine ⟨U, a2, s2, ev_succ ?_, ?_, ?_⟩
      ·simp only [spec_l1Cur_parcels.l0, c, c3, e1, e2, c0, c1, c2, ↓reduceIte, Option.bind_some]
       exact Ev.now _
      ·omega
      ·omega
  ·refine ⟨U, a, sd, ev_succ ?_, by omega, by omega⟩
   simp only [spec_l1Cur_parcels.l0, c, c3, ↓reduceIte]
   exact Ev.now _
 induction d with
 | zero =>
  intro n a sd day U hn hU ha hb
  obtain ⟨V, a', s', h1, h2, h3⟩ := fin n a sd day U (by omega) (by omega) ha (by omega)
  exact ⟨V, a', s', h1, by omega, by omega⟩
 | succ d ih =>
  intro n a sd day U hn hU ha hb
  by_cases c : n > 0
  ·obtain ⟨p, a1, s1, e1, hp, ha1⟩ := spec_l1Cur_pick_ok l a sd 5 hl (by omega) (by omega)
   have c4 : U.length < 5864062014805 := by omega
   by_cases hn2 : n ≤ 1000
   ·have e9 : wrap64 (n - 1) = n - 1 := w64 (by omega) (by omega)
    by_cases c5 : am = 0
    ·obtain ⟨p2, a2, s2, e2, hp2, ha2⟩ := spec_l1Cur_pick_ok l a1 s1 9 hl (by omega) (by omega)
     obtain ⟨p3, a3, s3, e3, hp3, ha3⟩ := spec_l1Cur_pick_ok l a2 s2 3 hl (by omega) (by omega)
     obtain ⟨V, a', s', h1, h2, h3⟩ := ih (n - 1) a3 s3 (wrap64 (day + p3)) (U ++ [⟨day, wrap64 (1 + p2), p⟩]) (by omega) (by simp; omega) (by omega) (by omega)
     rw [List.length_append, List.length_singleton] at h2
     refine ⟨V, a', s', ev_succ ?_, by omega, by omega⟩
     simp only [spec_l1Cur_parcels.l0, c, c4, c5, e1, e2, e3, e9, ↓reduceIte, Option.bind_some]
     rw [c5] at h1
     exact h1
    ·obtain ⟨p3, a3, s3, e3, hp3, ha3⟩ := spec_l1Cur_pick_ok l a1 s1 3 hl (by omega) (by omega)
     obtain ⟨V, a', s', h1, h2, h3⟩ := ih (n - 1) a3 s3 (wrap64 (day + p3)) (U ++ [⟨day, am, p⟩]) (by omega) (by simp; omega) (by omega) (by omega)
     rw [List.length_append, List.length_singleton] at h2
     refine ⟨V, a', s', ev_succ ?_, by omega, by omega⟩
     simp only [spec_l1Cur_parcels.l0, c, c4, c5, e1, e3, e9, ↓reduceIte, Option.bind_some]
     exact h1
   ·omega
  ·obtain ⟨V, a', s', h1, h2, h3⟩ := fin n a sd day U c (by omega) ha (by omega)
   exact ⟨V, a', s', h1, by omega, by omega⟩
theorem ev_spec_l1Cur_parcels (l : List Int) (a sd : Int) (hl : codeOk l) (ha : 0 ≤ a ∧ a ≤ 1000000) : ∃ V a' s', Ev (fun k => spec_l1Cur_parcels.f k l a sd) (V, a', s') ∧ V.length ≤ 13 ∧ (a ≤ a' ∧ a' ≤ a + 200) := by
 unfold spec_l1Cur_parcels.f
 obtain ⟨v, a1, s1, e1, hv, ha1⟩ := spec_l1Cur_among_ok l a sd [0, 1, 3, 5] hl (by omega) (by simp)
 obtain ⟨n, a2, s2, e2, hn, ha2⟩ := spec_l1Cur_among_ok l a1 s1 [4, 6, 2, 1, 0, 12, 13] hl (by omega) (by simp)
 have hn4 : n ≤ 13 := by simp at hn; omega
 obtain ⟨V, a', s', h1, h2, h3⟩ := ev_spec_l1Cur_parcels_l0 l hl v 13 n a2 s2 1 [] (by omega) (by simp) (by omega) (by omega)
 simp only [e1, e2, Option.bind_some]
 simp only [List.length_nil] at h2
 exact ⟨V, a', s', h1, by omega, by omega⟩

theorem ev_spec_DrawParcelStocks (l : List Int) (hl : codeOk l) : ∃ st V Q, Ev (fun k => spec_DrawParcelStocks.f k l) (st, V, Q) ∧ V.length ≤ 13 ∧ Q.length ≤ 100 := by
 unfold spec_DrawParcelStocks.f
 obtain ⟨V, a1, s1, h1, h2, h3⟩ := ev_spec_l1Cur_parcels l 0 0 hl (by omega)
 obtain ⟨v, a2, s2, e2, _, ha2⟩ := spec_l1Cur_among_ok l a1 s1 [0, 5, 20, (-3), 200, 201, (-201), 1] hl (by omega) (by simp)
 obtain ⟨Q, a3, s3, h4, h5, h6⟩ := ev_spec_l1Cur_calls l a2 s2 hl (by omega)
 refine ⟨v, V, Q, Ev.bind h1 ?_, h2, h5⟩
 simp only [e2, Option.bind_some]
 exact Ev.bind h4 (Ev.now _)

theorem impl_isStock_f (a : Int) : impl_isStock.f a = some (inB a (-200) 200) := by
 unfold impl_isStock.f
 rw [impl_within_f, Option.bind_some]

theorem ev_impl_allWithin_l0 (a b : Int) (l : List Int) (hl : l.length ≤ 9223372036854775807) (d : Nat) : ∀ i : Nat, i + d = l.length → Ev (fun k => impl_allWithin.l0 k a b l (l.length : Int) (i : Int)) (allB (l.drop i) a b) := by
 induction d with
 | zero =>
  intro i hi
  refine ev_succ ?_
  have h1 : ¬ (i : Int) < (l.length : Int) := by omega
  simp only [impl_allWithin.l0, h1, ↓reduceIte]
  rw [List.drop_eq_nil_of_le (by omega)]
  exact Ev.now _
 | succ d ih =>
  intro i hi
  refine ev_succ ?_
  have h1 : (i : Int) < (l.length : Int) := by omega
  have h0 : (0 : Int) ≤ (i : Int) := by omega
  have hi' : i < l.length := by omega
  simp only [impl_allWithin.l0, h1, h0, ↓reduceIte, impl_within_f, Option.bind_some, rd_nat hi', w64_nat hi' hl]
  rw [drop_cons hi']
  show Ev _ (inB l[i] a b && allB (l.drop (i + 1)) a b)
  cases inB l[i] a b with
  | true => simpa using ih (i + 1) (by omega)
  | false => simpa using Ev.now false
theorem ev_impl_allWithin (l : List Int) (a b : Int) (hl : l.length ≤ 9223372036854775807) : Ev (fun k => impl_allWithin.f k l a b) (allB l a b) := by
 unfold impl_allWithin.f
 simpa using ev_impl_allWithin_l0 a b l hl l.length 0 (by omega)

theorem ev_impl_arrivals_l0 (l : List S82) (hv : parcelsB l = true) (d : Nat) : ∀ (i : Nat) (o : List Int), i + d = l.length → o.length = 24 → Ev (fun k => impl_arrivals.l0 k o l (l.length : Int) (i : Int)) (arrFrom l d i o) := by
 have hm := parcelsB_mem hv
 induction d with
 | zero =>
  intro i o hi ho
  refine ev_succ ?_
  have h1 : ¬ (i : Int) < (l.length : Int) := by omega
  simp only [impl_arrivals.l0, h1, ↓reduceIte]
  exact Ev.now _
 | succ d ih =>
  intro i o hi ho
  refine ev_succ ?_
  have h1 : (i : Int) < (l.length : Int) := by omega
  have h0 : (0 : Int) ≤ (i : Int) := by omega
  have hi' : i < l.length := by omega
  have hr := hm.2 i hi'
  rw [← rdP_nat hi'] at hr
  have e1 : wrap64 ((rd_T82 l (i : Int)).f0 + (rd_T82 l (i : Int)).f2) = (rd_T82 l (i : Int)).f0 + (rd_T82 l (i : Int)).f2 := w64 (by omega) (by omega)
  have e2 : wrap64 ((rd_T82 l (i : Int)).f0 + (rd_T82 l (i : Int)).f2 - 1) = (rd_T82 l (i : Int)).f0 + (rd_T82 l (i : Int)).f2 - 1 := w64 (by omega) (by omega)
  have h2 : 0 ≤ (rd_T82 l (i : Int)).f0 + (rd_T82 l (i : Int)).f2 - 1 := by omega
  have h3 : (rd_T82 l (i : Int)).f0 + (rd_T82 l (i : Int)).f2 - 1 < (o.length : Int) := by omega
  simp only [impl_arrivals.l0, h1, h0, e1, e2, h2, h3, ↓reduceIte, w64_nat hi' (by omega : l.length ≤ 9223372036854775807)]
  rw [arrFrom]
  exact ih (i + 1) _ (by omega) (by simp [ho])
theorem ev_impl_arrivals (l : List S82) (hv : parcelsB l = true) : Ev (fun k => impl_arrivals.f k l) (arrV l) := by
 unfold impl_arrivals.f
 simp only [show ((24 : Nat) ≤ 35184372088832) = True from by simp, if_true]
 exact ev_impl_arrivals_l0 l hv l.length 0 _ (by omega) (by simp)

def stockFrom (arr asked : List Int) : Nat → Nat → Int → List Int
 | 0, _, _ => []
 | d + 1, i, s => wrap64 (s + rd arr (i : Int) - rd asked (i : Int)) :: stockFrom arr asked d (i + 1) (wrap64 (s + rd arr (i : Int) - rd asked (i : Int)))
theorem stockFrom_length (arr asked : List Int) (d : Nat) : ∀ (i : Nat) (s : Int), (stockFrom arr asked d i s).length = d := by
 induction d with
 | zero => intro i s; rfl
 | succ d ih => intro i s; rw [stockFrom, List.length_cons, ih]
def pstocksV (s : Int) (l : List S82) (asked : List Int) : List Int × Bool :=
 if (inB s (-200) 200 && parcelsB l && (decide ((asked.length : Int) ≤ 20) && allB asked 0 20)) = true then (stockFrom (arrV l) asked asked.length 0 s, true) else ([], false)
theorem pstocksV_length (s : Int) (l : List S82) (asked : List Int) : (pstocksV s l asked).1.length ≤ asked.length := by
 unfold pstocksV
 split
 ·simp [stockFrom_length]
 ·simp

theorem ev_impl_ParcelStocks_l0 (arr asked : List Int) (ha : arr.length = 24) (hl : asked.length ≤ 20) (d : Nat) : ∀ (i : Nat) (o : List Int) (s : Int), i + d = asked.length → o.length ≤ i → Ev (fun k => impl_ParcelStocks.l0 k s o arr asked (asked.length : Int) (i : Int)) (o ++ stockFrom arr asked d i s, true) := by
 induction d with
 | zero =>
  intro i o s hi ho
  refine ev_succ ?_
  have h1 : ¬ (i : Int) < (asked.length : Int) := by omega
  simp only [impl_ParcelStocks.l0, h1, ↓reduceIte]
  exact ev_eq (Ev.now _) (by simp [stockFrom])
 | succ d ih =>
  intro i o s hi ho
  refine ev_succ ?_
  have h1 : (i : Int) < (asked.length : Int) := by omega
  have h2 : (i : Int) < (arr.length : Int) := by omega
  have h0 : (0 : Int) ≤ (i : Int) := by omega
  have h3 : o.length < 17592186044416 := by omega
  have hi' : i < asked.length := by omega
  have e : wrap64 (s + wrap64 (rd arr (i : Int) - rd asked (i : Int))) = wrap64 (s + rd arr (i : Int) - rd asked (i : Int)) := by rw [w64_add_r]; congr 1; omega
  simp only [impl_ParcelStocks.l0, h1, h0, h2, h3, ↓reduceIte, w64_nat hi' (by omega : asked.length ≤ 9223372036854775807), e]
  refine ev_eq (ih (i + 1) _ _ (by omega) (by simp; omega)) ?_
  rw [stockFrom]; simp
theorem ev_impl_ParcelStocks_no (s : Int) (l : List S82) (asked : List Int) : Ev (fun k => impl_ParcelStocks.j0 k s l asked true) ([], false) := by
 refine ev_succ ?_
 simp only [impl_ParcelStocks.j0, ↓reduceIte]
 exact Ev.now _
theorem ev_impl_ParcelStocks_yes (s : Int) (l : List S82) (asked : List Int) (h2 : parcelsB l = true) (h4 : asked.length ≤ 20) : Ev (fun k => impl_ParcelStocks.j0 k s l asked false) (stockFrom (arrV l) asked asked.length 0 s, true) := by
 refine ev_succ ?_
 simp only [impl_ParcelStocks.j0, Bool.false_eq_true, ↓reduceIte]
 refine Ev.bind (ev_impl_arrivals l h2) ?_
 exact ev_eq (ev_impl_ParcelStocks_l0 (arrV l) asked (arrV_length l) h4 asked.length 0 [] s (by omega) (by simp)) (by simp)
theorem ev_impl_ParcelStocks (s : Int) (l : List S82) (asked : List Int) (hl : l.length ≤ 9223372036854775807) (ha : asked.length ≤ 9223372036854775807) : Ev (fun k => impl_ParcelStocks.f k s l asked) (pstocksV s l asked) := by
 unfold impl_ParcelStocks.f pstocksV
 simp only [impl_isStock_f, Option.bind_some]
 refine ev_ite (fun h1 => ?_) (fun h1 => ?_)
 ·refine Ev.bind (ev_impl_areParcels l hl) ?_
  refine ev_ite (fun h2 => ?_) (fun h2 => ?_)
  ·refine ev_ite (fun h3 => ?_) (fun h3 => ?_)
   ·have h4 : ¬ (asked.length : Int) ≤ 20 := by omega
    exact ev_eq (ev_impl_ParcelStocks_no s l asked) (by simp [h4])
   ·have h4 : (asked.length : Int) ≤ 20 := by omega
    refine Ev.bind (ev_impl_allWithin asked 0 20 ha) ?_
    cases h5 : allB asked 0 20 with
    | false => exact ev_eq (ev_impl_ParcelStocks_no s l asked) (by simp)
    | true => exact ev_eq (ev_impl_ParcelStocks_yes s l asked h2 (by omega)) (by simp [h1, h2, h4])
  ·exact ev_eq (ev_impl_ParcelStocks_no s l asked) (by simp [h2])
 ·exact ev_eq (ev_impl_ParcelStocks_no s l asked) (by simp [h1])

theorem ev_spec_l2Row_l0 (n b : Int) (l : List Int) (hl : l.length ≤ 9223372036854775807) (d : Nat) : ∀ i : Nat, i + d = l.length → Ev (fun k => spec_l2Row.l0 k l n b (i : Int)) (allB (l.drop i) 0 b && ((l.length : Int) == n)) := by
 induction d with
 | zero =>
  intro i hi
  refine ev_succ ?_
  have h1 : ¬ (i : Int) < (l.length : Int) := by omega
  simp only [spec_l2Row.l0, h1, ↓reduceIte]
  rw [List.drop_eq_nil_of_le (by omega)]
  exact Ev.now _
 | succ d ih =>
  intro i hi
  refine ev_succ ?_
  have h1 : (i : Int) < (l.length : Int) := by omega
  have h0 : (0 : Int) ≤ (i : Int) := by omega
  have hi' : i < l.length := by omega
  simp only [spec_l2Row.l0, h1, h0, ↓reduceIte, spec_l1In_f, Option.bind_some, rd_nat hi', w64_nat hi' hl]
  rw [drop_cons hi']
  show Ev _ ((inB l[i] 0 b && allB (l.drop (i + 1)) 0 b) && _)
  cases inB l[i] 0 b with
  | true => simpa using ih (i + 1) (by omega)
  | false => simpa using Ev.now false
theorem ev_spec_l2Row (l : List Int) (n b : Int) (hl : l.length ≤ 9223372036854775807) : Ev (fun k => spec_l2Row.f k l n b) (allB l 0 b && ((l.length : Int) == n)) := by
 unfold spec_l2Row.f
 simpa using ev_spec_l2Row_l0 n b l hl l.length 0 (by omega)

theorem ev_spec_l11Numbers (l : List Int) (n b : Int) (hl : l.length ≤ 9223372036854775807) : Ev (fun k => spec_l11Numbers.f k l n b) (decide ((l.length : Int) ≤ n) && allB l 0 b) := by
 unfold spec_l11Numbers.f
 refine ev_ite (fun h => ?_) (fun h => ?_)
 ·refine Ev.bind (ev_spec_l2Row l _ b hl) ?_
  refine ev_eq (Ev.now _) ?_
  simp [h]
 ·refine ev_eq (Ev.now _) ?_
  simp [h]

theorem ev_spec_l11Arrivals_l0 (l : List S82) (hv : parcelsB l = true) (d : Nat) : ∀ (i : Nat) (o : List Int), i + d = l.length → o.length = 24 → Ev (fun k => spec_l11Arrivals.l0 k l o (i : Int)) (arrFrom l d i o) := by
 have hm := parcelsB_mem hv
 induction d with
 | zero =>
  intro i o hi ho
  refine ev_succ ?_
  have h1 : ¬ (i : Int) < (l.length : Int) := by omega
  simp only [spec_l11Arrivals.l0, h1, ↓reduceIte]
  exact Ev.now _
 | succ d ih =>
  intro i o hi ho
  refine ev_succ ?_
  have h1 : (i : Int) < (l.length : Int) := by omega
  have h0 : (0 : Int) ≤ (i : Int) := by omega
  have hi' : i < l.length := by omega
  have hr := hm.2 i hi'
  rw [← rdP_nat hi'] at hr
  have e1 : wrap64 ((rd_T82 l (i : Int)).f0 + (rd_T82 l (i : Int)).f2) = (rd_T82 l (i : Int)).f0 + (rd_T82 l (i : Int)).f2 := w64 (by omega) (by omega)
  have e2 : wrap64 ((rd_T82 l (i : Int)).f0 + (rd_T82 l (i : Int)).f2 - 1) = (rd_T82 l (i : Int)).f0 + (rd_T82 l (i : Int)).f2 - 1 := w64 (by omega) (by omega)
  have h2 : 0 ≤ (rd_T82 l (i : Int)).f0 + (rd_T82 l (i : Int)).f2 - 1 := by omega
  have h3 : (rd_T82 l (i : Int)).f0 + (rd_T82 l (i : Int)).f2 - 1 < (o.length : Int) := by omega
  simp only [spec_l11Arrivals.l0, h1, h0, e1, e2, h2, h3, ↓reduceIte, w64_nat hi' (by omega : l.length ≤ 9223372036854775807)]
  rw [arrFrom]
  exact ih (i + 1) _ (by omega) (by simp [ho])
theorem ev_spec_l11Arrivals (l : List S82) (hv : parcelsB l = true) : Ev (fun k => spec_l11Arrivals.f k l) (arrV l) := by
 unfold spec_l11Arrivals.f
 simp only [show ((24 : Nat) ≤ 35184372088832) = True from by simp, if_true]
 exact ev_spec_l11Arrivals_l0 l hv l.length 0 _ (by omega) (by simp)

theorem ev_spec_ParcelStocks_l0 (arr asked : List Int) (ha : arr.length = 24) (hl : asked.length ≤ 20) (d : Nat) : ∀ (i : Nat) (o : List Int) (s : Int), i + d = asked.length → o.length ≤ i → Ev (fun k => spec_ParcelStocks.l0 k asked o arr s (i : Int)) (o ++ stockFrom arr asked d i s, true) := by
 induction d with
 | zero =>
  intro i o s hi ho
  refine ev_succ ?_
  have h1 : ¬ (i : Int) < (asked.length : Int) := by omega
  simp only [spec_ParcelStocks.l0, h1, ↓reduceIte]
  exact ev_eq (Ev.now _) (by simp [stockFrom])
 | succ d ih =>
  intro i o s hi ho
  refine ev_succ ?_
  have h1 : (i : Int) < (asked.length : Int) := by omega
  have h2 : (i : Int) < (arr.length : Int) := by omega
  have h0 : (0 : Int) ≤ (i : Int) := by omega
  have h3 : o.length < 17592186044416 := by omega
  have hi' : i < asked.length := by omega
  simp only [spec_ParcelStocks.l0, h1, h0, h2, h3, ↓reduceIte, w64_nat hi' (by omega : asked.length ≤ 9223372036854775807), w64_sub_l]
  refine ev_eq (ih (i + 1) _ _ (by omega) (by simp; omega)) ?_
  rw [stockFrom]; simp
theorem ev_spec_ParcelStocks_no (s : Int) (l : List S82) (asked o : List Int) : Ev (fun k => spec_ParcelStocks.j0 k s l asked o true) (o, false) := by
 refine ev_succ ?_
 simp only [spec_ParcelStocks.j0, ↓reduceIte]
 exact Ev.now _
theorem ev_spec_ParcelStocks (s : Int) (l : List S82) (asked : List Int) (hl : l.length ≤ 9223372036854775807) (ha : asked.length ≤ 9223372036854775807) : Ev (fun k => spec_ParcelStocks.f k s l asked) (pstocksV s l asked) := by
 unfold spec_ParcelStocks.f pstocksV
 simp only [spec_l1In_f, Option.bind_some]
 refine ev_ite (fun h1 => ?_) (fun h1 => ?_)
 ·refine Ev.bind (ev_spec_l11Parcels l hl) ?_
  refine ev_ite (fun h2 => ?_) (fun h2 => ?_)
  ·refine Ev.bind (ev_spec_l11Numbers asked 20 20 ha) ?_
   cases h3 : (decide ((asked.length : Int) ≤ 20) && allB asked 0 20) with
   | false => exact ev_eq (ev_spec_ParcelStocks_no s l asked _) (by simp)
   | true =>
    have h4 : asked.length ≤ 20 := by
     simp only [Bool.and_eq_true, decide_eq_true_eq] at h3
     omega
    refine ev_succ ?_
    simp only [spec_ParcelStocks.j0, Bool.not_true, Bool.false_eq_true, ↓reduceIte]
    refine Ev.bind (ev_spec_l11Arrivals l h2) ?_
    refine ev_eq (ev_spec_ParcelStocks_l0 (arrV l) asked (arrV_length l) h4 asked.length 0 [] s (by omega) (by simp)) ?_
    simp [h1, h2]
  ·exact ev_eq (ev_spec_ParcelStocks_no s l asked _) (by simp [h2])
 ·exact ev_eq (ev_spec_ParcelStocks_no s l asked _) (by simp [h1])

theorem ev_spec_DrawArrivalsOf (l : List Int) (hl : codeOk l) : ∃ V, Ev (fun k => spec_DrawArrivalsOf.f k l) V ∧ V.length ≤ 13 := by
 unfold spec_DrawArrivalsOf.f
 obtain ⟨V, a1, s1, h1, h2, h3⟩ := ev_spec_l1Cur_parcels l 0 0 hl (by omega)
 exact ⟨V, Ev.bind h1 (Ev.now _), h2⟩

theorem ev_spec_DrawStraightLeads (l : List Int) (hl : codeOk l) : ∃ V, Ev (fun k => spec_DrawStraightLeads.f k l) V ∧ V.length ≤ 13 := by
 unfold spec_DrawStraightLeads.f
 obtain ⟨V, h1, h2⟩ := ev_spec_DrawArrivalsOf l hl
 exact ⟨V, Ev.bind h1 (Ev.now _), h2⟩

theorem rdA2_nat {l : List S127} {i : Nat} (h : i < l.length) : rd_T127 l (i : Int) = l[i] := by
 unfold rd_T127
 simp [List.getD_eq_getElem?_getD, h]

def crossB (l : List S82) (i k : Nat) : Bool := decide ((rd_T82 l (i : Int)).f0 < (rd_T82 l (k : Int)).f0) && decide (wrap64 ((rd_T82 l (k : Int)).f0 + (rd_T82 l (k : Int)).f2) < wrap64 ((rd_T82 l (i : Int)).f0 + (rd_T82 l (i : Int)).f2))
def crossRow (l : List S82) (i : Nat) : Nat → Nat → List S127
 | 0, _ => []
 | d + 1, k => (if crossB l i k = true then [⟨(i : Int), (k : Int)⟩] else []) ++ crossRow l i d (k + 1)
def crossAll (l : List S82) : Nat → Nat → List S127
 | 0, _ => []
 | d + 1, i => crossRow l i d (i + 1) ++ crossAll l d (i + 1)
theorem crossRow_length (l : List S82) (i d : Nat) : ∀ k, (crossRow l i d k).length ≤ d := by
 induction d with
 | zero => intro k; simp [crossRow]
 | succ d ih =>
  intro k
  have := ih (k + 1)
  simp only [crossRow, List.length_append]
  split <;> simp <;> omega
theorem crossAll_length (l : List S82) (d : Nat) : ∀ i, (crossAll l d i).length ≤ d * d := by
 induction d with
 | zero => intro i; simp [crossAll]
 | succ d ih =>
  intro i
  have h1 := ih (i + 1)
  have h2 := crossRow_length l i d (i + 1)
  simp only [crossAll, List.length_append]
  have : (d + 1) * (d + 1) = d * d + 2 * d + 1 := by rw [Nat.add_mul, Nat.mul_add]; omega
  omega
def crossV (l : List S82) : List S127 × Bool := if parcelsB l = true then (crossAll l l.length 0, true) else ([], false)
theorem crossV_length (l : List S82) : (crossV l).1.length ≤ 144 := by
 unfold crossV
 by_cases h : parcelsB l = true
 ·rw [if_pos h]
  have h1 := (parcelsB_mem h).1
  have h2 := crossAll_length l l.length 0
  have : l.length * l.length ≤ 12 * 12 := Nat.mul_le_mul h1 h1
  simp only
  omega
 ·rw [if_neg h]; simp

theorem ev_impl_CrossingPairs_l0 (l : List S82) (hl : l.length ≤ 12) (d : Nat) : ∀ (i : Nat) (o : List S127), i + d = l.length → o.length + d * d ≤ 1000 → Ev (fun k => impl_CrossingPairs.l0 k l o l (l.length : Int) (i : Int)) (o ++ crossAll l d i, true) := by
 induction d with
 | zero =>
  intro i o hi ho
  refine ev_succ ?_
  have h1 : ¬ (i : Int) < (l.length : Int) := by omega
  simp only [impl_CrossingPairs.l0, h1, ↓reduceIte, crossAll, List.append_nil]
  exact Ev.now _
 | succ d ih =>
  intro i o hi ho
  have hi' : i < l.length := by omega
  have hq : (d + 1) * (d + 1) = d * d + 2 * d + 1 := by rw [Nat.add_mul, Nat.mul_add]; omega
  have h1 : (i : Int) < (l.length : Int) := by omega
  have h0 : (0 : Int) ≤ (i : Int) := by omega
  have hin : ∀ dd : Nat, ∀ (j : Nat) (q : List S127), j + dd = l.length → q.length + dd + d * d ≤ 1000 → Ev (fun k => impl_CrossingPairs.l1 k l q (i : Int) (j : Int) l (l.length : Int) (i : Int) (rd_T82 l (i : Int)).f0 (rd_T82 l (i : Int)).f1 (rd_T82 l (i : Int)).f2) (q ++ crossRow l i dd j ++ crossAll l d (i + 1), true) := by
   intro dd
   induction dd with
   | zero =>
    intro j q hj hq
    refine ev_succ ?_
    have h2 : ¬ (j : Int) < (l.length : Int) := by omega
    simp only [impl_CrossingPairs.l1, h2, ↓reduceIte, w64_nat hi' (by omega : l.length ≤ 9223372036854775807), crossRow, List.append_nil]
    exact ih (i + 1) q (by omega) (by omega)
   | succ dd ihd =>
    intro j q hj hq
    refine ev_succ ?_
    have hj' : j < l.length := by omega
    have h2 : (j : Int) < (l.length : Int) := by omega
    have h3 : (0 : Int) ≤ (j : Int) := by omega
    have h4 : q.length < 8796093022208 := by omega
    simp only [impl_CrossingPairs.l1, h0, h1, h2, h3, h4, ↓reduceIte, w64_nat hj' (by omega : l.length ≤ 9223372036854775807), crossRow, crossB]
    by_cases c1 : (rd_T82 l (i : Int)).f0 < (rd_T82 l (j : Int)).f0
    ·by_cases c2 : wrap64 ((rd_T82 l (j : Int)).f0 + (rd_T82 l (j : Int)).f2) < wrap64 ((rd_T82 l (i : Int)).f0 + (rd_T82 l (i : Int)).f2)
     ·simp only [c1, c2, ↓reduceIte, decide_true, Bool.and_self]
      refine ev_eq (ihd (j + 1) _ (by omega) (by simp; omega)) ?_
      simp only [List.append_assoc]
     ·simp only [c1, c2, ↓reduceIte, decide_true, decide_false, Bool.and_false, Bool.false_eq_true, List.nil_append]
      exact ihd (j + 1) _ (by omega) (by omega)
    ·simp only [c1, ↓reduceIte, decide_false, Bool.false_and, Bool.false_eq_true, List.nil_append]
     exact ihd (j + 1) _ (by omega) (by omega)
  refine ev_succ ?_
  simp only [impl_CrossingPairs.l0, h1, h0, ↓reduceIte, crossAll, w64_nat hi' (by omega : l.length ≤ 9223372036854775807)]
  refine ev_eq (hin d (i + 1) o (by omega) (by omega)) ?_
  rw [List.append_assoc]
theorem ev_impl_CrossingPairs (l : List S82) (hl : l.length ≤ 9223372036854775807) : Ev (fun k => impl_CrossingPairs.f k l) (crossV l) := by
 unfold impl_CrossingPairs.f crossV
 refine Ev.bind (ev_impl_areParcels l hl) ?_
 refine ev_ite (fun h => ?_) (fun h => ?_)
 ·rw [if_pos h]
  have h1 := (parcelsB_mem h).1
  have h2 : l.length * l.length ≤ 12 * 12 := Nat.mul_le_mul h1 h1
  exact ev_impl_CrossingPairs_l0 l h1 l.length 0 [] (by omega) (by simp; omega)
 ·rw [if_neg h]; exact Ev.now _

theorem ev_spec_CrossingPairs_l0 (l : List S82) (hl : l.length ≤ 12) (d : Nat) : ∀ (i : Nat) (o : List S127), i + d = l.length → o.length + d * d ≤ 1000 → Ev (fun k => spec_CrossingPairs.l0 k l o (i : Int)) (o ++ crossAll l d i, true) := by
 induction d with
 | zero =>
  intro i o hi ho
  refine ev_succ ?_
  have h1 : ¬ (i : Int) < (l.length : Int) := by omega
  simp only [spec_CrossingPairs.l0, h1, ↓reduceIte, crossAll, List.append_nil]
  exact Ev.now _
 | succ d ih =>
  intro i o hi ho
  have hi' : i < l.length := by omega
  have hq : (d + 1) * (d + 1) = d * d + 2 * d + 1 := by rw [Nat.add_mul, Nat.mul_add]; omega
  have h1 : (i : Int) < (l.length : Int) := by omega
  have h0 : (0 : Int) ≤ (i : Int) := by omega
  have hin : ∀ dd : Nat, ∀ (j : Nat) (q : List S127), j + dd = l.length → q.length + dd + d * d ≤ 1000 → Ev (fun k => spec_CrossingPairs.l1 k l q (i : Int) (j : Int)) (q ++ crossRow l i dd j ++ crossAll l d (i + 1), true) := by
   intro dd
   induction dd with
   | zero =>
    intro j q hj hq
    refine ev_succ ?_
    have h2 : ¬ (j : Int) < (l.length : Int) := by omega
    simp only [spec_CrossingPairs.l1, h2, ↓reduceIte, w64_nat hi' (by omega : l.length ≤ 9223372036854775807), crossRow, List.append_nil]
    exact ih (i + 1) q (by omega) (by omega)
   | succ dd ihd =>
    intro j q hj hq
    refine ev_succ ?_
    have hj' : j < l.length := by omega
    have h2 : (j : Int) < (l.length : Int) := by omega
    have h3 : (0 : Int) ≤ (j : Int) := by omega
    have h4 : q.length < 8796093022208 := by omega
    simp only [spec_CrossingPairs.l1, h0, h1, h2, h3, h4, gt_iff_lt, ↓reduceIte, w64_nat hj' (by omega : l.length ≤ 9223372036854775807), crossRow, crossB]
    by_cases c1 : (rd_T82 l (i : Int)).f0 < (rd_T82 l (j : Int)).f0
    ·by_cases c2 : wrap64 ((rd_T82 l (j : Int)).f0 + (rd_T82 l (j : Int)).f2) < wrap64 ((rd_T82 l (i : Int)).f0 + (rd_T82 l (i : Int)).f2)
     ·simp only [c1, c2, ↓reduceIte, decide_true, Bool.and_self]
      refine ev_eq (ihd (j + 1) _ (by omega) (by simp; omega)) ?_
      simp only [List.append_assoc]
     ·simp only [c1, c2, ↓reduceIte, decide_true, decide_false, Bool.and_false, Bool.false_eq_true, List.nil_append]
      exact ihd (j + 1) _ (by omega) (by omega)
    ·simp only [c1, ↓reduceIte, decide_false, Bool.false_and, Bool.false_eq_true, List.nil_append]
     exact ihd (j + 1) _ (by omega) (by omega)
  refine ev_succ ?_
  simp only [spec_CrossingPairs.l0, h1, h0, ↓reduceIte, crossAll, w64_nat hi' (by omega : l.length ≤ 9223372036854775807)]
  refine ev_eq (hin d (i + 1) o (by omega) (by omega)) ?_
  rw [List.append_assoc]
theorem ev_spec_CrossingPairs (l : List S82) (hl : l.length ≤ 9223372036854775807) : Ev (fun k => spec_CrossingPairs.f k l) (crossV l) := by
 unfold spec_CrossingPairs.f crossV
 simp only [Option.bind_some]
 refine Ev.bind (ev_spec_l11Parcels l hl) ?_
 refine ev_ite (fun h => ?_) (fun h => ?_)
 ·rw [if_pos h]
  have h1 := (parcelsB_mem h).1
  have h2 : l.length * l.length ≤ 12 * 12 := Nat.mul_le_mul h1 h1
  exact ev_spec_CrossingPairs_l0 l h1 l.length 0 [] (by omega) (by simp; omega)
 ·rw [if_neg h]; exact Ev.now _

theorem ev_laws_rPairs_self_l0 (l : List S127) (hl : l.length ≤ 9223372036854775807) (d : Nat) : ∀ (i : Nat), i + d = l.length → Ev (fun k => laws_rPairs.l0 k l l (i : Int)) true := by
 induction d with
 | zero =>
  intro i hi
  refine ev_succ ?_
  have h1 : ¬ (i : Int) < (l.length : Int) := by omega
  simp only [laws_rPairs.l0, h1, ↓reduceIte]
  exact Ev.now _
 | succ d ih =>
  intro i hi
  refine ev_succ ?_
  have h1 : (i : Int) < (l.length : Int) := by omega
  have h0 : (0 : Int) ≤ (i : Int) := by omega
  have hi' : i < l.length := by omega
  simp only [laws_rPairs.l0, h1, h0, ↓reduceIte, w64_nat hi' hl, beq_self_eq_true, Bool.not_true, Bool.or_self, Bool.false_eq_true]
  exact ih (i + 1) (by omega)
theorem ev_laws_rPairs_self (l : List S127) (hl : l.length ≤ 9223372036854775807) : Ev (fun k => laws_rPairs.f k l l) true := by
 unfold laws_rPairs.f
 simp only [↓reduceIte]
 exact ev_laws_rPairs_self_l0 l hl l.length 0 (by omega)

def arrivalsV (l : List S82) : List Int × Bool := if parcelsB l = true then (arrV l, true) else ([], false)
theorem arrivalsV_length (l : List S82) : (arrivalsV l).1.length ≤ 24 := by
 unfold arrivalsV
 split
 ·simp [arrV_length]
 ·simp

theorem ev_impl_ArrivalsOf (l : List S82) (hl : l.length ≤ 9223372036854775807) : Ev (fun k => impl_ArrivalsOf.f k l) (arrivalsV l) := by
 unfold impl_ArrivalsOf.f arrivalsV
 refine Ev.bind (ev_impl_areParcels l hl) ?_
 refine ev_ite (fun h => ?_) (fun h => ?_)
 ·refine Ev.bind (ev_impl_arrivals l h) ?_
  rw [if_pos h]; exact Ev.now _
 ·rw [if_neg h]; exact Ev.now _

theorem ev_spec_ArrivalsOf (l : List S82) (hl : l.length ≤ 9223372036854775807) : Ev (fun k => spec_ArrivalsOf.f k l) (arrivalsV l) := by
 unfold spec_ArrivalsOf.f arrivalsV
 refine Ev.bind (ev_spec_l11Parcels l hl) ?_
 refine ev_ite (fun h => ?_) (fun h => ?_)
 ·refine Ev.bind (ev_spec_l11Arrivals l h) ?_
  rw [if_pos h]; exact Ev.now _
 ·rw [if_neg h]; exact Ev.now _

theorem wf_u8 {x : Int} (h : (Lit.int .u8 x).wf = true) : 0 ≤ x ∧ x ≤ 255 := by
 simp [Lit.wf, IntKind.min, IntKind.max, IntKind.signed, IntKind.bits] at h
 omega

theorem strL_cross {l : List S82} (hp : parcelsB l = true) {i k : Nat} (h : i < k) (hk : k < l.length) : crossB (strL l) i k = false := by
 have hi : i < l.length := by omega
 have hlen : (srtI (arrD l)).length = l.length := by rw [srtI_len]; simp [arrD]
 have ha := srtI_asc (arrD l)
 have h1 := strL_lead hp hi
 have h2 := strL_lead hp hk
 have m1 := ((parcelsB_mem hp).2 i hi).1
 have m2 := ((parcelsB_mem hp).2 k hk).1
 have hs1 : i < (strL l).length := by rw [strL_len]; exact hi
 have hs2 : k < (strL l).length := by rw [strL_len]; exact hk
 have hle : rd (srtI (arrD l)) (i : Int) ≤ rd (srtI (arrD l)) (k : Int) := by
  rw [rd_nat (by omega), rd_nat (by omega)]
  exact List.pairwise_iff_getElem.1 ha i k (by omega) (by omega) h
 unfold crossB
 rw [rdP_nat hs1, rdP_nat hs2, strL_get hs1, strL_get hs2]
 unfold strAt
 dsimp only
 rw [w64 (x := l[k].f0 + (rd (srtI (arrD l)) (k : Int) - l[k].f0)) (by omega) (by omega), w64 (x := l[i].f0 + (rd (srtI (arrD l)) (i : Int) - l[i].f0)) (by omega) (by omega)]
 rw [Bool.and_eq_false_iff]
 right
 exact decide_eq_false (by omega)
theorem strL_row {l : List S82} (hp : parcelsB l = true) (i d : Nat) : ∀ k, i < k → k + d ≤ l.length → crossRow (strL l) i d k = [] := by
 induction d with
 | zero => intro k _ _; rfl
 | succ d ih =>
  intro k h1 h2
  rw [crossRow, strL_cross hp h1 (by omega), ih (k + 1) (by omega) (by omega)]
  rfl
theorem strL_all {l : List S82} (hp : parcelsB l = true) (d : Nat) : ∀ i, i + d = l.length → crossAll (strL l) d i = [] := by
 induction d with
 | zero => intro i _; rfl
 | succ d ih =>
  intro i h
  rw [crossAll, strL_row hp i d (i + 1) (by omega) (by omega), ih (i + 1) (by omega)]
  rfl
theorem strL_crossV {l : List S82} (hp : parcelsB l = true) : crossV (strL l) = ([], true) := by
 unfold crossV
 rw [if_pos (strL_parcels hp), strL_len, strL_all hp _ 0 (by omega)]
theorem pst_ten {l : List S82} (hp : parcelsB l = true) : pstocksV 10 l [1, 2, 3, 4, 5, 6, 7, 8, 9, 10] = (stockFrom (arrV l) [1, 2, 3, 4, 5, 6, 7, 8, 9, 10] 10 0 10, true) := by
 unfold pstocksV
 rw [hp, if_pos (by decide)]
 rfl
theorem ev_FnParcels_j7 {l : List S82} (hp : parcelsB l = true) (hs : sameB l = true) : Ev (fun k => laws_FnParcels.j7 k l (strL l) false) true := by
 refine ev_succ ?_
 simp only [laws_FnParcels.j7, Bool.false_eq_true, ↓reduceIte, Option.bind_some]
 have hl := (parcelsB_mem hp).1
 have h1 := ev_impl_ParcelStocks 10 l [1, 2, 3, 4, 5, 6, 7, 8, 9, 10] (by omega) (by simp)
 have h2 := ev_impl_ParcelStocks 10 (strL l) [1, 2, 3, 4, 5, 6, 7, 8, 9, 10] (by rw [strL_len]; omega) (by simp)
 rw [pst_ten hp] at h1
 rw [pst_ten (strL_parcels hp), arrV_straight hp hs] at h2
 refine Ev.bind h1 ?_
 refine Ev.bind h2 ?_
 simp only [if_true]
 exact Ev.bind (ev_laws_rInts_self _ (by rw [stockFrom_length]; omega)) (Ev.now _)
theorem ev_FnParcels_j6 (l : List S82) (a : List Int) (ha : parcelsB l = true → a = arrV l) : Ev (fun k => laws_FnParcels.j6 k l (straightV l).1 (straightV l).2 a) true := by
 refine ev_succ ?_
 simp only [laws_FnParcels.j6]
 refine ev_ite (fun h => ?_) (fun _ => Ev.now _)
 have hc : (parcelsB l && sameB l) = true := by
  unfold straightV at h
  by_cases c : (parcelsB l && sameB l) = true
  ·exact c
  ·rw [if_neg c] at h; cases h
 have hv : straightV l = (strL l, true) := by unfold straightV; rw [if_pos hc]
 rw [Bool.and_eq_true] at hc
 have hl := (parcelsB_mem hc.1).1
 rw [hv, ha hc.1]
 have h1 := ev_impl_CrossingPairs (strL l) (by rw [strL_len]; omega)
 have h2 := ev_impl_ArrivalsOf (strL l) (by rw [strL_len]; omega)
 rw [strL_crossV hc.1] at h1
 unfold arrivalsV at h2
 rw [if_pos (strL_parcels hc.1), arrV_straight hc.1 hc.2] at h2
 refine Ev.bind h1 ?_
 refine Ev.bind h2 ?_
 simp only [if_true]
 refine ev_yes (by simp) ?_
 refine Ev.bind (ev_laws_rInts_self _ (by rw [arrV_length]; omega)) ?_
 exact ev_FnParcels_j7 hc.1 hc.2
theorem ev_FnParcels_l1 (l : List S82) (hl : l.length ≤ 1000) (v : List S82) (b : Bool) (a : List Int) (hal : a.length ≤ 1000) (hj : Ev (fun k => laws_FnParcels.j6 k l v b a) true) (d : Nat) : ∀ (i : Nat) (s : Int), i + d = l.length → wrap64 s = s → wrap64 a.sum = wrap64 (s + ((l.drop i).map fun x => x.f1).sum) → Ev (fun k => laws_FnParcels.l1 k l v b a s (i : Int)) true := by
 induction d with
 | zero =>
  intro i s hi hs hw
  refine ev_succ ?_
  have h1 : ¬ (i : Int) < (l.length : Int) := by omega
  simp only [laws_FnParcels.l1, h1, ↓reduceIte]
  refine Ev.bind (ev_laws_rSum a (by omega)) ?_
  rw [List.drop_eq_nil_of_le (by omega), List.map_nil, List.sum_nil, Int.add_zero, hs] at hw
  exact ev_yes hw hj
 | succ d ih =>
  intro i s hi hs hw
  refine ev_succ ?_
  have hi' : i < l.length := by omega
  have h1 : (i : Int) < (l.length : Int) := by omega
  have h0 : (0 : Int) ≤ (i : Int) := by omega
  simp only [laws_FnParcels.l1, h1, h0, ↓reduceIte, w64_nat hi' (by omega : l.length ≤ 9223372036854775807), rdP_nat hi']
  refine ih (i + 1) _ (by omega) (w64_idem _) ?_
  rw [w64_add_l, hw, drop_cons hi', List.map_cons, List.sum_cons, Int.add_assoc]
theorem ev_FnParcels_j4 (l : List S82) (hl : l.length ≤ 1000) : Ev (fun k => laws_FnParcels.j4 k l (straightV l).1 (straightV l).2 (arrivalsV l).1 (arrivalsV l).2 false) true := by
 refine ev_succ ?_
 simp only [laws_FnParcels.j4, Bool.false_eq_true, ↓reduceIte]
 by_cases hp : parcelsB l = true
 ·have hv : arrivalsV l = (arrV l, true) := by unfold arrivalsV; rw [if_pos hp]
  rw [hv]
  simp only [if_true]
  refine ev_FnParcels_l1 l hl _ _ _ (by rw [arrV_length]; omega) (ev_FnParcels_j6 l _ (fun _ => rfl)) l.length 0 0 (by omega) w64_zero ?_
  rw [(arrV_sum hp).1, List.drop_zero, Int.zero_add]
 ·have hv : arrivalsV l = ([], false) := by unfold arrivalsV; rw [if_neg hp]
  rw [hv]
  simp only [Bool.false_eq_true, ↓reduceIte]
  exact ev_FnParcels_j6 l _ (fun h => absurd h hp)
theorem ev_FnParcels_j3 (l : List S82) (hl : l.length ≤ 1000) : Ev (fun k => laws_FnParcels.j3 k l (straightV l).1 (straightV l).2 (crossV l).2 false) true := by
 refine ev_succ ?_
 simp only [laws_FnParcels.j3, Bool.false_eq_true, ↓reduceIte]
 refine Ev.bind (ev_impl_ArrivalsOf l (by omega)) ?_
 refine Ev.bind (ev_spec_ArrivalsOf l (by omega)) ?_
 have e : (arrivalsV l).2 = (crossV l).2 := by
  unfold arrivalsV crossV
  by_cases hp : parcelsB l = true
  ·rw [if_pos hp, if_pos hp]
  ·rw [if_neg hp, if_neg hp]
 simp only [e, bne_self_eq_false, Bool.false_eq_true, ↓reduceIte]
 have hl2 := arrivalsV_length l
 refine Ev.bind (ev_laws_rInts_self _ (by omega)) ?_
 have := ev_FnParcels_j4 l hl
 rw [e] at this
 exact this
theorem ev_FnParcels_l0 (l : List S82) (hl : l.length ≤ 1000) (d : Nat) : ∀ i : Nat, i + d = (straightV l).1.length → Ev (fun k => laws_FnParcels.l0 k l (straightV l).1 (straightV l).2 (straightV l).1 (i : Int)) true := by
 have hv := straightV_len l
 induction d with
 | zero =>
  intro i hi
  refine ev_succ ?_
  have h1 : ¬ (i : Int) < ((straightV l).1.length : Int) := by omega
  simp only [laws_FnParcels.l0, h1, ↓reduceIte]
  refine Ev.bind (ev_impl_CrossingPairs l (by omega)) ?_
  refine Ev.bind (ev_spec_CrossingPairs l (by omega)) ?_
  simp only [bne_self_eq_false, Bool.false_eq_true, ↓reduceIte]
  have hc := crossV_length l
  refine Ev.bind (ev_laws_rPairs_self _ (by omega)) ?_
  exact ev_FnParcels_j3 l hl
 | succ d ih =>
  intro i hi
  refine ev_succ ?_
  have h1 : (i : Int) < ((straightV l).1.length : Int) := by omega
  have h0 : (0 : Int) ≤ (i : Int) := by omega
  have hi' : i < (straightV l).1.length := by omega
  simp only [laws_FnParcels.l0, h1, h0, ↓reduceIte, beq_self_eq_true, Bool.not_true, Bool.or_self, Bool.false_eq_true, w64_nat hi' (by omega : (straightV l).1.length ≤ 9223372036854775807)]
  exact ih (i + 1) (by omega)
theorem FnParcels (l0 : List (Int)) (h0 : l0.length ≤ 9223372036854775807) (w0 : ∀ y ∈ l0, (Lit.int .u8 y).wf = true) : ∃ k, laws_FnParcels.f k l0 = some true := by
 refine Ev.rounds ?_
 have hl : codeOk l0 := fun x hx => wf_u8 (w0 x hx)
 unfold laws_FnParcels.f
 simp only [laws_rBig.f, Option.bind_some]
 refine ev_ite (fun h => Ev.now _) (fun _ => ?_)
 obtain ⟨st, V, Q, h1, hV, hQ⟩ := ev_spec_DrawParcelStocks l0 hl
 refine Ev.bind h1 ?_
 dsimp only
 refine Ev.bind (ev_impl_ParcelStocks st V Q (by omega) (by omega)) ?_
 refine Ev.bind (ev_spec_ParcelStocks st V Q (by omega) (by omega)) ?_
 have hp := pstocksV_length st V Q
 simp only [bne_self_eq_false, Bool.false_eq_true, ↓reduceIte]
 refine Ev.bind (ev_laws_rInts_self _ (by omega)) ?_
 refine ev_succ ?_
 simp only [laws_FnParcels.j0, Bool.not_true, Bool.false_eq_true, ↓reduceIte]
 obtain ⟨L, h2, hL⟩ := ev_spec_DrawStraightLeads l0 hl
 refine Ev.bind h2 ?_
 refine Ev.bind (ev_impl_StraightLeads L (by omega)) ?_
 refine Ev.bind (ev_spec_StraightLeads L (by omega)) ?_
 simp only [bne_self_eq_false, Bool.false_eq_true, ↓reduceIte]
 refine ev_succ ?_
 simp only [laws_FnParcels.j1, Bool.false_eq_true, ↓reduceIte]
 exact ev_FnParcels_l0 L (by omega) (straightV L).1.length 0 (by omega)

end Go.Proofs.Ytfgclhojgaaepaa.Pure
