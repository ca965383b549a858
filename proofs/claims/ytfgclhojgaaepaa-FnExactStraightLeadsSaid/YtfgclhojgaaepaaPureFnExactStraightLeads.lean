/- The pure side of FnExactStraightLeads: what the program's text computes and what the reference's text computes are the same value, for every argument. No condition. -/
import Derived.Test.YtfgclhojgaaepaaPFnExactStraightLeadsx15
namespace Go.Proofs.Ytfgclhojgaaepaa.Pure
open Go.RowKit Go.Proofs.Ytfgclhojgaaepaa.PFnExactStraightLeads Go.Proofs.YtfgclhojgaaepaaW.PrintWords Go.Proofs.YtfgclhojgaaepaaW.PrintLast
set_option linter.unusedVariables false
set_option linter.unusedSimpArgs false

theorem ev_succ {α : Type} {g : Nat → Option α} {r : α} (h : Ev (fun k => g (k + 1)) r) : Ev g r := Ev.step (fun _ => rfl) h
theorem ev_pure {α : Type} {x : Option α} {r : α} (h : x = some r) : Ev (fun _ => x) r := ⟨0, fun _ _ => h⟩
theorem ev_eq {α : Type} {g : Nat → Option α} {r r' : α} (h : Ev g r) (e : r = r') : Ev g r' := e ▸ h
theorem ev_ite {α : Type} {c : Prop} [Decidable c] {g f : Nat → Option α} {r : α} (h1 : c → Ev g r) (h2 : ¬ c → Ev f r) : Ev (fun k => if c then g k else f k) r := by
 by_cases h : c
 ·simp only [h, if_true]; exact h1 h
 ·simp only [h, if_false]; exact h2 h
theorem w64 {x : Int} (h : -9223372036854775808 ≤ x) (h' : x ≤ 9223372036854775807) : wrap64 x = x := by unfold wrap64; omega
theorem w64_zero : wrap64 0 = 0 := w64 (by omega) (by omega)
theorem w64_idem (x : Int) : wrap64 (wrap64 x) = wrap64 x := by unfold wrap64; omega
theorem w64_add_l (x y : Int) : wrap64 (wrap64 x + y) = wrap64 (x + y) := by unfold wrap64; omega
theorem w64_add_r (x y : Int) : wrap64 (x + wrap64 y) = wrap64 (x + y) := by unfold wrap64; omega
theorem w64_sub_l (x y : Int) : wrap64 (wrap64 x - y) = wrap64 (x - y) := by unfold wrap64; omega
theorem w64_sub_r (x y : Int) : wrap64 (x - wrap64 y) = wrap64 (x - y) := by unfold wrap64; omega
theorem w64_shift (x k : Int) : wrap64 (x + 18446744073709551616 * k) = wrap64 x := by unfold wrap64; omega
theorem w64_ex (x : Int) : ∃ k, wrap64 x = x + 18446744073709551616 * k := by
 unfold wrap64
 exact ⟨-((x + 9223372036854775808) / 18446744073709551616), by omega⟩
theorem w64_mul_l (x y : Int) : wrap64 (wrap64 x * y) = wrap64 (x * y) := by
 obtain ⟨k, hk⟩ := w64_ex x
 rw [hk, Int.add_mul, Int.mul_assoc, w64_shift]
theorem w64_mul_r (x y : Int) : wrap64 (x * wrap64 y) = wrap64 (x * y) := by
 rw [Int.mul_comm, w64_mul_l, Int.mul_comm]
theorem w64_neg (x : Int) : wrap64 (-wrap64 x) = wrap64 (-x) := by unfold wrap64; omega
theorem w64_range (x : Int) : -9223372036854775808 ≤ wrap64 x ∧ wrap64 x ≤ 9223372036854775807 := by unfold wrap64; omega
theorem w64_nat {i n : Nat} (h : i < n) (hn : n ≤ 9223372036854775807) : wrap64 ((i : Int) + 1) = ((i + 1 : Nat) : Int) := by rw [w64 (by omega) (by omega)]; rfl
theorem wf_range {x : Int} (h : (Lit.int .i64 x).wf = true) : -9223372036854775808 ≤ x ∧ x ≤ 9223372036854775807 := by
 simp [Lit.wf, IntKind.min, IntKind.max, IntKind.signed, IntKind.bits] at h
 omega
theorem rd_nat {l : List Int} {i : Nat} (h : i < l.length) : rd l (i : Int) = l[i] := by
 unfold rd
 simp [List.getD_eq_getElem?_getD, h]
def allB (l : List Int) (a b : Int) : Bool := l.all fun x => decide (a ≤ x ∧ x ≤ b)
def inB (x a b : Int) : Bool := decide (a ≤ x ∧ x ≤ b)
theorem allB_mem {l : List Int} {a b : Int} (h : allB l a b = true) : ∀ x ∈ l, a ≤ x ∧ x ≤ b := by
 intro x hx
 have := List.all_eq_true.1 h x hx
 simpa using this
theorem inB_iff {x a b : Int} : inB x a b = true ↔ a ≤ x ∧ x ≤ b := by unfold inB; simp
theorem sum_le {l : List Int} {b : Int} (hb : ∀ x ∈ l, x ≤ b) : l.sum ≤ l.length * b := by
 induction l with
 | nil => simp
 | cons x l ih =>
  have h1 := hb x (by simp)
  have h2 := ih (fun y hy => hb y (by simp [hy]))
  rw [List.sum_cons, List.length_cons]
  have : ((l.length + 1 : Nat) : Int) * b = l.length * b + b := by rw [Int.natCast_add, Int.add_mul]; simp
  rw [this]; omega
theorem le_sum {l : List Int} {b : Int} (hb : ∀ x ∈ l, b ≤ x) : l.length * b ≤ l.sum := by
 induction l with
 | nil => simp
 | cons x l ih =>
  have h1 := hb x (by simp)
  have h2 := ih (fun y hy => hb y (by simp [hy]))
  rw [List.sum_cons, List.length_cons]
  have : ((l.length + 1 : Nat) : Int) * b = l.length * b + b := by rw [Int.natCast_add, Int.add_mul]; simp
  rw [this]; omega
theorem drop_cons {α : Type} {l : List α} {i : Nat} (h : i < l.length) : l.drop i = l[i] :: l.drop (i + 1) := List.drop_eq_getElem_cons h
theorem ev_yes {α : Type} {c : Prop} [Decidable c] {g f : Nat → Option α} {r : α} (h : c) (hg : Ev g r) : Ev (fun k => if c then g k else f k) r := ev_ite (fun _ => hg) (fun hn => absurd h hn)
theorem ev_no {α : Type} {c : Prop} [Decidable c] {g f : Nat → Option α} {r : α} (h : ¬ c) (hf : Ev f r) : Ev (fun k => if c then g k else f k) r := ev_ite (fun hn => absurd hn h) (fun _ => hf)

theorem laws_szParcelS_le (l : List S98) (hl : l.length ≤ 1048576) : laws_szParcelS.f l 1048576 = some (1048576 - (l.length : Int)) := by
 unfold laws_szParcelS.f
 rw [w64 (by omega) (by omega), if_neg (by omega)]
theorem laws_szParcelS_gt (l : List S98) (h : l.length ≤ 9223372036854775807) (hl : 1048576 < l.length) : laws_szParcelS.f l 1048576 = some (-1) := by
 unfold laws_szParcelS.f
 rw [w64 (by omega) (by omega), if_pos (by omega)]

theorem spec_l1In_f (a b c : Int) : spec_l1In.f a b c = some (inB a b c) := by
 unfold spec_l1In.f inB
 by_cases h : a ≥ b
 ·rw [if_pos h]; congr 1; rw [decide_eq_decide]; omega
 ·rw [if_neg h]; congr 1; symm; rw [decide_eq_false_iff_not]; omega

def parcOk (l : List S82) : Nat → Nat → Bool
 | 0, _ => decide ((l.length : Int) ≤ 12)
 | d + 1, i => inB (rd_T82 l (i : Int)).f0 1 20 && (inB (rd_T82 l (i : Int)).f1 1 40 && (inB (rd_T82 l (i : Int)).f2 0 4 && ((if 0 < i then decide ((rd_T82 l ((i - 1 : Nat) : Int)).f0 ≤ (rd_T82 l (i : Int)).f0) else true) && parcOk l d (i + 1))))
def parcelsB (l : List S82) : Bool := parcOk l l.length 0
theorem rdP_nat {l : List S82} {i : Nat} (h : i < l.length) : rd_T82 l (i : Int) = l[i] := by
 unfold rd_T82
 simp [List.getD_eq_getElem?_getD, h]
theorem parcOk_mem (l : List S82) (d : Nat) : ∀ i : Nat, i + d = l.length → parcOk l d i = true → (l.length : Int) ≤ 12 ∧ ∀ j, i ≤ j → (hj : j < l.length) → (1 ≤ l[j].f0 ∧ l[j].f0 ≤ 20) ∧ (1 ≤ l[j].f1 ∧ l[j].f1 ≤ 40) ∧ (0 ≤ l[j].f2 ∧ l[j].f2 ≤ 4) ∧ ∀ hj0 : 0 < j, l[j - 1].f0 ≤ l[j].f0 := by
 induction d with
 | zero =>
  intro i hi h
  exact ⟨by simpa [parcOk] using h, fun j h1 h2 => by omega⟩
 | succ d ih =>
  intro i hi h
  have hi' : i < l.length := by omega
  unfold parcOk at h
  simp only [Bool.and_eq_true, inB_iff] at h
  obtain ⟨h1, h2, h3, h4, h5⟩ := h
  obtain ⟨hl, hall⟩ := ih (i + 1) (by omega) h5
  refine ⟨hl, fun j hj hjl => ?_⟩
  by_cases he : j = i
  ·subst he
   rw [rdP_nat hi'] at h1 h2 h3
   refine ⟨h1, h2, h3, fun hj0 => ?_⟩
   rw [if_pos hj0, rdP_nat (by omega), rdP_nat hi'] at h4
   simpa using h4
  ·exact hall j (by omega) hjl
theorem parcelsB_mem {l : List S82} (h : parcelsB l = true) : l.length ≤ 12 ∧ ∀ j (hj : j < l.length), (1 ≤ l[j].f0 ∧ l[j].f0 ≤ 20) ∧ (1 ≤ l[j].f1 ∧ l[j].f1 ≤ 40) ∧ (0 ≤ l[j].f2 ∧ l[j].f2 ≤ 4) ∧ ∀ hj0 : 0 < j, l[j - 1].f0 ≤ l[j].f0 := by
 obtain ⟨h1, h2⟩ := parcOk_mem l l.length 0 (by omega) h
 exact ⟨by omega, fun j hj => h2 j (by omega) hj⟩
def arrFrom (l : List S82) : Nat → Nat → List Int → List Int
 | 0, _, o => o
 | d + 1, i, o => arrFrom l d (i + 1) (o.set ((rd_T82 l (i : Int)).f0 + (rd_T82 l (i : Int)).f2 - 1).toNat (wrap64 (rd o ((rd_T82 l (i : Int)).f0 + (rd_T82 l (i : Int)).f2 - 1) + (rd_T82 l (i : Int)).f1)))
def arrV (l : List S82) : List Int := arrFrom l l.length 0 (List.replicate 24 0)
theorem arrFrom_length (l : List S82) (d : Nat) : ∀ (i : Nat) (o : List Int), (arrFrom l d i o).length = o.length := by
 induction d with
 | zero => intro i o; rfl
 | succ d ih => intro i o; rw [arrFrom, ih]; simp
theorem arrV_length (l : List S82) : (arrV l).length = 24 := by rw [arrV, arrFrom_length]; simp

theorem ev_spec_l11Parcels_l0 (l : List S82) (hl : l.length ≤ 9223372036854775807) (d : Nat) : ∀ i : Nat, i + d = l.length → Ev (fun k => spec_l11Parcels.l0 k l (i : Int)) (parcOk l d i) := by
 induction d with
 | zero =>
  intro i hi
  refine ev_succ ?_
  have h1 : ¬ (i : Int) < (l.length : Int) := by omega
  simp only [spec_l11Parcels.l0, h1, ↓reduceIte]
  exact Ev.now _
 | succ d ih =>
  intro i hi
  refine ev_succ ?_
  have h1 : (i : Int) < (l.length : Int) := by omega
  have h0 : (0 : Int) ≤ (i : Int) := by omega
  have hi' : i < l.length := by omega
  simp only [spec_l11Parcels.l0, h1, h0, ↓reduceIte, spec_l1In_f, Option.bind_some, w64_nat hi' hl]
  unfold parcOk
  refine ev_ite (fun c1 => ?_) (fun c1 => ?_)
  ·refine ev_ite (fun c2 => ?_) (fun c2 => ?_)
   ·refine ev_ite (fun c3 => ?_) (fun c3 => ?_)
    ·rw [c1, c2, c3]
     simp only [Bool.true_and]
     by_cases hp : 0 < i
     ·have hp' : (i : Int) > 0 := by omega
      have e : wrap64 ((i : Int) - 1) = ((i - 1 : Nat) : Int) := by rw [w64 (by omega) (by omega)]; omega
      have h2 : (0 : Int) ≤ ((i - 1 : Nat) : Int) := by omega
      have h3 : ((i - 1 : Nat) : Int) < (l.length : Int) := by omega
      simp only [hp, hp', e, h2, h3, ↓reduceIte]
      refine ev_ite (fun c4 => ?_) (fun c4 => ?_)
      ·exact ev_eq (Ev.now _) (by rw [decide_eq_false (by omega)]; rfl)
      ·exact ev_eq (ih (i + 1) (by omega)) (by rw [decide_eq_true (by omega)]; rfl)
     ·have hp' : ¬ (i : Int) > 0 := by omega
      simp only [hp, hp', ↓reduceIte, Bool.true_and]
      exact ih (i + 1) (by omega)
    ·exact ev_eq (Ev.now _) (by simp [c3])
   ·exact ev_eq (Ev.now _) (by simp [c2])
  ·exact ev_eq (Ev.now _) (by simp [c1])
theorem ev_spec_l11Parcels (l : List S82) (hl : l.length ≤ 9223372036854775807) : Ev (fun k => spec_l11Parcels.f k l) (parcelsB l) := by
 unfold spec_l11Parcels.f
 exact ev_spec_l11Parcels_l0 l hl l.length 0 (by omega)

def insI (x : Int) : List Int → List Int
 | [] => [x]
 | a :: L => if x < a then x :: a :: L else a :: insI x L
def Asc (l : List Int) : Prop := l.Pairwise (· ≤ ·)
theorem insI_mem {x y : Int} : ∀ {L : List Int}, y ∈ insI x L → y = x ∨ y ∈ L
 | [], h => by simp [insI] at h; exact Or.inl h
 | a :: L, h => by
  rw [insI] at h
  by_cases hc : x < a
  ·rw [if_pos hc] at h
   rcases List.mem_cons.1 h with h | h
   ·exact Or.inl h
   ·exact Or.inr h
  ·rw [if_neg hc] at h
   rcases List.mem_cons.1 h with h | h
   ·exact Or.inr (h ▸ List.mem_cons_self ..)
   ·rcases insI_mem h with h | h
    ·exact Or.inl h
    ·exact Or.inr (List.mem_cons_of_mem _ h)
theorem insI_asc {x : Int} : ∀ {L : List Int}, Asc L → Asc (insI x L)
 | [], _ => by simp [insI, Asc]
 | a :: L, h => by
  have h2 := List.pairwise_cons.1 h
  rw [insI]
  by_cases hc : x < a
  ·rw [if_pos hc]
   refine List.pairwise_cons.2 ⟨fun y hy => ?_, h⟩
   rcases List.mem_cons.1 hy with hy | hy
   ·omega
   ·have := h2.1 y hy; omega
  ·rw [if_neg hc]
   refine List.pairwise_cons.2 ⟨fun y hy => ?_, insI_asc h2.2⟩
   rcases insI_mem hy with hy | hy
   ·omega
   ·exact h2.1 y hy
theorem insI_len (x : Int) : ∀ L : List Int, (insI x L).length = L.length + 1
 | [] => rfl
 | a :: L => by
  rw [insI]
  split
  ·simp
  ·simp [insI_len x L]
theorem insI_perm (x : Int) : ∀ L : List Int, (insI x L).Perm (x :: L)
 | [] => List.Perm.refl _
 | a :: L => by
  rw [insI]
  split
  ·exact List.Perm.refl _
  ·exact ((insI_perm x L).cons a).trans (List.Perm.swap x a L)
def srtI (D : List Int) : List Int := D.foldl (fun L x => insI x L) []
theorem srt_go (D : List Int) : ∀ L : List Int, Asc L → Asc (D.foldl (fun L x => insI x L) L) ∧ (D.foldl (fun L x => insI x L) L).Perm (D ++ L) ∧ (D.foldl (fun L x => insI x L) L).length = D.length + L.length := by
 induction D with
 | nil => intro L h; exact ⟨h, List.Perm.refl _, by simp⟩
 | cons x D ih =>
  intro L h
  obtain ⟨a, b, c⟩ := ih (insI x L) (insI_asc h)
  refine ⟨a, b.trans ?_, by rw [List.foldl_cons, c, insI_len, List.length_cons]; omega⟩
  exact ((insI_perm x L).append_left D).trans List.perm_middle
theorem srtI_asc (D : List Int) : Asc (srtI D) := (srt_go D [] List.Pairwise.nil).1
theorem srtI_perm (D : List Int) : (srtI D).Perm D := by unfold srtI; simpa using (srt_go D [] List.Pairwise.nil).2.1
theorem srtI_len (D : List Int) : (srtI D).length = D.length := by unfold srtI; simpa using (srt_go D [] List.Pairwise.nil).2.2
def LeL : List Int → List Int → Prop
 | [], [] => True
 | a :: L, b :: M => a ≤ b ∧ LeL L M
 | _, _ => False
theorem LeL_refl : ∀ L : List Int, LeL L L
 | [] => trivial
 | a :: L => ⟨Int.le_refl _, LeL_refl L⟩
theorem insI_head {a : Int} : ∀ {L : List Int}, Asc (a :: L) → insI a L = a :: L
 | [], _ => rfl
 | c :: L, h => by
  have h2 := List.pairwise_cons.1 h
  have hac := h2.1 c (List.mem_cons_self ..)
  rw [insI]
  by_cases hc : a < c
  ·rw [if_pos hc]
  ·rw [if_neg hc]
   have : a = c := by omega
   subst this
   rw [insI_head h2.2]
theorem insI_mono {x y : Int} (hxy : x ≤ y) : ∀ {L M : List Int}, Asc L → Asc M → LeL L M → LeL (insI x L) (insI y M)
 | [], [], _, _, _ => ⟨hxy, trivial⟩
 | [], _ :: _, _, _, h => h.elim
 | _ :: _, [], _, _, h => h.elim
 | a :: L, b :: M, hL, hM, h => by
  have hL2 := List.pairwise_cons.1 hL
  have hM2 := List.pairwise_cons.1 hM
  obtain ⟨hab, hLM⟩ := h
  rw [insI, insI]
  by_cases c1 : x < a
  ·rw [if_pos c1]
   by_cases c2 : y < b
   ·rw [if_pos c2]; exact ⟨hxy, hab, hLM⟩
   ·rw [if_neg c2]
    refine ⟨by omega, ?_⟩
    have := insI_mono (show a ≤ y by omega) hL2.2 hM2.2 hLM
    rw [insI_head hL] at this
    exact this
  ·rw [if_neg c1]
   by_cases c2 : y < b
   ·rw [if_pos c2]
    refine ⟨by omega, ?_⟩
    have := insI_mono (show x ≤ b by omega) hL2.2 hM2.2 hLM
    rw [insI_head hM] at this
    exact this
   ·rw [if_neg c2]
    exact ⟨hab, insI_mono hxy hL2.2 hM2.2 hLM⟩
theorem srt_mono : ∀ {D E : List Int}, LeL D E → ∀ {L M : List Int}, Asc L → Asc M → LeL L M → LeL (D.foldl (fun L x => insI x L) L) (E.foldl (fun L x => insI x L) M)
 | [], [], _, L, M, _, _, h => h
 | [], _ :: _, hD, _, _, _, _, _ => hD.elim
 | _ :: _, [], hD, _, _, _, _, _ => hD.elim
 | _ :: _, _ :: _, hD, _, _, hL, hM, h => srt_mono hD.2 (insI_asc hL) (insI_asc hM) (insI_mono hD.1 hL hM h)
theorem asc_unique : ∀ {L M : List Int}, Asc L → Asc M → L.Perm M → L = M
 | [], M, _, _, h => (List.Perm.nil_eq h)
 | a :: L, [], _, _, h => by have := h.length_eq; simp at this
 | a :: L, b :: M, hL, hM, h => by
  have hL2 := List.pairwise_cons.1 hL
  have hM2 := List.pairwise_cons.1 hM
  have h1 : a ∈ b :: M := h.mem_iff.1 (List.mem_cons_self ..)
  have h2 : b ∈ a :: L := h.mem_iff.2 (List.mem_cons_self ..)
  have e : a = b := by
   rcases List.mem_cons.1 h1 with h1 | h1
   ·exact h1
   ·rcases List.mem_cons.1 h2 with h2 | h2
    ·exact h2.symm
    ·have := hL2.1 b h2; have := hM2.1 a h1; omega
  subst e
  rw [asc_unique hL2.2 hM2.2 (List.Perm.cons_inv h)]
theorem srtI_of_perm {D E : List Int} (h : E.Perm D) (hE : Asc E) : E = srtI D := asc_unique hE (srtI_asc D) (h.trans (srtI_perm D).symm)
theorem srtI_self {D : List Int} (h : Asc D) : srtI D = D := (srtI_of_perm (List.Perm.refl _) h).symm
def arrD (l : List S82) : List Int := l.map fun x => x.f0 + x.f2
def sameB (l : List S82) : Bool := l.all fun x => x.f1 == (rd_T82 l 0).f1
def strAt (E : List Int) (i : Nat) (x : S82) : S82 := ⟨x.f0, x.f1, rd E (i : Int) - x.f0⟩
def strL (l : List S82) : List S82 := l.mapIdx (strAt (srtI (arrD l)))
def straightV (l : List S82) : List S82 × Bool := if (parcelsB l && sameB l) = true then (strL l, true) else ([], false)
theorem strL_len (l : List S82) : (strL l).length = l.length := by simp [strL]
theorem strL_get {l : List S82} {i : Nat} (h : i < (strL l).length) : (strL l)[i] = strAt (srtI (arrD l)) i (l[i]'(by rw [strL_len] at h; exact h)) := by
 simp [strL]
theorem straightV_len (l : List S82) : (straightV l).1.length ≤ 12 := by
 unfold straightV
 split
 ·rename_i h
  rw [Bool.and_eq_true] at h
  have := (parcelsB_mem h.1).1
  dsimp only
  rw [strL_len]
  exact this
 ·simp
theorem LeL_get : ∀ {L M : List Int}, LeL L M → ∀ (i : Nat) (h : i < L.length) (h2 : i < M.length), L[i] ≤ M[i]
 | [], [], _, i, h, _ => by simp at h
 | [], _ :: _, hD, _, _, _ => hD.elim
 | _ :: _, [], hD, _, _, _ => hD.elim
 | _ :: _, _ :: _, hD, 0, _, _ => hD.1
 | _ :: _, _ :: _, hD, i + 1, h, h2 => LeL_get hD.2 i (by simp at h; omega) (by simp at h2; omega)
theorem LeL_map {f g : S82 → Int} : ∀ l : List S82, (∀ x ∈ l, f x ≤ g x) → LeL (l.map f) (l.map g)
 | [], _ => trivial
 | a :: l, h => ⟨h a (List.mem_cons_self ..), LeL_map l fun x hx => h x (List.mem_cons_of_mem _ hx)⟩
theorem asc_of {l : List Int} (h : ∀ (j : Nat) (hj : j + 1 < l.length), l[j]'(by omega) ≤ l[j + 1]) : Asc l := by
 induction l with
 | nil => exact List.Pairwise.nil
 | cons a l ih =>
  have ih := ih (fun j hj => h (j + 1) (by simp; omega))
  refine List.pairwise_cons.2 ⟨fun y hy => ?_, ih⟩
  cases l with
  | nil => simp at hy
  | cons b l =>
   have h0 := h 0 (by simp)
   simp at h0
   rcases List.mem_cons.1 hy with hy | hy
   ·omega
   ·have := (List.pairwise_cons.1 ih).1 y hy; omega
theorem strL_lead {l : List S82} (hp : parcelsB l = true) {i : Nat} (hi : i < l.length) : l[i].f0 ≤ rd (srtI (arrD l)) (i : Int) ∧ rd (srtI (arrD l)) (i : Int) ≤ l[i].f0 + 4 := by
 have hm := (parcelsB_mem hp).2
 have hmem : ∀ x ∈ l, 0 ≤ x.f2 ∧ x.f2 ≤ 4 := fun x hx => by
  obtain ⟨j, hj, rfl⟩ := List.getElem_of_mem hx
  exact (hm j hj).2.2.1
 have hA : Asc (l.map fun x => x.f0) := asc_of fun j hj => by
  simp at hj ⊢
  have := (hm (j + 1) hj).2.2.2 (by omega)
  simpa using this
 have hB : Asc (l.map fun x => x.f0 + 4) := asc_of fun j hj => by
  simp at hj ⊢
  have := (hm (j + 1) hj).2.2.2 (by omega)
  simp at this
  omega
 have h1 := srt_mono (LeL_map (f := fun x => x.f0) (g := fun x => x.f0 + x.f2) l fun x hx => by have := hmem x hx; omega) List.Pairwise.nil List.Pairwise.nil (L := []) (M := []) trivial
 have h2 := srt_mono (LeL_map (f := fun x => x.f0 + x.f2) (g := fun x => x.f0 + 4) l fun x hx => by have := hmem x hx; omega) List.Pairwise.nil List.Pairwise.nil (L := []) (M := []) trivial
 have e1 := srtI_self hA
 have e2 := srtI_self hB
 unfold srtI at e1 e2
 rw [e1] at h1
 rw [e2] at h2
 have hlen : (srtI (arrD l)).length = l.length := by rw [srtI_len]; simp [arrD]
 have g1 := LeL_get h1 i (by simpa using hi) (by show i < (srtI (arrD l)).length; omega)
 have g2 := LeL_get h2 i (by show i < (srtI (arrD l)).length; omega) (by simpa using hi)
 rw [rd_nat (show i < (srtI (arrD l)).length by omega)]
 simp only [List.getElem_map] at g1 g2
 exact ⟨g1, g2⟩
theorem parcOk_of (l : List S82) (hl : l.length ≤ 12) (d : Nat) : ∀ i : Nat, i + d = l.length → (∀ j, i ≤ j → (hj : j < l.length) → (1 ≤ l[j].f0 ∧ l[j].f0 ≤ 20) ∧ (1 ≤ l[j].f1 ∧ l[j].f1 ≤ 40) ∧ (0 ≤ l[j].f2 ∧ l[j].f2 ≤ 4) ∧ ∀ hj0 : 0 < j, l[j - 1].f0 ≤ l[j].f0) → parcOk l d i = true := by
 induction d with
 | zero => intro i hi h; simp [parcOk]; omega
 | succ d ih =>
  intro i hi h
  have hi' : i < l.length := by omega
  obtain ⟨h1, h2, h3, h4⟩ := h i (Nat.le_refl _) hi'
  unfold parcOk
  simp only [Bool.and_eq_true, inB_iff]
  rw [rdP_nat hi']
  refine ⟨h1, h2, h3, ?_, ih (i + 1) (by omega) (fun j hj hjl => h j (by omega) hjl)⟩
  by_cases hj0 : 0 < i
  ·rw [if_pos hj0, rdP_nat (by omega)]
   exact decide_eq_true (h4 hj0)
  ·rw [if_neg hj0]
theorem strL_parcels {l : List S82} (hp : parcelsB l = true) : parcelsB (strL l) = true := by
 obtain ⟨h0, hm⟩ := parcelsB_mem hp
 refine parcOk_of _ (by rw [strL_len]; exact h0) _ 0 (by omega) (fun j _ hj => ?_)
 have hj2 : j < l.length := by rw [strL_len] at hj; exact hj
 obtain ⟨h1, h2, h3, h4⟩ := hm j hj2
 have hl := strL_lead hp hj2
 rw [strL_get hj]
 refine ⟨h1, h2, ⟨?_, ?_⟩, fun hj0 => ?_⟩
 ·show 0 ≤ rd (srtI (arrD l)) (j : Int) - l[j].f0; omega
 ·show rd (srtI (arrD l)) (j : Int) - l[j].f0 ≤ 4; omega
 ·rw [strL_get]
  exact h4 hj0
theorem strL_arrD (l : List S82) : arrD (strL l) = srtI (arrD l) := by
 have hlen : (srtI (arrD l)).length = l.length := by rw [srtI_len]; simp [arrD]
 refine List.ext_getElem (by rw [hlen]; simp [arrD, strL_len]) (fun i h1 h2 => ?_)
 have h3 : i < (strL l).length := by simpa [arrD] using h1
 simp only [arrD, List.getElem_map]
 rw [strL_get h3]
 show l[i].f0 + (rd (srtI (arrD l)) (i : Int) - l[i].f0) = _
 rw [rd_nat h2]
 simp only [arrD]
 omega

theorem arrFrom_rd (l : List S82) (A : Int) (hA : 0 ≤ A ∧ A ≤ 40) (hl : l.length ≤ 12) (hd : ∀ x ∈ l, x.f1 = A ∧ 1 ≤ x.f0 + x.f2 ∧ x.f0 + x.f2 ≤ 24) (d : Nat) : ∀ (i : Nat) (o : List Int), i + d = l.length → o.length = 24 → (∀ j : Nat, 0 ≤ rd o (j : Int) ∧ rd o (j : Int) ≤ 40 * i) → ∀ j : Nat, j < 24 → rd (arrFrom l d i o) (j : Int) = rd o (j : Int) + A * (((arrD l).drop i).count ((j : Int) + 1) : Nat) := by
 induction d with
 | zero =>
  intro i o hi ho hr j hj
  rw [arrFrom, List.drop_of_length_le (by simp [arrD]; omega)]
  simp
 | succ d ih =>
  intro i o hi ho hr j hj
  have hi' : i < l.length := by omega
  obtain ⟨h1, h2, h3⟩ := hd _ (List.getElem_mem hi')
  rw [arrFrom, rdP_nat hi', h1]
  obtain ⟨q, hq⟩ : ∃ q : Nat, l[i].f0 + l[i].f2 - 1 = (q : Int) := ⟨(l[i].f0 + l[i].f2 - 1).toNat, by omega⟩
  rw [hq, Int.toNat_natCast]
  have r := hr q
  have ew : wrap64 (rd o (q : Int) + A) = rd o (q : Int) + A := w64 (by omega) (by omega)
  rw [ew]
  have hset : ∀ x : Nat, rd (o.set q (rd o (q : Int) + A)) (x : Int) = if x = q then rd o (q : Int) + A else rd o (x : Int) := by
   intro x
   unfold rd
   simp only [List.getD_eq_getElem?_getD, Int.toNat_natCast]
   by_cases e : x = q
   ·subst e
    rw [if_pos rfl, List.getElem?_set_self (by omega)]
    rfl
   ·rw [if_neg e, List.getElem?_set_ne (by omega)]
  rw [ih (i + 1) _ (by omega) (by rw [List.length_set]; exact ho) (fun x => by
   rw [hset]
   have := hr x
   split <;> omega) j hj, hset]
  have hdr : (arrD l).drop i = (l[i].f0 + l[i].f2) :: (arrD l).drop (i + 1) := by
   rw [drop_cons (show i < (arrD l).length by simp [arrD]; omega)]
   simp [arrD]
  rw [hdr, List.count_cons]
  by_cases e : j = q
  ·subst e
   have : (l[i].f0 + l[i].f2 == (j : Int) + 1) = true := by rw [beq_iff_eq]; omega
   rw [if_pos rfl, this, if_pos rfl, Int.natCast_add, Int.mul_add]
   simp
   omega
  ·have : (l[i].f0 + l[i].f2 == (j : Int) + 1) = false := by rw [beq_eq_false_iff_ne]; omega
   rw [if_neg e, this]
   simp
theorem sameB_spec {l : List S82} (h : sameB l = true) : ∀ x ∈ l, x.f1 = (rd_T82 l 0).f1 := fun x hx => by
 have := List.all_eq_true.1 h x hx
 simpa using this
theorem rd_ext {L M : List Int} (h1 : L.length = 24) (h2 : M.length = 24) (h : ∀ j : Nat, j < 24 → rd L (j : Int) = rd M (j : Int)) : L = M := by
 refine List.ext_getElem (by omega) (fun i h3 h4 => ?_)
 have := h i (by omega)
 rw [rd_nat h3, rd_nat h4] at this
 exact this
theorem arrV_straight {l : List S82} (hp : parcelsB l = true) (hs : sameB l = true) : arrV (strL l) = arrV l := by
 obtain ⟨h0, hm⟩ := parcelsB_mem hp
 have hp2 := strL_parcels hp
 obtain ⟨h02, hm2⟩ := parcelsB_mem hp2
 by_cases hn : l = []
 ·subst hn; rfl
 have hpos : 0 < l.length := List.length_pos_iff.2 hn
 have hA : 0 ≤ (rd_T82 l 0).f1 ∧ (rd_T82 l 0).f1 ≤ 40 := by
  have := rdP_nat hpos
  rw [show ((0 : Nat) : Int) = 0 from rfl] at this
  rw [this]
  have := (hm 0 hpos).2.1
  omega
 have hd1 : ∀ x ∈ l, x.f1 = (rd_T82 l 0).f1 ∧ 1 ≤ x.f0 + x.f2 ∧ x.f0 + x.f2 ≤ 24 := fun x hx => by
  obtain ⟨j, hj, rfl⟩ := List.getElem_of_mem hx
  have := hm j hj
  exact ⟨sameB_spec hs _ (List.getElem_mem hj), by omega, by omega⟩
 have hd2 : ∀ x ∈ strL l, x.f1 = (rd_T82 l 0).f1 ∧ 1 ≤ x.f0 + x.f2 ∧ x.f0 + x.f2 ≤ 24 := fun x hx => by
  obtain ⟨j, hj, rfl⟩ := List.getElem_of_mem hx
  have := hm2 j hj
  refine ⟨?_, by omega, by omega⟩
  rw [strL_get hj]
  exact sameB_spec hs (l[j]'(by rw [strL_len] at hj; exact hj)) (List.getElem_mem _)
 have hz : ∀ j : Nat, 0 ≤ rd (List.replicate 24 (0 : Int)) (j : Int) ∧ rd (List.replicate 24 (0 : Int)) (j : Int) ≤ 40 * ((0 : Nat) : Int) := fun j => by
  unfold rd
  rw [List.getD_eq_getElem?_getD, List.getElem?_replicate]
  split <;> simp
 refine rd_ext (arrV_length _) (arrV_length _) (fun j hj => ?_)
 unfold arrV
 rw [arrFrom_rd l _ hA h0 hd1 l.length 0 _ (by omega) (by simp) hz j hj, arrFrom_rd (strL l) _ hA h02 hd2 (strL l).length 0 _ (by omega) (by simp) hz j hj, List.drop_zero, List.drop_zero, strL_arrD, (srtI_perm (arrD l)).count_eq]
theorem set_sum {o : List Int} {q : Nat} {v : Int} (h : q < o.length) : (o.set q v).sum = o.sum - o[q] + v := by
 induction o generalizing q with
 | nil => simp at h
 | cons a o ih =>
  cases q with
  | zero => simp; omega
  | succ q =>
   simp at h
   have := ih h
   simp
   omega
theorem arrFrom_sum (l : List S82) (hl : l.length ≤ 12) (hd : ∀ x ∈ l, (1 ≤ x.f1 ∧ x.f1 ≤ 40) ∧ 1 ≤ x.f0 + x.f2 ∧ x.f0 + x.f2 ≤ 24) (d : Nat) : ∀ (i : Nat) (o : List Int), i + d = l.length → o.length = 24 → (∀ j : Nat, 0 ≤ rd o (j : Int) ∧ rd o (j : Int) ≤ 40 * i) → (arrFrom l d i o).sum = o.sum + ((l.drop i).map fun x => x.f1).sum ∧ ∀ j : Nat, 0 ≤ rd (arrFrom l d i o) (j : Int) ∧ rd (arrFrom l d i o) (j : Int) ≤ 480 := by
 induction d with
 | zero =>
  intro i o hi ho hr
  rw [arrFrom, List.drop_of_length_le (by omega)]
  refine ⟨by simp, fun j => ?_⟩
  have := hr j
  omega
 | succ d ih =>
  intro i o hi ho hr
  have hi' : i < l.length := by omega
  obtain ⟨h1, h2, h3⟩ := hd _ (List.getElem_mem hi')
  rw [arrFrom, rdP_nat hi']
  obtain ⟨q, hq⟩ : ∃ q : Nat, l[i].f0 + l[i].f2 - 1 = (q : Int) := ⟨(l[i].f0 + l[i].f2 - 1).toNat, by omega⟩
  rw [hq, Int.toNat_natCast]
  have r := hr q
  have ew : wrap64 (rd o (q : Int) + l[i].f1) = rd o (q : Int) + l[i].f1 := w64 (by omega) (by omega)
  rw [ew]
  have hset : ∀ x : Nat, rd (o.set q (rd o (q : Int) + l[i].f1)) (x : Int) = if x = q then rd o (q : Int) + l[i].f1 else rd o (x : Int) := by
   intro x
   unfold rd
   simp only [List.getD_eq_getElem?_getD, Int.toNat_natCast]
   by_cases e : x = q
   ·subst e
    rw [if_pos rfl, List.getElem?_set_self (by omega)]
    rfl
   ·rw [if_neg e, List.getElem?_set_ne (by omega)]
  obtain ⟨a, b⟩ := ih (i + 1) (o.set q (rd o (q : Int) + l[i].f1)) (by omega) (by rw [List.length_set]; exact ho) (fun x => by
   rw [hset]
   have := hr x
   split <;> omega)
  refine ⟨?_, b⟩
  have hqo : q < o.length := by omega
  rw [a, drop_cons hi', List.map_cons, List.sum_cons, set_sum hqo, rd_nat hqo]
  omega
theorem arrV_sum {l : List S82} (hp : parcelsB l = true) : (arrV l).sum = (l.map fun x => x.f1).sum ∧ (∀ x ∈ arrV l, 0 ≤ x ∧ x ≤ 480) := by
 obtain ⟨h0, hm⟩ := parcelsB_mem hp
 have hd : ∀ x ∈ l, (1 ≤ x.f1 ∧ x.f1 ≤ 40) ∧ 1 ≤ x.f0 + x.f2 ∧ x.f0 + x.f2 ≤ 24 := fun x hx => by
  obtain ⟨j, hj, rfl⟩ := List.getElem_of_mem hx
  have := hm j hj
  omega
 have hz : ∀ j : Nat, 0 ≤ rd (List.replicate 24 (0 : Int)) (j : Int) ∧ rd (List.replicate 24 (0 : Int)) (j : Int) ≤ 40 * ((0 : Nat) : Int) := fun j => by
  unfold rd
  rw [List.getD_eq_getElem?_getD, List.getElem?_replicate]
  split <;> simp
 obtain ⟨a, b⟩ := arrFrom_sum l h0 hd l.length 0 (List.replicate 24 0) (by omega) (by simp) hz
 refine ⟨by unfold arrV; rw [a]; simp, fun x hx => ?_⟩
 obtain ⟨j, hj, rfl⟩ := List.getElem_of_mem hx
 have := b j
 unfold arrV at hj ⊢
 rw [rd_nat hj] at this
 exact this

theorem ins_at {x : Int} : ∀ {L : List Int} {j : Nat}, (∀ y ∈ L.take j, y ≤ x) → (∀ y, L[j]? = some y → x < y) → L.take j ++ x :: L.drop j = insI x L
 | [], j, _, _ => by simp [insI]
 | a :: L, 0, _, h2 => by
  have := h2 a (by simp)
  rw [insI, if_pos this]; simp
 | a :: L, j + 1, h1, h2 => by
  have ha := h1 a (by simp)
  rw [insI, if_neg (by omega), ← ins_at (L := L) (j := j) (fun y hy => h1 y (by simp [hy])) (fun y hy => h2 y (by simpa using hy))]
  simp
theorem ev_spec_StraightLeads_l1 (l : List S82) (L : List Int) (hL : L.length ≤ 100) (i : Nat) (hi : i < 1000) (x : Int) (R : List S82 × Bool) (hk : Ev (fun k => spec_StraightLeads.l0 k l [] (insI x L) ((i + 1 : Nat) : Int)) R) (d : Nat) : ∀ j : Nat, j + d = L.length → (∀ y ∈ L.take j, y ≤ x) → Ev (fun k => spec_StraightLeads.l1 k l [] L (i : Int) x (j : Int)) R := by
 have ei : wrap64 ((i : Int) + 1) = ((i + 1 : Nat) : Int) := by rw [w64 (by omega) (by omega)]; rfl
 induction d with
 | zero =>
  intro j hj hy
  refine ev_succ ?_
  have h1 : ¬ (j : Int) < (L.length : Int) := by omega
  have h2 : (0 : Int) ≤ (j : Int) := by omega
  have h3 : (j : Int) ≤ (L.length : Int) := by omega
  have e : L.take j ++ x :: L.drop j = insI x L := ins_at hy (fun y h => by rw [List.getElem?_eq_none (by omega)] at h; cases h)
  have e2 : (([] ++ L.take j) ++ [x]) ++ L.drop j = insI x L := by rw [← e]; simp
  have g1 : ([] : List Int).length + (L.take j).length < 17592186044416 := by simp; omega
  have g2 : ([] ++ L.take j : List Int).length + [x].length < 17592186044416 := by simp; omega
  have g3 : ([] ++ L.take j ++ [x] : List Int).length + (L.drop j).length < 17592186044416 := by simp; omega
  simp only [spec_StraightLeads.l1, h1, h2, h3, Option.bind_some, Int.toNat_natCast, g1, g2, g3, ↓reduceIte, e2, ei]
  exact hk
 | succ d ih =>
  intro j hj hy
  refine ev_succ ?_
  have hj' : j < L.length := by omega
  have h1 : (j : Int) < (L.length : Int) := by omega
  have h2 : (0 : Int) ≤ (j : Int) := by omega
  have h3 : (j : Int) ≤ (L.length : Int) := by omega
  have g1 : ([] : List Int).length + (L.take j).length < 17592186044416 := by simp; omega
  have g2 : ([] ++ L.take j : List Int).length + [x].length < 17592186044416 := by simp; omega
  have g3 : ([] ++ L.take j ++ [x] : List Int).length + (L.drop j).length < 17592186044416 := by simp; omega
  simp only [spec_StraightLeads.l1, h1, h2, h3, Option.bind_some, Int.toNat_natCast, g1, g2, g3, ↓reduceIte, ei, w64_nat hj' (by omega : L.length ≤ 9223372036854775807)]
  refine ev_ite (fun c => ?_) (fun c => ?_)
  ·refine ih (j + 1) (by omega) (fun y h => ?_)
   rw [rd_nat hj'] at c
   rw [List.take_add_one, List.getElem?_eq_getElem hj'] at h
   rcases List.mem_append.1 h with h | h
   ·exact hy y h
   ·simp at h; omega
  ·have e : L.take j ++ x :: L.drop j = insI x L := ins_at hy (fun y h => by
    rw [rd_nat hj'] at c
    rw [List.getElem?_eq_getElem hj'] at h
    have := Option.some.inj h
    omega)
   have e2 : (([] ++ L.take j) ++ [x]) ++ L.drop j = insI x L := by rw [← e]; simp
   rw [e2]
   exact hk
theorem ev_spec_StraightLeads_l2 {l : List S82} (hp : parcelsB l = true) (d : Nat) : ∀ i : Nat, i + d = l.length → Ev (fun k => spec_StraightLeads.l2 k l ((strL l).take i) (srtI (arrD l)) (i : Int)) (strL l, true) := by
 have hlen : (srtI (arrD l)).length = l.length := by rw [srtI_len]; simp [arrD]
 have h12 := (parcelsB_mem hp).1
 induction d with
 | zero =>
  intro i hi
  refine ev_succ ?_
  have h1 : ¬ (i : Int) < (l.length : Int) := by omega
  simp only [spec_StraightLeads.l2, h1, ↓reduceIte]
  rw [List.take_of_length_le (by rw [strL_len]; omega)]
  exact Ev.now _
 | succ d ih =>
  intro i hi
  refine ev_succ ?_
  have hi' : i < l.length := by omega
  have h1 : (i : Int) < (l.length : Int) := by omega
  have h2 : (0 : Int) ≤ (i : Int) := by omega
  have h3 : (i : Int) < ((srtI (arrD l)).length : Int) := by omega
  have h4 : ((strL l).take i).length + 1 < 5864062014805 := by simp; omega
  have hb := strL_lead hp hi'
  have hm := ((parcelsB_mem hp).2 i hi').1
  have e : wrap64 (rd (srtI (arrD l)) (i : Int) - l[i].f0) = rd (srtI (arrD l)) (i : Int) - l[i].f0 := w64 (by omega) (by omega)
  simp only [spec_StraightLeads.l2, h1, h2, h3, Option.bind_some, List.length_singleton, h4, ↓reduceIte, w64_nat hi' (by omega : l.length ≤ 9223372036854775807), rdP_nat hi', e]
  refine ev_eq (g := fun k => spec_StraightLeads.l2 k l _ (srtI (arrD l)) ((i + 1 : Nat) : Int)) ?_ rfl
  have ht : (strL l).take (i + 1) = (strL l).take i ++ [⟨l[i].f0, l[i].f1, rd (srtI (arrD l)) (i : Int) - l[i].f0⟩] := by
   rw [List.take_add_one, List.getElem?_eq_getElem (by rw [strL_len]; exact hi'), strL_get]
   rfl
  rw [← ht]
  exact ih (i + 1) (by omega)
theorem sameB_no {l : List S82} {i : Nat} (hi : i < l.length) (h : ¬ l[i].f1 = (rd_T82 l 0).f1) : sameB l = false := by
 cases hs : sameB l with
 | false => rfl
 | true => exact absurd (sameB_spec hs _ (List.getElem_mem hi)) h
theorem ev_spec_StraightLeads_l0 {l : List S82} (hp : parcelsB l = true) (d : Nat) : ∀ i : Nat, i + d = l.length → (∀ j : Nat, (hj : j < l.length) → j < i → l[j].f1 = (rd_T82 l 0).f1) → Ev (fun k => spec_StraightLeads.l0 k l [] (((arrD l).take i).foldl (fun L x => insI x L) []) (i : Int)) (if sameB l = true then (strL l, true) else ([], false)) := by
 have hal : (arrD l).length = l.length := by simp [arrD]
 obtain ⟨h12, hm⟩ := parcelsB_mem hp
 induction d with
 | zero =>
  intro i hi hj
  refine ev_succ ?_
  have h1 : ¬ (i : Int) < (l.length : Int) := by omega
  simp only [spec_StraightLeads.l0, h1, ↓reduceIte]
  rw [List.take_of_length_le (by omega)]
  have hs : sameB l = true := List.all_eq_true.2 fun x hx => by
   obtain ⟨j, hj2, rfl⟩ := List.getElem_of_mem hx
   simpa using hj j hj2 (by omega)
  rw [if_pos hs]
  have := ev_spec_StraightLeads_l2 hp l.length 0 (by omega)
  simpa [srtI] using this
 | succ d ih =>
  intro i hi hj
  refine ev_succ ?_
  have hi' : i < l.length := by omega
  have h1 : (i : Int) < (l.length : Int) := by omega
  have h2 : (0 : Int) ≤ (i : Int) := by omega
  have h3 : (0 : Int) < (l.length : Int) := by omega
  simp only [spec_StraightLeads.l0, h1, h2, h3, ↓reduceIte, rdP_nat hi']
  refine ev_ite (fun c => ?_) (fun c => ?_)
  ·have hb := hm i hi'
   have e : wrap64 (l[i].f0 + l[i].f2) = l[i].f0 + l[i].f2 := w64 (by omega) (by omega)
   rw [e]
   have hlen : (((arrD l).take i).foldl (fun L x => insI x L) []).length = i := by rw [(srt_go _ [] List.Pairwise.nil).2.2]; simp; omega
   have ht : ((arrD l).take (i + 1)).foldl (fun L x => insI x L) [] = insI (l[i].f0 + l[i].f2) (((arrD l).take i).foldl (fun L x => insI x L) []) := by
    rw [List.take_add_one, List.getElem?_eq_getElem (by omega)]
    simp [arrD]
   refine ev_spec_StraightLeads_l1 l _ (by omega) i (by omega) _ _ ?_ _ 0 (by omega : 0 + i = _) (by simp)
   rw [← ht]
   exact ih (i + 1) (by omega) (fun j hj2 h => by
    by_cases e2 : j = i
    ·subst e2; exact c
    ·exact hj j hj2 (by omega))
  ·rw [if_neg (by rw [sameB_no hi' c]; simp)]
   exact Ev.now _
theorem ev_spec_StraightLeads (l : List S82) (hl : l.length ≤ 9223372036854775807) : Ev (fun k => spec_StraightLeads.f k l) (straightV l) := by
 unfold spec_StraightLeads.f straightV
 simp only [Option.bind_some]
 refine Ev.bind (ev_spec_l11Parcels l hl) ?_
 refine ev_ite (fun h => ?_) (fun h => ?_)
 ·have := ev_spec_StraightLeads_l0 h l.length 0 (by omega) (fun j _ hj => by omega)
  refine ev_eq (by simpa using this) ?_
  simp [h]
 ·exact ev_eq (Ev.now _) (by simp [h])

def toP (x : S98) : S82 := ⟨x.f0, x.f1, x.f2⟩
theorem rdLP_nat {l : List S98} {i : Nat} (h : i < l.length) : rd_T98 l (i : Int) = l[i] := by
 unfold rd_T98
 simp [List.getD_eq_getElem?_getD, h]
theorem ev_laws_toParcelS_l0 (l : List S98) (hl : l.length ≤ 9223372036854775807) (d : Nat) : ∀ (i : Nat) (o : List S82), i + d = l.length → o.length = l.length → Ev (fun k => laws_toParcelS.l0 k l o (i : Int)) (o.take i ++ (l.drop i).map toP) := by
 induction d with
 | zero =>
  intro i o hi ho
  refine ev_succ ?_
  have h1 : ¬ (i : Int) < (l.length : Int) := by omega
  simp only [laws_toParcelS.l0, h1, ↓reduceIte]
  rw [List.drop_eq_nil_of_le (by omega), List.take_of_length_le (by omega), List.map_nil, List.append_nil]
  exact Ev.now _
 | succ d ih =>
  intro i o hi ho
  refine ev_succ ?_
  have h1 : (i : Int) < (l.length : Int) := by omega
  have h2 : (i : Int) < (o.length : Int) := by omega
  have h0 : (0 : Int) ≤ (i : Int) := by omega
  have hi' : i < l.length := by omega
  simp only [laws_toParcelS.l0, laws_toParcel.f, Option.bind_some, h1, h2, h0, ↓reduceIte, rdLP_nat hi', w64_nat hi' hl, Int.toNat_natCast]
  refine ev_eq (ih (i + 1) _ (by omega) (by simp [ho])) ?_
  rw [drop_cons hi', List.take_add_one, List.map_cons]
  simp [ho, hi', List.take_set_of_le (Nat.le_refl i), toP]
theorem ev_laws_toParcelS (l : List S98) (hl : l.length ≤ 1048576) : Ev (fun k => laws_toParcelS.f k l) (l.map toP) := by
 unfold laws_toParcelS.f
 have h0 : (0 : Int) ≤ (l.length : Int) := by omega
 have h1 : ((l.length : Int) : Int).toNat ≤ 11728124029610 := by omega
 simp only [h0, h1, ↓reduceIte]
 simpa using ev_laws_toParcelS_l0 l (by omega) l.length 0 (List.replicate ((l.length : Int) : Int).toNat z82) (by omega) (by simp)

theorem impl_within_f (a b c : Int) : impl_within.f a b c = some (inB a b c) := by
 unfold impl_within.f inB
 by_cases h : a ≥ b
 ·rw [if_pos h]; congr 1; rw [decide_eq_decide]; omega
 ·rw [if_neg h]; congr 1; symm; rw [decide_eq_false_iff_not]; omega

theorem ev_impl_areParcels_l0 (l : List S82) (hl : l.length ≤ 9223372036854775807) (d : Nat) : ∀ i : Nat, i + d = l.length → Ev (fun k => impl_areParcels.l0 k l l (l.length : Int) (i : Int)) (parcOk l d i) := by
 induction d with
 | zero =>
  intro i hi
  refine ev_succ ?_
  have h1 : ¬ (i : Int) < (l.length : Int) := by omega
  simp only [impl_areParcels.l0, h1, ↓reduceIte]
  exact Ev.now _
 | succ d ih =>
  intro i hi
  refine ev_succ ?_
  have h1 : (i : Int) < (l.length : Int) := by omega
  have h0 : (0 : Int) ≤ (i : Int) := by omega
  have hi' : i < l.length := by omega
  simp only [impl_areParcels.l0, h1, h0, ↓reduceIte, impl_within_f, Option.bind_some, w64_nat hi' hl]
  unfold parcOk
  refine ev_ite (fun c1 => ?_) (fun c1 => ?_)
  ·refine ev_ite (fun c2 => ?_) (fun c2 => ?_)
   ·refine ev_ite (fun c3 => ?_) (fun c3 => ?_)
    ·rw [c1, c2, c3]
     simp only [Bool.true_and]
     by_cases hp : 0 < i
     ·have hp' : (i : Int) > 0 := by omega
      have e : wrap64 ((i : Int) - 1) = ((i - 1 : Nat) : Int) := by rw [w64 (by omega) (by omega)]; omega
      have h2 : (0 : Int) ≤ ((i - 1 : Nat) : Int) := by omega
      have h3 : ((i - 1 : Nat) : Int) < (l.length : Int) := by omega
      simp only [hp, hp', e, h2, h3, ↓reduceIte]
      refine ev_ite (fun c4 => ?_) (fun c4 => ?_)
      ·exact ev_eq (Ev.now _) (by rw [decide_eq_false (by omega)]; rfl)
      ·exact ev_eq (ih (i + 1) (by omega)) (by rw [decide_eq_true (by omega)]; rfl)
     ·have hp' : ¬ (i : Int) > 0 := by omega
      simp only [hp, hp', ↓reduceIte, Bool.true_and]
      exact ih (i + 1) (by omega)
    ·exact ev_eq (Ev.now _) (by simp [c3])
   ·exact ev_eq (Ev.now _) (by simp [c2])
  ·exact ev_eq (Ev.now _) (by simp [c1])
theorem ev_impl_areParcels (l : List S82) (hl : l.length ≤ 9223372036854775807) : Ev (fun k => impl_areParcels.f k l) (parcelsB l) := by
 unfold impl_areParcels.f
 exact ev_impl_areParcels_l0 l hl l.length 0 (by omega)

theorem sorted_srt (D : List Int) : slices_Sort_int_int.sorted D = srtI D := by
 refine srtI_of_perm (List.mergeSort_perm _ _) ?_
 have h := List.pairwise_mergeSort (le := fun x y : Int => decide (x ≤ y)) (by intro a b c h1 h2; simp at h1 h2 ⊢; omega) (by intro a b; simp; omega) D
 exact h.imp (fun h => by simpa using h)
theorem ev_impl_StraightLeads_l1 {l : List S82} (hp : parcelsB l = true) (d : Nat) : ∀ (i : Nat) (q : List S82), i + d = l.length → q = (strL l).take i ++ l.drop i → Ev (fun k => impl_StraightLeads.l1 k (srtI (arrD l)) q (l.length : Int) (i : Int)) (strL l, true) := by
 have hlen : (srtI (arrD l)).length = l.length := by rw [srtI_len]; simp [arrD]
 have h12 := (parcelsB_mem hp).1
 induction d with
 | zero =>
  intro i q hi hq
  refine ev_succ ?_
  have h1 : ¬ (i : Int) < (l.length : Int) := by omega
  simp only [impl_StraightLeads.l1, h1, ↓reduceIte]
  rw [hq, List.take_of_length_le (by rw [strL_len]; omega), List.drop_of_length_le (by omega), List.append_nil]
  exact Ev.now _
 | succ d ih =>
  intro i q hi hq
  refine ev_succ ?_
  have hi' : i < l.length := by omega
  have h1 : (i : Int) < (l.length : Int) := by omega
  have h2 : (0 : Int) ≤ (i : Int) := by omega
  have h3 : (i : Int) < ((srtI (arrD l)).length : Int) := by omega
  have hql : q.length = l.length := by rw [hq]; simp [strL_len]; omega
  have hq' : i < q.length := by omega
  have h4 : (i : Int) < (q.length : Int) := by omega
  have hts : ((strL l).take i).length = i := by simp [strL_len]; omega
  have hqi : q[i] = l[i] := by
   simp only [hq]
   rw [List.getElem_append_right (by omega)]
   simp [hts]
  have hb := strL_lead hp hi'
  have hm := ((parcelsB_mem hp).2 i hi').1
  have e : wrap64 (rd (srtI (arrD l)) (i : Int) - l[i].f0) = rd (srtI (arrD l)) (i : Int) - l[i].f0 := w64 (by omega) (by omega)
  simp only [impl_StraightLeads.l1, h1, h2, h3, h4, ↓reduceIte, w64_nat hi' (by omega : l.length ≤ 9223372036854775807), rdP_nat hq', hqi, e, Int.toNat_natCast]
  refine ih (i + 1) _ (by omega) ?_
  have ht : (strL l).take (i + 1) = (strL l).take i ++ [⟨l[i].f0, l[i].f1, rd (srtI (arrD l)) (i : Int) - l[i].f0⟩] := by
   rw [List.take_add_one, List.getElem?_eq_getElem (by rw [strL_len]; exact hi'), strL_get]
   rfl
  rw [ht, hq, List.set_append_right _ _ (by omega), hts, Nat.sub_self, drop_cons hi', List.set_cons_zero, List.append_assoc]
  rfl
theorem ev_impl_StraightLeads_l0 {l : List S82} (hp : parcelsB l = true) (d : Nat) : ∀ (i : Nat), i + d = l.length → (∀ j : Nat, (hj : j < l.length) → j < i → l[j].f1 = (rd_T82 l 0).f1) → Ev (fun k => impl_StraightLeads.l0 k l ((arrD l).take i) l (l.length : Int) (i : Int)) (if sameB l = true then (strL l, true) else ([], false)) := by
 have hal : (arrD l).length = l.length := by simp [arrD]
 obtain ⟨h12, hm⟩ := parcelsB_mem hp
 induction d with
 | zero =>
  intro i hi hj
  refine ev_succ ?_
  have h1 : ¬ (i : Int) < (l.length : Int) := by omega
  have h2 : (arrD l).length < 4611686018427387904 := by omega
  have h3 : l.length < 5864062014805 := by omega
  simp only [impl_StraightLeads.l0, h1, ↓reduceIte]
  rw [List.take_of_length_le (by omega)]
  have hs : sameB l = true := List.all_eq_true.2 fun x hx => by
   obtain ⟨j, hj2, rfl⟩ := List.getElem_of_mem hx
   simpa using hj j hj2 (by omega)
  rw [if_pos hs]
  simp only [slices_Sort_int_int.f, impl_Parcel.f, h2, h3, ↓reduceIte, Option.bind_some, sorted_srt]
  exact ev_impl_StraightLeads_l1 hp l.length 0 l (by omega) (by simp)
 | succ d ih =>
  intro i hi hj
  refine ev_succ ?_
  have hi' : i < l.length := by omega
  have h1 : (i : Int) < (l.length : Int) := by omega
  have h2 : (0 : Int) ≤ (i : Int) := by omega
  have h3 : (0 : Int) < (l.length : Int) := by omega
  have h4 : ((arrD l).take i).length < 17592186044416 := by simp; omega
  have hb := hm i hi'
  have e : wrap64 (l[i].f0 + l[i].f2) = l[i].f0 + l[i].f2 := w64 (by omega) (by omega)
  simp only [impl_StraightLeads.l0, h1, h2, h3, h4, ↓reduceIte, rdP_nat hi', e, w64_nat hi' (by omega : l.length ≤ 9223372036854775807)]
  refine ev_ite (fun c => ?_) (fun c => ?_)
  ·have ht : (arrD l).take (i + 1) = (arrD l).take i ++ [l[i].f0 + l[i].f2] := by
    rw [List.take_add_one, List.getElem?_eq_getElem (by omega)]
    simp [arrD]
   rw [← ht]
   exact ih (i + 1) (by omega) (fun j hj2 h => by
    by_cases e2 : j = i
    ·subst e2; exact c
    ·exact hj j hj2 (by omega))
  ·rw [if_neg (by rw [sameB_no hi' c]; simp)]
   exact Ev.now _
theorem ev_impl_StraightLeads (l : List S82) (hl : l.length ≤ 9223372036854775807) : Ev (fun k => impl_StraightLeads.f k l) (straightV l) := by
 unfold impl_StraightLeads.f straightV
 refine Ev.bind (ev_impl_areParcels l hl) ?_
 refine ev_ite (fun h => ?_) (fun h => ?_)
 ·have := ev_impl_StraightLeads_l0 h l.length 0 (by omega) (fun j _ hj => by omega)
  refine ev_eq (by simpa using this) ?_
  simp [h]
 ·exact ev_eq (Ev.now _) (by simp [h])

theorem rdEParcel_nat {l : List S82} {i : Nat} (h : i < l.length) : rd_T82 l (i : Int) = l[i] := by
 unfold rd_T82
 simp [List.getD_eq_getElem?_getD, h]
theorem ev_laws_eqParcelS_self_l0 (l : List S82) (hl : l.length ≤ 9223372036854775807) (d : Nat) : ∀ (i : Nat), i + d = l.length → Ev (fun k => laws_eqParcelS.l0 k l l (i : Int)) true := by
 induction d with
 | zero =>
  intro i hi
  refine ev_succ ?_
  have h1 : ¬ (i : Int) < (l.length : Int) := by omega
  simp only [laws_eqParcelS.l0, h1, ↓reduceIte]
  exact Ev.now _
 | succ d ih =>
  intro i hi
  refine ev_succ ?_
  have h1 : (i : Int) < (l.length : Int) := by omega
  have h0 : (0 : Int) ≤ (i : Int) := by omega
  have hi' : i < l.length := by omega
  simp only [laws_eqParcelS.l0, laws_eqParcel.f, h1, h0, ↓reduceIte, w64_nat hi' hl, Option.bind_some]
  exact ih (i + 1) (by omega)
theorem ev_laws_eqParcelS_self (l : List S82) (hl : l.length ≤ 9223372036854775807) : Ev (fun k => laws_eqParcelS.f k l l) true := by
 unfold laws_eqParcelS.f
 simp only [if_true]
 exact ev_laws_eqParcelS_self_l0 l hl l.length 0 (by omega)

def markedParcel (m : Int) : Nat → List S82
 | 0 => []
 | n + 1 => ⟨m, m + 1, m + 2⟩ :: markedParcel (m + 3) n
theorem markedParcel_length (m : Int) (n : Nat) : (markedParcel m n).length = n := by
 induction n generalizing m with
 | zero => rfl
 | succ n ih => simp [markedParcel, ih]
theorem markedParcel_get (m : Int) (n i : Nat) (h : i < (markedParcel m n).length) : (markedParcel m n)[i] = ⟨m + 3 * i, m + 3 * i + 1, m + 3 * i + 2⟩ := by
 induction n generalizing m i with
 | zero => simp [markedParcel] at h
 | succ n ih =>
  cases i with
  | zero => simp [markedParcel]
  | succ i =>
   simp only [markedParcel, List.getElem_cons_succ]
   rw [ih]
   simp only [Int.natCast_add, Int.cast_ofNat_Int, Int.mul_add]
   congr 1 <;> omega
theorem rdKParcel_nat {l : List S82} {i : Nat} (h : i < l.length) : rd_T82 l (i : Int) = l[i] := by
 unfold rd_T82
 simp [List.getD_eq_getElem?_getD, h]
theorem ev_laws_markParcelS_l0 (n0 : Nat) (hl : n0 ≤ 1000000000000) (m0 : Int) (h0 : 0 ≤ m0) (h1 : m0 ≤ 1000000000) (d : Nat) : ∀ (i : Nat) (l : List S82), i + d = l.length → l.length = n0 → Ev (fun k => laws_markParcelS.l0 k l (m0 + 3 * (i : Int)) (i : Int)) (m0 + 3 * (l.length : Int), l.take i ++ markedParcel (m0 + 3 * i) d) := by
 induction d with
 | zero =>
  intro i l hi hle
  refine ev_succ ?_
  have h1 : ¬ (i : Int) < (l.length : Int) := by omega
  simp only [laws_markParcelS.l0, h1, ↓reduceIte]
  rw [List.take_of_length_le (by omega)]
  have : i = l.length := by omega
  subst this
  simp only [markedParcel, List.append_nil]
  exact Ev.now _
 | succ d ih =>
  intro i l hi hle
  refine ev_succ ?_
  have h1' : (i : Int) < (l.length : Int) := by omega
  have h0' : (0 : Int) ≤ (i : Int) := by omega
  have hi' : i < l.length := by omega
  have e1 : wrap64 (m0 + 3 * (i : Int) + 1) = m0 + 3 * (i : Int) + 1 := w64 (by omega) (by omega)
  have e2 : wrap64 (m0 + 3 * (i : Int) + 1 + 1) = m0 + 3 * (i : Int) + 2 := by rw [w64 (by omega) (by omega)]; omega
  have e3 : wrap64 (m0 + 3 * (i : Int) + 2 + 1) = m0 + 3 * ((i + 1 : Nat) : Int) := by rw [w64 (by omega) (by omega)]; omega
  simp only [laws_markParcelS.l0, h1', h0', ↓reduceIte, w64_nat hi' (by omega : l.length ≤ 9223372036854775807), Int.toNat_natCast, Option.bind_some, e1, e2, e3]
  have r1 : ∀ x, rd_T82 (l.set i x) (i : Int) = x := fun x => by rw [rdKParcel_nat (by simpa using hi')]; simp
  have r2 : ∀ x y, rd_T82 ((l.set i x).set i y) (i : Int) = y := fun x y => by rw [rdKParcel_nat (by simpa using hi')]; simp
  simp only [r1, r2, List.set_set]
  refine ev_eq (ih (i + 1) (l.set i _) (by simp; omega) (by simp [hle])) ?_
  rw [List.length_set]
  congr 1
  rw [List.take_add_one]
  simp only [List.getElem?_set_self hi', List.take_set_of_le (Nat.le_refl i)]
  simp only [Option.toList_some, List.append_assoc, List.singleton_append, markedParcel]
  congr 3
  omega
theorem ev_laws_markParcelS (l : List S82) (m : Int) (hl : l.length ≤ 1000000000000) (h0 : 0 ≤ m) (h1 : m ≤ 1000000000) : Ev (fun k => laws_markParcelS.f k l m) (m + 3 * (l.length : Int), markedParcel m l.length) := by
 unfold laws_markParcelS.f
 simpa using ev_laws_markParcelS_l0 l.length hl m h0 h1 l.length 0 l (by omega) rfl

theorem ev_laws_heldParcelS_l0 (m0 : Int) (n : Nat) (hn : n ≤ 1000000000000) (h0 : 0 ≤ m0) (h1 : m0 ≤ 1000000000) (d : Nat) : ∀ (i : Nat), i + d = n → Ev (fun k => laws_heldParcelS.l0 k (markedParcel m0 n) (m0 + 3 * (i : Int)) (i : Int)) (m0 + 3 * (n : Int)) := by
 induction d with
 | zero =>
  intro i hi
  refine ev_succ ?_
  have h1 : ¬ (i : Int) < ((markedParcel m0 n).length : Int) := by rw [markedParcel_length]; omega
  simp only [laws_heldParcelS.l0, h1, ↓reduceIte]
  have : i = n := by omega
  subst this
  exact Ev.now _
 | succ d ih =>
  intro i hi
  refine ev_succ ?_
  have h1' : (i : Int) < ((markedParcel m0 n).length : Int) := by rw [markedParcel_length]; omega
  have h0' : (0 : Int) ≤ (i : Int) := by omega
  have hi' : i < (markedParcel m0 n).length := by rw [markedParcel_length]; omega
  have e1 : wrap64 (m0 + 3 * (i : Int) + 1) = m0 + 3 * (i : Int) + 1 := w64 (by omega) (by omega)
  have e2 : wrap64 (m0 + 3 * (i : Int) + 1 + 1) = m0 + 3 * (i : Int) + 2 := by rw [w64 (by omega) (by omega)]; omega
  have e3 : wrap64 (m0 + 3 * (i : Int) + 2 + 1) = m0 + 3 * ((i + 1 : Nat) : Int) := by rw [w64 (by omega) (by omega)]; omega
  have e4 : wrap64 ((i : Int) + 1) = ((i + 1 : Nat) : Int) := w64_nat (n := n) (by omega) (by omega)
  simp only [laws_heldParcelS.l0, h1', h0', ↓reduceIte, rdKParcel_nat hi', markedParcel_get, e1, e2, e3, e4]
  exact ih (i + 1) (by omega)
theorem ev_laws_heldParcelS (m : Int) (n : Nat) (hn : n ≤ 1000000000000) (h0 : 0 ≤ m) (h1 : m ≤ 1000000000) : Ev (fun k => laws_heldParcelS.f k (markedParcel m n) m) (m + 3 * (n : Int)) := by
 unfold laws_heldParcelS.f
 simpa using ev_laws_heldParcelS_l0 m n hn h0 h1 n 0 (by omega)

theorem FnExactStraightLeads (l0 : List (S98)) (h0 : l0.length ≤ 9223372036854775807) (w0 : ∀ y ∈ l0, ((Lit.int .i64 y.f0).wf = true ∧ (Lit.int .i64 y.f1).wf = true ∧ (Lit.int .i64 y.f2).wf = true)) : ∃ k, laws_FnExactStraightLeads.f k l0 = some true := by
 refine Ev.rounds ?_
 unfold laws_FnExactStraightLeads.f
 by_cases hn : l0.length ≤ 1048576
 ·have ht := ev_laws_toParcelS l0 hn
  have hlm : (l0.map toP).length = l0.length := by simp
  generalize l0.map toP = ll at ht hlm
  have hs := ev_spec_StraightLeads ll (by omega)
  have hi := ev_impl_StraightLeads ll (by omega)
  have hv := straightV_len ll
  generalize straightV ll = v at hs hi hv
  obtain ⟨v, b⟩ := v
  dsimp only at hv
  simp only [laws_szParcelS_le l0 hn, Option.bind_some]
  repeat first
   | exact Ev.now _
   | (refine Ev.bind ht ?_; try dsimp only)
   | (refine Ev.bind hs ?_; try dsimp only)
   | (refine Ev.bind hi ?_; try dsimp only)
   | (refine Ev.bind (ev_laws_toParcel _ _ _ (by first | assumption | omega)) ?_; try dsimp only)
   | (refine Ev.bind (ev_laws_toParcelS _ (by first | assumption | omega)) ?_; try dsimp only)
   | (refine Ev.bind (ev_laws_eqParcel_self _ _ _ (by first | assumption | omega)) ?_; try dsimp only)
   | (refine Ev.bind (ev_laws_eqParcelS_self _ (by first | assumption | omega)) ?_; try dsimp only)
   | (refine Ev.bind (ev_laws_markParcelS _ _ (by first | assumption | omega) (by first | assumption | omega) (by first | assumption | omega)) ?_; try dsimp only)
   | (refine Ev.bind (ev_laws_heldParcelS _ _ (by first | assumption | omega) (by first | assumption | omega) (by first | assumption | omega)) ?_; try dsimp only)
   | (refine ev_ite (fun h => absurd h (by omega)) (fun _ => ?_))
   | (refine ev_ite (fun _ => ?_) (fun h => absurd (by omega) h))
   | (simp only [bne_self_eq_false, Bool.false_eq_true, ↓reduceIte])
   | (refine ev_succ ?_; simp only [laws_FnExactStraightLeads.j0])
   | (refine ev_succ ?_; simp only [laws_FnExactStraightLeads.j1])
   | (refine ev_succ ?_; simp only [laws_FnExactStraightLeads.j2])
 ·simp only [laws_szParcelS_gt l0 h0 (by omega), Option.bind_some]
  exact Ev.now _

end Go.Proofs.Ytfgclhojgaaepaa.Pure
