import PyProof.Rows.All
import Wide.All
import OpenK.AllK
import Wide.FinOn
import HandS.ForMost
import HandS.Style
import HandS.Wide
import HandS.SortKw
import HandS.Conv
import HandS.DictTup
import HandS.Star
import HandS.TupAny
import HandS.IsInst
import HandS.Walk
import KE.KTupSum
import KE.KRevSl
import KE.GoesMore
import KE.KEqSeq
import PySem.Challenge.RW_sumsalone_k74_whole_fillings_and_order
set_option Elab.async false
set_option linter.all false
set_option maxRecDepth 100000
/-! Kos1: sums over intervals of integers. Plain Lean, no program. -/
namespace Kos

/-- the sum of f over lo, lo + 1, .., hi -/
def isum (lo hi : Int) (f : Int → Int) : Int := ((List.range (hi + 1 - lo).toNat).map fun i => f (lo + (i : Nat))).sum

theorem sum_map_congr {α : Type} {l : List α} {f g : α → Int} (h : ∀ x ∈ l, f x = g x) : (l.map f).sum = (l.map g).sum := by
  rw [List.map_congr_left h]
theorem sum_map_le {α : Type} : ∀ {l : List α} {f g : α → Int}, (∀ x ∈ l, f x ≤ g x) → (l.map f).sum ≤ (l.map g).sum
  | [], _, _, _ => Int.le_refl _
  | a :: l, f, g, h => by
    rw [List.map_cons, List.map_cons, List.sum_cons, List.sum_cons]
    have h1 := h a List.mem_cons_self
    have h2 := sum_map_le (l := l) (f := f) (g := g) fun x hx => h x (List.mem_cons_of_mem _ hx)
    omega
theorem sum_map_zero {α : Type} : ∀ {l : List α} {f : α → Int}, (∀ x ∈ l, f x = 0) → (l.map f).sum = 0
  | [], _, _ => rfl
  | a :: l, f, h => by
    rw [List.map_cons, List.sum_cons, h a List.mem_cons_self, sum_map_zero (l := l) fun x hx => h x (List.mem_cons_of_mem _ hx)]
    rfl
theorem sum_map_add {α : Type} : ∀ {l : List α} {f g : α → Int}, (l.map fun x => f x + g x).sum = (l.map f).sum + (l.map g).sum
  | [], _, _ => rfl
  | a :: l, f, g => by
    rw [List.map_cons, List.map_cons, List.map_cons, List.sum_cons, List.sum_cons, List.sum_cons, sum_map_add (l := l)]
    omega
theorem sum_map_swap {α β : Type} : ∀ {l : List α} {m : List β} {f : α → β → Int}, (l.map fun x => (m.map fun y => f x y).sum).sum = (m.map fun y => (l.map fun x => f x y).sum).sum
  | [], m, f => by
    rw [sum_map_zero (l := m) (f := fun y => (([] : List α).map fun x => f x y).sum) fun _ _ => rfl]
    rfl
  | a :: l, m, f => by
    rw [List.map_cons, List.sum_cons, sum_map_swap (l := l) (m := m) (f := f), ← sum_map_add]
    exact sum_map_congr fun y _ => by rw [List.map_cons, List.sum_cons]

theorem isum_congr {lo hi : Int} {f g : Int → Int} (h : ∀ x, lo ≤ x → x ≤ hi → f x = g x) : isum lo hi f = isum lo hi g := by
  unfold isum
  refine sum_map_congr fun i hi' => ?_
  have := List.mem_range.mp hi'
  exact h _ (by omega) (by omega)
theorem isum_le {lo hi : Int} {f g : Int → Int} (h : ∀ x, lo ≤ x → x ≤ hi → f x ≤ g x) : isum lo hi f ≤ isum lo hi g := by
  unfold isum
  refine sum_map_le fun i hi' => ?_
  have := List.mem_range.mp hi'
  exact h _ (by omega) (by omega)
theorem isum_zero {lo hi : Int} {f : Int → Int} (h : ∀ x, lo ≤ x → x ≤ hi → f x = 0) : isum lo hi f = 0 := by
  unfold isum
  refine sum_map_zero fun i hi' => ?_
  have := List.mem_range.mp hi'
  exact h _ (by omega) (by omega)
theorem isum_swap {a b c d : Int} {f : Int → Int → Int} : (isum a b fun x => isum c d fun y => f x y) = isum c d fun y => isum a b fun x => f x y := by
  unfold isum
  exact sum_map_swap
theorem isum_empty {lo hi : Int} {f : Int → Int} (h : hi < lo) : isum lo hi f = 0 := isum_zero fun x h1 h2 => by omega
/-- one more at the upper end -/
theorem isum_top {lo hi : Int} {f : Int → Int} (h : lo ≤ hi) : isum lo hi f = isum lo (hi - 1) f + f hi := by
  unfold isum
  have e : (hi + 1 - lo).toNat = (hi - 1 + 1 - lo).toNat + 1 := by omega
  rw [e, List.range_succ, List.map_append, List.sum_append_int]
  have e2 : lo + (((hi - 1 + 1 - lo).toNat : Nat) : Int) = hi := by omega
  show _ + [f (lo + ((hi - 1 + 1 - lo).toNat : Nat))].sum = _
  rw [e2, List.sum_cons, List.sum_nil, Int.add_zero]
/-- induction over the upper end -/
theorem isum_ind {lo : Int} {P : Int → Prop} (h0 : ∀ hi, hi < lo → P hi) (hs : ∀ hi, lo ≤ hi → P (hi - 1) → P hi) (hi : Int) : P hi := by
  have key : ∀ (n : Nat) (hi : Int), (hi + 1 - lo).toNat = n → P hi := by
    intro n
    induction n with
    | zero => intro hi e; exact h0 hi (by omega)
    | succ n ih => intro hi e; exact hs hi (by omega) (ih (hi - 1) (by omega))
  exact key _ hi rfl
/-- one more at the lower end -/
theorem isum_bot {lo hi : Int} {f : Int → Int} : lo ≤ hi → isum lo hi f = f lo + isum (lo + 1) hi f := by
  refine isum_ind (lo := lo) (P := fun hi => lo ≤ hi → isum lo hi f = f lo + isum (lo + 1) hi f) (fun hi h h' => by omega) (fun hi h ih h' => ?_) hi
  rw [isum_top h']
  by_cases e : lo = hi
  · subst e
    rw [isum_empty (show lo - 1 < lo by omega), isum_empty (show lo < lo + 1 by omega)]
    omega
  · rw [ih (by omega), isum_top (show lo + 1 ≤ hi by omega)]
    omega
theorem isum_add {lo hi : Int} {f g : Int → Int} : (isum lo hi fun x => f x + g x) = isum lo hi f + isum lo hi g := sum_map_add
theorem isum_one {a : Int} {f : Int → Int} : isum a a f = f a := by
  rw [isum_top (Int.le_refl a), isum_empty (by omega), Int.zero_add]
/-- moved -/
theorem isum_shift {lo hi : Int} (c : Int) {f : Int → Int} : isum lo hi f = isum (lo + c) (hi + c) fun x => f (x - c) := by
  unfold isum
  have e : (hi + c + 1 - (lo + c)).toNat = (hi + 1 - lo).toNat := by omega
  rw [e]
  exact sum_map_congr fun i _ => by
    congr 1
    omega
/-- turned about -/
theorem isum_flip {lo : Int} (c : Int) {f : Int → Int} (hi : Int) : isum lo hi f = isum (c - hi) (c - lo) fun x => f (c - x) := by
  refine isum_ind (lo := lo) (P := fun hi => isum lo hi f = isum (c - hi) (c - lo) fun x => f (c - x)) (fun hi h => ?_) (fun hi h ih => ?_) hi
  · rw [isum_empty h, isum_empty (by omega)]
  · rw [isum_top h, ih, isum_bot (show c - hi ≤ c - lo by omega)]
    have e1 : c - (hi - 1) = c - hi + 1 := by omega
    have e2 : c - (c - hi) = hi := by omega
    rw [e1, e2]
    omega
/-- a part of a wider interval -/
theorem isum_wide {lo hi A B : Int} {f : Int → Int} (h1 : A ≤ lo) (h2 : hi ≤ B) : isum lo hi f = isum A B fun x => if lo ≤ x ∧ x ≤ hi then f x else 0 := by
  -- the upper end
  have up : ∀ B, hi ≤ B → isum lo B (fun x => if lo ≤ x ∧ x ≤ hi then f x else 0) = isum lo hi f := by
    intro B hB
    by_cases hc : lo ≤ hi
    · refine isum_ind (lo := hi + 1) (P := fun B => hi ≤ B → isum lo B (fun x => if lo ≤ x ∧ x ≤ hi then f x else 0) = isum lo hi f) (fun B h h' => ?_) (fun B h ih h' => ?_) B hB
      · have e : B = hi := by omega
        subst e
        exact isum_congr fun x h1 h2 => if_pos ⟨h1, h2⟩
      · rw [isum_top (by omega), ih (by omega), if_neg (by omega), Int.add_zero]
    · rw [isum_empty (by omega : hi < lo), isum_zero fun x h1 h2 => if_neg (by omega)]
  have low : ∀ (n : Nat) (A : Int), A + n = lo → isum A B (fun x => if lo ≤ x ∧ x ≤ hi then f x else 0) = isum lo B (fun x => if lo ≤ x ∧ x ≤ hi then f x else 0) := by
    intro n
    induction n with
    | zero => intro A e; have e : A = lo := by omega
              rw [e]
    | succ n ih =>
      intro A e
      by_cases hc : A ≤ B
      · rw [isum_bot hc, ih (A + 1) (by omega), if_neg (by omega), Int.zero_add]
      · rw [isum_empty (by omega), isum_empty (by omega)]
  rw [low (lo - A).toNat A (by omega), up B h2]
/-- the order of two sums over a set of pairs, given by rows and by columns -/
theorem isum_fubini {a b A B : Int} {lo hi lo' hi' : Int → Int} {g : Int → Int → Int} (h1 : ∀ x, a ≤ x → x ≤ b → A ≤ lo x ∧ hi x ≤ B) (h2 : ∀ y, A ≤ y → y ≤ B → a ≤ lo' y ∧ hi' y ≤ b)
    (h3 : ∀ x y, a ≤ x → x ≤ b → A ≤ y → y ≤ B → ((lo x ≤ y ∧ y ≤ hi x) ↔ (lo' y ≤ x ∧ x ≤ hi' y))) :
    (isum a b fun x => isum (lo x) (hi x) fun y => g x y) = isum A B fun y => isum (lo' y) (hi' y) fun x => g x y := by
  rw [isum_congr (g := fun x => isum A B fun y => if lo x ≤ y ∧ y ≤ hi x then g x y else 0) fun x hx hx' => isum_wide (h1 x hx hx').1 (h1 x hx hx').2]
  rw [isum_swap]
  refine isum_congr fun y hy hy' => ?_
  rw [isum_wide (h2 y hy hy').1 (h2 y hy hy').2]
  refine isum_congr fun x hx hx' => ?_
  have := h3 x y hx hx' hy hy'
  by_cases c : lo x ≤ y ∧ y ≤ hi x
  · rw [if_pos c, if_pos (this.mp c)]
  · rw [if_neg c, if_neg fun q => c (this.mpr q)]
/-- one alone is not 0 -/
theorem isum_single {lo hi x0 : Int} {f : Int → Int} (h1 : lo ≤ x0) (h2 : x0 ≤ hi) (h : ∀ x, lo ≤ x → x ≤ hi → x ≠ x0 → f x = 0) : isum lo hi f = f x0 := by
  have e : isum lo hi f = isum lo hi fun x => if x0 ≤ x ∧ x ≤ x0 then f x else 0 := isum_congr fun x hx hx' => by
    by_cases c : x = x0
    · rw [if_pos (by omega)]
    · rw [if_neg (by omega)]
      exact h x hx hx' c
  rw [e, ← isum_wide h1 h2, isum_one]
theorem isum_nonneg {lo hi : Int} {f : Int → Int} (h : ∀ x, lo ≤ x → x ≤ hi → 0 ≤ f x) : 0 ≤ isum lo hi f := by
  have := isum_le (lo := lo) (hi := hi) (f := fun _ => 0) (g := f) h
  rw [isum_zero fun _ _ _ => rfl] at this
  exact this

/-! ### functions that are alike on both sides of C / 2, and fall away from it -/
structure SU (C : Int) (f : Int → Int) : Prop where
  sym : ∀ s, f (C - s) = f s
  mono : ∀ s, C ≤ 2 * s + 1 → f (s + 1) ≤ f s
theorem SU.up {C : Int} {f : Int → Int} (h : SU C f) : ∀ (n : Nat) (t : Int), C ≤ 2 * t + 1 → f (t + n) ≤ f t
  | 0, t, _ => by
    have e : t + ((0 : Nat) : Int) = t := by omega
    rw [e]
    exact Int.le_refl _
  | n + 1, t, ht => by
    have h1 := SU.up h n t ht
    have h2 := h.mono (t + n) (by omega)
    have e : t + ((n + 1 : Nat) : Int) = t + n + 1 := by omega
    rw [e]
    exact Int.le_trans h2 h1
theorem SU.le {C : Int} {f : Int → Int} (h : SU C f) {s t : Int} (hd : (2 * t - C).natAbs ≤ (2 * s - C).natAbs) : f s ≤ f t := by
  -- both brought to the upper side
  have side : ∀ s, ∃ s', C ≤ 2 * s' ∧ f s' = f s ∧ (2 * s' - C).natAbs = (2 * s - C).natAbs := fun s => by
    by_cases c : C ≤ 2 * s
    · exact ⟨s, c, rfl, rfl⟩
    · exact ⟨C - s, by omega, h.sym s, by omega⟩
  obtain ⟨s', hs, es, ds⟩ := side s
  obtain ⟨t', ht, et, dt⟩ := side t
  rw [← es, ← et]
  have hle : t' ≤ s' := by omega
  have := h.up (s' - t').toNat t' (by omega)
  have e : t' + ((s' - t').toNat : Nat) = s' := by omega
  rw [e] at this
  exact this
theorem SU.zero {C : Int} {f : Int → Int} (h : ∀ s, f s = 0) : SU C f := ⟨fun s => by rw [h, h], fun s _ => by rw [h, h]; exact Int.le_refl _⟩
/-- over an interval of moves -/
theorem SU.box {C lo hi : Int} {f : Int → Int} (h : SU C f) (hl : lo ≤ hi + 1) : SU (C + lo + hi) fun T => isum lo hi fun x => f (T - x) := by
  refine ⟨fun s => ?_, fun s hs => ?_⟩
  · show (isum lo hi fun x => f (C + lo + hi - s - x)) = isum lo hi fun x => f (s - x)
    rw [isum_flip (lo + hi) (f := fun x => f (C + lo + hi - s - x)) hi]
    have e1 : lo + hi - hi = lo := by omega
    have e2 : lo + hi - lo = hi := by omega
    rw [e1, e2]
    refine isum_congr fun x _ _ => ?_
    have e3 : C + lo + hi - s - (lo + hi - x) = C - (s - x) := by omega
    rw [e3]
    exact h.sym _
  · show (isum lo hi fun x => f (s + 1 - x)) ≤ isum lo hi fun x => f (s - x)
    by_cases hc : lo ≤ hi
    · rw [isum_bot hc, isum_top (f := fun x => f (s - x)) hc]
      have e : (isum (lo + 1) hi fun x => f (s + 1 - x)) = isum lo (hi - 1) fun x => f (s - x) := by
        rw [isum_shift 1 (f := fun x => f (s - x))]
        have e1 : hi - 1 + 1 = hi := by omega
        rw [e1]
        refine isum_congr fun x _ _ => ?_
        have e2 : s + 1 - x = s - (x - 1) := by omega
        rw [e2]
      rw [e]
      have := h.le (s := s + 1 - lo) (t := s - hi) (by omega)
      omega
    · rw [isum_empty (by omega), isum_empty (by omega)]
      exact Int.le_refl _
theorem SU.sum {C lo hi : Int} {F : Int → Int → Int} (h : ∀ x, lo ≤ x → x ≤ hi → SU C (F x)) : SU C fun T => isum lo hi fun x => F x T :=
  ⟨fun s => isum_congr fun x h1 h2 => (h x h1 h2).sym s, fun s hs => isum_le fun x h1 h2 => (h x h1 h2).mono s hs⟩
theorem SU.congr {C : Int} {f g : Int → Int} (h : SU C f) (e : ∀ s, g s = f s) : SU C g := ⟨fun s => by rw [e, e]; exact h.sym s, fun s hs => by rw [e, e]; exact h.mono s hs⟩
end Kos

/-! Kos2: fillings of shapes: the numbers Kr, their order (swap, more even, positive, one). Plain Lean, no program. -/
namespace Kos

/-- the first entry, 0 of none -/
def hd (l : List Int) : Int := l.headD 0
theorem hd_nil : hd [] = 0 := rfl
theorem hd_cons (r : Int) (t : List Int) : hd (r :: t) = r := rfl
/-- falling, from 0 on -/
def Dec : List Int → Prop
  | [] => True
  | r :: t => hd t ≤ r ∧ Dec t
/-- s interlaces with l: l_1 ≥ s_1 ≥ l_2 ≥ s_2 .. -/
def IL : List Int → List Int → Prop
  | [], s => s = []
  | r :: t, s => ∃ v s', s = v :: s' ∧ hd t ≤ v ∧ v ≤ r ∧ IL t s'
/-- the sum of f over all that interlace with l -/
def W : List Int → (List Int → Int) → Int
  | [], φ => φ []
  | r :: t, φ => isum (hd t) r fun v => W t fun s => φ (v :: s)
/-- the number of fillings, by the numbers of the entries from the last one on -/
def Kr : List Int → List Int → Int
  | [], l => if l.all (· == 0) then 1 else 0
  | m :: c, l => W l fun s => if s.sum = l.sum - m then Kr c s else 0

theorem Dec.hd0 : ∀ {l : List Int}, Dec l → 0 ≤ hd l
  | [], _ => Int.le_refl _
  | r :: t, h => Int.le_trans (Dec.hd0 h.2) h.1
theorem Dec.sum0 : ∀ {l : List Int}, Dec l → 0 ≤ l.sum
  | [], _ => Int.le_refl _
  | r :: t, h => by
    have h1 := Dec.hd0 (l := r :: t) h
    have h2 := Dec.sum0 h.2
    rw [hd_cons] at h1
    rw [List.sum_cons]
    omega
theorem Dec.nn : ∀ {l : List Int}, Dec l → ∀ x ∈ l, 0 ≤ x
  | r :: t, h, x, hx => by
    rcases List.mem_cons.mp hx with e | hx
    · rw [e]
      have h1 := Dec.hd0 (l := r :: t) h
      exact h1
    · exact Dec.nn h.2 x hx
theorem IL.hd_le : ∀ {l s : List Int}, IL l s → hd s ≤ hd l
  | [], s, h => by
    have h : s = [] := h
    subst h
    exact Int.le_refl _
  | r :: t, s, ⟨v, s', e, _, h2, _⟩ => by
    subst e
    exact h2
theorem IL.dec : ∀ {l s : List Int}, Dec l → IL l s → Dec s
  | [], s, _, h => by
    have h : s = [] := h
    subst h
    exact trivial
  | r :: t, s, hd', ⟨v, s', e, h1, h2, h3⟩ => by
    subst e
    exact ⟨Int.le_trans h3.hd_le h1, IL.dec hd'.2 h3⟩
theorem IL.len : ∀ {l s : List Int}, IL l s → s.length = l.length
  | [], s, h => by
    have h : s = [] := h
    subst h
    rfl
  | r :: t, s, ⟨v, s', e, _, _, h3⟩ => by
    subst e
    rw [List.length_cons, List.length_cons, IL.len h3]
theorem IL.sum_le : ∀ {l s : List Int}, IL l s → s.sum ≤ l.sum
  | [], s, h => by
    have h : s = [] := h
    subst h
    exact Int.le_refl _
  | r :: t, s, ⟨v, s', e, _, h2, h3⟩ => by
    subst e
    have := IL.sum_le h3
    rw [List.sum_cons, List.sum_cons]
    omega

theorem W_congr : ∀ {l : List Int} {φ ψ : List Int → Int}, (∀ s, IL l s → φ s = ψ s) → W l φ = W l ψ
  | [], _, _, h => h [] rfl
  | r :: t, φ, ψ, h => isum_congr fun v h1 h2 => W_congr (l := t) fun s hs => h (v :: s) ⟨v, s, rfl, h1, h2, hs⟩
theorem W_le : ∀ {l : List Int} {φ ψ : List Int → Int}, (∀ s, IL l s → φ s ≤ ψ s) → W l φ ≤ W l ψ
  | [], _, _, h => h [] rfl
  | r :: t, φ, ψ, h => isum_le fun v h1 h2 => W_le (l := t) fun s hs => h (v :: s) ⟨v, s, rfl, h1, h2, hs⟩
theorem W_zero : ∀ {l : List Int} {φ : List Int → Int}, (∀ s, IL l s → φ s = 0) → W l φ = 0
  | [], _, h => h [] rfl
  | r :: t, φ, h => isum_zero fun v h1 h2 => W_zero (l := t) fun s hs => h (v :: s) ⟨v, s, rfl, h1, h2, hs⟩
theorem W_nonneg {l : List Int} {φ : List Int → Int} (h : ∀ s, IL l s → 0 ≤ φ s) : 0 ≤ W l φ := by
  have := W_le (l := l) (φ := fun _ => 0) (ψ := φ) h
  rw [W_zero fun _ _ => rfl] at this
  exact this
theorem W_some {l : List Int} {φ : List Int → Int} (h : W l φ ≠ 0) : ∃ s, IL l s ∧ φ s ≠ 0 := by
  apply Classical.byContradiction
  intro q
  refine h (W_zero fun s hs => ?_)
  apply Classical.byContradiction
  intro q2
  exact q ⟨s, hs, q2⟩
theorem W_single : ∀ {l s0 : List Int} {φ : List Int → Int}, IL l s0 → (∀ s, IL l s → s ≠ s0 → φ s = 0) → W l φ = φ s0
  | [], s0, φ, h, _ => by
    have h : s0 = [] := h
    subst h
    rfl
  | r :: t, s0, φ, ⟨v, s', e, h1, h2, h3⟩, hz => by
    subst e
    show isum (hd t) r (fun v => W t fun s => φ (v :: s)) = φ (v :: s')
    rw [isum_single (x0 := v) h1 h2 fun x hx hx' hne => W_zero fun s hs => hz (x :: s) ⟨x, s, rfl, hx, hx', hs⟩ fun q => hne (List.cons.inj q).1]
    exact W_single h3 fun s hs hne => hz (v :: s) ⟨v, s, rfl, h1, h2, hs⟩ fun q => hne (List.cons.inj q).2
theorem W_isum : ∀ {l : List Int} {a b : Int} {F : Int → List Int → Int}, (W l fun s => isum a b fun x => F x s) = isum a b fun x => W l (F x)
  | [], _, _, _ => rfl
  | r :: t, a, b, F => by
    show isum (hd t) r (fun v => W t fun s => isum a b fun x => F x (v :: s)) = isum a b fun x => isum (hd t) r fun v => W t fun s => F x (v :: s)
    rw [← isum_swap]
    exact isum_congr fun v _ _ => W_isum (l := t) (F := fun x s => F x (v :: s))
theorem W_pos {l s0 : List Int} {φ : List Int → Int} (h0 : IL l s0) (hn : ∀ s, IL l s → 0 ≤ φ s) (hp : 0 < φ s0) : 0 < W l φ := by
  have h1 : W l (fun s => if s = s0 then φ s0 else 0) = φ s0 := by
    rw [W_single h0 fun s _ hne => if_neg hne, if_pos rfl]
  have h2 := W_le (l := l) (φ := fun s => if s = s0 then φ s0 else 0) (ψ := φ) fun s hs => by
    by_cases c : s = s0
    · rw [if_pos c, c]
      exact Int.le_refl _
    · rw [if_neg c]
      exact hn s hs
  omega

/-! ### pairs of strips, row by row -/
/-- as W, the first row at most p -/
def WP (l : List Int) (p : Int) (φ : List Int → Int) : Int := match l with
  | [] => φ []
  | r :: t => isum (hd t) (min r p) fun v => W t fun s => φ (v :: s)
def Z : List Int → Int → (Int → List Int → Int) → Int
  | [], _, ψ => ψ 0 []
  | r :: t, p, ψ => isum 0 r fun y => isum (max (hd t) y) (min r p) fun x => Z t y fun s μ => ψ (x + s) (y :: μ)
theorem WP_top {l : List Int} {φ : List Int → Int} : WP l (hd l) φ = W l φ := by
  cases l with
  | nil => rfl
  | cons r t =>
    show isum (hd t) (min r r) (fun v => W t fun s => φ (v :: s)) = isum (hd t) r fun v => W t fun s => φ (v :: s)
    rw [Int.min_self]
/-- a sum over strips s of l, and behind it over y from the first row of s on -/
theorem W_first : ∀ {t : List Int} {x : Int} {F : List Int → Int → Int}, Dec t → (W t fun s => isum (hd s) x fun y => F s y) = isum 0 x fun y => WP t y fun s => F s y
  | [], x, F, _ => rfl
  | r :: t, x, F, h => by
    show isum (hd t) r (fun v => W t fun s => isum v x fun y => F (v :: s) y) = isum 0 x fun y => isum (hd t) (min r y) fun v => W t fun s => F (v :: s) y
    rw [isum_congr (g := fun v => isum v x fun y => W t fun s => F (v :: s) y) fun v _ _ => W_isum (F := fun y s => F (v :: s) y)]
    have h0 := h.2.hd0
    exact isum_fubini (lo := fun v => v) (hi := fun _ => x) (lo' := fun _ => hd t) (hi' := fun y => min r y) (g := fun v y => W t fun s => F (v :: s) y) (fun v h1 h2 => by omega) (fun y h1 h2 => by omega) fun v y _ _ _ _ => by omega
theorem Z_eq : ∀ {l : List Int} {p : Int} {ψ : Int → List Int → Int}, Dec l → (WP l p fun s => W s fun μ => ψ s.sum μ) = Z l p ψ
  | [], _, _, _ => rfl
  | r :: t, p, ψ, h => by
    show isum (hd t) (min r p) (fun x => W t fun s => isum (hd s) x fun y => W s fun μ => ψ (x :: s).sum (y :: μ)) = isum 0 r fun y => isum (max (hd t) y) (min r p) fun x => Z t y fun s μ => ψ (x + s) (y :: μ)
    rw [isum_congr (g := fun x => isum 0 x fun y => WP t y fun s => W s fun μ => ψ (x :: s).sum (y :: μ)) fun x _ _ => W_first (F := fun s y => W s fun μ => ψ (x :: s).sum (y :: μ)) h.2]
    have h0 := h.2.hd0
    rw [isum_fubini (lo := fun _ => 0) (hi := fun x => x) (A := 0) (B := r) (lo' := fun y => max (hd t) y) (hi' := fun _ => min r p) (g := fun x y => WP t y fun s => W s fun μ => ψ (x :: s).sum (y :: μ)) (fun x h1 h2 => by omega) (fun y h1 h2 => by omega) fun x y _ _ _ _ => by omega]
    refine isum_congr fun y _ _ => isum_congr fun x _ _ => ?_
    rw [← Z_eq (l := t) (p := y) (ψ := fun s μ => ψ (x + s) (y :: μ)) h.2]
    rfl
theorem Z_congr : ∀ {l : List Int} {p : Int} {ψ χ : Int → List Int → Int}, (∀ s μ, ψ s μ = χ s μ) → Z l p ψ = Z l p χ
  | [], _, _, _, h => h 0 []
  | r :: t, p, ψ, χ, h => isum_congr fun y _ _ => isum_congr fun x _ _ => Z_congr (l := t) fun s μ => h (x + s) (y :: μ)
theorem Z_zero : ∀ {l : List Int} {p : Int} {ψ : Int → List Int → Int}, (∀ s μ, ψ s μ = 0) → Z l p ψ = 0
  | [], _, _, h => h 0 []
  | r :: t, p, ψ, h => isum_zero fun y _ _ => isum_zero fun x _ _ => Z_zero (l := t) fun s μ => h (x + s) (y :: μ)
/-- by the total T of the middle row: alike on both sides, greatest in the middle -/
theorem Z_su : ∀ {l : List Int} {p w : Int} {φ : List Int → Int}, Dec l → 0 ≤ p → (∀ μ, 0 ≤ φ μ) → SU (min (hd l) p + l.tail.sum + w) fun T => Z l p fun s μ => if s = T ∧ μ.sum = w then φ μ else 0
  | [], p, w, φ, _, hp, hφ => by
    show SU (min 0 p + 0 + w) fun T => if 0 = T ∧ (0 : Int) = w then φ [] else 0
    by_cases c : (0 : Int) = w
    · subst c
      refine ⟨fun s => ?_, fun s hs => ?_⟩
      · show (if 0 = min 0 p + 0 + 0 - s ∧ (0 : Int) = 0 then φ [] else 0) = if 0 = s ∧ (0 : Int) = 0 then φ [] else 0
        by_cases c : 0 = s
        · rw [if_pos (by omega), if_pos (by omega)]
        · rw [if_neg (by omega), if_neg (by omega)]
      · show (if 0 = s + 1 ∧ (0 : Int) = 0 then φ [] else 0) ≤ if 0 = s ∧ (0 : Int) = 0 then φ [] else 0
        rw [if_neg (by omega)]
        split
        · exact hφ []
        · exact Int.le_refl _
    · exact SU.zero fun s => if_neg fun q => c q.2
  | r :: t, p, w, φ, h, hp, hφ => by
    show SU (min r p + t.sum + w) fun T => isum 0 r fun y => isum (max (hd t) y) (min r p) fun x => Z t y fun s μ => if x + s = T ∧ (y :: μ).sum = w then φ (y :: μ) else 0
    refine SU.sum fun y hy hy' => ?_
    have ih := Z_su (l := t) (p := y) (w := w - y) (φ := fun μ => φ (y :: μ)) h.2 hy fun μ => hφ _
    have eq : ∀ T x, (Z t y fun s μ => if x + s = T ∧ (y :: μ).sum = w then φ (y :: μ) else 0) = Z t y fun s μ => if s = T - x ∧ μ.sum = w - y then φ (y :: μ) else 0 := fun T x => Z_congr fun s μ => by
      rw [List.sum_cons]
      by_cases c : x + s = T ∧ y + μ.sum = w
      · rw [if_pos c, if_pos (by omega)]
      · rw [if_neg c, if_neg (by omega)]
    by_cases hc : max (hd t) y ≤ min r p + 1
    · have b := ih.box hc
      have es : t.sum = hd t + t.tail.sum := by
        cases t with
        | nil => rfl
        | cons a b => rw [List.sum_cons]; rfl
      have e : min (hd t) y + t.tail.sum + (w - y) + max (hd t) y + min r p = min r p + t.sum + w := by omega
      rw [e] at b
      exact b.congr fun T => isum_congr fun x _ _ => eq T x
    · exact SU.zero fun s => isum_empty (by omega)
/-- two strips away, of b and then of a cells: the more even a and b, the more -/
theorem two_le {l : List Int} {φ : List Int → Int} {a b a' b' : Int} (h : Dec l) (hφ : ∀ μ, 0 ≤ φ μ) (hs : a + b = a' + b') (hd' : (a' - b').natAbs ≤ (a - b).natAbs) :
    (W l fun s => if s.sum = l.sum - b then (W s fun μ => if μ.sum = s.sum - a then φ μ else 0) else 0) ≤ W l fun s => if s.sum = l.sum - b' then (W s fun μ => if μ.sum = s.sum - a' then φ μ else 0) else 0 := by
  have key : ∀ a b : Int, (W l fun s => if s.sum = l.sum - b then (W s fun μ => if μ.sum = s.sum - a then φ μ else 0) else 0) = Z l (hd l) fun s μ => if s = l.sum - b ∧ μ.sum = l.sum - (a + b) then φ μ else 0 := by
    intro a b
    rw [← Z_eq h, WP_top]
    refine W_congr fun s _ => ?_
    by_cases c : s.sum = l.sum - b
    · rw [if_pos c]
      refine W_congr fun μ _ => ?_
      by_cases c2 : μ.sum = s.sum - a
      · rw [if_pos c2, if_pos (by omega)]
      · rw [if_neg c2, if_neg (by omega)]
    · rw [if_neg c, W_zero fun μ _ => if_neg fun q => c q.1]
  rw [key, key, ← hs]
  have su := Z_su (l := l) (p := hd l) (w := l.sum - (a + b)) (φ := φ) h h.hd0 hφ
  have es : l.sum = hd l + l.tail.sum := by
    cases l with
    | nil => rfl
    | cons a b => rw [List.sum_cons]; rfl
  refine su.le ?_
  have := h.hd0
  omega

/-! ### the numbers of fillings -/
theorem Kr_nonneg : ∀ (c l : List Int), 0 ≤ Kr c l
  | [], l => by
    unfold Kr
    split <;> omega
  | m :: c, l => W_nonneg fun s _ => by
    split
    · exact Kr_nonneg c s
    · exact Int.le_refl _
theorem Kr_congr {c c' : List Int} {m : Int} {l : List Int} (hl : Dec l) (h : ∀ s, Dec s → Kr c s = Kr c' s) : Kr (m :: c) l = Kr (m :: c') l :=
  W_congr fun s hs => by rw [h s (hs.dec hl)]
theorem Kr_le_congr {c c' : List Int} {m : Int} {l : List Int} (hl : Dec l) (h : ∀ s, Dec s → Kr c s ≤ Kr c' s) : Kr (m :: c) l ≤ Kr (m :: c') l :=
  W_le fun s hs => by
    split
    · exact h s (hs.dec hl)
    · exact Int.le_refl _
/-- two neighbours made more even -/
theorem Kr_even {a b a' b' : Int} {c l : List Int} (hl : Dec l) (hs : a + b = a' + b') (hd' : (a' - b').natAbs ≤ (a - b).natAbs) : Kr (b :: a :: c) l ≤ Kr (b' :: a' :: c) l :=
  two_le hl (fun μ => Kr_nonneg c μ) hs hd'
theorem Kr_swap {a b : Int} {c l : List Int} (hl : Dec l) : Kr (b :: a :: c) l = Kr (a :: b :: c) l :=
  Int.le_antisymm (Kr_even hl (by omega) (by omega)) (Kr_even hl (by omega) (by omega))
theorem Kr_perm {c c' : List Int} (h : c.Perm c') : ∀ {l : List Int}, Dec l → Kr c l = Kr c' l := by
  induction h with
  | nil => intro l _; rfl
  | cons m _ ih => intro l hl; exact Kr_congr hl fun s hs => ih hs
  | swap a b c => intro l hl; exact Kr_swap hl
  | trans _ _ ih1 ih2 => intro l hl; exact (ih1 hl).trans (ih2 hl)
theorem IL.refl : ∀ {l : List Int}, Dec l → IL l l
  | [], _ => rfl
  | r :: t, h => ⟨r, t, rfl, h.1, Int.le_refl _, IL.refl h.2⟩
theorem IL.eq_of_sum : ∀ {l s : List Int}, IL l s → s.sum = l.sum → s = l
  | [], s, h, _ => h
  | r :: t, s, ⟨v, s', e, h1, h2, h3⟩, hs => by
    subst e
    rw [List.sum_cons, List.sum_cons] at hs
    have := h3.sum_le
    rw [IL.eq_of_sum h3 (by omega), show v = r by omega]
theorem Kr_zero {c l : List Int} (hl : Dec l) : Kr (0 :: c) l = Kr c l := by
  show (W l fun s => if s.sum = l.sum - 0 then Kr c s else 0) = Kr c l
  rw [W_single (IL.refl hl) fun s hs hne => if_neg fun q => hne (hs.eq_of_sum (by omega)), if_pos (by omega)]

/-! ### zeros at the end -/
theorem hd_zero : ∀ {t : List Int}, hd (t ++ [0]) = hd t
  | [] => rfl
  | _ :: _ => rfl
theorem W_append : ∀ {l : List Int} {φ : List Int → Int}, W (l ++ [0]) φ = W l fun s => φ (s ++ [0])
  | [], φ => by
    show isum 0 0 (fun v => φ [v]) = φ [0]
    rw [isum_one]
  | r :: t, φ => by
    show isum (hd (t ++ [0])) r (fun v => W (t ++ [0]) fun s => φ (v :: s)) = isum (hd t) r fun v => W t fun s => φ (v :: (s ++ [0]))
    rw [hd_zero]
    exact isum_congr fun v _ _ => W_append (l := t) (φ := fun s => φ (v :: s))
theorem sum_zero (l : List Int) : (l ++ [0]).sum = l.sum := by
  rw [List.sum_append_int, List.sum_cons, List.sum_nil]
  omega
theorem Kr_append : ∀ {c l : List Int}, Kr c (l ++ [0]) = Kr c l
  | [], l => by
    unfold Kr
    rw [List.all_append]
    simp
  | m :: c, l => by
    show (W (l ++ [0]) fun s => if s.sum = (l ++ [0]).sum - m then Kr c s else 0) = W l fun s => if s.sum = l.sum - m then Kr c s else 0
    rw [W_append]
    refine W_congr fun s _ => ?_
    rw [sum_zero, sum_zero, Kr_append (c := c)]
theorem Kr_zeros {c l : List Int} : ∀ n : Nat, Kr c (l ++ List.replicate n 0) = Kr c l
  | 0 => by rw [List.replicate_zero, List.append_nil]
  | n + 1 => by rw [List.replicate_succ', ← List.append_assoc, Kr_append, Kr_zeros n]
/-- without what is not above 0 -/
def trim (l : List Int) : List Int := l.filter fun x => decide (0 < x)
theorem trim_cons_pos {r : Int} {t : List Int} (h : 0 < r) : trim (r :: t) = r :: trim t := by
  unfold trim
  rw [List.filter_cons_of_pos (by simpa using h)]
theorem trim_cons_neg {r : Int} {t : List Int} (h : ¬ 0 < r) : trim (r :: t) = trim t := by
  unfold trim
  rw [List.filter_cons_of_neg (by simpa using h)]
theorem trim_zeros : ∀ {l : List Int}, Dec l → ∃ n, l = trim l ++ List.replicate n 0
  | [], _ => ⟨0, rfl⟩
  | r :: t, h => by
    by_cases c : 0 < r
    · obtain ⟨n, e⟩ := trim_zeros h.2
      refine ⟨n, ?_⟩
      rw [trim_cons_pos c, List.cons_append, ← e]
    · -- all that follows is 0, too
      have h0 := Dec.hd0 (l := r :: t) h
      rw [hd_cons] at h0
      have e0 : r = 0 := by omega
      subst e0
      obtain ⟨n, e⟩ := trim_zeros h.2
      have et : trim t = [] := by
        cases q : trim t with
        | nil => rfl
        | cons x y =>
          rw [q] at e
          have h1 := h.1
          rw [e] at h1
          have hx : x ∈ trim t := by rw [q]; exact List.mem_cons_self
          unfold trim at hx
          have := (List.mem_filter.mp hx).2
          have : 0 < x := by simpa using this
          have h1 : x ≤ 0 := h1
          omega
      refine ⟨n + 1, ?_⟩
      rw [trim_cons_neg c, et, List.nil_append, List.replicate_succ]
      rw [et, List.nil_append] at e
      rw [← e]
theorem Kr_trim {c l : List Int} (h : Dec l) : Kr c (trim l) = Kr c l := by
  obtain ⟨n, e⟩ := trim_zeros h
  conv => rhs; rw [e]
  exact (Kr_zeros n).symm
theorem sum_zeros (l : List Int) : ∀ n : Nat, (l ++ List.replicate n 0).sum = l.sum
  | 0 => by rw [List.replicate_zero, List.append_nil]
  | n + 1 => by rw [List.replicate_succ', ← List.append_assoc, sum_zero, sum_zeros l n]
theorem trim_sum {l : List Int} (h : Dec l) : (trim l).sum = l.sum := by
  obtain ⟨n, e⟩ := trim_zeros h
  conv => rhs; rw [e]
  exact (sum_zeros _ n).symm
theorem trim_hd : ∀ {l : List Int}, Dec l → hd (trim l) = hd l
  | [], _ => rfl
  | r :: t, h => by
    by_cases c : 0 < r
    · rw [trim_cons_pos c]
      rfl
    · have h0 := Dec.hd0 (l := r :: t) h
      rw [hd_cons] at h0
      rw [trim_cons_neg c, trim_hd h.2, hd_cons]
      have := h.1
      have := h.2.hd0
      omega
theorem trim_dec : ∀ {l : List Int}, Dec l → Dec (trim l)
  | [], _ => trivial
  | r :: t, h => by
    by_cases c : 0 < r
    · rw [trim_cons_pos c]
      exact ⟨by rw [trim_hd h.2]; exact h.1, trim_dec h.2⟩
    · rw [trim_cons_neg c]
      exact trim_dec h.2
theorem trim_pos {l : List Int} : ∀ x ∈ trim l, 0 < x := fun x hx => by
  unfold trim at hx
  simpa using (List.mem_filter.mp hx).2
theorem trim_self {l : List Int} (h : ∀ x ∈ l, 0 < x) : trim l = l := by
  unfold trim
  rw [List.filter_eq_self]
  intro x hx
  simpa using h x hx
end Kos

/-! Kos3: there is a filling exactly if the row is under the shape; one with the shape's own lengths; a moved unit. Plain Lean, no program. -/
namespace Kos

/-! ### a filling: its numbers are under the shape -/
theorem IL.take_le : ∀ {l s : List Int} (j : Nat), IL l s → (s.take j).sum ≤ (l.take j).sum
  | _, _, 0, _ => Int.le_refl _
  | [], s, j + 1, h => by
    have h : s = [] := h
    subst h
    exact Int.le_refl _
  | r :: t, s, j + 1, ⟨v, s', e, _, h2, h3⟩ => by
    subst e
    have := IL.take_le j h3
    rw [List.take_succ_cons, List.take_succ_cons, List.sum_cons, List.sum_cons]
    omega
theorem sum_hd (t : List Int) : t.sum = hd t + (t.drop 1).sum := by
  cases t with
  | nil => rfl
  | cons a b => rw [List.sum_cons]; rfl
theorem IL.drop_le : ∀ {l s : List Int} (j : Nat), IL l s → (l.drop (j + 1)).sum ≤ (s.drop j).sum
  | [], s, j, h => by
    have h : s = [] := h
    subst h
    rw [List.drop_nil, List.drop_nil]
    exact Int.le_refl _
  | r :: t, s, 0, ⟨v, s', e, h1, _, h3⟩ => by
    subst e
    have := IL.drop_le 0 h3
    show t.sum ≤ (v :: s').sum
    rw [List.sum_cons, sum_hd t]
    have e0 : s'.drop 0 = s' := rfl
    rw [e0] at this
    have e1 : t.drop (0 + 1) = t.drop 1 := rfl
    rw [e1] at this
    omega
  | r :: t, s, j + 1, ⟨v, s', e, _, _, h3⟩ => by
    subst e
    exact IL.drop_le j h3
theorem take_drop_sum (l : List Int) (j : Nat) : (l.take j).sum + (l.drop j).sum = l.sum := by
  rw [← List.sum_append_int, List.take_append_drop]
theorem Dec.take0 : ∀ {l : List Int} (j : Nat), Dec l → 0 ≤ (l.take j).sum
  | _, 0, _ => Int.le_refl _
  | [], _ + 1, _ => Int.le_refl _
  | r :: t, j + 1, h => by
    have h1 := Dec.hd0 (l := r :: t) h
    rw [hd_cons] at h1
    have := Dec.take0 (l := t) j h.2
    rw [List.take_succ_cons, List.sum_cons]
    omega
theorem all0_sum : ∀ {l : List Int}, l.all (· == 0) = true → l.sum = 0
  | [], _ => rfl
  | r :: t, h => by
    rw [List.all_cons, Bool.and_eq_true] at h
    have h1 : r = 0 := by simpa using h.1
    rw [List.sum_cons, h1, all0_sum h.2]
    rfl
theorem Kr_dom : ∀ {c l : List Int}, Dec l → Kr c l ≠ 0 → l.sum = c.sum ∧ ∀ j, (c.reverse.take j).sum ≤ (l.take j).sum
  | [], l, hl, h => by
    unfold Kr at h
    split at h
    · rename_i q
      refine ⟨all0_sum q, fun j => ?_⟩
      rw [List.reverse_nil, List.take_nil]
      exact hl.take0 j
    · exact absurd rfl h
  | m :: c, l, hl, h => by
    obtain ⟨s, hs, hn⟩ := W_some h
    by_cases e : s.sum = l.sum - m
    · rw [if_pos e] at hn
      obtain ⟨ih1, ih2⟩ := Kr_dom (hs.dec hl) hn
      have e1 : l.sum = (m :: c).sum := by rw [List.sum_cons]; omega
      refine ⟨e1, fun j => ?_⟩
      rw [List.reverse_cons]
      by_cases hj : j ≤ c.length
      · rw [List.take_append_of_le_length (by rw [List.length_reverse]; exact hj)]
        exact Int.le_trans (ih2 j) (hs.take_le j)
      · rw [List.take_of_length_le (by rw [List.length_append, List.length_reverse, List.length_singleton]; omega)]
        have h1 := ih2 (j - 1)
        rw [List.take_of_length_le (by rw [List.length_reverse]; omega), List.sum_reverse] at h1
        have h2 := hs.drop_le (j - 1)
        have e2 : j - 1 + 1 = j := by omega
        rw [e2] at h2
        have h3 := take_drop_sum s (j - 1)
        have h4 := take_drop_sum l j
        rw [List.sum_append_int, List.sum_reverse, List.sum_cons, List.sum_nil]
        rw [List.sum_cons] at e1
        omega
    · rw [if_neg e] at hn
      exact absurd rfl hn

/-! ### the strip from below -/
def gr : List Int → Int → List Int
  | [], _ => []
  | r :: t, m => (if m ≤ hd t then r else if m ≤ r then r + hd t - m else hd t) :: gr t m
theorem gr_il : ∀ {l : List Int} {m : Int}, Dec l → IL l (gr l m)
  | [], _, _ => rfl
  | r :: t, m, h => by
    refine ⟨_, _, rfl, ?_, ?_, gr_il h.2⟩
    · have := h.1
      split
      · omega
      · split <;> omega
    · have := h.1
      split
      · omega
      · split <;> omega
theorem gr_low : ∀ {l : List Int} {m : Int} (j : Nat), Dec l → hd l < m → ((gr l m).take j).sum = (l.take (j + 1)).sum - hd l
  | [], m, j, _, _ => by
    show (([] : List Int).take j).sum = (([] : List Int).take (j + 1)).sum - 0
    rw [List.take_nil, List.take_nil]
    rfl
  | a :: t, m, 0, _, _ => by
    show (0 : Int) = (a :: t.take 0).sum - a
    rw [List.sum_cons, List.take_zero, List.sum_nil]
    omega
  | a :: t, m, j + 1, h, hm => by
    rw [hd_cons] at hm
    have h1 := h.1
    have ih := gr_low (l := t) (m := m) j h.2 (by omega)
    show ((if m ≤ hd t then a else if m ≤ a then a + hd t - m else hd t) :: (gr t m).take j).sum = (a :: t.take (j + 1)).sum - a
    rw [if_neg (by omega), if_neg (by omega), List.sum_cons, List.sum_cons, ih]
    omega
theorem take_next : ∀ {t : List Int} (j : Nat), Dec t → (t.take (j + 1)).sum ≤ (t.take j).sum + hd t
  | [], j, _ => by
    rw [List.take_nil, List.take_nil]
    exact Int.le_refl _
  | a :: t, 0, _ => by
    rw [List.take_succ_cons, List.take_zero, List.sum_cons, List.take_zero, List.sum_nil, hd_cons]
    omega
  | a :: t, j + 1, h => by
    have := take_next (t := t) j h.2
    have h1 := h.1
    rw [List.take_succ_cons, List.take_succ_cons, List.sum_cons, List.sum_cons, hd_cons]
    omega
theorem gr_take : ∀ {l : List Int} {m : Int} (j : Nat), Dec l → 0 ≤ m → m ≤ hd l → ((gr l m).take j).sum = min (l.take j).sum ((l.take (j + 1)).sum - m)
  | [], m, j, _, h0, h1 => by
    have h1 : m ≤ 0 := h1
    show (([] : List Int).take j).sum = min (([] : List Int).take j).sum ((([] : List Int).take (j + 1)).sum - m)
    rw [List.take_nil, List.take_nil, List.sum_nil]
    omega
  | r :: t, m, 0, _, h0, h1 => by
    rw [hd_cons] at h1
    rw [List.take_zero, List.take_zero, List.take_succ_cons, List.take_zero, List.sum_cons, List.sum_nil]
    omega
  | r :: t, m, j + 1, h, h0, h1 => by
    rw [hd_cons] at h1
    show ((if m ≤ hd t then r else if m ≤ r then r + hd t - m else hd t) :: (gr t m).take j).sum = min (r :: t.take j).sum ((r :: t.take (j + 1)).sum - m)
    rw [List.sum_cons, List.sum_cons, List.sum_cons]
    by_cases c : m ≤ hd t
    · rw [if_pos c, gr_take j h.2 h0 c]
      omega
    · rw [if_neg c, if_pos h1, gr_low j h.2 (by omega)]
      have := take_next (t := t) j h.2
      omega
theorem gr_sum {l : List Int} {m : Int} (h : Dec l) (h0 : 0 ≤ m) (h1 : m ≤ hd l) : (gr l m).sum = l.sum - m := by
  have := gr_take (l.length) h h0 h1
  rw [List.take_of_length_le (by rw [(gr_il h).len]; exact Nat.le_refl _), List.take_of_length_le (Nat.le_refl _), List.take_of_length_le (Nat.le_succ _)] at this
  omega
theorem take_last : ∀ {e : List Int} {m : Int} (j : Nat), 0 ≤ m → (∀ x ∈ e, m ≤ x) → (e.take j).sum ≤ ((e ++ [m]).take j).sum ∧ (e.take j).sum + m ≤ ((e ++ [m]).take (j + 1)).sum
  | [], m, j, h0, _ => by
    rw [List.take_nil, List.nil_append, List.take_succ_cons, List.take_nil, List.sum_cons, List.sum_nil]
    cases j with
    | zero => exact ⟨Int.le_refl _, by omega⟩
    | succ j =>
      rw [List.take_succ_cons, List.take_nil, List.sum_cons, List.sum_nil]
      omega
  | a :: e, m, 0, h0, h => by
    have := h a List.mem_cons_self
    rw [List.take_zero, List.take_zero, List.cons_append, List.take_succ_cons, List.take_zero, List.sum_cons, List.sum_nil]
    omega
  | a :: e, m, j + 1, h0, h => by
    obtain ⟨h1, h2⟩ := take_last (e := e) (m := m) j h0 fun x hx => h x (List.mem_cons_of_mem _ hx)
    rw [List.cons_append, List.take_succ_cons, List.take_succ_cons, List.take_succ_cons, List.sum_cons, List.sum_cons, List.sum_cons]
    omega
theorem sum0_all0 : ∀ {l : List Int}, Dec l → l.sum = 0 → l.all (· == 0) = true
  | [], _, _ => rfl
  | r :: t, h, hs => by
    have h1 := Dec.hd0 (l := r :: t) h
    rw [hd_cons] at h1
    have h2 := h.2.sum0
    rw [List.sum_cons] at hs
    rw [List.all_cons, sum0_all0 h.2 (by omega), show r = 0 by omega]
    rfl
theorem hd_take (l : List Int) : (l.take 1).sum = hd l := by
  cases l with
  | nil => rfl
  | cons a b =>
    rw [List.take_succ_cons, List.take_zero, List.sum_cons, List.sum_nil, hd_cons]
    omega
/-- c: the numbers from the least one on -/
theorem Kr_pos : ∀ {c l : List Int}, Dec l → (∀ x ∈ c, 0 ≤ x) → c.Pairwise (· ≤ ·) → l.sum = c.sum → (∀ j, (c.reverse.take j).sum ≤ (l.take j).sum) → 0 < Kr c l
  | [], l, hl, _, _, hs, _ => by
    unfold Kr
    rw [if_pos (sum0_all0 hl hs)]
    decide
  | m :: c, l, hl, hn, hp, hs, hj => by
    have h0 : 0 ≤ m := hn m List.mem_cons_self
    have hm : ∀ x ∈ c.reverse, m ≤ x := fun x hx => (List.pairwise_cons.mp hp).1 x (List.mem_reverse.mp hx)
    rw [List.reverse_cons] at hj
    rw [List.sum_cons] at hs
    have h1 : m ≤ hd l := by
      have a := hj 1
      have b := (take_last (e := c.reverse) (m := m) 0 h0 hm).2
      rw [hd_take l] at a
      rw [List.take_zero, List.sum_nil] at b
      have b : 0 + m ≤ ((c.reverse ++ [m]).take 1).sum := b
      omega
    have hg := gr_sum hl h0 h1
    refine W_pos (gr_il (m := m) hl) (fun s _ => ?_) ?_
    · split
      · exact Kr_nonneg c s
      · exact Int.le_refl _
    · rw [if_pos hg]
      refine Kr_pos ((gr_il hl).dec hl) (fun x hx => hn x (List.mem_cons_of_mem _ hx)) (List.pairwise_cons.mp hp).2 (by omega) fun j => ?_
      rw [gr_take j hl h0 h1]
      obtain ⟨a, b⟩ := take_last (e := c.reverse) (m := m) j h0 hm
      have a' := hj j
      have b' := hj (j + 1)
      omega

/-! ### the shape's own lengths -/
theorem IL.own : ∀ {x s : List Int} {m : Int}, IL (x ++ [m]) s → x.sum ≤ (s.take x.length).sum → s.sum = x.sum → s = x ++ [0]
  | [], s, m, ⟨v, s', e, _, _, h3⟩, _, hs => by
    have h3 : s' = [] := h3
    subst h3
    subst e
    rw [List.sum_cons, List.sum_nil] at hs
    rw [show v = 0 by omega]
    rfl
  | a :: x, s, m, ⟨v, s', e, _, h2, h3⟩, hx, hs => by
    subst e
    have h3 : IL (x ++ [m]) s' := h3
    have h4 := IL.take_le x.length h3
    rw [List.take_append_of_le_length (Nat.le_refl _), List.take_length] at h4
    rw [List.length_cons, List.take_succ_cons, List.sum_cons, List.sum_cons] at hx
    rw [List.sum_cons, List.sum_cons] at hs
    rw [show v = a by omega, IL.own h3 (by omega) (by omega)]
    rfl
theorem own_il : ∀ {x : List Int} {m : Int}, Dec (x ++ [m]) → IL (x ++ [m]) (x ++ [0])
  | [], m, h => ⟨0, [], rfl, Int.le_refl _, h.1, rfl⟩
  | a :: x, m, h => ⟨a, x ++ [0], rfl, h.1, Int.le_refl _, own_il h.2⟩
theorem own_dec : ∀ {x : List Int} {m : Int}, Dec (x ++ [m]) → Dec x
  | [], _, _ => trivial
  | a :: x, m, h => by
    refine ⟨?_, own_dec h.2⟩
    cases x with
    | nil => exact Dec.hd0 (l := [a] ++ [m]) h
    | cons b y => exact h.1
theorem Kr_own : ∀ {c : List Int}, Dec c.reverse → Kr c c.reverse = 1
  | [], _ => rfl
  | m :: c, h => by
    rw [List.reverse_cons] at h ⊢
    show (W (c.reverse ++ [m]) fun s => if s.sum = (c.reverse ++ [m]).sum - m then Kr c s else 0) = 1
    have es : (c.reverse ++ [m]).sum - m = c.reverse.sum := by
      rw [List.sum_append_int, List.sum_cons, List.sum_nil]
      omega
    rw [es, W_single (own_il h) fun s hs hne => ?_, if_pos (sum_zero _), Kr_append, Kr_own (own_dec h)]
    by_cases e : s.sum = c.reverse.sum
    · rw [if_pos e]
      apply Classical.byContradiction
      intro q
      obtain ⟨_, h2⟩ := Kr_dom (hs.dec h) q
      have h3 := h2 c.reverse.length
      rw [List.take_length] at h3
      exact hne (hs.own h3 e)
    · rw [if_neg e]

/-! ### a unit moved -/
def chg : Nat → Int → List Int → List Int
  | _, _, [] => []
  | 0, d, a :: l => (a + d) :: l
  | i + 1, d, a :: l => a :: chg i d l
theorem chg_one : ∀ {l : List Int} {i : Nat} {x : Int}, l[i]? = some x → ∃ rest, l.Perm (x :: rest) ∧ ∀ d, (chg i d l).Perm ((x + d) :: rest)
  | [], i, x, h => by simp at h
  | a :: l, 0, x, h => by
    have h : a = x := by simpa using h
    subst h
    exact ⟨l, .refl _, fun d => .refl _⟩
  | a :: l, i + 1, x, h => by
    obtain ⟨rest, h1, h2⟩ := chg_one (l := l) (i := i) (x := x) (by simpa using h)
    exact ⟨a :: rest, (h1.cons a).trans (.swap _ _ _), fun d => ((h2 d).cons a).trans (.swap _ _ _)⟩
theorem chg_two : ∀ {l : List Int} {i j : Nat} {x y : Int}, i ≠ j → l[i]? = some x → l[j]? = some y → ∃ rest, l.Perm (x :: y :: rest) ∧ ∀ d e, (chg j e (chg i d l)).Perm ((x + d) :: (y + e) :: rest)
  | [], i, j, x, y, _, h, _ => by simp at h
  | a :: l, 0, 0, x, y, hne, _, _ => absurd rfl hne
  | a :: l, 0, j + 1, x, y, _, hx, hy => by
    have hx : a = x := by simpa using hx
    subst hx
    obtain ⟨rest, h1, h2⟩ := chg_one (l := l) (i := j) (x := y) (by simpa using hy)
    exact ⟨rest, h1.cons a, fun d e => (h2 e).cons (a + d)⟩
  | a :: l, i + 1, 0, x, y, _, hx, hy => by
    have hy : a = y := by simpa using hy
    subst hy
    obtain ⟨rest, h1, h2⟩ := chg_one (l := l) (i := i) (x := x) (by simpa using hx)
    exact ⟨rest, (h1.cons a).trans (.swap _ _ _), fun d e => ((h2 d).cons (a + e)).trans (.swap _ _ _)⟩
  | a :: l, i + 1, j + 1, x, y, hne, hx, hy => by
    obtain ⟨rest, h1, h2⟩ := chg_two (l := l) (i := i) (j := j) (x := x) (y := y) (fun q => hne (by rw [q])) (by simpa using hx) (by simpa using hy)
    have mv : ∀ u v : Int, (a :: u :: v :: rest).Perm (u :: v :: a :: rest) := fun u v => (List.Perm.swap u a _).trans ((List.Perm.swap v a _).cons u)
    exact ⟨a :: rest, (h1.cons a).trans (mv x y), fun d e => ((h2 d e).cons a).trans (mv _ _)⟩
/-- the row behind a move, entry by entry -/
def mvd (c : List Int) (i j : Int) : List Int := c.mapIdx fun k e => e - (if (k : Int) = i then 1 else 0) + (if (k : Int) = j then 1 else 0)
theorem chg_map : ∀ {l : List Int} {i : Nat} {d : Int}, chg i d l = l.mapIdx fun k e => e + if k = i then d else 0
  | [], i, d => by cases i <;> rfl
  | a :: l, 0, d => by
    rw [List.mapIdx_cons, if_pos rfl]
    show (a + d) :: l = _
    congr 1
    have : (l.mapIdx fun k e => e + if k + 1 = 0 then d else 0) = l.mapIdx fun k e => e := by
      congr 1
      funext k e
      rw [if_neg (by omega), Int.add_zero]
    rw [this]
    apply List.ext_getElem
    · simp
    · intro n h1 h2
      simp
  | a :: l, i + 1, d => by
    rw [List.mapIdx_cons, if_neg (by omega), Int.add_zero]
    show a :: chg i d l = _
    rw [chg_map (l := l) (i := i)]
    congr 2
    funext k e
    by_cases c : k = i
    · rw [if_pos c, if_pos (by omega)]
    · rw [if_neg c, if_neg (by omega)]
theorem mvd_chg {c : List Int} {i j : Nat} : mvd c i j = chg j 1 (chg i (-1) c) := by
  rw [chg_map, chg_map, List.mapIdx_mapIdx]
  unfold mvd
  congr 1
  funext k e
  show e - _ + _ = e + _ + _
  by_cases c1 : k = i
  · by_cases c2 : k = j
    · rw [if_pos (by omega), if_pos (by omega), if_pos c1, if_pos c2]
      omega
    · rw [if_pos (by omega), if_neg (by omega), if_pos c1, if_neg c2]
      omega
  · by_cases c2 : k = j
    · rw [if_neg (by omega), if_pos (by omega), if_neg c1, if_pos c2]
      omega
    · rw [if_neg (by omega), if_neg (by omega), if_neg c1, if_neg c2]
      omega
theorem Kr_rev {c l : List Int} (hl : Dec l) : Kr c.reverse l = Kr c l := Kr_perm (List.reverse_perm c) hl
/-- made more even by a unit that is moved -/
theorem Kr_moved {c l : List Int} {i j : Nat} {x y : Int} (hl : Dec l) (hx : c[i]? = some x) (hy : c[j]? = some y) (hlt : y + 1 < x) : Kr c l ≤ Kr (mvd c i j) l := by
  have hne : i ≠ j := fun q => by
    rw [q, hy] at hx
    have := Option.some.inj hx
    omega
  obtain ⟨rest, h1, h2⟩ := chg_two hne hx hy
  rw [mvd_chg, Kr_perm h1 hl, Kr_perm (h2 (-1) 1) hl]
  exact Kr_even hl (by omega) (by omega)
theorem mvd_perm {c : List Int} {i j : Nat} {x y : Int} (hx : c[i]? = some x) (hy : c[j]? = some y) (hlt : y + 1 < x) : ∃ rest, c.Perm (x :: y :: rest) ∧ (mvd c i j).Perm ((x - 1) :: (y + 1) :: rest) := by
  have hne : i ≠ j := fun q => by
    rw [q, hy] at hx
    have := Option.some.inj hx
    omega
  obtain ⟨rest, h1, h2⟩ := chg_two hne hx hy
  refine ⟨rest, h1, ?_⟩
  rw [mvd_chg]
  exact h2 (-1) 1
end Kos

/-! Kos4: what the program's functions compute, as plain functions over lists of integers, and that it is the numbers of Kos2. Plain Lean, no program. -/
namespace Kos

/-! ### the shapes without a strip -/
/-- 0, 1, .., n - 1 -/
def rg (n : Int) : List Int := (List.range n.toNat).map fun i => ((i : Nat) : Int)
def pairsOf (found : List (List Int × Int)) (lots : List Int) : List (List Int × Int × Int) := found.flatMap fun p => (lots.filter fun x => decide (x ≤ p.2)).map fun x => (p.1, p.2, x)
def foundOf (row : Int) (pairs : List (List Int × Int × Int)) : List (List Int × Int) := pairs.map fun p => (p.1 ++ [row - p.2.2], p.2.1 - p.2.2)
def step (row least : Int) (found : List (List Int × Int)) : List (List Int × Int) := foundOf row (pairsOf found (rg (row - least + 1)))
def goS : List Int → List (List Int × Int) → List (List Int × Int)
  | [], f => f
  | r :: t, f => goS t (step r (hd t) f)
def ends (f : List (List Int × Int)) : List (List Int) := (f.filter fun p => decide (p.2 = 0)).map fun p => trim p.1
def strip (l : List Int) (m : Int) : List (List Int) := ends (goS l [([], m)])
/-- the same row by row, untrimmed -/
def raw : List Int → Int → List (List Int)
  | [], m => if m = 0 then [[]] else []
  | r :: t, m => (rg (r - hd t + 1)).flatMap fun x => if x ≤ m then (raw t (m - x)).map fun s => (r - x) :: s else []

theorem flatMap_filter {α β : Type} {p : α → Bool} {g : α → List β} : ∀ {l : List α}, (l.filter p).flatMap g = l.flatMap fun x => if p x = true then g x else []
  | [] => rfl
  | a :: l => by
    rw [List.flatMap_cons]
    cases h : p a with
    | true => rw [List.filter_cons_of_pos h, List.flatMap_cons, flatMap_filter, if_pos rfl]
    | false => rw [List.filter_cons_of_neg (by rw [h]; decide), flatMap_filter, if_neg (by decide), List.nil_append]
theorem goS_eq : ∀ {l : List Int} {f : List (List Int × Int)}, ends (goS l f) = f.flatMap fun p => (raw l p.2).map fun s => trim (p.1 ++ s)
  | [], [] => rfl
  | [], p :: f => by
    have ih := goS_eq (l := []) (f := f)
    show ends (p :: f) = _
    rw [List.flatMap_cons, ← ih]
    show ends (p :: f) = (if p.2 = 0 then [[]] else []).map _ ++ ends f
    unfold ends
    by_cases c : p.2 = 0
    · rw [List.filter_cons_of_pos (by simpa using c), if_pos c, List.map_cons, List.map_cons, List.append_nil]
      rfl
    · rw [List.filter_cons_of_neg (by simpa using c), if_neg c]
      rfl
  | r :: t, f => by
    show ends (goS t (step r (hd t) f)) = f.flatMap fun p => (raw (r :: t) p.2).map fun s => trim (p.1 ++ s)
    rw [goS_eq (l := t)]
    unfold step foundOf pairsOf
    rw [List.flatMap_map, List.flatMap_assoc]
    congr 1
    funext p
    rw [List.flatMap_map, flatMap_filter]
    show _ = ((rg (r - hd t + 1)).flatMap fun x => if x ≤ p.2 then (raw t (p.2 - x)).map fun s => (r - x) :: s else []).map fun s => trim (p.1 ++ s)
    rw [List.map_flatMap]
    congr 1
    funext x
    by_cases c : x ≤ p.2
    · rw [if_pos (by simpa using c), if_pos c, List.map_map]
      apply List.map_congr_left
      intro s _
      show trim (p.1 ++ [r - x] ++ s) = trim (p.1 ++ (r - x) :: s)
      rw [List.append_assoc]
      rfl
    · rw [if_neg (by simpa using c), if_neg c]
      rfl
theorem strip_raw (l : List Int) (m : Int) : strip l m = (raw l m).map trim := by
  unfold strip
  rw [goS_eq, List.flatMap_cons, List.flatMap_nil, List.append_nil]
  rfl

theorem sum_flatMap {α β : Type} {g : α → List β} {φ : β → Int} : ∀ {l : List α}, ((l.flatMap g).map φ).sum = (l.map fun x => ((g x).map φ).sum).sum
  | [] => rfl
  | a :: l => by rw [List.flatMap_cons, List.map_append, List.sum_append_int, sum_flatMap, List.map_cons, List.sum_cons]
theorem sum_rg {n : Int} {f : Int → Int} : ((rg n).map f).sum = isum 0 (n - 1) f := by
  unfold rg isum
  rw [List.map_map]
  have e : (n - 1 + 1 - 0).toNat = n.toNat := by omega
  rw [e]
  exact sum_map_congr fun i _ => by
    show f (i : Int) = f (0 + (i : Int))
    rw [Int.zero_add]
theorem raw_sum : ∀ {l : List Int} {m : Int} {φ : List Int → Int}, Dec l → ((raw l m).map φ).sum = W l fun s => if s.sum = l.sum - m then φ s else 0
  | [], m, φ, _ => by
    show ((if m = 0 then [[]] else [] : List (List Int)).map φ).sum = if (0 : Int) = 0 - m then φ [] else 0
    by_cases c : m = 0
    · rw [if_pos c, if_pos (by omega), List.map_cons, List.sum_cons]
      show φ [] + 0 = _
      omega
    · rw [if_neg c, if_neg (by omega)]
      rfl
  | r :: t, m, φ, h => by
    show (((rg (r - hd t + 1)).flatMap fun x => if x ≤ m then (raw t (m - x)).map fun s => (r - x) :: s else []).map φ).sum = isum (hd t) r fun v => W t fun s => if (v :: s).sum = (r :: t).sum - m then φ (v :: s) else 0
    rw [sum_flatMap, sum_rg, isum_flip r (f := fun v => W t fun s => if (v :: s).sum = (r :: t).sum - m then φ (v :: s) else 0) r]
    have e1 : r - hd t + 1 - 1 = r - hd t := by omega
    have e2 : r - r = 0 := by omega
    rw [e1, e2]
    refine isum_congr fun x hx _ => ?_
    by_cases c : x ≤ m
    · rw [if_pos c, List.map_map]
      show ((raw t (m - x)).map fun s => φ ((r - x) :: s)).sum = _
      rw [raw_sum (φ := fun s => φ ((r - x) :: s)) h.2]
      refine W_congr fun s _ => ?_
      rw [List.sum_cons, List.sum_cons]
      by_cases c2 : s.sum = t.sum - (m - x)
      · rw [if_pos c2, if_pos (by omega)]
      · rw [if_neg c2, if_neg (by omega)]
    · rw [if_neg c]
      refine (W_zero fun s hs => if_neg ?_).symm
      have := hs.sum_le
      rw [List.sum_cons, List.sum_cons]
      omega
theorem raw_mem : ∀ {l s : List Int} {m : Int}, s ∈ raw l m → IL l s ∧ s.sum = l.sum - m
  | [], s, m, h => by
    have h : s ∈ (if m = 0 then [[]] else [] : List (List Int)) := h
    by_cases c : m = 0
    · rw [if_pos c] at h
      have e : s = [] := by simpa using h
      subst e
      exact ⟨rfl, by rw [c]; rfl⟩
    · rw [if_neg c] at h
      cases h
  | r :: t, s, m, h => by
    have h : s ∈ (rg (r - hd t + 1)).flatMap fun x => if x ≤ m then (raw t (m - x)).map fun s => (r - x) :: s else [] := h
    obtain ⟨x, hx, h⟩ := List.mem_flatMap.mp h
    by_cases c : x ≤ m
    · rw [if_pos c] at h
      obtain ⟨s', hs, e⟩ := List.mem_map.mp h
      obtain ⟨h1, h2⟩ := raw_mem hs
      obtain ⟨i, hi, ei⟩ := List.mem_map.mp hx
      have := List.mem_range.mp hi
      subst e
      refine ⟨⟨_, _, rfl, by omega, by omega, h1⟩, ?_⟩
      rw [List.sum_cons, List.sum_cons]
      omega
    · rw [if_neg c] at h
      cases h
/-- THE STRIP's sum -/
theorem strip_sum {l : List Int} {m : Int} {c : List Int} (h : Dec l) : ((strip l m).map (Kr c)).sum = Kr (m :: c) l := by
  rw [strip_raw, List.map_map]
  show ((raw l m).map fun s => Kr c (trim s)).sum = _
  rw [raw_sum h]
  exact W_congr fun s hs => by rw [Kr_trim (hs.dec h)]

/-- a shape: falling, above 0, of at most ten cells -/
structure Shp (l : List Int) : Prop where
  dec : Dec l
  pos : ∀ x ∈ l, 0 < x
  few : l.sum ≤ 10
theorem strip_shp {l s : List Int} {m : Int} (h : Shp l) (hm : 0 ≤ m) (hs : s ∈ strip l m) : Shp s := by
  rw [strip_raw] at hs
  obtain ⟨s', h1, e⟩ := List.mem_map.mp hs
  obtain ⟨h2, h3⟩ := raw_mem h1
  subst e
  have d := h2.dec h.dec
  refine ⟨trim_dec d, trim_pos, ?_⟩
  rw [trim_sum d, h3]
  have := h.few
  omega
theorem len_le_sum : ∀ {l : List Int}, (∀ x ∈ l, 0 < x) → (l.length : Int) ≤ l.sum
  | [], _ => Int.le_refl _
  | a :: l, h => by
    have h1 := h a List.mem_cons_self
    have h2 := len_le_sum (l := l) fun x hx => h x (List.mem_cons_of_mem _ hx)
    rw [List.length_cons, List.sum_cons]
    omega
theorem Shp.len {l : List Int} (h : Shp l) : l.length ≤ 10 := by
  have := len_le_sum h.pos
  have := h.few
  omega
theorem mem_le_sum : ∀ {l : List Int}, (∀ x ∈ l, 0 < x) → ∀ x ∈ l, x ≤ l.sum
  | a :: l, h, x, hx => by
    have h1 := h a List.mem_cons_self
    have h2 := len_le_sum (l := l) fun x hx => h x (List.mem_cons_of_mem _ hx)
    rw [List.sum_cons]
    rcases List.mem_cons.mp hx with e | hx
    · omega
    · have := mem_le_sum (l := l) (fun x hx => h x (List.mem_cons_of_mem _ hx)) x hx
      omega
theorem Shp.le {l : List Int} (h : Shp l) : ∀ x ∈ l, 1 ≤ x ∧ x ≤ 10 := fun x hx => by
  have h1 := h.pos x hx
  have h2 := mem_le_sum h.pos x hx
  have h3 := h.few
  omega
theorem Shp.hd {l : List Int} (h : Shp l) : hd l ≤ 10 := by
  cases l with
  | nil => decide
  | cons a t => exact (h.le a List.mem_cons_self).2
/-- how many there are on the way -/
theorem flatMap_len {α β : Type} {g : α → List β} {n : Nat} : ∀ {l : List α}, (∀ x ∈ l, (g x).length ≤ n) → (l.flatMap g).length ≤ l.length * n
  | [], _ => by rw [List.flatMap_nil, List.length_nil]; omega
  | a :: l, h => by
    have h1 := h a List.mem_cons_self
    have h2 := flatMap_len (l := l) fun x hx => h x (List.mem_cons_of_mem _ hx)
    rw [List.flatMap_cons, List.length_append, List.length_cons, Nat.add_mul, Nat.one_mul]
    omega
theorem rg_length (n : Int) : (rg n).length = n.toNat := by
  unfold rg
  rw [List.length_map, List.length_range]
theorem pairsOf_len (f : List (List Int × Int)) (n : Int) : (pairsOf f (rg n)).length ≤ f.length * n.toNat := by
  unfold pairsOf
  refine flatMap_len fun p _ => ?_
  rw [List.length_map, ← rg_length n]
  exact List.length_filter_le _ _
theorem step_len (r h : Int) (f : List (List Int × Int)) : (step r h f).length = (pairsOf f (rg (r - h + 1))).length := by
  unfold step foundOf
  rw [List.length_map]
theorem lt_pow : ∀ n : Nat, n + 1 ≤ 2 ^ n
  | 0 => by decide
  | n + 1 => by
    have := lt_pow n
    rw [Nat.pow_succ]
    omega
/-- the bound on the way -/
def Few (r : Int) (f : List (List Int × Int)) : Prop := f.length * 2 ^ r.toNat ≤ 1024
theorem Few.pairs {r h : Int} {f : List (List Int × Int)} (hf : Few r f) (h0 : 0 ≤ h) (h1 : h ≤ r) : (pairsOf f (rg (r - h + 1))).length * 2 ^ h.toNat ≤ 1024 := by
  have a := pairsOf_len f (r - h + 1)
  have b := lt_pow (r - h).toNat
  have e : (r - h + 1).toNat = (r - h).toNat + 1 := by omega
  rw [e] at a
  have c : f.length * ((r - h).toNat + 1) ≤ f.length * 2 ^ (r - h).toNat := Nat.mul_le_mul_left _ b
  have d : f.length * 2 ^ (r - h).toNat * 2 ^ h.toNat = f.length * 2 ^ r.toNat := by
    rw [Nat.mul_assoc, ← Nat.pow_add]
    congr 2
    omega
  have g := Nat.mul_le_mul_right (2 ^ h.toNat) (Nat.le_trans a c)
  rw [d] at g
  exact Nat.le_trans g hf
theorem Few.next {r h : Int} {f : List (List Int × Int)} (hf : Few r f) (h0 : 0 ≤ h) (h1 : h ≤ r) : Few h (step r h f) := by
  unfold Few
  rw [step_len]
  exact hf.pairs h0 h1
theorem Few.len {r : Int} {f : List (List Int × Int)} (hf : Few r f) : f.length ≤ 1024 := by
  have : f.length * 1 ≤ f.length * 2 ^ r.toNat := Nat.mul_le_mul_left _ (Nat.pow_pos (by decide))
  have h : f.length * 2 ^ r.toNat ≤ 1024 := hf
  omega
theorem Few.plen {r h : Int} {f : List (List Int × Int)} (hf : Few r f) (h0 : 0 ≤ h) (h1 : h ≤ r) : (pairsOf f (rg (r - h + 1))).length ≤ 1024 := by
  have g := hf.pairs h0 h1
  have : (pairsOf f (rg (r - h + 1))).length * 1 ≤ (pairsOf f (rg (r - h + 1))).length * 2 ^ h.toNat := Nat.mul_le_mul_left _ (Nat.pow_pos (by decide))
  omega
theorem Few.start {l : List Int} {m : Int} (h : Shp l) : Few (hd l) [(([] : List Int), m)] := by
  unfold Few
  have := h.hd
  have e : 2 ^ (Kos.hd l).toNat ≤ 2 ^ 10 := Nat.pow_le_pow_right (by decide) (by omega)
  show 1 * 2 ^ (Kos.hd l).toNat ≤ 1024
  rw [Nat.one_mul]
  exact e

/-! ### all lists of few cells: a bound for the keys of a dict -/
def allF : Nat → Nat → List (List Int)
  | 0, _ => [[]]
  | f + 1, n => [] :: (List.range n).flatMap fun i => (allF f (n - 1 - i)).map fun s => ((i : Int) + 1) :: s
theorem allF_mem : ∀ {f n : Nat} {l : List Int}, (∀ x ∈ l, 0 < x) → l.sum ≤ n → l.length ≤ f → l ∈ allF f n
  | 0, n, l, _, _, hl => by
    have e : l = [] := List.length_eq_zero_iff.mp (by omega)
    subst e
    exact List.mem_cons_self
  | f + 1, n, [], _, _, _ => List.mem_cons_self
  | f + 1, n, a :: l, hp, hs, hl => by
    have h1 := hp a List.mem_cons_self
    have h2 := len_le_sum (l := l) fun x hx => hp x (List.mem_cons_of_mem _ hx)
    rw [List.sum_cons] at hs
    rw [List.length_cons] at hl
    refine List.mem_cons_of_mem _ (List.mem_flatMap.mpr ⟨(a - 1).toNat, List.mem_range.mpr (by omega), List.mem_map.mpr ⟨l, allF_mem (fun x hx => hp x (List.mem_cons_of_mem _ hx)) (by omega) (by omega), ?_⟩⟩)
    congr 1
    omega
theorem keys_few {ks : List (List Int)} (hn : ks.Nodup) (h : ∀ k ∈ ks, Shp k) : ks.length ≤ 1024 := by
  have h1 : ks.length ≤ (allF 10 10).length := hn.length_le_of_subset fun k hk => allF_mem (h k hk).pos (h k hk).few (h k hk).len
  have h2 : (allF 10 10).length = 1024 := by decide +kernel
  omega

/-! ### a dict from shapes to numbers -/
abbrev Dct := List (List Int × Int)
def dval : Dct → List Int → Option Int
  | [], _ => none
  | (a, x) :: r, k => if a = k then some x else dval r k
def dput : Dct → List Int → Int → Dct
  | [], k, c => [(k, c)]
  | (a, x) :: r, k, c => if a = k then (a, c) :: r else (a, x) :: dput r k c
/-- the sum of the numbers, weighed -/
def S (D : Dct) (φ : List Int → Int) : Int := (D.map fun p => p.2 * φ p.1).sum
theorem S_put {φ : List Int → Int} {k : List Int} {c : Int} : ∀ {D : Dct}, S (dput D k ((dval D k).getD 0 + c)) φ = S D φ + c * φ k
  | [] => by
    show (0 + c) * φ k + 0 = 0 + c * φ k
    rw [Int.zero_add, Int.zero_add, Int.add_zero]
  | (a, x) :: r => by
    have ih := S_put (φ := φ) (k := k) (c := c) (D := r)
    unfold dval dput
    by_cases e : a = k
    · subst e
      rw [if_pos rfl, if_pos rfl]
      show (x + c) * φ a + S r φ = x * φ a + S r φ + c * φ a
      rw [Int.add_mul]
      omega
    · rw [if_neg e, if_neg e]
      show x * φ a + S _ φ = x * φ a + S r φ + c * φ k
      rw [ih]
      omega
theorem dput_keys {k : List Int} {c : Int} : ∀ {D : Dct} {j : List Int}, j ∈ (dput D k c).map (·.1) → j = k ∨ j ∈ D.map (·.1)
  | [], j, h => by
    have : j = k := by simpa [dput] using h
    exact .inl this
  | (a, x) :: r, j, h => by
    unfold dput at h
    by_cases e : a = k
    · rw [if_pos e] at h
      exact .inr h
    · rw [if_neg e, List.map_cons] at h
      rcases List.mem_cons.mp h with q | q
      · exact .inr (by rw [q]; exact List.mem_cons_self)
      · rcases dput_keys q with q | q
        · exact .inl q
        · exact .inr (List.mem_cons_of_mem _ q)
theorem dput_nodup {k : List Int} {c : Int} : ∀ {D : Dct}, (D.map (·.1)).Nodup → ((dput D k c).map (·.1)).Nodup
  | [], _ => by simp [dput]
  | (a, x) :: r, h => by
    rw [List.map_cons, List.nodup_cons] at h
    unfold dput
    by_cases e : a = k
    · rw [if_pos e, List.map_cons, List.nodup_cons]
      exact h
    · rw [if_neg e, List.map_cons, List.nodup_cons]
      refine ⟨fun q => ?_, dput_nodup h.2⟩
      rcases dput_keys q with q | q
      · exact e q
      · exact h.1 q
theorem S_zero {φ : List Int → Int} {D : Dct} (h : ∀ k ∈ D.map (·.1), φ k = 0) : S D φ = 0 := by
  unfold S
  exact sum_map_zero fun p hp => by rw [h p.1 (List.mem_map_of_mem hp), Int.mul_zero]
theorem S_get {φ : List Int → Int} {k : List Int} (h1 : φ k = 1) : ∀ {D : Dct}, (D.map (·.1)).Nodup → (∀ j ∈ D.map (·.1), j ≠ k → φ j = 0) → S D φ = (dval D k).getD 0
  | [], _, _ => rfl
  | (a, x) :: r, hn, h => by
    rw [List.map_cons, List.nodup_cons] at hn
    unfold dval
    show x * φ a + S r φ = _
    by_cases e : a = k
    · rw [if_pos e]
      subst e
      rw [h1, S_zero fun j hj => h j (List.mem_cons_of_mem _ hj) fun q => hn.1 (by rw [← q]; exact hj)]
      show x * 1 + 0 = x
      omega
    · rw [if_neg e, h a List.mem_cons_self e, S_get h1 hn.2 fun j hj hne => h j (List.mem_cons_of_mem _ hj) hne]
      omega
theorem S_congr {φ ψ : List Int → Int} {D : Dct} (h : ∀ k ∈ D.map (·.1), φ k = ψ k) : S D φ = S D ψ := by
  unfold S
  exact sum_map_congr fun p hp => by rw [h p.1 (List.mem_map_of_mem hp)]
/-- at the end the number at () -/
theorem S_end {D : Dct} (hn : (D.map (·.1)).Nodup) (h : ∀ k ∈ D.map (·.1), Shp k) : S D (Kr []) = (dval D []).getD 0 := by
  refine S_get rfl hn fun j hj hne => ?_
  unfold Kr
  rw [if_neg]
  intro q
  cases j with
  | nil => exact hne rfl
  | cons a b =>
    rw [List.all_cons, Bool.and_eq_true] at q
    have e : a = 0 := by simpa using q.1
    have := (h _ hj).pos a List.mem_cons_self
    omega

/-! ### under -/
theorem Dec.pairwise : ∀ {l : List Int}, Dec l → l.Pairwise (· ≥ ·)
  | [], _ => .nil
  | r :: t, h => by
    refine List.pairwise_cons.mpr ⟨fun x hx => ?_, Dec.pairwise h.2⟩
    have : ∀ {t : List Int}, Dec t → ∀ x ∈ t, x ≤ Kos.hd t := by
      intro t
      induction t with
      | nil => intro _ x hx; cases hx
      | cons a b ih =>
        intro h x hx
        rcases List.mem_cons.mp hx with e | hx
        · rw [e]; exact Int.le_refl _
        · exact Int.le_trans (ih h.2 x hx) h.1
    exact Int.le_trans (this h.2 x hx) h.1
theorem dec_of : ∀ {l : List Int}, l.Pairwise (· ≥ ·) → (∀ x ∈ l, 0 ≤ x) → Dec l
  | [], _, _ => trivial
  | r :: t, h, hn => by
    refine ⟨?_, dec_of (List.pairwise_cons.mp h).2 fun x hx => hn x (List.mem_cons_of_mem _ hx)⟩
    cases t with
    | nil => exact hn r List.mem_cons_self
    | cons a b => exact (List.pairwise_cons.mp h).1 a List.mem_cons_self
theorem dec_zeros : ∀ {l : List Int} (n : Nat), Dec l → Dec (l ++ List.replicate n 0)
  | [], 0, _ => trivial
  | [], n + 1, h => by
    refine ⟨?_, dec_zeros (l := []) n h⟩
    cases n <;> exact Int.le_refl _
  | r :: t, n, h => by
    refine ⟨?_, dec_zeros n h.2⟩
    cases t with
    | nil =>
      cases n with
      | zero => exact h.1
      | succ n => exact h.1
    | cons a b => exact h.1
theorem Kr_zeros_front {c l : List Int} (hl : Dec l) : ∀ n : Nat, Kr (List.replicate n 0 ++ c) l = Kr c l
  | 0 => rfl
  | n + 1 => by
    rw [List.replicate_succ, List.cons_append, Kr_zero hl, Kr_zeros_front hl n]
theorem under_iff {c l F G : List Int} {n m lots : Nat} (hl : Shp l) (hc : ∀ x ∈ c, 0 ≤ x) (hF : F.Perm (c ++ List.replicate n 0)) (hG : G.Perm (l ++ List.replicate m 0)) (oF : F.Pairwise (· ≥ ·)) (oG : G.Pairwise (· ≥ ·))
    (lF : F.length ≤ lots) (lG : G.length ≤ lots) : 0 < Kr c l ↔ (F.sum = G.sum ∧ ∀ j, j < lots → (F.take j).sum ≤ (G.take j).sum) := by
  have dG : Dec (l ++ List.replicate m 0) := dec_zeros m hl.dec
  have eG : G = l ++ List.replicate m 0 := List.Perm.eq_of_pairwise (fun a b _ _ h1 h2 => Int.le_antisymm h2 h1) oG dG.pairwise hG
  have hk : Kr c l = Kr F.reverse G := by
    rw [eG, ← Kr_zeros (l := l) m, Kr_rev dG, Kr_perm hF dG, Kr_perm List.perm_append_comm dG, Kr_zeros_front dG]
  rw [← eG] at dG
  rw [hk]
  constructor
  · intro h
    obtain ⟨h1, h2⟩ := Kr_dom dG (show Kr F.reverse G ≠ 0 by omega)
    rw [List.sum_reverse] at h1
    refine ⟨h1.symm, fun j _ => ?_⟩
    have := h2 j
    rw [List.reverse_reverse] at this
    exact this
  · rintro ⟨h1, h2⟩
    refine Kr_pos dG (fun x hx => ?_) ?_ (by rw [List.sum_reverse]; exact h1.symm) fun j => ?_
    · have hx := hF.subset (List.mem_reverse.mp hx)
      rcases List.mem_append.mp hx with q | q
      · exact hc x q
      · rw [List.eq_of_mem_replicate q]
        exact Int.le_refl _
    · rw [List.pairwise_reverse]
      exact oF
    · rw [List.reverse_reverse]
      by_cases q : j < lots
      · exact h2 j q
      · rw [List.take_of_length_le (by omega), List.take_of_length_le (by omega), h1]
        exact Int.le_refl _
end Kos

/-! Rul1: steps that the layer lacks: sum of a tuple, a great power, a tuple turned about. -/
namespace KR
open PySem PySem.Spec PyProof.Rows L2

section
variable {X : Cx}
/-- sum(t), t a tuple of ints -/
theorem cr_sumT (hc : X.calm = true) : CallR X (.builtin "sum") (fun vs H Q => ∃ (a : Addr) (ns : List Int), vs = [V.ref a] ∧ SqT X.K H a (ns.map V.int) ∧ Q (.int ns.sum) H) := by
  intro pins s σ H vs us Q I r h
  obtain ⟨a, ns, rfl, hs, q⟩ := h
  obtain ⟨its, rv, ht, _⟩ := I.tuple hs
  rw [Vals.ref1 r]
  have hi : IntsAre its ns := rv.ints
  obtain ⟨xs, e⟩ := hi.allInts.items
  have hn : numsOf (intItems xs).toList = ns := by
    rw [← e]
    exact hi.numsOf
  rw [nums_intItems] at hn
  rw [e] at ht
  refine PySem.W.ktm_sumG (I.ok.hd hc) ht fun h' tk t' hk => ?_
  rw [preSum_eq, List.take_of_length_le (by simp), hn]
  exact ⟨.int _, H, I.kept hk, ⟨_, rfl⟩, q⟩

/-- a power of a great int -/
theorem op_powW : OpR X (binaryOp .Pow) (rI (fun i j => 0 ≤ j ∧ (Builtin.Int.intBits i : Int) * j ≤ 2 ^ 27) fun i j => .int (i ^ j.toNat)) :=
  opI fun _ _ _ _ _ _ _ hc q => pow_int hc.1 hc.2 q
end

/-! ### t[::-1] of a tuple -/
section
variable {prog : Program} {w : World} {A : Around} {E : Value → Shared → Prop} {s : Shared}
theorem adjust_rev (n : Nat) : Builtin.Slice.sliceAdjust none none (-1) (n : Int) = ((n : Int) - 1, -1) := by
  unfold Builtin.Slice.sliceAdjust
  simp
theorem places_rev (n : Nat) : Builtin.Slice.slicePlaces ((n : Int) - 1) (-1) (-1) = n := by
  unfold Builtin.Slice.slicePlaces
  have h1 : ¬ ((-1 : Int) > 0) := by omega
  simp only [h1, if_false]
  have e : (- (-1) : Int) = 1 := by omega
  rw [e]
  simp only [Int.ediv_one]
  split <;> omega
theorem sliceApplied_rev {sl : Addr} {vl vu vs : Value} {n : Nat} {Q : Int × Int × Nat → Shared → Prop} (hs : s.heap.IsSliceOf sl vl vu vs) (pl : IsPart vl none) (pu : IsPart vu none) (ps : IsPart vs (some (-1)))
    (h : Q ((n : Int) - 1, -1, n) s) : wpAny (model prog w) A (Builtin.Slice.sliceApplied (.ref sl) (pure (n : Int))) Q E s := by
  obtain ⟨os, hos, hcs, hds⟩ := id hs
  unfold Builtin.Slice.sliceApplied
  unfold Builtin.Slice.sliceFields
  refine wpAny_bind (wpAny_bind (wpAny_field hos hds (x := vl) rfl (wpAny_bind (wpAny_field hos hds (x := vu) rfl (wpAny_bind (wpAny_field hos hds (x := vs) rfl (wpAny_pure ?_)))))))
  refine wpAny_bind (HT.slicePart_ ps ?_)
  show wpAny _ _ (if ((-1 : Int) == 0) = true then _ else _) _ _ s
  rw [if_neg (by decide)]
  refine wpAny_bind (HT.slicePart_ pl (wpAny_bind (HT.slicePart_ pu (wpAny_bind (wpAny_pure ?_)))))
  show wpAny _ _ (match Builtin.Slice.sliceAdjust none none (-1) (n : Int) with | (lo, hi) => pure (lo, (-1 : Int), Builtin.Slice.slicePlaces lo hi (-1))) _ _ s
  rw [adjust_rev]
  show wpAny _ _ (pure ((n : Int) - 1, (-1 : Int), Builtin.Slice.slicePlaces ((n : Int) - 1) (-1) (-1))) _ _ s
  rw [places_rev]
  exact wpAny_pure h
theorem pick_rev (xs : Array Value) : ((List.range xs.size).filterMap fun (m : Nat) => xs[((xs.size : Int) - 1 + (m : Int) * (-1)).toNat]?).toArray = xs.toList.reverse.toArray := by
  congr 1
  have e : ((List.range xs.size).map fun k => xs.size - 1 - k).filterMap (xs[·]?) = (List.range xs.size).filterMap fun (m : Nat) => xs[((xs.size : Int) - 1 + (m : Int) * (-1)).toNat]? := by
    rw [List.filterMap_map]
    congr 1
    funext m
    show xs[xs.size - 1 - m]? = _
    have : ((xs.size : Int) - 1 + (m : Int) * (-1)).toNat = xs.size - 1 - m := by omega
    rw [this]
  rw [← e, PySem.W.krv_range, List.filterMap_reverse, PySem.W.krv_all]
theorem getItem_rev {t sl : Addr} {items : Array Value} {vl vu vs : Value} {Q : Value → Shared → Prop} (ht : IsTup s.heap t items) (hs : s.heap.IsSliceOf sl vl vu vs) (pl : IsPart vl none) (pu : IsPart vu none) (ps : IsPart vs (some (-1)))
    (h : Q (.ref s.heap.objs.size) { s with heap := s.heap.push { cls := .type "tuple", data := .seq items.toList.reverse.toArray } }) (hsz : items.size ≤ sizeLine) : wpAny (model prog w) A (getItem (.ref t) (.ref sl)) Q E s := by
  have hok : sizeOk (.seq items.toList.reverse.toArray) := by
    show items.toList.reverse.toArray.size ≤ sizeLine
    rw [List.size_toArray, List.length_reverse, Array.length_toList]
    exact hsz
  obtain ⟨os, hos, hcs, hds⟩ := id hs
  have hT : s.TypeIs (.ref sl) "slice" := ⟨os, hos, hcs⟩
  unfold getItem
  try with_reducible refine wpAny_holding ?_
  first | refine wpAny_bind (wpAny_pure ?_) | skip
  refine wpAny_bind (wpAny_sequenceKey ht.typeIs (by decide) ?_)
  refine wpAny_bind (wpAny_callSpecial?_slot (name := Str.ofString "__getitem__") ht.typeIs PyProof.Rows.slot_tuple_getitem (wpAny_call_entry PyProof.Rows.slot_tuple_getitem ht.typeIs entry_tuple_getitem ?_ (args_tuple_getitem _ _)))
  show wpAny _ _ (Builtin.Tuple.tupleItemsOf (.ref t) >>= _) _ _ s
  refine wpAny_bind (tupleItemsOf_ ht (wpAny_bind (wpAny_typeOf hT ?_)))
  rw [if_pos (by decide)]
  refine wpAny_bind (sliceApplied_rev hs pl pu ps ?_)
  have hno : ¬ (((items.size : Int) - 1 == 0 && (-1 : Int) == 1 && items.size == items.size) = true) := by
    intro q
    rw [Bool.and_eq_true, Bool.and_eq_true] at q
    exact absurd q.1.2 (by decide)
  show wpAny _ _ (if ((items.size : Int) - 1 == 0 && (-1 : Int) == 1 && items.size == items.size) = true then _ else _) _ _ s
  rw [if_neg hno, pick_rev]
  first
    | exact wpAny_bind (m := Builtin.Tuple.tupleExact _) (wpAny_newObj_type (wpAny_pure ⟨_, rfl, wpAny_pure h⟩) hok)
    | exact wpAny_bind (m := Builtin.Tuple.tupleExact _) (wpAny_newObj_type (wpAny_bind (wpAny_pure (wpAny_pure ⟨_, rfl, wpAny_pure h⟩))) hok)
    | exact wpAny_bind (wpAny_bind (m := Builtin.Tuple.tupleExact _) (wpAny_newObj_type (wpAny_pure (wpAny_pure ⟨_, rfl, wpAny_pure h⟩)) hok))
    | exact wpAny_bind (wpAny_bind (m := Builtin.Tuple.tupleExact _) (wpAny_newObj_type (wpAny_pure ⟨_, rfl, wpAny_pure h⟩) hok))
end
section
variable {X : Cx}
def tRevT (K : PySem.W.Frag) (te : TE) : TE := fun σ H Q => te σ H fun x H1 => ∃ a xs, x = .ref a ∧ SqT K H1 a xs ∧ ∀ p, H1 p = none → Q (.ref p) (upd H1 p (.tup xs.reverse))
theorem pe_revT {e : Expr} {te : TE} {k : Nat} {p1 p2 p3 pos : Pos} (he : PE X e te) : PE X (.Subscript e (.Slice none none (some (.UnaryOp .USub (.Constant (.int 1) k p1) p2)) p3) pos) (tRevT X.K te) := by
  refine ⟨fun pins s σ H Q I h => ?_⟩
  refine Subscript_ (thn (he.run pins s σ H _ I h) fun v s1 ⟨x, H1, I1, r1, a, xs, ex, hx, q⟩ => ?_)
  subst ex
  cases r1
  have hst : PO X (some (.UnaryOp .USub (.Constant (.int 1) k p1) p2)) (tPart (tUn (rU fun i => .int (-i)) (tC (.int 1)))) := po_some (pe_un un_neg pe_int)
  refine wpAny_Slice (thn (po_none.run pins s1 σ H1 (fun o H2 => o = none ∧ H2 = H1) I1 ⟨rfl, rfl⟩) fun vl s2 ⟨l, H2, I2, pl, el, e2⟩ => ?_)
  subst el e2
  refine thn (po_none.run pins s2 σ H2 (fun o H3 => o = none ∧ H3 = H2) I2 ⟨rfl, rfl⟩) fun vu s3 ⟨u, H3, I3, pu, eu, e3⟩ => ?_
  subst eu e3
  refine thn (hst.run pins s3 σ H3 (fun o H4 => o = some (-1) ∧ H4 = H3) I3 ⟨1, rfl, -1, rfl, rfl, rfl⟩) fun vs s4 ⟨o, H4, I4, ps, eo, e4⟩ => ?_
  subst eo e4
  have I5 : Inv X pins σ H4 { s4 with heap := s4.heap.push { cls := .type "slice", data := .fields #[vl, vu, vs] } } := I4.kept (t' := s4.toks) fun b ob q => Heap.get?_push_of_some _ q
  obtain ⟨its, r, ht, hz⟩ := I5.tuple hx
  have hlen := r.length
  show wpAny (model X.prog X.w) X.A (subscriptTail e (.Slice none none (some (.UnaryOp .USub (.Constant (.int 1) k p1) p2)) p3) (.ref a) (.ref s4.heap.objs.size)) (EP X pins σ Q) X.xe { s4 with heap := s4.heap.push { cls := .type "slice", data := .fields #[vl, vu, vs] } }
  refine tail_any (ops := [.ref a, .ref s4.heap.objs.size]) ht.typeIs (PyProof.Rows.slot_tuple_getitem.lookup) ?_ (by with_unfolding_all rfl)
  refine getItem_rev ht (Heap.IsSliceOf.new _ vl vu vs) pl pu ps ?_ (by rw [List.size_toArray]; omega)
  refine ⟨.ref _, _, I5.laid (t' := s4.toks) (o := .tup xs.reverse) (fun b ob q => Heap.get?_push_of_some _ q) (Nat.le_refl _) ?_, rfl, q _ (I5.hok.fresh (Nat.le_refl _))⟩
  exact ⟨by rw [List.length_reverse]; exact hz, its.reverse, r.reverse, _, Heap.get?_push_size _ rfl, rfl, 0, rfl⟩
end
end KR

/-! Rul2: steps that the layer lacks: enumerate of a tuple, d.items() of a dict with tuple keys, {t: v}. -/
namespace KR
open PySem PySem.Spec PyProof.Rows L2

/-! ### enumerate(t) of a tuple -/
theorem enum_newT (t : Addr) (items : Array Value) :
    Meets (Builtin.«enumerate.__new__» ⟨[.type "enumerate", .ref t], []⟩) (fun _ R s => s.heap.IsTuple t items ∧
      R (.ok (.ret (.ref (s.heap.push { cls := .type "tuple_iterator", data := .fields #[.ref t, .int 0 0] }).objs.size)))
        { s with heap := (s.heap.push { cls := .type "tuple_iterator", data := .fields #[.ref t, .int 0 0] }).push { cls := .type "enumerate", data := .fields #[.none, .bool false, .ref s.heap.objs.size, rawInt 0, .none, .none] } }) :=
  .of_wp fun prog w A R s h => by
    obtain ⟨hp, g, d, tk, os⟩ := s
    obtain ⟨ht, h⟩ := h
    have hsub := sub_enumerate
    have q1 : ∀ {A' : Around} {E : Value → Shared → Prop} {Q : Value → Shared → Prop}, Q (.ref hp.objs.size) ⟨hp.push { cls := .type "tuple_iterator", data := .fields #[.ref t, .int 0 0] }, g, d, tk, os⟩ → wpAny (model prog w) A' (pyIter (.ref t)) Q E ⟨hp, g, d, tk, os⟩ :=
      fun q => wpAny_pyIter_tuple ht q
    wp_walk using q1
    refine wpAny_stack_any fun st => wpAny_pure ?_
    split
    · rename_i c _ _ _ _ _
      cases (c == Value.type "enumerate")
      · wp_walk using q1
        exact ⟨_, rfl, h⟩
      · wp_walk using q1
        exact ⟨_, rfl, h⟩
    · wp_walk using q1
      exact ⟨_, rfl, h⟩
section
variable {prog : Program} {w : World} {A : Around} {E : Value → Shared → Prop} {s : Shared}
theorem call_enumT {t : Addr} {items : Array Value} {Q : Value → Shared → Prop} (ht : s.heap.IsTuple t items)
    (h : ∀ h', IsEnum h' (s.heap.objs.size + 1) s.heap.objs.size 0 .none → h'.IsTupleIter s.heap.objs.size t 0 → h'.objs.size = s.heap.objs.size + 2 →
      (∀ b o, s.heap.get? b = some o → h'.get? b = some o) → Q (.ref (s.heap.objs.size + 1)) { s with heap := h' }) :
    wpAny (model prog w) A (call (.type "enumerate") [.ref t]) Q E s := by
  refine callType_new F.called_enumerate (by decide) (F.typeCall_enumerate_1 _) (F.newCall_enumerate_1 _) (fun obj => F.args_object_init_2 obj _) F.entry_enumerate_new (enum_newT t items) ⟨ht, ?_⟩
  have hz : (s.heap.push { cls := .type "tuple_iterator", data := .fields #[.ref t, .int 0 0] }).objs.size = s.heap.objs.size + 1 := Heap.size_push ..
  show _ ∧ _
  rw [hz]
  have he : IsEnum ((s.heap.push { cls := .type "tuple_iterator", data := .fields #[.ref t, .int 0 0] }).push { cls := .type "enumerate", data := .fields #[.none, .bool false, .ref s.heap.objs.size, rawInt 0, .none, .none] }) (s.heap.objs.size + 1) s.heap.objs.size 0 .none := by
    have q := Heap.get?_push_size (s.heap.push { cls := .type "tuple_iterator", data := .fields #[.ref t, .int 0 0] }) (o := { cls := .type "enumerate", data := .fields #[.none, .bool false, .ref s.heap.objs.size, rawInt 0, .none, .none] }) rfl
    rw [hz] at q
    exact q
  refine ⟨⟨_, he, rfl⟩, h _ he ⟨_, Heap.get?_push_of_some _ (Heap.get?_push_size _ rfl), rfl, rfl⟩ (by rw [Heap.size_push, hz]) fun b o x => Heap.get?_push_of_some _ (Heap.get?_push_of_some _ x)⟩
end
/-- the tuple at a, each item in a new pair behind its place -/
def ItEn (K : PySem.W.Frag) (a : Addr) : It :=
  ⟨fun i H => ∃ (xs : List V) (x : V), SqT K H a xs ∧ xs[i]? = some x, fun i H v H' => ∃ T x, v = .ref T ∧ H T = none ∧ H' = upd H T (.tup [.int (i : Nat), x]) ∧ ∀ xs, SqT K H a xs → xs[i]? = some x, fun i H => ∃ xs : List V, SqT K H a xs ∧ xs.length = i⟩
theorem turn_enT {P : Program} {w : World} {K : PySem.W.Frag} {elts : List Expr} {kk : Nat} {tpos : Pos} (a e it : Addr) (hae : a ≠ e) (hai : a ≠ it) :
    Turn P w K (.Tuple elts kk tpos) (ItEn K a) [e, it] e (fun i h => (∃ old, IsEnum h e it ((i : Nat) : Int) old) ∧ h.IsTupleIter it a i ∧ e ≠ it) where
  mem := by simp
  obj := fun i h st b hb => by
    obtain ⟨⟨old, he⟩, ⟨o, ho, hc, hd⟩, _⟩ := st
    have e' : b = e ∨ b = it := by simpa using hb
    rcases e' with z | z
    · rw [z]
      exact ⟨_, he, fun v q => nomatch q⟩
    · rw [z]
      exact ⟨o, ho, fun v q => by rw [hd] at q; cases q⟩
  keep := fun i h h' st k => let ⟨⟨old, he⟩, hi, hne⟩ := st; ⟨⟨old, k e (by simp) _ he⟩, hi.at fun o q => k it (by simp) o q, hne⟩
  item := by
    intro X hP hw hK hc i pins s σ H E I hf st hg
    subst hP hw hK
    obtain ⟨⟨old, he⟩, hit, hne⟩ := st
    obtain ⟨xs, x, hq, hx⟩ := hg
    obtain ⟨its, rv, p, hz⟩ := I.tuple hq
    obtain ⟨u, hu, ru⟩ := rv.get hx
    have hel : e < s.heap.objs.size := Heap.lt_size he
    have hil : it < s.heap.objs.size := by
      obtain ⟨_, q, _⟩ := hit
      exact Heap.lt_size q
    have hlt : i < its.toArray.size := by
      rw [List.size_toArray]
      exact (List.getElem?_eq_some_iff.mp hu).1
    have D := Draws.tuple (prog := X.prog) (w := X.w) (A := X.A.in1) (I.ok.hd hc) it a hai its.toArray
    refine wpAny_pyNext_enum_itemD D he ⟨hit, p⟩ hlt hne (by simp [hne, Ne.symm hae]) fun u' h' tk hP ho st' hT hsz hk => ?_
    have eu : u' = u := by
      have h1 : its.toArray[i]? = some u' := hP
      have h2 : its.toArray[i]? = some u := by simpa using hu
      exact Option.some.inj (h1.symm.trans h2)
    subst eu
    refine ⟨_, rfl, wpAny_letOwnedTupleGo_enum (s := { s with heap := h', toks := tk + 1 }) ho fun h'' he' sb => ?_⟩
    have hT2 : h''.get? s.heap.objs.size = some { cls := .type "tuple", data := .seq #[.int i tk, u'] } := (sb.2 _ (Nat.ne_of_gt hel)).trans hT
    have new : ObjOk X.prog X.w (upd H s.heap.objs.size (.tup [.int (i : Nat), x])) h'' s.heap.objs.size (.tup [.int (i : Nat), x]) :=
      ⟨by show 2 ≤ sizeLine; decide, [.int i tk, u'], .cons ⟨_, rfl⟩ (.cons ru .nil), ⟨_, hT2, rfl, _, rfl⟩⟩
    have I1 : Inv X pins σ (upd H s.heap.objs.size (.tup [.int (i : Nat), x])) { s with heap := h'', toks := tk + 1 } :=
      I.turnedNew (ch := [e, it]) (fun b ob hb q => (sb.2 b (fun z => hb (by simp [z]))).trans (hk b ob (fun z => hb (by simp [z])) (fun z => hb (by simp [z])) q)) hf (Nat.le_refl _) new
    refine ⟨.ref s.heap.objs.size, _, I1, rfl, ⟨_, x, rfl, I.hok.fresh (Nat.le_refl _), rfl, fun ys hy => by rw [I.tuple_inj hy hq]; exact hx⟩, ⟨⟨u', ?_⟩, st'.1.at fun o q => (sb.2 it (Ne.symm hne)).trans q, hne⟩, fun b hb => ?_⟩
    · have e1 : ((i + 1 : Nat) : Int) = (i : Int) + 1 := by omega
      rw [e1]
      exact he'
    · have hb' : b < s.heap.objs.size := by
        have e' : b = e ∨ b = it := by simpa using hb
        rcases e' with z | z
        · rw [z]; exact hel
        · rw [z]; exact hil
      rw [upd_ne (Nat.ne_of_lt hb')]
      exact (hf b hb).1
  done := by
    intro X hP hw hK hc i pins s σ H E I hf st hg
    subst hP hw hK
    obtain ⟨⟨old, he⟩, hit, hne⟩ := st
    obtain ⟨xs, hq, hx⟩ := hg
    obtain ⟨its, rv, p, hz⟩ := I.tuple hq
    obtain ⟨f0, f1, f2, f3, f4, f5⟩ := hf it (by simp)
    have hn : its.toArray.size = i := by
      rw [List.size_toArray, ← rv.length]
      exact hx
    have D := Draws.tuple (prog := X.prog) (w := X.w) (A := X.A.in1) (I.ok.hd hc) it a hai its.toArray
    rw [hn] at D
    exact wpAny_pyNext_enum_endD D he ⟨hit, p⟩ fun h' eb => ⟨rfl, I.turned (t' := s.toks) (fun b o hb q => eb b o hb q) f0 f1 f3 f4 f5⟩
  self := fun A i s Q E st h => let ⟨⟨_, he⟩, _⟩ := st; wpAny_pyIter_enum he h
def iEnT (K : PySem.W.Frag) (ta : TA) : TI := fun σ H R => ta σ H fun vs H1 => ∃ a xs, vs = [.ref a] ∧ SqT K H1 a xs ∧ R (ItEn K a) H1
theorem pi_enT {X : Cx} {e : Expr} {ta : TA} {p pos tpos : Pos} {elts : List Expr} {kk : Nat} (hg : Gl X "enumerate") (hm : X.mg "enumerate" = none) (ha : PA X [e] ta) (hs : starEach [e] X.env = [(false, eval e X.env)] := by rfl) :
    PI X (.Tuple elts kk tpos) (.Call (.Name "enumerate" p) [e] [] pos) (iEnT X.K ta) := by
  refine ⟨fun pins s σ H R I h => ?_⟩
  refine Call_ (ld_blt I hg hm boot_enumerate (PyProof.Rows.callWith_type1 (thn (ha.run pos pins s σ H _ I h) fun us s1 ⟨vs, H1, I1, r1, a, xs, ex, hq, q⟩ => ?_) hs rfl))
  subst ex
  rw [Vals.ref1 r1]
  obtain ⟨its, rv, p', hz⟩ := I1.tuple hq
  have hal : a < s1.heap.objs.size := by
    obtain ⟨_, q, _⟩ := p'
    exact Heap.lt_size q
  refine call_enumT p' fun h' he hit hsz hk => wpAny_pyIter_enum he ?_
  have I2 : Inv X pins σ H1 { s1 with heap := h' } := I1.kept (t' := s1.toks) hk
  refine ⟨s1.heap.objs.size + 1, [s1.heap.objs.size + 1, s1.heap.objs.size], _, _, H1, rfl, I2, turn_enT a (s1.heap.objs.size + 1) s1.heap.objs.size (Nat.ne_of_lt (Nat.lt_succ_of_lt hal)) (Nat.ne_of_lt hal), ⟨⟨.none, he⟩, hit, Nat.succ_ne_self _⟩, fun b hb => ?_, q⟩
  have e' : b = s1.heap.objs.size + 1 ∨ b = s1.heap.objs.size := by simpa using hb
  have hle : s1.heap.objs.size ≤ b := by
    rcases e' with z | z
    · rw [z]
      exact Nat.le_succ _
    · rw [z]
      exact Nat.le_refl _
  exact I1.fpOk hle (I1.hok.fresh hle)
theorem walk_enT {K : PySem.W.Frag} {a : Addr} {xs : List V} : Walk (ItEn K a) xs.length (fun H => SqT K H a xs) (YPair (fun i => some (.int (i : Nat))) (fun i => xs[i]?)) := by
  refine ⟨fun i _ hi q => ⟨xs, xs[i], q, by simp [hi]⟩, fun _ q => ⟨xs, q, rfl⟩, fun i H v H' _ q y => ?_⟩
  obtain ⟨T, x, h1, h2, h3, h4⟩ := y
  exact ⟨T, .int (i : Nat), x, h1, h2, h3, rfl, h4 xs q⟩

/-! ### for k, v in d.items(), the keys tuples -/
theorem frzIt {X : Cx} {pins : List (Addr × Obj)} {σ : L2.St} {H : Hp} {s : Shared} {d : Addr} {o : Obj} {kvs : List (List Key × V)} (I : Inv X pins σ H s) (h : H d = some (.frz o (.dT kvs))) :
    (d == sysModules) = false ∧ s.heap.get? d = some o ∧ o.ExactDict ∧ ∃ (es : Array DictEntry) (ep : Nat), o.data = .dict es ep ∧ es.size = kvs.length ∧
      ∀ (i : Nat) (k : List Key) (v : V), kvs[i]? = some (k, v) → ∃ (en : DictEntry) (q : Addr), es[i]? = some en ∧ en.key = .ref q ∧ H q = some (.tup (k.map kV)) ∧ RelV v en.val := by
  obtain ⟨hd, z, hs, xs, pr, o', es, ep, ho, hx, hdt, he, _⟩ := I.hok d _ h
  rw [hd] at ho
  cases ho
  refine ⟨hs, hd, hx, es, ep, hdt, ?_, fun i k v e => ?_⟩
  · rw [size_of_entries he]
    exact (Paired.length pr).symm
  · obtain ⟨b, hb, e1, e2, e3⟩ := paired_get pr e
    have q := entry_at he i
    rw [hb] at q
    exact ⟨_, b.2.1, q, rfl, e2, e3⟩
/-- the pairs of the locked dict at d, each a new tuple of the key's own tuple and the value -/
def ItD (d : Addr) (o : Obj) (kvs : List (List Key × V)) : It :=
  ⟨fun i H => H d = some (.frz o (.dT kvs)) ∧ i < kvs.length,
    fun i H x H' => ∃ (T q : Addr) (k : List Key) (v : V), kvs[i]? = some (k, v) ∧ x = .ref T ∧ H T = none ∧ H q = some (.tup (k.map kV)) ∧ H' = upd H T (.tup [.ref q, v]),
    fun i H => H d = some (.frz o (.dT kvs)) ∧ kvs.length ≤ i⟩
theorem turn_D {P : Program} {w : World} {K : PySem.W.Frag} {d : Addr} {o : Obj} {es : Array DictEntry} {ep : Nat} {kvs : List (List Key × V)} {elts : List Expr} {kk : Nat} {tpos : Pos} (it : Addr) (hod : o.data = .dict es ep) :
    Turn P w K (.Tuple elts kk tpos) (ItD d o kvs) [it] it (fun i h => ∃ ok ov, IsItemIter h it d i kvs.length ep ok ov) where
  mem := by simp
  obj := fun i h st b hb => by
    have e : b = it := by simpa using hb
    subst e
    obtain ⟨ok, ov, e⟩ := st
    exact ⟨_, e, fun v z => nomatch z⟩
  keep := fun i h h' st k => let ⟨ok, ov, e⟩ := st; ⟨ok, ov, k it (by simp) _ e⟩
  item := by
    intro X hP hw hK hc i pins s σ H E I hf st hg
    subst hP hw hK
    obtain ⟨hd, hi⟩ := hg
    obtain ⟨hs, hgd, hx, es', ep', hdt, hsz, ent⟩ := frzIt I hd
    obtain ⟨rfl, rfl⟩ := dict_ep hod hdt
    obtain ⟨⟨k, v⟩, hkv⟩ : ∃ p, kvs[i]? = some p := ⟨kvs[i], List.getElem?_eq_getElem hi⟩
    obtain ⟨en, q, hen, hkey, hq, rv⟩ := ent i k v hkv
    obtain ⟨ok, ov, he⟩ := st
    rw [← hsz] at he
    have hlt : it < s.heap.objs.size := Heap.lt_size he
    have hi' : i < es'.size := by omega
    have hen' : es'[i] = en := by
      rw [Array.getElem?_eq_getElem hi'] at hen
      exact Option.some.inj hen
    refine DT.nextI he ⟨o, hgd, hx, hdt⟩ hi' fun h' ho hT hz hk => ?_
    rw [hen', hkey] at ho hT
    refine ⟨_, rfl, wpAny_letOwnedTupleGo_items (s := { s with heap := h' }) ho fun h'' he' sb => ?_⟩
    have hT2 : h''.get? s.heap.objs.size = some { cls := .type "tuple", data := .seq #[.ref q, en.val] } := (sb.2 _ (Nat.ne_of_gt hlt)).trans hT
    have new : ObjOk X.prog X.w (upd H s.heap.objs.size (.tup [.ref q, v])) h'' s.heap.objs.size (.tup [.ref q, v]) :=
      ⟨by show 2 ≤ sizeLine; decide, [.ref q, en.val], .cons rfl (.cons rv .nil), ⟨_, hT2, rfl, _, rfl⟩⟩
    have I1 : Inv X pins σ (upd H s.heap.objs.size (.tup [.ref q, v])) { s with heap := h'' } :=
      I.turnedNew (t' := s.toks) (ch := [it]) (fun b ob hb e => (sb.2 b (by simpa using hb)).trans (hk b ob (by simpa using hb) e)) hf (Nat.le_refl _) new
    refine ⟨.ref s.heap.objs.size, _, I1, rfl, ⟨_, q, k, v, hkv, rfl, I.hok.fresh (Nat.le_refl _), hq, rfl⟩, ⟨.ref q, en.val, ?_⟩, fun b hb => ?_⟩
    · rw [← hsz]
      exact he'
    · have e : b = it := by simpa using hb
      rw [e, upd_ne (Nat.ne_of_lt hlt)]
      exact (hf it (by simp)).1
  done := by
    intro X hP hw hK hc i pins s σ H E I hf st hg
    subst hP hw hK
    obtain ⟨hd, hi⟩ := hg
    obtain ⟨f0, f1, f2, f3, f4, f5⟩ := hf it (by simp)
    obtain ⟨hs, hgd, hx, es', ep', hdt, hsz, ent⟩ := frzIt I hd
    obtain ⟨rfl, rfl⟩ := dict_ep hod hdt
    obtain ⟨ok, ov, he⟩ := st
    rw [← hsz] at he
    exact DT.endI (I.ok.hd hc) he ⟨o, hgd, hx, hdt⟩ (by omega) fun h' eb => ⟨rfl, I.turned (t' := s.toks) (fun b ob hb e => eb b ob hb e) f0 f1 f3 f4 f5⟩
  self := fun A i s Q E st h => let ⟨_, _, e⟩ := st; PySem.W.kcp_self e h
def iItD (td : TE) : TI := fun σ H R => td σ H fun x H1 => ∃ d o kvs, x = .ref d ∧ H1 d = some (.frz o (.dT kvs)) ∧ R (ItD d o kvs) H1
theorem pi_itD {X : Cx} {e : Expr} {td : TE} {apos cpos : Pos} {elts : List Expr} {kk : Nat} {tpos : Pos} (he : PE X e td) (hbase : attributeBase e "items" X.env (eval e X.env) = eval e X.env := by rfl) (hline : (apos.endLine == cpos.line) = true := by rfl) :
    PI X (.Tuple elts kk tpos) (.Call (.Attribute e "items" apos) [] [] cpos) (iItD td) := by
  refine ⟨fun pins s σ H R I h => ?_⟩
  refine wpAny_Call_method (T := "dict") (id := "dict.items") hbase rfl hline F.plainAttrs_dict F.slot_dict_items F.type_dict_items (thn (he.run pins s σ H _ I h) fun u s1 ⟨x, H1, I1, rx, d, o, kvs, ex, hd, q⟩ => ?_)
  subst ex
  obtain rfl : u = Value.ref d := rx
  obtain ⟨hs, hgd, hx, es, ep, hdt, hsz, ent⟩ := frzIt I1 hd
  have rw1 : DT.Raw s1.heap d es ep := ⟨o, hgd, hx, hdt⟩
  refine ⟨rw1.typeIs, fun b eb => ?_, ?_⟩
  · cases eb
    exact ⟨o, hgd, hx.2.1⟩
  have I2 : Inv X pins σ H1 { s1 with heap := s1.heap.push { cls := .type "dict_items", data := .fields #[.ref d] } } := I1.kept (t' := s1.toks) fun b ob q => Heap.get?_push_of_some _ q
  have fin : wpAny (model X.prog X.w) X.A (pyIter (.ref s1.heap.objs.size)) (PIE X pins σ (.Tuple elts kk tpos) R) X.xe { s1 with heap := s1.heap.push { cls := .type "dict_items", data := .fields #[.ref d] } } := by
    refine DT.iterI (d := d) (es := es) (ep := ep) ⟨_, Heap.get?_push_size _ rfl, rfl, rfl⟩ (rw1.push _) (pi_one (tk := s1.toks) I2 _ (turn_D _ hdt) ⟨.none, .none, ?_⟩ q)
    rw [← hsz]
    exact Heap.get?_push_size _ rfl
  show wpAny _ _ (callWith cpos (.builtin "dict.items") [.ref d] [] []) _ X.xe s1
  exact method_meetsIn F.slot_dict_items F.entry_dict_items rfl (PySem.evalArgs_none ⟨rfl, rw1.typeIs, F.args_dict_items_1 _, _, DT.meetsItems (es := es) (ep := ep) hs, rw1, fin⟩)
theorem walk_D {d : Addr} {o : Obj} {kvs : List (List Key × V)} : Walk (ItD d o kvs) kvs.length (fun H => H d = some (.frz o (.dT kvs)))
    (fun i H x H' => ∃ (T q : Addr) (k : List Key) (v : V), kvs[i]? = some (k, v) ∧ x = .ref T ∧ H T = none ∧ H q = some (.tup (k.map kV)) ∧ H' = upd H T (.tup [.ref q, v])) :=
  ⟨fun _ _ hi q => ⟨q, hi⟩, fun _ q => ⟨q, Nat.le_refl _⟩, fun _ _ _ _ _ _ y => y⟩

/-! ### {t: v}, the key a tuple -/
def tDisp1 (tk tv : TE) : TE := fun σ H Q => ∀ p, H p = none → tk σ (upd H p (.dT [])) fun x H1 => tv σ H1 fun y H2 => ∃ b k, x = .ref b ∧ H2 b = some (.tup (k.map kV)) ∧ H2 p = some (.dT []) ∧ Q (.ref p) (upd H2 p (.dT [(k, y)]))
theorem pe_disp1 {X : Cx} {pos : Pos} {k v : Expr} {tk tv : TE} (hu : X.A.units + 1 < cLine) (hk : PE X k tk) (hv : PE X v tv) : PE X (.Dict [some k] [v] pos) (tDisp1 tk tv) := by
  refine ⟨fun pins s σ H Q I q => ?_⟩
  have hn := I.hok.fresh (Nat.le_refl s.heap.objs.size)
  have I1 := I.laid (a := s.heap.objs.size) (o := .dT []) (h' := s.heap.push { cls := .type "dict", data := .dict #[] }) (t' := s.toks) (fun _ _ q => Heap.get?_push_of_some _ q) (Nat.le_refl _) (dt_empty s.heap I.big)
  have hp : PPs X pos [some k] [v] [(tk, tv)] := pps_cons hk hv pps_nil
  let Q' : List (V × V) → Hp → Prop := fun ps H2 => match ps with
    | [(x, y)] => ∃ b k, x = .ref b ∧ H2 b = some (.tup (k.map kV)) ∧ H2 s.heap.objs.size = some (.dT []) ∧ Q (.ref s.heap.objs.size) (upd H2 s.heap.objs.size (.dT [(k, y)]))
    | _ => False
  refine wpAny_Dict_any rfl rfl (by simp) (by show 1 ≤ 15; decide) (thn (hp.run pins _ σ _ Q' I1 (q _ hn)) fun ws s2 ⟨ps, H2, I2, rel, hps⟩ => ?_)
  match ps, rel, hps with
  | [(x, y)], rel, ⟨b, k, e2, eb, ep, q2⟩ =>
    subst e2
    obtain ⟨u1, u2, rfl, r1, r2⟩ : ∃ u1 u2, ws = [(u1, u2)] ∧ RelV (.ref b) u1 ∧ RelV y u2 := by
      cases rel with
      | cons a t =>
        cases t
        exact ⟨_, _, rfl, a.1, a.2⟩
    obtain rfl : u1 = Value.ref b := r1
    obtain ⟨z, hd, xs, rel', dd⟩ := dt_of I2.hok ep
    cases rel'
    unfold storeAll
    rw [List.forIn_cons]
    refine wpAny_bind (wpAny_bind (wpAny_dictSet_heap (hsz := Nat.zero_le _) (knd := tupleKind (mixKind X.prog X.w)) (show X.A.units < cLine by omega) (key_of I2.hok eb) dd fun h' dd' hs => wpAny_pure ?_))
    show wpAny _ _ (forIn [] PUnit.unit _) _ _ _
    rw [List.forIn_nil]
    refine wpAny_pure ⟨.ref s.heap.objs.size, _, ?_, rfl, q2⟩
    obtain ⟨o, es, ep', ho, h2, h3, h4, _, h5⟩ := dd'
    refine d_write I2 (by rw [ep]; exact True.intro) hs ⟨o, ho⟩ ⟨by show 1 ≤ sizeLine; decide, hd, _, ?_, o, es, ep', ho, h2, h3, h4, h5⟩
    have one : KT (upd H2 s.heap.objs.size (.dT [(k, y)])) [(k, y)] [(k, b, u2)] := .cons ⟨rfl, (upd_ne (ne_of eb ep (fun z => nomatch z))).trans eb, r2⟩ .nil
    exact one
end KR

/-! Rul3: sorted(t, reverse=b) of a tuple of ints. -/
namespace KR
open PySem PySem.Spec PyProof.Rows L2
section
variable {prog : Program} {w : World} {A : Around} {E : Value → Shared → Prop} {s : Shared}
/-- what a tuple holds, gathered in a new list -/
theorem collect_tup {l : Addr} {vs : List Value} {Q : List Value → Shared → Prop} (hl : IsTup s.heap l vs.toArray) (hz : vs.length ≤ sizeLine)
    (h : Q vs { s with heap := (s.heap.push (seqObj "list" #[] 0)).update s.heap.objs.size (Obj.mapSeq (· ++ vs.toArray)) }) : wpAny (model prog w) A (collect (.ref l)) Q E s := by
  obtain ⟨o, ho, hc, n, hd⟩ := id hl
  unfold collect
  refine wpAny_bind (wpAny_runValue (codeAny_builtin entry_proto_collect' ?_))
  show wpAny _ _ (do again (.builtin "list.__iadd__" ⟨[← newList [], .ref l], []⟩)) _ _ s
  refine wpAny_bind (wpAny_newList (wpAny_pure ⟨Code.quiet_builtin _ (by decide +kernel), codeAny_builtin entry_list_iadd' ?_⟩))
  show wpAny _ _ (Builtin.List.listExtendWith (.ref s.heap.objs.size) (.ref l) (.ref s.heap.objs.size)) _ _ { s with heap := s.heap.push (seqObj "list" #[] 0) }
  unfold Builtin.List.listExtendWith
  have ho' : (s.heap.push (seqObj "list" #[] 0)).get? l = some o := Heap.get?_push_of_some _ ho
  refine wpAny_bind (wpAny_typeOf (T := "tuple") ⟨o, ho', hc⟩ ?_)
  have ht : (Value.type "tuple" == Value.type "tuple") = true := by rfl
  rw [if_pos (by rw [ht]; simp)]
  refine wpAny_bind (listItems_at ho' hd ?_)
  refine wpAny_bind (listItems_at (xs := #[]) (n := 0) (Heap.get?_push_size _ rfl) rfl ?_)
  rw [if_neg (by simp)]
  refine wpAny_bind (listUpdate_at (xs := #[]) (n := 0) (Heap.get?_push_size _ rfl) rfl ?_ (Nat.zero_le _) (by show (#[] ++ vs.toArray).size ≤ sizeLine + 1; simp only [Array.size_append, List.size_toArray, List.length_nil]; omega))
  refine wpAny_pure ?_
  refine wpAny_bind (wpAny_load (get?_update_seq (Heap.get?_push_size _ rfl) _) ?_)
  show wpAny _ _ (pure ((#[] : Array Value) ++ vs.toArray).toList) Q E _
  rw [show ((#[] : Array Value) ++ vs.toArray).toList = vs by simp]
  exact wpAny_pure h
theorem sorted_tupI {l : Addr} {vs : List Value} {ns : List Int} {b : Bool} {Q : Value → Shared → Prop} (hl : IsTup s.heap l vs.toArray) (hI : IntsAre vs ns) (hz : vs.length ≤ sizeLine)
    (h : ∀ (h' : Heap) (ns' : List Int) (its : List Value) (e : Nat), (∀ b o, s.heap.get? b = some o → h'.get? b = some o) → IntsAre its ns' → ns'.Perm ns → OrdB b ns' →
      ∀ p, s.heap.objs.size ≤ p → h'.get? p = some (seqObj "list" its.toArray e) → Q (.ref p) { s with heap := h' }) :
    wpAny (model prog w) A (call (.builtin "sorted") [.ref l] [(Str.ofString "reverse", .bool b)]) Q E s := by
  refine call_function_entry_kw kind_sorted plain_sorted entry_sorted (PyProof.Rows.args_sorted_rev _ _) ?_
  unfold Builtin.«sorted»
  refine wpAny_bind (m := checkCount "sorted" 1 1 _) (wpAny_pure ?_)
  obtain ⟨o, ho, hc, n, hd⟩ := id hl
  refine wpAny_bind (collect_tup hl hz ?_)
  have z1 : ((s.heap.push (seqObj "list" #[] 0)).update s.heap.objs.size (Obj.mapSeq (· ++ vs.toArray))).objs.size = s.heap.objs.size + 1 := by
    rw [Heap.size_update, size_push']
  have k1 : ∀ c oc, s.heap.get? c = some oc → ((s.heap.push (seqObj "list" #[] 0)).update s.heap.objs.size (Obj.mapSeq (· ++ vs.toArray))).get? c = some oc := fun c oc hc => by
    rw [Heap.get?_update_ne _ _ _ _ (Nat.ne_of_lt (Heap.lt_size hc))]
    exact Heap.get?_push_of_some _ hc
  generalize (s.heap.push (seqObj "list" #[] 0)).update s.heap.objs.size (Obj.mapSeq (· ++ vs.toArray)) = h1 at z1 k1
  refine wpAny_bind (wpAny_newList ?_ hz)
  have hoL : (h1.push (seqObj "list" vs.toArray 0)).get? h1.objs.size = some (seqObj "list" vs.toArray 0) := Heap.get?_push_size _ rfl
  have hle : s.heap.objs.size ≤ h1.objs.size := by
    rw [z1]
    exact Nat.le_succ _
  show wpAny _ _ _ _ _ { s with heap := h1.push (seqObj "list" vs.toArray 0) }
  refine wpAny_bind (wpAny_holding (wpAny_call_entry_kw slot_list_sort ⟨_, hoL, rfl⟩ entry_list_sort ?_ (PyProof.Rows.args_list_sort_rev _ _)))
  refine SrtR.list_sort_ordR SrtO.swo_int hoL hz (fun h2 => SrtO.ints_sortable hI h2) fun out hs hb => ⟨_, rfl, ?_⟩
  refine wpAny_pure ⟨_, rfl, ?_⟩
  obtain ⟨ns', k2, k3, k4⟩ := SrtR.ints_outR hI hs hb
  obtain ⟨e, he⟩ := PyProof.Rows.sortedHeap_at (vs := vs) (out := (if b = true then out.toArray.reverse else out.toArray)) hoL
  refine h _ ns' _ e (fun c oc hc => ?_) k2 k3 k4 _ hle ?_
  · have hlt : c < s.heap.objs.size := Heap.lt_size hc
    rw [PyProof.Rows.sortedHeap_old (Nat.ne_of_lt (Nat.lt_of_lt_of_le hlt hle)) (by rw [size_push']; exact Nat.lt_succ_of_lt (Nat.lt_of_lt_of_le hlt hle))]
    exact Heap.get?_push_of_some _ (k1 c oc hc)
  · rw [he]
end
section
variable {X : Cx}
/-- sorted(t, reverse=b) -/
theorem cr_sortedRevT {b : Bool} : CallRK X (.builtin "sorted") [Str.ofString "reverse"] (fun vs zs H Q => ∃ (a : Addr) (ns : List Int), vs = [V.ref a] ∧ zs = [.bl b] ∧ SqT X.K H a (ns.map V.int) ∧
    ∀ (ns' : List Int) (p : Addr), ns'.Perm ns → OrdB b ns' → H p = none → Q (.ref p) (upd H p (.lst (ns'.map V.int)))) := by
  intro pins s σ H vs zs us ws Q I r rz h
  obtain ⟨a, ns, rfl, rfl, hs, q⟩ := h
  obtain rfl := Vals.ref1 r
  obtain ⟨w1, rfl, e1⟩ := vals1 rz
  obtain rfl : w1 = Value.bool b := e1
  obtain ⟨its, rv, hl, hz⟩ := I.tuple hs
  refine sorted_tupI hl rv.ints (by rw [← rv.length]; exact hz) fun h' ns' its' e k k2 k3 k4 p hp he => ?_
  have hlen : (ns'.map V.int).length ≤ sizeLine := by
    rw [List.length_map, k3.length_eq]
    rw [List.length_map] at hz
    exact hz
  exact ⟨.ref p, upd H p (.lst (ns'.map V.int)), I.laid (t' := s.toks) k hp ⟨hlen, its', e, vals_of_ints k2, he⟩, rfl, q ns' p k3 k4 (I.hok.fresh hp)⟩
end
end KR

/-! Wk1: the text; the small defs. -/
namespace Wk
open PySem PySem.Spec PyProof.Rows L2 KR Kos
def topS (i : Nat) : Stmt := PySem.Challenge.pw_sumsalone_k74_whole_fillings_and_order.main.body.getD i (.Pass ⟨0, 0, 0, 0⟩)
abbrev sInteger : Stmt := topS 1
abbrev sFrom : Stmt := topS 2
abbrev sShape : Stmt := topS 10
abbrev sReqShape : Stmt := topS 11
abbrev sStrip : Stmt := topS 12
abbrev sNumber : Stmt := topS 13
abbrev sReqCounts : Stmt := topS 14
abbrev sCount : Stmt := topS 15
abbrev sHeap : Stmt := topS 17
abbrev sLess : Stmt := topS 18
abbrev sOrder : Stmt := topS 19
abbrev sLShape : Stmt := topS 20
abbrev sCounts : Stmt := topS 21
abbrev sUnder : Stmt := topS 22
abbrev sMoved : Stmt := topS 23
abbrev sRight : Stmt := topS 24
abbrev sLaw : Stmt := topS 25

/-- the built-in names that the program leaves alone, and its two constants -/
structure Txt (mg : Str → Option Value) : Prop where
  isinst : mg "isinstance" = none
  int : mg "int" = none
  bool : mg "bool" = none
  tuple : mg "tuple" = none
  list : mg "list" = none
  all : mg "all" = none
  sum : mg "sum" = none
  sorted : mg "sorted" = none
  enum : mg "enumerate" = none
  len : mg "len" = none
  range : mg "range" = none
  abs : mg "abs" = none
  max : mg "max" = none
  min : mg "min" = none
  cells : ∃ t, mg "MAX_CELLS" = some (.int 42 t)
  entries : ∃ t, mg "MAX_ENTRIES" = some (.int 8 t)
/-- a def as it stands behind the top -/
structure Df (K : PySem.W.Frag) (mg : Str → Option Value) (x : Str) (st : Stmt) (ps : List Str) (f : Addr) (fd : FuncData) : Prop where
  F : Fun K x x st f fd
  b : Binds K fd ps []
  g : mg x = some (.ref f)

theorem scInteger : FnScope ["value"] ["value"] (defScope sInteger) := ⟨rfl, rfl, rfl, by decide +kernel, rfl, by decide +kernel, by decide +kernel⟩
theorem scFrom : FnScope ["value", "first", "last"] ["value", "first", "last"] (defScope sFrom) := ⟨rfl, rfl, rfl, by decide +kernel, rfl, by decide +kernel, by decide +kernel⟩
theorem scShape : FnScope ["value", "row"] ["value"] (defScope sShape) := ⟨rfl, rfl, rfl, by decide +kernel, rfl, by decide +kernel, by decide +kernel⟩
theorem scReqShape : FnScope ["shape"] ["shape"] (defScope sReqShape) := ⟨rfl, rfl, rfl, by decide +kernel, rfl, by decide +kernel, by decide +kernel⟩
theorem scReqCounts : FnScope ["sums", "many"] ["sums"] (defScope sReqCounts) := ⟨rfl, rfl, rfl, by decide +kernel, rfl, by decide +kernel, by decide +kernel⟩

theorem same_upd {H : Hp} {p : Addr} {o : HO} (h : H p = none) : Same H (upd H p o) := fun b x e => by
  rw [upd_ne (ne_of_none e h)]
  exact e

/-- a comprehension without tests -/
theorem yesT {σ : L2.St} {H : Hp} {A B : Hp → Prop} (h : A H) : tYes σ H fun b H3 => if b = true then A H3 else B H3 := by
  show if true = true then A H else B H
  rw [if_pos rfl]
  exact h
theorem dpInts {K : PySem.W.Frag} {H : Hp} : ∀ ns : List Int, DpAll K H (ns.map V.int) (ns.map PyData.int)
  | [] => .nil
  | n :: r => .cons (.int n) (dpInts r)
section
variable {P : Program} {w : World} {K : PySem.W.Frag} {mg : Str → Option Value} {base : Heap}
def spInteger : Sp := fun vs H Q _ => ∃ i : Int, vs = [.int i] ∧ Q (.bl true) H
theorem ok_integer {f : Addr} {fd : FuncData} (D : Df K mg "is_integer" sInteger ["value"] f fd) (T : Txt mg) : FnOk P w K mg base CX0 1 f fd ["value"] spInteger := by
  refine D.F.ok scInteger (fun vs H Q E h => ?_) (fun cdv A outer s H vs Q E hr h => ?_)
  · obtain ⟨i, rfl, _⟩ := h
    rfl
  · obtain ⟨i, rfl, q⟩ := h
    refine ⟨_, pss_one (ps_ret (pe_and (pe_callB call_isi (by rfl) T.isinst boot_isinstance (pa_cons (pv 0) (pa_cons (pe_bltn (v := .ty "int") (by rfl) T.int PyProof.Rows.boot_int rfl) pa_nil)))
      (pe_one (pe_not (pe_callB call_isi (by rfl) T.isinst boot_isinstance (pa_cons (pv 0) (pa_cons (pe_bltn (v := .ty "bool") (by rfl) T.bool PyProof.Rows.boot_bool rfl) pa_nil))))))), ?_⟩
    refine ⟨_, rfl, _, _, _, _, true, rfl, .ty "int", .base (.int i), kit_ty (by decide +kernel), true, rfl, ?_⟩
    refine iteT ⟨_, rfl, _, _, _, _, false, rfl, .ty "bool", .base (.int i), kit_ty (by decide +kernel), false, rfl, ?_⟩
    exact q
def spFrom : Sp := fun vs H Q _ => ∃ i a b : Int, vs = [.int i, .int a, .int b] ∧ a ≤ i ∧ i ≤ b ∧ Q (.bl true) H
theorem ok_from {f fI : Addr} {fd fdI : FuncData} (D : Df K mg "is_from" sFrom ["value", "first", "last"] f fd) (DI : Df K mg "is_integer" sInteger ["value"] fI fdI) (T : Txt mg) :
    FnOk P w K mg base CX0 2 f fd ["value", "first", "last"] spFrom := by
  have GI : FnOk P w K mg base CX0 1 fI fdI ["value"] spInteger := ok_integer DI T
  refine D.F.ok scFrom (fun vs H Q E h => ?_) (fun cdv A outer s H vs Q E hr h => ?_)
  · obtain ⟨i, a, b, rfl, _⟩ := h
    rfl
  · obtain ⟨i, a, b, rfl, h1, h2, q⟩ := h
    refine ⟨_, pss_one (ps_ret (pe_and (pe_call GI hr (by rfl) DI.g DI.F.kp DI.b .nil pass0 (pa_cons (pv 0) pa_nil)) (pe_one (pe_chain op_le op_le (pv 1) (pv 0) (pv 2))))), ?_⟩
    refine ⟨_, rfl, i, rfl, true, rfl, iteT ?_⟩
    refine ⟨_, rfl, _, rfl, a, i, rfl, rfl, _, rfl, ?_⟩
    rw [decide_eq_true h1]
    refine iteT ⟨_, rfl, i, b, rfl, rfl, ?_⟩
    show Q (.bl (decide (i ≤ b))) H
    rw [decide_eq_true h2]
    exact q

/-- what stands at a's address is this tuple of ints -/
abbrev TupI (H : Hp) (a : Addr) (ns : List Int) : Prop := H a = some (.tup (ns.map V.int))
def spShape : Sp := fun vs H Q _ => ∃ (a : Addr) (ns : List Int), vs = [.ref a] ∧ TupI H a ns ∧ Shp ns ∧ ∀ H', Same H H' → Q (.bl true) H'
theorem ok_shape {f fF fI : Addr} {fd fdF fdI : FuncData} (D : Df K mg "is_shape" sShape ["value"] f fd) (DF : Df K mg "is_from" sFrom ["value", "first", "last"] fF fdF)
    (DI : Df K mg "is_integer" sInteger ["value"] fI fdI) (T : Txt mg) : FnOk P w K mg base CX0 3 f fd ["value"] spShape := by
  have GF : FnOk P w K mg base CX0 2 fF fdF ["value", "first", "last"] spFrom := ok_from DF DI T
  obtain ⟨tc, hcells⟩ := T.cells
  refine D.F.ok scShape (fun vs H Q E h => ?_) (fun cdv A outer s H vs Q E hr h => ?_)
  · obtain ⟨a, ns, rfl, _⟩ := h
    rfl
  · obtain ⟨a, ns, rfl, hT, hS, q⟩ := h
    have hlen : ns.length ≤ 10 := hS.len
    refine ⟨_, pss_cons (ps_if (PW.pt (pw_or (pt_not (pt_val (pe_callB call_isi (by rfl) T.isinst boot_isinstance (pa_cons (pv 0) (pa_cons (pe_bltn (v := .ty "tuple") (by rfl) T.tuple PyProof.Rows.boot_tuple rfl) pa_nil)))))
        (pw_or1 (pt_not (pt_val (pe_callB (cr_all rfl) (by rfl) T.all boot_all (pa_cons
          (pe_lc (own := [("row", 1)]) (g := gName 1) (tt := tYes) rfl scShape.nd (pi_tup (pv 0)) (blkOk_by (N := ["value", "row"]) (sc := defScope sShape) (by decide +kernel))
            (fun _ _ _ _ _ => pg_name (i := 1) scShape.nd rfl (Or.inl rfl)) (fun _ _ _ _ _ => pts_nil)
            (fun _ _ _ _ _ => pe_call GF hr (by rfl) DF.g DF.F.kp DF.b .nil pass0 (pa_cons (pv 1) (pa_cons pe_int (pa_cons (pe_glob (v := .int 42) (by rfl) hcells ⟨_, rfl⟩) pa_nil))))) pa_nil)))))))
        (pss_one (ps_ret pe_bl)) pss_nil)
      (pss_one (ps_ret (pe_and (pe_cmpR op_le (pe_callB (cr_sumT rfl) (by rfl) T.sum PyProof.Rows.boot_sum (pa_cons (pv 0) pa_nil)) (pe_glob (v := .int 42) (by rfl) hcells ⟨_, rfl⟩) (nomark _))
        (pe_one (pe_cmpR (op_eqD hr.units) (pe_callTy call_list_of (by rfl) T.list PyProof.Rows.boot_list (pa_cons (pv 0) pa_nil))
          (pe_callBK (cr_sortedRevT (b := true)) (by rfl) T.sorted PyProof.Rows.boot_sorted (pa_cons (pv 0) pa_nil) (pk_cons pe_bl pk_nil)) (nomark _)))))), ?_⟩
    refine ⟨_, rfl, _, _, _, _, true, rfl, .ty "tuple", .base (.tup hT), kit_ty (by decide +kernel), true, rfl, iteF ?_⟩
    refine ⟨.ref a, rfl, a, rfl, ⟨_, SqT.of hT⟩, fun o no => ?_⟩
    have s0 : Same H (upd H o (.lst [])) := same_upd no
    refine lc_tup (xs := ns.map V.int) (fun i H' => H' o = some (.lst ((List.replicate i true).map V.bl)) ∧ Same H H') ⟨upd_same, s0⟩ (fun i H' _ h => SqT.of (h.2 _ _ hT)) (fun i x H' hx h => ?_) (fun H' h => ?_)
    · obtain ⟨hD, sm⟩ := h
      rw [List.getElem?_map] at hx
      obtain ⟨n, hn, rfl⟩ := Option.map_eq_some_iff.mp hx
      obtain ⟨h1, h2⟩ := hS.le n (List.mem_of_getElem? hn)
      have hi : i < ns.length := (List.getElem?_eq_some_iff.mp hn).1
      refine ⟨rfl, yesT ?_⟩
      refine ⟨_, rfl, n, 1, 42, rfl, h1, by omega, _, hD, ?_, ?_, ?_⟩
      · rw [List.length_map, List.length_replicate]
        exact small1000 (by omega)
      · rw [upd_same, List.replicate_succ', List.map_append]
        rfl
      · intro b z e
        rw [upd_ne (ne_of_none e no)]
        exact sm b z e
    · obtain ⟨hD, sm⟩ := h
      refine ⟨o, _, rfl, SqL.of hD, true, ?_, ?_⟩
      · have : ∀ k : Nat, ((List.replicate k true).all id) = true := fun k => by simp
        rw [this]
      · refine iteF ⟨_, rfl, a, ns, rfl, SqT.of (sm _ _ hT), _, 42, rfl, rfl, true, ?_, ?_⟩
        · have h42 : ns.sum ≤ 42 := Int.le_trans hS.few (by decide)
          show V.bl (decide (ns.sum ≤ 42)) = .bl true
          rw [decide_eq_true h42]
        · refine iteT ⟨_, rfl, a, _, rfl, .inr (SqT.of (sm _ _ hT)), fun l nl => ?_⟩
          have s1 := same_upd (o := .lst (ns.map V.int)) nl
          refine ⟨_, rfl, a, ns, rfl, rfl, SqT.of (s1 _ _ (sm _ _ hT)), fun ns' p hp ho np => ?_⟩
          have e : ns' = ns := List.Perm.eq_of_pairwise (fun x y _ _ h1 h2 => Int.le_antisymm h2 h1) ho hS.dec.pairwise hp
          subst e
          have s2 := same_upd (o := .lst (ns'.map V.int)) np
          refine ⟨.list (ns'.map PyData.int), .list (ns'.map PyData.int), .lst (SqL.of (s2 _ _ upd_same)) (dpInts _), .lst (SqL.of upd_same) (dpInts _), PySem.W.ke_shaped_ints _, PySem.W.ke_shaped_ints _, ?_⟩
          rw [SeqAt.eqv_refl _ (SeqAt.canLay_of_shaped (PySem.W.ke_shaped_ints _))]
          exact q _ ((sm.trans s1).trans s2)
end
end Wk

/-! Wk2: require_shape, require_counts; tools for loops and heaps. -/
namespace Wk
open PySem PySem.Spec PyProof.Rows L2 KR Kos
section
variable {P : Program} {w : World} {K : PySem.W.Frag} {mg : Str → Option Value} {base : Heap}
def spReqShape : Sp := fun vs H Q _ => ∃ (a : Addr) (ns : List Int), vs = [.ref a] ∧ TupI H a ns ∧ Shp ns ∧ ∀ H', Same H H' → Q .non H'
theorem ok_reqShape {f fS : Addr} {fd fdS : FuncData} (D : Df K mg "require_shape" sReqShape ["shape"] f fd) (DS : Df K mg "is_shape" sShape ["value"] fS fdS)
    (GS : FnOk P w K mg base CX0 3 fS fdS ["value"] spShape) : FnOk P w K mg base CX0 4 f fd ["shape"] spReqShape := by
  refine D.F.ok scReqShape (fun vs H Q E h => ?_) (fun cdv A outer s H vs Q E hr h => ?_)
  · obtain ⟨a, ns, rfl, _⟩ := h
    rfl
  · obtain ⟨a, ns, rfl, hT, hS, q⟩ := h
    refine ⟨_, pss_one (ps_if (pt_not (pt_val (pe_call GS hr (by rfl) DS.g DS.F.kp DS.b .nil pass0 (pa_cons (pv 0) pa_nil)))) pss_never pss_nil), ?_⟩
    refine ⟨_, rfl, a, ns, rfl, hT, hS, fun H' sm => ⟨true, rfl, iteF ?_⟩⟩
    exact q H' sm
def spReqCounts : Sp := fun vs H Q _ => ∃ (a : Addr) (ms : List Int), vs = [.ref a] ∧ TupI H a ms ∧ ms.length ≤ 8 ∧ (∀ x ∈ ms, 0 ≤ x ∧ x ≤ 42) ∧ ∀ H', Same H H' → Q .non H'
theorem ok_reqCounts {f fF : Addr} {fd fdF : FuncData} (D : Df K mg "require_counts" sReqCounts ["sums"] f fd) (DF : Df K mg "is_from" sFrom ["value", "first", "last"] fF fdF)
    (GF : FnOk P w K mg base CX0 2 fF fdF ["value", "first", "last"] spFrom) (T : Txt mg) : FnOk P w K mg base CX0 3 f fd ["sums"] spReqCounts := by
  obtain ⟨tc, hcells⟩ := T.cells
  obtain ⟨te, hent⟩ := T.entries
  refine D.F.ok scReqCounts (fun vs H Q E h => ?_) (fun cdv A outer s H vs Q E hr h => ?_)
  · obtain ⟨a, ms, rfl, _⟩ := h
    rfl
  · obtain ⟨a, ms, rfl, hT, hlen, hS, q⟩ := h
    refine ⟨_, pss_cons (ps_if (PW.pt (pw_or (pt_not (pt_val (pe_callB call_isi (by rfl) T.isinst boot_isinstance (pa_cons (pv 0) (pa_cons (pe_bltn (v := .ty "tuple") (by rfl) T.tuple PyProof.Rows.boot_tuple rfl) pa_nil)))))
        (pw_or1 (pt_cmpR op_gt (pe_callB call_len_seq (by rfl) T.len PySem.boot_len (pa_cons (pv 0) pa_nil)) (pe_glob (v := .int 8) (by rfl) hent ⟨_, rfl⟩) (nomark _))))) pss_never pss_nil)
      (pss_one (ps_if (pt_not (pt_val (pe_callB (cr_all rfl) (by rfl) T.all boot_all (pa_cons
          (pe_lc (own := [("many", 1)]) (g := gName 1) (tt := tYes) rfl scReqCounts.nd (pi_tup (pv 0)) (blkOk_by (N := ["sums", "many"]) (sc := defScope sReqCounts) (by decide +kernel))
            (fun _ _ _ _ _ => pg_name (i := 1) scReqCounts.nd rfl (Or.inl rfl)) (fun _ _ _ _ _ => pts_nil)
            (fun _ _ _ _ _ => pe_call GF hr (by rfl) DF.g DF.F.kp DF.b .nil pass0 (pa_cons (pv 1) (pa_cons pe_int (pa_cons (pe_glob (v := .int 42) (by rfl) hcells ⟨_, rfl⟩) pa_nil))))) pa_nil)))) pss_never pss_nil)), ?_⟩
    refine ⟨_, rfl, _, _, _, _, true, rfl, .ty "tuple", .base (.tup hT), kit_ty (by decide +kernel), true, rfl, iteF ?_⟩
    refine ⟨_, rfl, a, _, rfl, .inr (SqT.of hT), _, 8, rfl, rfl, false, ?_, iteF ?_⟩
    · have h8 : ¬ (8 : Int) < ((ms.map V.int).length : Nat) := by
        rw [List.length_map]
        omega
      show V.bl (decide ((8 : Int) < ((ms.map V.int).length : Nat))) = .bl false
      rw [decide_eq_false h8]
    refine ⟨.ref a, rfl, a, rfl, ⟨_, SqT.of hT⟩, fun o no => ?_⟩
    have s0 : Same H (upd H o (.lst [])) := same_upd no
    refine lc_tup (xs := ms.map V.int) (fun i H' => H' o = some (.lst ((List.replicate i true).map V.bl)) ∧ Same H H') ⟨upd_same, s0⟩ (fun i H' _ h => SqT.of (h.2 _ _ hT)) (fun i x H' hx h => ?_) (fun H' h => ?_)
    · obtain ⟨hD, sm⟩ := h
      rw [List.getElem?_map] at hx
      obtain ⟨n, hn, rfl⟩ := Option.map_eq_some_iff.mp hx
      obtain ⟨h1, h2⟩ := hS n (List.mem_of_getElem? hn)
      have hi : i < ms.length := (List.getElem?_eq_some_iff.mp hn).1
      refine ⟨rfl, yesT ?_⟩
      refine ⟨_, rfl, n, 0, 42, rfl, h1, h2, _, hD, ?_, ?_, ?_⟩
      · rw [List.length_map, List.length_replicate]
        exact small1000 (by omega)
      · rw [upd_same, List.replicate_succ', List.map_append]
        rfl
      · intro b z e
        rw [upd_ne (ne_of_none e no)]
        exact sm b z e
    · obtain ⟨hD, sm⟩ := h
      refine ⟨o, _, rfl, SqL.of hD, true, ?_, iteF ?_⟩
      · have : ∀ k : Nat, ((List.replicate k true).all id) = true := fun k => by simp
        rw [this]
      · exact q H' sm
end

/-! ### turns of a loop within an expression -/
theorem turns {J : It} {n : Nat} {G : Hp → Prop} {Y : Nat → Hp → V → Hp → Prop} (w : Walk J n G Y) {Body : V → Hp → (Hp → Prop) → Prop} {H1 : Hp} {Qd : Hp → Prop} (Pv : Nat → Hp → Prop) (h0 : Pv 0 H1) (hG : ∀ i H, i ≤ n → Pv i H → G H)
    (hs : ∀ i x H H', i < n → Pv i H → Y i H x H' → Body x H' (Pv (i + 1))) (hd : ∀ H, Pv n H → Qd H) :
    ∃ W : Nat → Nat → Hp → Prop, (∃ m, W 0 m H1) ∧ ∀ i m H, W i m H →
      (J.stop i H ∧ Qd H) ∨ (J.go i H ∧ ∃ Nx : Hp → Prop, (∀ H', Nx H' → ∃ m', m' < m ∧ W (i + 1) m' H') ∧ ∀ x H', J.yld i H x H' → Body x H' Nx) := by
  refine ⟨fun i m H => m = n - i ∧ i ≤ n ∧ Pv i H, ⟨n, by simp, Nat.zero_le _, h0⟩, ?_⟩
  rintro i m H ⟨rfl, hi, p⟩
  have q := hG i H hi p
  by_cases hlt : i < n
  · exact .inr ⟨w.goes i H hlt q, Pv (i + 1), fun H' p' => ⟨n - (i + 1), by omega, rfl, hlt, p'⟩, fun x H' y => hs i x H H' hlt p (w.yields i H x H' hlt q y)⟩
  · have e : i = n := by omega
    subst e
    exact .inl ⟨w.stops H q, hd H p⟩

/-! ### heaps -/
/-- the tuples are as they were -/
def SameT (H H' : Hp) : Prop := ∀ b xs, H b = some (.tup xs) → H' b = some (.tup xs)
theorem sm_t {H H' : Hp} (h : Same H H') : SameT H H' := fun b xs e => h b _ e
theorem SameT.trans {H H1 H2 : Hp} (a : SameT H H1) (b : SameT H1 H2) : SameT H H2 := fun c xs e => b c xs (a c xs e)
theorem SameT.lst {H : Hp} {d : Addr} {xs ys : List V} (e : H d = some (.lst xs)) : SameT H (upd H d (.lst ys)) := fun b zs h => by
  rw [upd_ne (ne_of h e (fun z => nomatch z))]
  exact h
theorem SameT.dT {H : Hp} {d : Addr} {xs ys : List (List Key × V)} (e : H d = some (.dT xs)) : SameT H (upd H d (.dT ys)) := fun b zs h => by
  rw [upd_ne (ne_of h e (fun z => nomatch z))]
  exact h
/-- what was new then may be written -/
theorem sm_keep {H H' : Hp} {d : Addr} {o : HO} (h : Same H H') (n : H d = none) : Same H (upd H' d o) := fun b z e => by
  rw [upd_ne (ne_of_none e n)]
  exact h b z e
theorem sm_new {H H' : Hp} {d : Addr} {o : HO} (h : Same H H') (n : H' d = none) : Same H (upd H' d o) := sm_keep h (h.free n)
theorem paired_snoc {α β : Type} {F : α → β → Prop} : ∀ {l₁ : List α} {l₂ : List β} {a : α} {b : β}, Paired F l₁ l₂ → F a b → Paired F (l₁ ++ [a]) (l₂ ++ [b])
  | _, _, _, _, .nil, h => .cons h .nil
  | _, _, _, _, .cons r t, h => .cons r (paired_snoc t h)
theorem paired_at {α β : Type} {F : α → β → Prop} : ∀ {l₁ : List α} {l₂ : List β} {i : Nat} {a : α}, Paired F l₁ l₂ → l₁[i]? = some a → ∃ b, l₂[i]? = some b ∧ F a b
  | _, _, i, a, .nil, h => by simp at h
  | _, _, 0, a, .cons r t, h => by
    simp at h
    subst h
    exact ⟨_, rfl, r⟩
  | _, _, i + 1, a, .cons r t, h => by
    obtain ⟨b, h1, h2⟩ := paired_at (i := i) t (by simpa using h)
    exact ⟨b, by simpa using h1, h2⟩
end Wk

/-! Wk3: without_strip. -/
namespace Wk
open PySem PySem.Spec PyProof.Rows L2 KR Kos

/-! ### the plain part -/
theorem rgV_rg (n : Int) : rgV 0 n = (rg n).map V.int := by
  unfold rgV rg
  rw [List.map_map, Int.sub_zero]
  apply List.map_congr_left
  intro i _
  show V.int (0 + (i : Int)) = V.int (i : Int)
  rw [Int.zero_add]
/-- the pairs made so far: i items done, j numbers of the next one -/
def part (f : List (List Int × Int)) (L : List Int) (i j : Nat) : List (List Int × Int × Int) :=
  Kos.pairsOf (f.take i) L ++ match f[i]? with
    | some p => ((L.take j).filter fun x => decide (x ≤ p.2)).map fun x => (p.1, p.2, x)
    | none => []
theorem part_zero (f : List (List Int × Int)) (L : List Int) (i : Nat) : part f L i 0 = Kos.pairsOf (f.take i) L := by
  unfold part
  cases f[i]? with
  | none => rw [List.append_nil]
  | some p => exact List.append_nil _
theorem part_next {f : List (List Int × Int)} {L : List Int} {i : Nat} (hi : i < f.length) : part f L i L.length = Kos.pairsOf (f.take (i + 1)) L := by
  unfold part
  rw [List.take_add_one, List.getElem?_eq_getElem hi, List.take_length]
  unfold Kos.pairsOf
  rw [Option.toList_some, List.flatMap_append, List.flatMap_cons, List.flatMap_nil, List.append_nil]
theorem part_step {f : List (List Int × Int)} {L : List Int} {i j : Nat} {p : List Int × Int} {x : Int} (hp : f[i]? = some p) (hx : L[j]? = some x) :
    part f L i (j + 1) = if x ≤ p.2 then part f L i j ++ [(p.1, p.2, x)] else part f L i j := by
  unfold part
  rw [hp, List.take_add_one, hx, Option.toList_some]
  show Kos.pairsOf _ _ ++ List.map _ (List.filter _ (L.take j ++ [x])) = _
  rw [List.filter_append]
  by_cases c : x ≤ p.2
  · rw [if_pos c, List.filter_cons_of_pos (by simpa using c), List.filter_nil, List.map_append, List.append_assoc]
    rfl
  · rw [if_neg c, List.filter_cons_of_neg (by simpa using c), List.filter_nil, List.append_nil]
theorem part_len {f : List (List Int × Int)} {L : List Int} {i j : Nat} (hi : i < f.length) (hj : j ≤ L.length) : (part f L i j).length ≤ f.length * L.length := by
  unfold part
  rw [List.length_append, List.getElem?_eq_getElem hi]
  have a : (pairsOf (f.take i) L).length ≤ (f.take i).length * L.length := by
    unfold Kos.pairsOf
    refine flatMap_len fun p _ => ?_
    rw [List.length_map]
    exact List.length_filter_le _ _
  rw [List.length_take, Nat.min_eq_left (Nat.le_of_lt hi)] at a
  have b : (((L.take j).filter fun x => decide (x ≤ f[i].2)).map fun x => (f[i].1, f[i].2, x)).length ≤ L.length := by
    rw [List.length_map]
    refine Nat.le_trans (List.length_filter_le _ _) ?_
    rw [List.length_take]
    exact Nat.min_le_right _ _
  have c : i * L.length + L.length ≤ f.length * L.length := by
    have := Nat.mul_le_mul_right L.length (show i + 1 ≤ f.length from hi)
    rw [Nat.add_mul, Nat.one_mul] at this
    exact this
  exact Nat.le_trans (Nat.add_le_add a b) c
theorem few_mul {r h : Int} {f : List (List Int × Int)} (hf : Few r f) (h0 : 0 ≤ h) (h1 : h ≤ r) : f.length * (rg (r - h + 1)).length ≤ 1024 := by
  rw [rg_length]
  have b := lt_pow (r - h).toNat
  have e : (r - h + 1).toNat = (r - h).toNat + 1 := by omega
  rw [e]
  have c : f.length * ((r - h).toNat + 1) ≤ f.length * 2 ^ (r - h).toNat := Nat.mul_le_mul_left _ b
  have d : f.length * 2 ^ (r - h).toNat ≤ f.length * 2 ^ r.toNat := Nat.mul_le_mul_left _ (Nat.pow_le_pow_right (by decide) (by omega))
  exact Nat.le_trans c (Nat.le_trans d hf)
theorem ends_step {f : List (List Int × Int)} {i : Nat} {p : List Int × Int} (hp : f[i]? = some p) : ends (f.take (i + 1)) = if p.2 = 0 then ends (f.take i) ++ [trim p.1] else ends (f.take i) := by
  unfold ends
  rw [List.take_add_one, hp, Option.toList_some, List.filter_append]
  by_cases c : p.2 = 0
  · rw [if_pos c, List.filter_cons_of_pos (by simpa using c), List.filter_nil, List.map_append]
    rfl
  · rw [if_neg c, List.filter_cons_of_neg (by simpa using c), List.filter_nil, List.append_nil]
theorem ends_len (f : List (List Int × Int)) : (ends f).length ≤ f.length := by
  unfold ends
  rw [List.length_map]
  exact List.length_filter_le _ _
theorem found_step {row : Int} {ps : List (List Int × Int × Int)} {i : Nat} {p : List Int × Int × Int} (hp : ps[i]? = some p) : foundOf row (ps.take (i + 1)) = foundOf row (ps.take i) ++ [(p.1 ++ [row - p.2.2], p.2.1 - p.2.2)] := by
  unfold foundOf
  rw [List.take_add_one, hp, Option.toList_some, List.map_append]
  rfl
theorem trim_step {l : List Int} {i : Nat} {x : Int} (hx : l[i]? = some x) : trim (l.take (i + 1)) = if 0 < x then trim (l.take i) ++ [x] else trim (l.take i) := by
  unfold trim
  rw [List.take_add_one, hx, Option.toList_some, List.filter_append]
  by_cases c : 0 < x
  · rw [if_pos c, List.filter_cons_of_pos (by simpa using c), List.filter_nil]
  · rw [if_neg c, List.filter_cons_of_neg (by simpa using c), List.filter_nil, List.append_nil]

/-! ### what stands in the heap -/
abbrev FdAt (H : Hp) (v : V) (p : List Int × Int) : Prop := ∃ t A, v = .ref t ∧ H t = some (.tup [.ref A, .int p.2]) ∧ TupI H A p.1
abbrev PrAt (H : Hp) (v : V) (p : List Int × Int × Int) : Prop := ∃ t A, v = .ref t ∧ H t = some (.tup [.ref A, .int p.2.1, .int p.2.2]) ∧ TupI H A p.1
abbrev ShAt (H : Hp) (v : V) (s : List Int) : Prop := ∃ t, v = .ref t ∧ TupI H t s
theorem fd_keep {H H' : Hp} {vs : List V} {f : List (List Int × Int)} (k : SameT H H') (h : Paired (FdAt H) vs f) : Paired (FdAt H') vs f := Paired.mapP h fun _ _ ⟨t, A, e, h1, h2⟩ => ⟨t, A, e, k _ _ h1, k _ _ h2⟩
theorem pr_keep {H H' : Hp} {vs : List V} {f : List (List Int × Int × Int)} (k : SameT H H') (h : Paired (PrAt H) vs f) : Paired (PrAt H') vs f := Paired.mapP h fun _ _ ⟨t, A, e, h1, h2⟩ => ⟨t, A, e, k _ _ h1, k _ _ h2⟩
theorem sh_keep {H H' : Hp} {vs : List V} {f : List (List Int)} (k : SameT H H') (h : Paired (ShAt H) vs f) : Paired (ShAt H') vs f := Paired.mapP h fun _ _ ⟨t, e, h1⟩ => ⟨t, e, k _ _ h1⟩

/-! ### the scopes within -/
def lcScope : Expr → Scope
  | .ListComp _ _ sc _ => sc
  | _ => { kind := .function, names := [], isGenerator := false, isCoroutine := false }
def retVal : Stmt → Expr
  | .Return (some e) _ => e
  | _ => .Constant .none 0 ⟨0, 0, 0, 0⟩
abbrev scLast : Scope := lcScope (retVal ((defBody sStrip).getD 2 (.Pass ⟨0, 0, 0, 0⟩)))
abbrev nStrip : List Str := ["shape", "many", "found", "at", "row", "least", "lots", "pairs", "ahead", "left", "cells", "shorter"]
theorem scStrip : FnScope nStrip ["shape", "many"] (defScope sStrip) := ⟨rfl, rfl, rfl, by decide +kernel, rfl, by decide +kernel, by decide +kernel⟩

/-! ### the readings within the comprehensions -/
abbrev g2 (K : PySem.W.Frag) (i : Nat) : TG := gTup K 2 (gCons (gName i) (gCons (gName 9) gNil))
abbrev g3 (K : PySem.W.Frag) : TG := gTup K 3 (gCons (gName 8) (gCons (gName 9) (gCons (gName 10) gNil)))
abbrev tSub (i j : Nat) : TE := tOp (rI0 fun i j => .int (i - j)) (tVar i) (tVar j)
abbrev tElt (K : PySem.W.Frag) : TE := tTup (tCons (tTup (StX.tStar K (tVar 8) (tCons (tSub 4 10) tNil))) (tCons (tSub 9 10) tNil))
abbrev tGt0 : TT := tTest (tOp (rI0 fun i j => .bl (decide (j < i))) (tVar 4) (tC (.int 0)))
abbrev tLast (K : PySem.W.Frag) : TE := tCB (fun xs H Q => ∃ p ys, xs = [V.ref p] ∧ ((SqL K H p ys ∧ ∀ l, H l = none → Q (.ref l) (upd H l (.tup ys))) ∨ (SqT K H p ys ∧ Q (.ref p) H)))
  (tCons (tLc (iTup K (tVar 11)) (gName 4) tGt0 (tVar 4) [4]) tNil)

theorem pe_imp {X : Cx} {e : Expr} {t t' : TE} (h : PE X e t) (i : ∀ σ H Q, t' σ H Q → t σ H Q) : PE X e t' := ⟨fun pins s σ H Q I q => h.run pins s σ H Q I (i σ H Q q)⟩
/-- the next length, 0 behind the last one -/
def tLeast : TE := fun σ H Q => ∃ (a : Addr) (ns : List Int) (i : Nat), σ[0]? = some (some (.ref a)) ∧ σ[3]? = some (some (.int i)) ∧ TupI H a ns ∧ Q (.int (hd (ns.drop (i + 1)))) H
theorem least_ok (K : PySem.W.Frag) (σ : L2.St) (H : Hp) (Q : VK) (h : tLeast σ H Q) :
    tIf (tTest (tOp (rI0 fun i j => .bl (decide (i < j))) (tOp (rI0 fun i j => .int (i + j)) (tVar 3) (tC (.int 1))) (tCB (fun xs H Q => ∃ p ys, xs = [V.ref p] ∧ (SqL K H p ys ∨ SqT K H p ys) ∧ Q (.int ys.length) H) (tCons (tVar 0) tNil))))
      (tOp (rIxT K) (tVar 0) (tOp (rI0 fun i j => .int (i + j)) (tVar 3) (tC (.int 1)))) (tC (.int 0)) σ H Q := by
  obtain ⟨a, ns, i, h0, h3, hT, q⟩ := h
  refine ⟨_, h3, i, 1, rfl, rfl, _, h0, a, _, rfl, .inr (SqT.of hT), _, _, rfl, rfl, _, rfl, ite2 (fun c => ?_) (fun c => ?_)⟩
  · have c : (i : Int) + 1 < ((ns.map V.int).length : Nat) := of_decide_eq_true c
    rw [List.length_map] at c
    have hi : i + 1 < ns.length := by omega
    refine ⟨_, h0, _, h3, i, 1, rfl, rfl, a, _, (i : Int) + 1, .int ns[i + 1], rfl, rfl, SqT.of hT, at_of (j := i + 1) (by omega) (by rw [List.getElem?_map, List.getElem?_eq_getElem hi]; rfl), ?_⟩
    rw [List.drop_eq_getElem_cons hi] at q
    exact q
  · have c : ¬ (i : Int) + 1 < ((ns.map V.int).length : Nat) := fun z => c (decide_eq_true z)
    rw [List.length_map] at c
    rw [List.drop_of_length_le (by omega)] at q
    exact q

section
variable {P : Program} {w : World} {K : PySem.W.Frag} {mg : Str → Option Value} {base : Heap}
def spStrip : Sp := fun vs H Q _ => ∃ (a : Addr) (ns : List Int) (m : Int), vs = [.ref a, .int m] ∧ TupI H a ns ∧ Shp ns ∧ ∀ H' p vs', Same H H' → H p = none → H' p = some (.lst vs') → Paired (ShAt H') vs' (strip ns m) → Q (.ref p) H'
set_option maxHeartbeats 1000000 in
theorem ok_strip {f : Addr} {fd : FuncData} (D : Df K mg "without_strip" sStrip ["shape", "many"] f fd) (T : Txt mg) : FnOk P w K mg base CX0 1 f fd ["shape", "many"] spStrip := by
  refine D.F.ok scStrip (fun vs H Q E h => ?_) (fun cdv A outer s H vs Q E hr h => ?_)
  · obtain ⟨a, ns, m, rfl, _⟩ := h
    rfl
  · obtain ⟨a, ns, m, rfl, hT, hS, q⟩ := h
    have nd := scStrip.nd
    refine ⟨_, pss_cons (ps_set (i := 2) nd rfl (.inl rfl) (pe_lst (pa_cons (pe_tup (pa_cons (pe_tup pa_nil) (pa_cons (pv 1) pa_nil))) pa_nil)))
      (pss_cons (ps_for PassesOwn.never rfl (pi_enT (by rfl) T.enum (pa_cons (pv 0) pa_nil))
          (pg_tup rfl (pgs_cons (pg_name (i := 3) nd rfl (.inl rfl)) (pgs_cons (pg_name (i := 4) nd rfl (.inr rfl)) pgs_nil)))
        (pss_cons (ps_set (i := 5) nd rfl (.inl rfl) (pe_imp (pe_ifExp (pt_cmpR op_lt (pe_op op_add (pv 3) pe_int) (pe_callB call_len_seq (by rfl) T.len PySem.boot_len (pa_cons (pv 0) pa_nil)) (nomark _))
            (pe_ix ix_tup (pv 0) (pe_op op_add (pv 3) pe_int) (fun _ _ => rfl)) pe_int) (least_ok K)))
        (pss_cons (ps_set (i := 6) nd rfl (.inr rfl) (pe_listRg rfl (by rfl) T.list (prg_1 (by rfl) T.range (pe_op op_add (pe_op op_sub (pv 4) (pv 5)) pe_int))))
        (pss_cons (ps_setLc2 (i := 7) (own := [("ahead", 8), ("left", 9), ("cells", 10)]) (vs1 := [10]) (g := g2 K 8) (g1 := gName 10) (tt := tYes) (wi1 := iList K (tVar 6)) rfl nd rfl rfl (sw_true rfl rfl rfl (by decide +kernel)) (pi_list (pv 2))
            (blkOk_by (N := nStrip) (sc := defScope sStrip) (by decide +kernel)) (by simp)
            (fun _ _ _ _ _ => pg_tup rfl (pgs_cons (pg_name (i := 8) nd rfl (.inl rfl) (.inr rfl)) (pgs_cons (pg_name (i := 9) nd rfl (.inl rfl) (.inr rfl)) pgs_nil))) (fun _ _ _ _ _ => pts_nil)
            (fun _ _ _ _ _ => pi_list (pv 6)) (fun _ _ _ _ _ => pg_name (i := 10) nd rfl (.inl rfl)) (fun _ _ _ _ _ => pts_one (pt_cmpR op_le (pv 10) (pv 9) (nomark _)))
            (fun _ _ _ _ _ => pe_tup (pa_cons (pv 8) (pa_cons (pv 9) (pa_cons (pv 10) pa_nil)))))
        (pss_one (ps_setLc (i := 2) (own := [("ahead", 8), ("left", 9), ("cells", 10)]) (g := g3 K) (tt := tYes) (te := tElt K) rfl nd rfl rfl (sw_true rfl rfl rfl (by decide +kernel)) (pi_list (pv 7))
            (blkOk_by (N := nStrip) (sc := defScope sStrip) (by decide +kernel))
            (fun _ _ _ _ _ => pg_tup rfl (pgs_cons (pg_name (i := 8) nd rfl (.inl rfl) (.inr rfl)) (pgs_cons (pg_name (i := 9) nd rfl (.inl rfl) (.inr rfl)) (pgs_cons (pg_name (i := 10) nd rfl (.inl rfl) (.inr rfl)) pgs_nil)))) (fun _ _ _ _ _ => pts_nil)
            (fun _ _ _ _ _ => pe_tup (pa_cons (pe_tup (StX.pa_star (pv 8) (pa_cons (pe_op op_sub (pv 4) (pv 10)) pa_nil))) (pa_cons (pe_op op_sub (pv 9) (pv 10)) pa_nil)))))))))
      (pss_one (ps_ret (pe_lc (own := [("shorter", 11), ("left", 9)]) (g := g2 K 11) (te := tLast K) rfl nd (pi_list (pv 2)) (blkOk_by (N := nStrip) (sc := defScope sStrip) (by decide +kernel))
          (fun _ _ _ _ _ => pg_tup rfl (pgs_cons (pg_name (i := 11) nd rfl (.inl rfl) (.inr rfl)) (pgs_cons (pg_name (i := 9) nd rfl (.inl rfl) (.inr rfl)) pgs_nil))) (fun _ _ _ _ _ => pts_one (pt_cmpR op_eq (pv 9) pe_int (nomark _)))
          (fun _ _ _ _ _ => pe_callTy call_tuple_of (by rfl) T.tuple PyProof.Rows.boot_tuple (pa_cons
            (pe_lc (own := [("row", 4)]) (g := gName 4) rfl nd (pi_tup (pv 11)) (blkOk_by (N := nStrip) (sc := relS scLast (defScope sStrip)) (by decide +kernel))
              (fun _ _ _ _ _ => pg_name (i := 4) nd rfl (.inl rfl)) (fun _ _ _ _ _ => pts_one (pt_cmpR op_gt (pv 4) pe_int (nomark _))) (fun _ _ _ _ _ => pv 4)) pa_nil)))))), ?_⟩
    -- found = [((), many)]
    refine ⟨Nat.zero_le _, fun t0 n0 => ⟨.int m, rfl, by show 2 ≤ sizeLine; decide, fun t1 n1 => ⟨by show 1 ≤ sizeLine; decide, fun F0 nF0 => ?_⟩⟩⟩
    have s1 : Same H (upd H t0 (.tup [])) := same_upd n0
    have s2 := sm_new s1 n1 (o := .tup [.ref t0, .int m])
    have s3 := sm_new s2 nF0 (o := .lst [.ref t1])
    have s3' := same_upd nF0 (o := .lst [.ref t1])
    refine ⟨.ref a, rfl, a, _, rfl, SqT.of (s3 _ _ hT), for_it (walk_enT (xs := ns.map V.int)) (fun i σ H' => ∃ F vs f y3 y4 y5 y6 y7, σ = [some (.ref a), some (.int m), some (.ref F), y3, y4, y5, y6, y7, none, none, none, none] ∧ Same H H' ∧ H F = none ∧ H' F = some (.lst vs) ∧
      Paired (FdAt H') vs f ∧ goS (ns.drop i) f = goS ns [([], m)] ∧ Few (hd (ns.drop i)) f ∧ ∀ p ∈ f, p.1.length ≤ i)
      ⟨F0, _, [([], m)], none, none, none, none, none, rfl, s3, s2.free nF0, upd_same, .cons ⟨t1, t0, rfl, s3' _ _ upd_same, s3' _ _ (same_upd n1 _ _ upd_same)⟩ .nil, rfl, Few.start hS, fun p hp => ?_⟩
      (fun i σ H' _ h => ?_) (fun i x σ H1 H2 hi h hy => ?_) (fun σ H' h => ?_)⟩
    · rw [List.mem_singleton.mp hp]
      exact Nat.zero_le _
    · obtain ⟨F, vs, f, y3, y4, y5, y6, y7, _, sm, _⟩ := h
      exact SqT.of (sm _ _ hT)
    · -- a turn
      obtain ⟨F, vs, f, y3, y4, y5, y6, y7, rfl, sm, nF, eF, pF, eg, few, lens⟩ := h
      obtain ⟨T1, x1, x2, rfl, nT, rfl, ex1, ex2⟩ := hy
      rw [List.length_map] at hi
      have ex2 : (ns.map V.int)[i]? = some x2 := ex2
      rw [List.getElem?_map, List.getElem?_eq_getElem hi] at ex2
      obtain rfl : V.int (i : Nat) = x1 := Option.some.inj ex1
      obtain rfl : V.int ns[i] = x2 := Option.some.inj ex2
      have hi10 : i < 10 := Nat.lt_of_lt_of_le hi hS.len
      have edrop : ns.drop i = ns[i] :: ns.drop (i + 1) := List.drop_eq_getElem_cons hi
      rw [edrop] at eg few
      have few : Few ns[i] f := few
      have eg : goS (ns.drop (i + 1)) (Kos.step ns[i] (hd (ns.drop (i + 1))) f) = goS ns [([], m)] := eg
      have hdec : Dec (ns.drop i) := by
        have : ∀ (k : Nat) (l : List Int), Dec l → Dec (l.drop k) := by
          intro k
          induction k with
          | zero => intro l h; exact h
          | succ k ih =>
            intro l h
            cases l with
            | nil => exact trivial
            | cons b t => exact ih t h.2
        exact this i ns hS.dec
      rw [edrop] at hdec
      have h0 : 0 ≤ hd (ns.drop (i + 1)) := hdec.2.hd0
      have h1 : hd (ns.drop (i + 1)) ≤ ns[i] := hdec.1
      have h10 : ns[i] ≤ 10 := (hS.le _ (List.getElem_mem hi)).2
      generalize eh : hd (ns.drop (i + 1)) = h at eg h0 h1
      have sT := sm_new sm nT (o := .tup [.int (i : Nat), .int ns[i]])
      have nF1 : F ≠ T1 := ne_of_none eF nT
      -- at, row = the pair
      refine ⟨T1, _, rfl, SqT.of upd_same, rfl, .int (i : Nat), [.int ns[i]], rfl, .int ns[i], [], rfl, rfl, ?_⟩
      -- least
      refine ⟨a, ns, i, rfl, rfl, sT _ _ hT, ?_⟩
      rw [eh]
      -- lots
      refine ⟨_, rfl, _, rfl, ns[i], h, rfl, rfl, ns[i] - h, 1, rfl, rfl, _, rfl, RgOk.of_le (by omega) (by omega) (by omega) (by omega), fun Lq nLq => ?_⟩
      rw [rgV_rg]
      have lenL : (rg (ns[i] - h + 1)).length ≤ 11 := by
        rw [rg_length]
        omega
      have mulL := few_mul few h0 h1
      have plenL := few.plen h0 h1
      have fewN : Few h (Kos.step ns[i] h f) := few.next h0 h1
      have elen := step_len ns[i] h f
      unfold Kos.step at eg fewN
      generalize hL : rg (ns[i] - h + 1) = L at lenL mulL plenL eg fewN
      have s4 := sm_new sT nLq (o := .lst (L.map V.int))
      have eF4 : upd (upd H1 T1 (.tup [.int (i : Nat), .int ns[i]])) Lq (.lst (L.map V.int)) F = some (.lst vs) := by
        rw [upd_ne (ne_of_none (show upd H1 T1 (.tup [.int (i : Nat), .int ns[i]]) F = some (.lst vs) by rw [upd_ne nF1]; exact eF) nLq), upd_ne nF1]
        exact eF
      have pF4 : Paired (FdAt (upd (upd H1 T1 (.tup [.int (i : Nat), .int ns[i]])) Lq (.lst (L.map V.int)))) vs f := fd_keep (sm_t (sm_new (sm_new (Same.refl H1) nT) nLq)) pF
      have eL4 : upd (upd H1 T1 (.tup [.int (i : Nat), .int ns[i]])) Lq (.lst (L.map V.int)) Lq = some (.lst (L.map V.int)) := upd_same
      generalize upd (upd H1 T1 (.tup [.int (i : Nat), .int ns[i]])) Lq (.lst (L.map V.int)) = H4 at s4 eF4 pF4 eL4
      -- pairs
      refine ⟨.ref F, rfl, F, rfl, ⟨vs, SqL.of eF4⟩, fun D2 nD2 => turns (walk_list (xs := vs)) (fun i H' => Same H4 H' ∧ ∃ us, H' D2 = some (.lst us) ∧ Paired (PrAt H') us (Kos.pairsOf (f.take i) L))
        ⟨same_upd nD2, [], upd_same, .nil⟩ (fun i H' _ h => SqL.of (h.1 _ _ eF4)) (fun i2 x H5' H5 hi2 h5 hy => ?_) (fun H5 h5 => ?_)⟩
      · obtain ⟨rfl, hx⟩ := hy
        obtain ⟨sm5, us, eD5, pD5⟩ := h5
        obtain ⟨p, hp, t, A5, rfl, et, eA⟩ := paired_at pF4 hx
        have hif : i2 < f.length := (List.getElem?_eq_some_iff.mp hp).1
        refine ⟨t, _, rfl, SqT.of (sm5 _ _ et), rfl, .ref A5, [.int p.2], rfl, .int p.2, [], rfl, rfl, rfl, yesT ?_⟩
        refine ⟨.ref Lq, rfl, Lq, rfl, ⟨_, SqL.of (sm5 _ _ eL4)⟩, turns (walk_list (xs := L.map V.int)) (fun j H' => Same H4 H' ∧ ∃ us, H' D2 = some (.lst us) ∧ Paired (PrAt H') us (part f L i2 j))
          ⟨sm5, us, eD5, by rw [part_zero]; exact pD5⟩ (fun i H' _ h => SqL.of (h.1 _ _ eL4)) (fun j y H6' H6 hj h6 hy6 => ?_) (fun H6 h6 => ?_)⟩
        · obtain ⟨rfl, hy6⟩ := hy6
          obtain ⟨sm6, us6, eD6, pD6⟩ := h6
          rw [List.getElem?_map] at hy6
          obtain ⟨x, hx6, rfl⟩ := Option.map_eq_some_iff.mp hy6
          rw [List.length_map] at hj
          refine ⟨rfl, _, rfl, _, rfl, x, p.2, rfl, rfl, _, rfl, ite2 (fun c => ?_) (fun c => ?_)⟩
          · have c : x ≤ p.2 := of_decide_eq_true c
            refine ⟨_, rfl, _, rfl, _, rfl, by show 3 ≤ sizeLine; decide, fun T6 nT6 => ?_⟩
            have nd6 : D2 ≠ T6 := ne_of_none eD6 nT6
            have ed6 : upd H6 T6 (.tup [.ref A5, .int p.2, .int x]) D2 = some (.lst us6) := by
              rw [upd_ne nd6]
              exact eD6
            have k6 : SameT H6 (upd (upd H6 T6 (.tup [.ref A5, .int p.2, .int x])) D2 (.lst (us6 ++ [.ref T6]))) := (sm_t (same_upd nT6)).trans (SameT.lst ed6)
            refine ⟨us6, ed6, ?_, sm_keep (sm_new sm6 nT6) nD2, _, upd_same, ?_⟩
            · rw [Paired.length pD6]
              exact Nat.lt_of_le_of_lt (part_len hif (Nat.le_of_lt hj)) (Nat.lt_of_le_of_lt mulL (by decide))
            · rw [part_step hp hx6, if_pos c]
              refine paired_snoc (pr_keep k6 pD6) ⟨T6, A5, rfl, ?_, k6 _ _ (sm6 _ _ eA)⟩
              rw [upd_ne nd6.symm]
              exact upd_same
          · have c : ¬ x ≤ p.2 := fun z => c (decide_eq_true z)
            refine ⟨sm6, us6, eD6, ?_⟩
            rw [part_step hp hx6, if_neg c]
            exact pD6
        · obtain ⟨sm6, us6, eD6, pD6⟩ := h6
          rw [List.length_map, part_next hif] at pD6
          exact ⟨sm6, us6, eD6, pD6⟩
      · obtain ⟨sm5, us, eD5, pD5⟩ := h5
        rw [Paired.length pF4, List.take_length] at pD5
        have lensP : ∀ p ∈ Kos.pairsOf f L, p.1.length ≤ i := fun p hp => by
          obtain ⟨q, hq, hp⟩ := List.mem_flatMap.mp hp
          obtain ⟨x, _, e⟩ := List.mem_map.mp hp
          rw [← e]
          exact lens q hq
        generalize Kos.pairsOf f L = ps at pD5 plenL eg fewN lensP
        have smH5 : Same H H5 := s4.trans sm5
        -- found
        refine ⟨.ref D2, rfl, D2, rfl, ⟨us, SqL.of eD5⟩, fun D3 nD3 => turns (walk_list (xs := us)) (fun k H' => Same H5 H' ∧ ∃ vs, H' D3 = some (.lst vs) ∧ Paired (FdAt H') vs (foundOf ns[i] (ps.take k)))
          ⟨same_upd nD3, [], upd_same, .nil⟩ (fun i H' _ h => SqL.of (h.1 _ _ eD5)) (fun i3 x H6' H6 hi3 h6 hy => ?_) (fun H6 h6 => ?_)⟩
        · obtain ⟨rfl, hx⟩ := hy
          obtain ⟨sm6, vs6, eD6, pD6⟩ := h6
          obtain ⟨p, hp, t, A6, rfl, et, eA⟩ := paired_at pD5 hx
          have hp10 : p.1.length ≤ i := lensP p (List.mem_of_getElem? hp)
          refine ⟨t, _, rfl, SqT.of (sm6 _ _ et), rfl, .ref A6, [.int p.2.1, .int p.2.2], rfl, .int p.2.1, [.int p.2.2], rfl, .int p.2.2, [], rfl, rfl, rfl, yesT ?_⟩
          refine ⟨_, rfl, A6, _, rfl, .inl (SqT.of (sm6 _ _ eA)), _, rfl, _, rfl, ns[i], p.2.2, rfl, rfl, ?_, fun T6 nT6 => ⟨_, rfl, _, rfl, p.2.1, p.2.2, rfl, rfl, by show 2 ≤ sizeLine; decide, fun T7 nT7 => ?_⟩⟩
          · rw [List.length_append, List.length_map]
            exact Nat.le_of_lt (small1000 (by show p.1.length + 1 ≤ 1000; omega))
          have nd6 : D3 ≠ T6 := ne_of_none eD6 nT6
          have ed6 : upd H6 T6 (.tup (p.1.map V.int ++ [.int (ns[i] - p.2.2)])) D3 = some (.lst vs6) := by
            rw [upd_ne nd6]
            exact eD6
          have nd7 : D3 ≠ T7 := ne_of_none ed6 nT7
          have n67 : T6 ≠ T7 := fun z => by
            rw [← z, upd_same] at nT7
            cases nT7
          have ed7 : upd (upd H6 T6 (.tup (p.1.map V.int ++ [.int (ns[i] - p.2.2)]))) T7 (.tup [.ref T6, .int (p.2.1 - p.2.2)]) D3 = some (.lst vs6) := by
            rw [upd_ne nd7]
            exact ed6
          have k7 := ((sm_t (same_upd nT6)).trans (sm_t (same_upd nT7))).trans (SameT.lst (ys := vs6 ++ [.ref T7]) ed7)
          refine ⟨vs6, ed7, ?_, sm_keep (sm_new (sm_new sm6 nT6) nT7) nD3, _, upd_same, ?_⟩
          · rw [Paired.length pD6]
            unfold foundOf
            rw [List.length_map, List.length_take]
            exact Nat.lt_of_le_of_lt (Nat.le_trans (Nat.min_le_right _ _) plenL) (by decide)
          · rw [found_step hp]
            refine paired_snoc (fd_keep k7 pD6) ⟨T7, T6, rfl, ?_, ?_⟩
            · rw [upd_ne nd7.symm]
              exact upd_same
            · show upd _ D3 _ T6 = some (.tup ((p.1 ++ [ns[i] - p.2.2]).map V.int))
              rw [upd_ne nd6.symm, upd_ne n67, upd_same, List.map_append]
              rfl
        · obtain ⟨sm6, vs6, eD6, pD6⟩ := h6
          rw [Paired.length pD5, List.take_length] at pD6
          refine ⟨D3, vs6, foundOf ns[i] ps, _, _, _, _, _, rfl, smH5.trans sm6, smH5.free nD3, eD6, pD6, eg, ?_, fun p hp => ?_⟩
          · exact fewN
          · obtain ⟨p', hp', e⟩ := List.mem_map.mp hp
            rw [← e]
            show (p'.1 ++ [ns[i] - p'.2.2]).length ≤ i + 1
            rw [List.length_append]
            exact Nat.add_le_add_right (lensP p' hp') 1
    · -- the end
      obtain ⟨F, vs, f, y3, y4, y5, y6, y7, rfl, sm, nF, eF, pF, eg, few, lens⟩ := h
      rw [List.length_map] at eg few lens
      rw [List.drop_of_length_le (Nat.le_refl _)] at eg few
      have eg : f = goS ns [([], m)] := eg
      have flen := few.len
      have es : strip ns m = ends f := by
        rw [eg]
        rfl
      rw [es] at q
      refine ⟨.ref F, rfl, F, rfl, ⟨vs, SqL.of eF⟩, fun D2 nD2 => turns (walk_list (xs := vs)) (fun i H1 => Same H' H1 ∧ ∃ us, H1 D2 = some (.lst us) ∧ Paired (ShAt H1) us (ends (f.take i)))
        ⟨same_upd nD2, [], upd_same, .nil⟩ (fun i H1 _ h => SqL.of (h.1 _ _ eF)) (fun i x H1' H1 hi h1 hy => ?_) (fun H1 h1 => ?_)⟩
      · obtain ⟨rfl, hx⟩ := hy
        obtain ⟨sm1, us, eD1, pD1⟩ := h1
        obtain ⟨p, hp, t, A1, rfl, et, eA⟩ := paired_at pF hx
        refine ⟨t, _, rfl, SqT.of (sm1 _ _ et), rfl, .ref A1, [.int p.2], rfl, .int p.2, [], rfl, rfl, rfl, _, rfl, rfl, _, rfl, ite2 (fun c => ?_) (fun c => ?_)⟩
        · have c : p.2 = 0 := V.int.inj (of_decide_eq_true c)
          have p10 : p.1.length ≤ 10 := Nat.le_trans (lens p (List.mem_of_getElem? hp)) hS.len
          refine ⟨.ref A1, rfl, A1, rfl, ⟨_, SqT.of (sm1 _ _ eA)⟩, fun D3 nD3 => turns (walk_tup (xs := p.1.map V.int)) (fun k H2 => Same H1 H2 ∧ H2 D3 = some (.lst ((trim (p.1.take k)).map V.int)))
            ⟨same_upd nD3, upd_same⟩ (fun k H2 _ h => SqT.of (h.1 _ _ (sm1 _ _ eA))) (fun k y H2' H2 hk h2 hy2 => ?_) (fun H2 h2 => ?_)⟩
          · obtain ⟨rfl, hy2⟩ := hy2
            obtain ⟨sm2, eD2⟩ := h2
            rw [List.getElem?_map] at hy2
            obtain ⟨x, hx2, rfl⟩ := Option.map_eq_some_iff.mp hy2
            refine ⟨rfl, _, rfl, x, 0, rfl, rfl, _, rfl, ite2 (fun c2 => ?_) (fun c2 => ?_)⟩
            · have c2 : 0 < x := of_decide_eq_true c2
              refine ⟨_, rfl, _, eD2, ?_, sm_keep sm2 nD3, ?_⟩
              · rw [List.length_map]
                refine small1000 ?_
                have h3 : (trim (p.1.take k)).length ≤ (p.1.take k).length := List.length_filter_le _ _
                have h4 : (p.1.take k).length ≤ p.1.length := by
                  rw [List.length_take]
                  exact Nat.min_le_right _ _
                omega
              · rw [upd_same, trim_step hx2, if_pos c2, List.map_append]
                rfl
            · have c2 : ¬ 0 < x := fun z => c2 (decide_eq_true z)
              refine ⟨sm2, ?_⟩
              rw [trim_step hx2, if_neg c2]
              exact eD2
          · obtain ⟨sm2, eD2⟩ := h2
            rw [List.length_map, List.take_length] at eD2
            refine ⟨D3, _, rfl, .inl ⟨SqL.of eD2, fun T3 nT3 => ?_⟩⟩
            have sm3 := sm1.trans sm2
            have eU : H2 D2 = some (.lst us) := sm2 _ _ eD1
            have nd : D2 ≠ T3 := ne_of_none eU nT3
            have ed : upd H2 T3 (.tup ((trim p.1).map V.int)) D2 = some (.lst us) := by
              rw [upd_ne nd]
              exact eU
            have k3 := ((sm_t sm2).trans (sm_t (same_upd nT3))).trans (SameT.lst (ys := us ++ [.ref T3]) ed)
            refine ⟨us, ed, ?_, sm_keep (sm_new sm3 nT3) nD2, _, upd_same, ?_⟩
            · rw [Paired.length pD1]
              refine Nat.lt_of_le_of_lt (Nat.le_trans (ends_len _) ?_) (show 1024 < sizeLine by decide)
              rw [List.length_take]
              exact Nat.le_trans (Nat.min_le_right _ _) flen
            · rw [ends_step hp, if_pos c]
              refine paired_snoc (sh_keep k3 pD1) ⟨T3, rfl, ?_⟩
              show upd _ D2 _ T3 = _
              rw [upd_ne nd.symm]
              exact upd_same
        · have c : ¬ p.2 = 0 := fun z => c (by rw [z]; exact decide_eq_true rfl)
          refine ⟨sm1, us, eD1, ?_⟩
          rw [ends_step hp, if_neg c]
          exact pD1
      · obtain ⟨sm1, us, eD1, pD1⟩ := h1
        rw [Paired.length pF, List.take_length] at pD1
        exact q H1 D2 us (sm.trans sm1) (sm.free nD2) eD1 pD1
end
end Wk

/-! Wk4: number_of, count_fillings. -/
namespace Wk
open PySem PySem.Spec PyProof.Rows L2 KR Kos

/-! ### a dict from shapes to numbers, as it stands -/
abbrev ky (s : List Int) : List Key := s.map Sum.inl
def encD (D : Dct) : List (List Key × V) := D.map fun p => (ky p.1, V.int p.2)
theorem ky_inj {s t : List Int} (h : ky s = ky t) : s = t := (List.map_inj_right fun _ _ e => Sum.inl.inj e).mp h
theorem ky_kV (s : List Int) : (ky s).map kV = s.map V.int := by
  rw [List.map_map]
  rfl
theorem valV_enc (s : List Int) : ∀ D : Dct, valV (encD D) (ky s) = (dval D s).map V.int
  | [] => rfl
  | (a, x) :: r => by
    have ih := valV_enc s r
    show valV ((ky a, V.int x) :: encD r) (ky s) = _
    unfold dval
    by_cases e : a = s
    · rw [if_pos e, valV_pos (p := (ky a, V.int x)) (by rw [e])]
      rfl
    · rw [if_neg e, valV_neg (p := (ky a, V.int x)) fun z => e (ky_inj z), ih]
theorem putK_eq {p : List Key × V} {r : List (List Key × V)} {k : List Key} {v : V} (e : p.1 = k) (h : ∀ q ∈ r, q.1 ≠ k) : putK (p :: r) k v = (k, v) :: r := by
  unfold putK
  rw [List.any_cons, decide_eq_true e, Bool.true_or, if_pos rfl, List.map_cons, if_pos e, e]
  congr 1
  have : ∀ q ∈ r, (if q.1 = k then (q.1, v) else q) = q := fun q hq => if_neg (h q hq)
  rw [List.map_congr_left this, List.map_id']
theorem putK_ne {p : List Key × V} {r : List (List Key × V)} {k : List Key} {v : V} (e : p.1 ≠ k) : putK (p :: r) k v = p :: putK r k v := by
  unfold putK
  rw [List.any_cons, decide_eq_false e, Bool.false_or, List.map_cons, if_neg e]
  split <;> rfl
theorem putK_enc {s : List Int} {v : Int} : ∀ {D : Dct}, (D.map (·.1)).Nodup → putK (encD D) (ky s) (.int v) = encD (dput D s v)
  | [], _ => rfl
  | (a, x) :: r, h => by
    rw [List.map_cons, List.nodup_cons] at h
    show putK ((ky a, V.int x) :: encD r) (ky s) (.int v) = _
    unfold dput
    by_cases e : a = s
    · rw [if_pos e, putK_eq (by rw [e]) fun q hq z => ?_]
      · show (ky s, V.int v) :: encD r = (ky a, V.int v) :: encD r
        rw [e]
      · obtain ⟨p, hp, eq⟩ := List.mem_map.mp hq
        rw [← eq] at z
        exact h.1 (by rw [e, ← ky_inj z]; exact List.mem_map.mpr ⟨p, hp, rfl⟩)
    · rw [if_neg e, putK_ne fun z => e (ky_inj z), putK_enc h.2]
      rfl
structure OkD (D : Dct) : Prop where
  nd : (D.map (·.1)).Nodup
  shp : ∀ k ∈ D.map (·.1), Shp k
theorem OkD.few {D : Dct} (h : OkD D) : (encD D).length < sizeLine := by
  have := keys_few h.nd h.shp
  rw [List.length_map] at this
  unfold encD
  rw [List.length_map]
  exact Nat.lt_of_le_of_lt this (by decide)
theorem OkD.put {D : Dct} {s : List Int} {v : Int} (h : OkD D) (hs : Shp s) : OkD (dput D s v) := ⟨dput_nodup h.nd, fun k hk => by
  rcases dput_keys hk with e | e
  · rw [e]; exact hs
  · exact h.shp k e⟩
theorem S_take {D : Dct} {i : Nat} {k : List Int} {c : Int} {ψ : List Int → Int} (h : D[i]? = some (k, c)) : S (D.take (i + 1)) ψ = S (D.take i) ψ + c * ψ k := by
  unfold S
  rw [List.take_add_one, h, Option.toList_some, List.map_append, List.sum_append_int, List.map_cons, List.map_nil, List.sum_cons, List.sum_nil, Int.add_zero]
/-- all but l as it was -/
def SameX (l : Addr) (H H' : Hp) : Prop := ∀ b o, b ≠ l → H b = some o → H' b = some o

abbrev nNumber : List Str := ["shape", "sums", "found", "many", "later", "one", "count", "shorter"]
theorem scNumber : FnScope nNumber ["shape", "sums"] (defScope sNumber) := ⟨rfl, rfl, rfl, by decide +kernel, rfl, by decide +kernel, by decide +kernel⟩
theorem scCount : FnScope ["shape", "sums"] ["shape", "sums"] (defScope sCount) := ⟨rfl, rfl, rfl, by decide +kernel, rfl, by decide +kernel, by decide +kernel⟩

section
variable {P : Program} {w : World} {K : PySem.W.Frag} {mg : Str → Option Value} {base : Heap}
def spNumber : Sp := fun vs H Q _ => ∃ (a b : Addr) (ns ms : List Int), vs = [.ref a, .ref b] ∧ TupI H a ns ∧ Shp ns ∧ TupI H b ms ∧ (∀ x ∈ ms, 0 ≤ x) ∧ ∀ H', Same H H' → Q (.int (Kr ms.reverse ns)) H'
set_option maxHeartbeats 1000000 in
theorem ok_number {f fS : Addr} {fd fdS : FuncData} (D : Df K mg "number_of" sNumber ["shape", "sums"] f fd) (DS : Df K mg "without_strip" sStrip ["shape", "many"] fS fdS)
    (GS : FnOk P w K mg base CX0 1 fS fdS ["shape", "many"] spStrip) : FnOk P w K mg base CX0 2 f fd ["shape", "sums"] spNumber := by
  refine D.F.ok scNumber (fun vs H Q E h => ?_) (fun cdv A outer s H vs Q E hr h => ?_)
  · obtain ⟨a, b, ns, ms, rfl, _⟩ := h
    rfl
  · obtain ⟨a, b, ns, ms, rfl, hT, hS, hM, hm, q⟩ := h
    have nd := scNumber.nd
    have hu := hu_of hr
    refine ⟨_, pss_cons (ps_set (i := 2) nd rfl (.inl rfl) (pe_disp1 hu (pv 0) pe_int))
      (pss_cons (ps_for PassesOwn.never rfl (pi_tup (pe_revT (pv 1))) (pg_name (i := 3) nd rfl (.inl rfl))
        (pss_cons (ps_set (i := 4) nd rfl (.inl rfl) pe_dnewT)
        (pss_cons (ps_lock (ps_for PassesOwn.never rfl (pi_itD (pv 2)) (pg_tup rfl (pgs_cons (pg_name (i := 5) nd rfl (.inl rfl)) (pgs_cons (pg_name (i := 6) nd rfl (.inl rfl)) pgs_nil)))
          (pss_one (ps_for PassesOwn.never rfl (pi_list (pe_call GS hr (by rfl) DS.g DS.F.kp DS.b .nil pass0 (pa_cons (pv 5) (pa_cons (pv 3) pa_nil)))) (pg_name (i := 7) nd rfl (.inl rfl))
            (pss_one (ps_dput hu (pv 4) (pv 7) (pe_op op_add (pe_dget2 hu (pv 4) (pv 7) pe_int ⟨rfl, rfl, rfl, rfl⟩) (pv 6)) rfl))))))
        (pss_one (ps_set (i := 2) nd rfl (.inl rfl) (pv 4))))))
      (pss_one (ps_ret (pe_dget2 hu (pv 2) (pe_tup pa_nil) pe_int ⟨rfl, rfl, rfl, rfl⟩)))), ?_⟩
    -- found = {shape: 1}
    refine fun d0 nd0 => ⟨_, rfl, a, ky ns, rfl, by rw [ky_kV]; exact same_upd nd0 _ _ hT, upd_same, ?_⟩
    rw [upd_upd]
    have s0 := same_upd nd0 (o := .dT [(ky ns, .int 1)])
    -- sums[::-1]
    refine ⟨.ref b, rfl, b, _, rfl, SqT.of (s0 _ _ hM), fun R nR => ⟨R, rfl, ⟨_, SqT.of upd_same⟩, ?_⟩⟩
    have erev : (ms.map V.int).reverse = ms.reverse.map V.int := by rw [List.map_reverse]
    rw [erev]
    generalize hrs : ms.reverse = rs at q
    have hm' : ∀ x ∈ rs, 0 ≤ x := fun x hx => hm x (by rw [← hrs] at hx; exact List.mem_reverse.mp hx)
    have nRd : d0 ≠ R := ne_of_none upd_same nR
    refine for_tup (xs := rs.map V.int) (fun i σ H' => ∃ d Dc y3 y4 y5 y6 y7, σ = [some (.ref a), some (.ref b), some (.ref d), y3, y4, y5, y6, y7] ∧ Same H H' ∧ H' R = some (.tup (rs.map V.int)) ∧ H d = none ∧
      H' d = some (.dT (encD Dc)) ∧ OkD Dc ∧ S Dc (Kr (rs.drop i)) = Kr rs ns)
      ⟨d0, [(ns, 1)], none, none, none, none, none, rfl, sm_new s0 nR, upd_same, nd0, (upd_ne nRd).trans upd_same, ⟨by simp, fun k hk => ?_⟩, ?_⟩ (fun i σ H' _ h => ?_) (fun i x σ H1 hx h => ?_) (fun σ H' h => ?_)
    · have e : k = ns := by simpa using hk
      rw [e]
      exact hS
    · show 1 * Kr rs ns + 0 = Kr rs ns
      omega
    · obtain ⟨d, Dc, y3, y4, y5, y6, y7, _, _, eR, _⟩ := h
      exact SqT.of eR
    · -- a turn of the outer loop
      obtain ⟨d, Dc, y3, y4, y5, y6, y7, rfl, sm, eR, nd1, eD, okD, eS⟩ := h
      rw [List.getElem?_map] at hx
      obtain ⟨m, hm1, rfl⟩ := Option.map_eq_some_iff.mp hx
      have h0 : 0 ≤ m := hm' m (List.mem_of_getElem? hm1)
      have hi : i < rs.length := (List.getElem?_eq_some_iff.mp hm1).1
      have em : rs[i] = m := by
        rw [List.getElem?_eq_getElem hi] at hm1
        exact Option.some.inj hm1
      rw [List.drop_eq_getElem_cons hi, em] at eS
      -- later = {}
      refine fun l nl => ?_
      have nld : d ≠ l := ne_of_none eD nl
      have nlR : R ≠ l := ne_of_none eR nl
      refine ⟨d, _, (upd_ne nld).trans eD, trivial, fun od => ?_⟩
      -- the heap with the lock, but without the new dict
      have sb : Same (upd H1 d (.frz od (.dT (encD Dc)))) (upd (upd H1 l (.dT [])) d (.frz od (.dT (encD Dc)))) := fun c z e => by
        by_cases hc : c = d
        · rw [hc, upd_same] at e ⊢
          exact e
        · rw [upd_ne hc] at e ⊢
          rw [upd_ne (ne_of_none e nl)]
          exact e
      have sHb : Same H (upd H1 d (.frz od (.dT (encD Dc)))) := sm_keep sm nd1
      have nlb : upd H1 d (.frz od (.dT (encD Dc))) l = none := (upd_ne nld.symm).trans nl
      have edb : upd H1 d (.frz od (.dT (encD Dc))) d = some (.frz od (.dT (encD Dc))) := upd_same
      have nRd1 : R ≠ d := ne_of eR eD (fun z => nomatch z)
      have eRb : upd H1 d (.frz od (.dT (encD Dc))) R = some (.tup (rs.map V.int)) := (upd_ne nRd1).trans eR
      have el : upd (upd H1 l (.dT [])) d (.frz od (.dT (encD Dc))) l = some (.dT (encD [])) := (upd_ne nld.symm).trans upd_same
      have nlH : H l = none := sm.free nl
      generalize upd H1 d (.frz od (.dT (encD Dc))) = Hb at sb sHb nlb edb eRb
      generalize upd (upd H1 l (.dT [])) d (.frz od (.dT (encD Dc))) = H2 at sb el
      refine ⟨.ref d, rfl, d, od, encD Dc, rfl, sb _ _ edb, for_it walk_D (fun j σ H' => ∃ Lc y5 y6 y7, σ = [some (.ref a), some (.ref b), some (.ref d), some (.int m), some (.ref l), y5, y6, y7] ∧ Same Hb H' ∧
        H' l = some (.dT (encD Lc)) ∧ OkD Lc ∧ ∀ φ, S Lc φ = S (Dc.take j) fun k => ((strip k m).map φ).sum)
        ⟨[], y5, y6, y7, rfl, sb, el, ⟨List.nodup_nil, fun k hk => nomatch hk⟩, fun φ => rfl⟩ (fun j σ H' _ h => ?_) (fun j x σ H3' H3 hj h hy => ?_) (fun σ H' h => ?_)⟩
      · obtain ⟨Lc, z5, z6, z7, _, sm3, _⟩ := h
        exact sm3 _ _ edb
      · -- a turn of the middle loop
        obtain ⟨Lc, z5, z6, z7, rfl, sm3, eL, okL, eφ⟩ := h
        obtain ⟨T1, q1, k', v', hkv, rfl, nT1, eq1, rfl⟩ := hy
        have hjd : j < Dc.length := by
          unfold encD at hj
          rw [List.length_map] at hj
          exact hj
        obtain ⟨⟨k, c⟩, hDc⟩ : ∃ p, Dc[j]? = some p := ⟨Dc[j], List.getElem?_eq_getElem hjd⟩
        have hkv : (Dc.map fun p => (ky p.1, V.int p.2))[j]? = some (k', v') := hkv
        rw [List.getElem?_map, hDc] at hkv
        have hkv : (ky k, V.int c) = (k', v') := Option.some.inj hkv
        obtain ⟨rfl, rfl⟩ := Prod.mk.inj hkv
        have hSk : Shp k := okD.shp k (List.mem_map.mpr ⟨(k, c), List.mem_of_getElem? hDc, rfl⟩)
        rw [ky_kV] at eq1
        have sT : Same H3' (upd H3' T1 (.tup [.ref q1, .int c])) := same_upd nT1
        have sm4 := sm3.trans sT
        have eL4 := sT _ _ eL
        have eq4 := sT _ _ eq1
        -- one, count = the pair
        refine ⟨T1, _, rfl, SqT.of upd_same, rfl, .ref q1, [.int c], rfl, .int c, [], rfl, rfl, ?_⟩
        generalize upd H3' T1 (.tup [.ref q1, .int c]) = H4 at sm4 eL4 eq4
        -- for shorter in without_strip(one, many)
        refine ⟨_, rfl, _, rfl, q1, k, m, rfl, eq4, hSk, fun H5 p vs' sm5 np ep pp => ⟨p, rfl, ⟨vs', SqL.of ep⟩, ?_⟩⟩
        have npl : p ≠ l := fun z => by
          rw [z, eL4] at np
          cases np
        have eL5 := sm5 _ _ eL4
        have smb5 := sm4.trans sm5
        refine for_list (xs := vs') (fun j3 σ H' => ∃ Lc y7, σ = [some (.ref a), some (.ref b), some (.ref d), some (.int m), some (.ref l), some (.ref q1), some (.int c), y7] ∧ SameX l H5 H' ∧ H' l = some (.dT (encD Lc)) ∧ OkD Lc ∧
          ∀ φ, S Lc φ = (S (Dc.take j) fun k => ((strip k m).map φ).sum) + c * (((strip k m).take j3).map φ).sum)
          ⟨Lc, z7, rfl, fun _ _ _ e => e, eL5, okL, fun φ => ?_⟩ (fun j3 σ H' _ h => ?_) (fun j3 x σ H6 hx h => ?_) (fun σ H6 h => ?_)
        · rw [eφ φ, List.take_zero]
          show _ = _ + c * 0
          omega
        · obtain ⟨_, _, _, sx, _⟩ := h
          exact SqL.of (sx _ _ npl ep)
        · obtain ⟨Lc6, y7', rfl, sx, eL6, okL6, eφ6⟩ := h
          obtain ⟨s', hs', t, rfl, et⟩ := paired_at pp hx
          have ntl : t ≠ l := ne_of et eL5 (fun z => nomatch z)
          have et6 : H6 t = some (.tup ((ky s').map kV)) := by
            rw [ky_kV]
            exact sx _ _ ntl et
          have hSs : Shp s' := strip_shp hSk h0 (List.mem_of_getElem? hs')
          have eg : (valV (encD Lc6) (ky s')).getD (.int 0) = .int ((dval Lc6 s').getD 0) := by
            rw [valV_enc]
            cases dval Lc6 s' <;> rfl
          refine ⟨_, rfl, l, rfl, .inr ⟨_, .inl eL6⟩, _, rfl, _, DGet.t (k := ky s') eL6 et6, _, rfl, _, c, eg, rfl, _, rfl, _, rfl, l, _, rfl, DPut.t (k := ky s') eL6 et6 okL6.few, ?_⟩
          rw [putK_enc okL6.nd]
          refine ⟨_, _, rfl, fun z o hz e => ?_, upd_same, okL6.put hSs, fun φ => ?_⟩
          · rw [upd_ne hz]
            exact sx z o hz e
          · rw [S_put, eφ6 φ, List.take_add_one, hs', Option.toList_some, List.map_append, List.sum_append_int, List.map_cons, List.map_nil, List.sum_cons, List.sum_nil, Int.add_zero, Int.mul_add]
            omega
        · obtain ⟨Lc6, y7', rfl, sx, eL6, okL6, eφ6⟩ := h
          refine ⟨Lc6, _, _, _, rfl, fun z o e => sx z o (ne_of_none e nlb) (smb5 z o e), eL6, okL6, fun φ => ?_⟩
          rw [eφ6 φ, Paired.length pp, List.take_length, S_take hDc]
      · -- found = later
        obtain ⟨Lc, z5, z6, z7, rfl, sm3, eL, okL, eφ⟩ := h
        refine ⟨sm3 _ _ edb, _, rfl, l, Lc, _, _, _, _, _, rfl, sm_keep (sHb.trans sm3) nd1, (upd_ne nRd1).trans (sm3 _ _ eRb), nlH, (upd_ne nld.symm).trans eL, okL, ?_⟩
        rw [eφ]
        have full : Dc.take (encD Dc).length = Dc := by
          unfold encD
          rw [List.length_map, List.take_length]
        rw [full, ← eS]
        exact S_congr fun k hk => strip_sum (okD.shp k hk).dec
    · -- return found.get((), 0)
      obtain ⟨d, Dc, y3, y4, y5, y6, y7, rfl, sm, eR, nd1, eD, okD, eS⟩ := h
      refine ⟨_, rfl, d, rfl, .inr ⟨_, .inl eD⟩, Nat.zero_le _, fun t nt => ⟨_, DGet.t (k := ky []) ((same_upd nt) _ _ eD) upd_same, ?_⟩⟩
      rw [List.length_map, List.drop_length, S_end okD.nd okD.shp] at eS
      have eg : (valV (encD Dc) (ky [])).getD (.int 0) = .int (Kr rs ns) := by
        rw [valV_enc, ← eS]
        cases dval Dc [] <;> rfl
      rw [eg]
      exact q _ (sm_new sm nt)
def spCount : Sp := fun vs H Q _ => ∃ (a b : Addr) (ns ms : List Int), vs = [.ref a, .ref b] ∧ TupI H a ns ∧ Shp ns ∧ TupI H b ms ∧ ms.length ≤ 8 ∧ (∀ x ∈ ms, 0 ≤ x ∧ x ≤ 42) ∧ ms.sum = ns.sum ∧ ∀ H', Same H H' → Q (.int (Kr ms ns)) H'
theorem ok_count {f fR fC fN : Addr} {fd fdR fdC fdN : FuncData} (D : Df K mg "count_fillings" sCount ["shape", "sums"] f fd) (DR : Df K mg "require_shape" sReqShape ["shape"] fR fdR) (GR : FnOk P w K mg base CX0 4 fR fdR ["shape"] spReqShape)
    (DC : Df K mg "require_counts" sReqCounts ["sums"] fC fdC) (GC : FnOk P w K mg base CX0 3 fC fdC ["sums"] spReqCounts) (DN : Df K mg "number_of" sNumber ["shape", "sums"] fN fdN) (GN : FnOk P w K mg base CX0 2 fN fdN ["shape", "sums"] spNumber)
    (T : Txt mg) : FnOk P w K mg base CX0 5 f fd ["shape", "sums"] spCount := by
  refine D.F.ok scCount (fun vs H Q E h => ?_) (fun cdv A outer s H vs Q E hr h => ?_)
  · obtain ⟨a, b, ns, ms, rfl, _⟩ := h
    rfl
  · obtain ⟨a, b, ns, ms, rfl, hT, hS, hM, hl, hm, es, q⟩ := h
    refine ⟨_, pss_cons (ps_expr (pe_call GR hr (by rfl) DR.g DR.F.kp DR.b .nil pass0 (pa_cons (pv 0) pa_nil)))
      (pss_cons (ps_expr (pe_call GC (hr.mono (by decide)) (by rfl) DC.g DC.F.kp DC.b .nil pass0 (pa_cons (pv 1) pa_nil)))
      (pss_one (ps_ret (pe_ifExp (pt_cmpR op_eq (pe_callB (cr_sumT rfl) (by rfl) T.sum PyProof.Rows.boot_sum (pa_cons (pv 1) pa_nil)) (pe_callB (cr_sumT rfl) (by rfl) T.sum PyProof.Rows.boot_sum (pa_cons (pv 0) pa_nil)) (nomark _))
        (pe_call GN (hr.mono (by decide)) (by rfl) DN.g DN.F.kp DN.b .nil pass0 (pa_cons (pv 0) (pa_cons (pv 1) pa_nil))) pe_int)))), ?_⟩
    refine ⟨_, rfl, a, ns, rfl, hT, hS, fun H1 s1 => ⟨_, rfl, b, ms, rfl, s1 _ _ hM, hl, hm, fun H2 s2 => ?_⟩⟩
    have s3 := s1.trans s2
    refine ⟨_, rfl, b, ms, rfl, SqT.of (s3 _ _ hM), _, rfl, a, ns, rfl, SqT.of (s3 _ _ hT), rfl, _, rfl, ?_⟩
    rw [es, decide_eq_true rfl]
    refine iteT ⟨_, rfl, _, rfl, a, b, ns, ms, rfl, s3 _ _ hT, hS, s3 _ _ hM, fun x hx => (hm x hx).1, fun H3 s4 => ?_⟩
    rw [Kr_rev hS.dec]
    exact q H3 (s3.trans s4)
end
end Wk

/-! Wk5: the law's draws: _law_heap, _law_less. -/
namespace Wk
open PySem PySem.Spec PyProof.Rows L2 KR Kos

abbrev nHeap : List Str := ["_law_script", "_law_at", "_law_cell", "_law_great", "_law_seed"]
theorem scHeap : FnScope nHeap ["_law_script", "_law_at"] (defScope sHeap) := ⟨rfl, rfl, rfl, by decide +kernel, rfl, by decide +kernel, by decide +kernel⟩
abbrev nLess : List Str := ["_law_heap_here", "_law_size", "_law_found", "_law_one", "_law_two"]
theorem scLess : FnScope nLess ["_law_heap_here", "_law_size"] (defScope sLess) := ⟨rfl, rfl, rfl, by decide +kernel, rfl, by decide +kernel, by decide +kernel⟩
theorem m588 : (0 : Int) < (10 ^ (49 : Int).toNat) ^ (12 : Int).toNat := by decide +kernel
theorem m115 : (0 : Int) < 1152921504606846883 := by decide
theorem m230 : (0 : Int) < 2305843009213693921 := by decide
theorem m231 : (0 : Int) < 2305843009213693907 := by decide
/-- three ints -/
abbrev three (x y z : Int) : HO := .lst [.int x, .int y, .int z]
/-- some int -/
def tCell (K : PySem.W.Frag) : TE := fun σ H Q => ∃ (a : Addr) (cs : List Int) (k : Nat), σ[0]? = some (some (.ref a)) ∧ σ[1]? = some (some (.int k)) ∧ SqL K H a (cs.map V.int) ∧ ∀ c, Q (.int c) H
theorem cell_ok (K : PySem.W.Frag) (σ : L2.St) (H : Hp) (Q : VK) (h : tCell K σ H Q) :
    tIf (tTest (tOp (rI0 fun i j => .bl (decide (i < j))) (tVar 1) (tCB (fun xs H Q => ∃ p ys, xs = [V.ref p] ∧ (SqL K H p ys ∨ SqT K H p ys) ∧ Q (.int ys.length) H) (tCons (tVar 0) tNil))))
      (tOp (rIxL K) (tVar 0) (tVar 1)) (tOp (rI0 fun i j => .int (i + j)) (tOp (rI CMul fun i j => .int (i * j)) (tC (.int 71)) (tVar 1)) (tC (.int 29))) σ H Q := by
  obtain ⟨a, cs, k, h0, h1, hS, q⟩ := h
  refine ⟨_, h1, _, h0, a, _, rfl, .inl hS, _, _, rfl, rfl, _, rfl, ite2 (fun c => ?_) (fun c => ?_)⟩
  · have c : (k : Int) < ((cs.map V.int).length : Nat) := of_decide_eq_true c
    rw [List.length_map] at c
    have hk : k < cs.length := by omega
    exact ⟨_, h0, _, h1, a, _, k, .int cs[k], rfl, rfl, hS, atI_nat (by rw [List.getElem?_map, List.getElem?_eq_getElem hk]; rfl), q _⟩
  · exact ⟨_, h1, 71, k, rfl, rfl, .inl ⟨by decide, by decide⟩, _, 29, rfl, rfl, q _⟩

section
variable {P : Program} {w : World} {K : PySem.W.Frag} {mg : Str → Option Value} {base : Heap}
def spHeap (K : PySem.W.Frag) : Sp := fun vs H Q _ => ∃ (a : Addr) (cs : List Int) (k : Nat), vs = [.ref a, .int k] ∧ SqL K H a (cs.map V.int) ∧ ∀ H' p x y z, Same H H' → H p = none → H' p = some (three x y z) → Q (.ref p) H'
theorem ok_heap {f : Addr} {fd : FuncData} (D : Df K mg "_law_heap" sHeap ["_law_script", "_law_at"] f fd) (T : Txt mg) : FnOk P w K mg base CX0 1 f fd ["_law_script", "_law_at"] (spHeap K) := by
  refine D.F.ok scHeap (fun vs H Q E h => ?_) (fun cdv A outer s H vs Q E hr h => ?_)
  · obtain ⟨a, cs, k, rfl, _⟩ := h
    rfl
  · obtain ⟨a, cs, k, rfl, hS, q⟩ := h
    have nd := scHeap.nd
    refine ⟨_, pss_cons (ps_set (i := 2) nd rfl (.inl rfl) (pe_imp (pe_ifExp (pt_cmpR op_lt (pv 1) (pe_callB call_len_seq (by rfl) T.len PySem.boot_len (pa_cons (pv 0) pa_nil)) (nomark _)) (pe_ix ix_list (pv 0) (pv 1) (fun _ _ => rfl))
          (pe_op op_add (pe_op op_mul pe_int (pv 1)) pe_int)) (cell_ok K)))
      (pss_cons (ps_set (i := 3) nd rfl (.inl rfl) (pe_op op_mod (pe_callTy call_int1 (by rfl) T.int PyProof.Rows.boot_int (pa_cons (pe_callB call_abs (by rfl) T.abs boot_abs (pa_cons (pv 2) pa_nil)) pa_nil)) (pe_op op_powW (pe_op op_pow pe_int pe_int) pe_int)))
      (pss_cons (ps_set (i := 4) nd rfl (.inl rfl) (pe_op op_mod (pe_callTy call_int1 (by rfl) T.int PyProof.Rows.boot_int (pa_cons (pe_op op_add (pe_op op_add (pe_op op_add (pe_op op_mul (pe_op op_mod (pv 3) pe_int) pe_int) (pe_op op_mul pe_int (pv 1)))
          (pe_op op_mul pe_int (pe_callTy call_int1 (by rfl) T.int PyProof.Rows.boot_int (pa_cons (pe_cmpR op_lt (pv 2) pe_int (nomark _)) pa_nil)))) pe_int) pa_nil)) pe_int))
      (pss_one (ps_ret (pe_lst (pa_cons (pe_callB (call_max2 rfl) (by rfl) T.max PyProof.Rows.boot_max (pa_cons pe_int (pa_cons (pe_op op_sub (pv 3) (pe_op op_pow pe_int pe_int)) pa_nil))) (pa_cons (pv 4) (pa_cons pe_int pa_nil)))))))), ?_⟩
    refine ⟨a, cs, k, rfl, rfl, hS, fun c => ?_⟩
    refine ⟨_, rfl, c, rfl, .inl ⟨_, rfl, 10, 49, rfl, rfl, ⟨by decide, by decide, by decide⟩, _, 12, rfl, rfl, ⟨by decide, by decide +kernel⟩, _, _, rfl, rfl, m588, ?_⟩⟩
    dsimp only
    generalize (if c < 0 then -c else c) % (10 ^ (49 : Int).toNat) ^ (12 : Int).toNat = g
    have b1 := Int.emod_nonneg g (show (1152921504606846883 : Int) ≠ 0 by decide)
    have b2 := Int.emod_lt_of_pos g (show (0 : Int) < 1152921504606846883 by decide)
    refine ⟨_, rfl, g, _, rfl, rfl, m115, _, 91193, rfl, rfl, .inl ⟨Int.lt_of_lt_of_le (by decide) b1, Int.lt_trans b2 (by decide)⟩, _, rfl, 2749, k, rfl, rfl, .inl ⟨by decide, by decide⟩, _, _, rfl, rfl,
      _, rfl, c, 0, rfl, rfl, .inr ⟨_, rfl, 89, _, rfl, rfl, .inl ⟨by decide, by decide⟩, _, _, rfl, rfl, _, 13, rfl, rfl, .inl ⟨_, rfl, _, _, rfl, rfl, m115, ?_⟩⟩⟩
    refine ⟨_, rfl, 10, 18, rfl, rfl, ⟨by decide, by decide, by decide⟩, g, _, rfl, rfl, 0, _, rfl, _, rfl, by show 3 ≤ sizeLine; decide, fun p np => ?_⟩
    exact q _ p _ _ _ (same_upd np) np upd_same

def spLess : Sp := fun vs H Q _ => ∃ (p : Addr) (n x y z : Int), vs = [.ref p, .int n] ∧ H p = some (three x y z) ∧ 0 < n ∧ n ≤ 1000 ∧ ∀ r x' y' z', 0 ≤ r → r < n → Q (.int r) (upd H p (three x' y' z'))
theorem ok_less {f : Addr} {fd : FuncData} (D : Df K mg "_law_less" sLess ["_law_heap_here", "_law_size"] f fd) (T : Txt mg) : FnOk P w K mg base CX0 1 f fd ["_law_heap_here", "_law_size"] spLess := by
  refine D.F.ok scLess (fun vs H Q E h => ?_) (fun cdv A outer s H vs Q E hr h => ?_)
  · obtain ⟨p, n, x, y, z, rfl, _⟩ := h
    rfl
  · obtain ⟨p, n, x, y, z, rfl, hp, h1, h2, q⟩ := h
    have nd := scLess.nd
    refine ⟨_, pss_cons (ps_if (pt_cmpR op_gt (pe_ix ix_list (pv 0) pe_int (fun _ _ => rfl)) pe_int (nomark _))
        (pss_cons (ps_set (i := 2) nd rfl (.inl rfl) (pe_op op_mod (pe_callTy call_int1 (by rfl) T.int PyProof.Rows.boot_int (pa_cons (pe_ix ix_list (pv 0) pe_int (fun _ _ => rfl)) pa_nil)) (pv 1)))
        (pss_cons (ps_asg (pe_op op_fdiv (pe_ix ix_list (pv 0) pe_int (fun _ _ => rfl)) (pv 1)) (pg_sub (pv 0) pe_int set_list))
        (pss_one (ps_ret (pv 2))))) pss_nil)
      (pss_cons (ps_asg (pe_op op_add (pe_ix ix_list (pv 0) pe_int (fun _ _ => rfl)) pe_int) (pg_sub (pv 0) pe_int set_list))
      (pss_cons (ps_set (i := 3) nd rfl (.inl rfl) (pe_op op_mod (pe_callTy call_int1 (by rfl) T.int PyProof.Rows.boot_int (pa_cons (pe_op op_add (pe_ix ix_list (pv 0) pe_int (fun _ _ => rfl)) (pe_op op_mul pe_int (pe_ix ix_list (pv 0) pe_int (fun _ _ => rfl)))) pa_nil)) pe_int))
      (pss_cons (ps_set (i := 4) nd rfl (.inl rfl) (pe_op op_add (pe_op op_mul (pe_op op_mod (pe_callTy call_int1 (by rfl) T.int PyProof.Rows.boot_int (pa_cons (pe_op op_mul (pv 3) (pv 3)) pa_nil)) pe_int) (pv 3)) (pe_op op_mul pe_int (pe_ix ix_list (pv 0) pe_int (fun _ _ => rfl)))))
      (pss_one (ps_ret (pe_op op_mod (pe_callTy call_int1 (by rfl) T.int PyProof.Rows.boot_int (pa_cons (pe_op op_fdiv (pe_op op_mod (pe_callTy call_int1 (by rfl) T.int PyProof.Rows.boot_int (pa_cons (pv 4) pa_nil)) pe_int) pe_int) pa_nil)) (pv 1))))))), ?_⟩
    have e0 := Int.emod_nonneg x (show n ≠ 0 by omega)
    have e1 := Int.emod_lt_of_pos x h1
    refine ⟨_, rfl, p, _, 0, .int x, rfl, rfl, SqL.of hp, at_of (j := 0) rfl rfl, x, 0, rfl, rfl, _, rfl, ite2 (fun c => ?_) (fun c => ?_)⟩
    · refine ⟨_, rfl, p, _, 0, .int x, rfl, rfl, SqL.of hp, at_of (j := 0) rfl rfl, .inl ⟨x, rfl, _, rfl, x, n, rfl, rfl, h1, ?_⟩⟩
      refine ⟨_, rfl, p, _, 0, .int x, rfl, rfl, SqL.of hp, at_of (j := 0) rfl rfl, _, rfl, x, n, rfl, rfl, ⟨h1, by omega⟩, _, rfl, p, _, 0, 0, rfl, rfl, hp, rfl, _, rfl, ?_⟩
      exact q _ _ _ _ e0 e1
    · refine ⟨_, rfl, p, _, 2, .int z, rfl, rfl, SqL.of hp, at_of (j := 2) rfl rfl, z, 1, rfl, rfl, _, rfl, p, _, 2, 2, rfl, rfl, hp, rfl, ?_⟩
      have hp2 : upd H p (.lst ([V.int x, .int y, .int z].set 2 (.int (z + 1)))) p = some (three x y (z + 1)) := upd_same
      refine ⟨_, rfl, p, _, 1, .int y, rfl, rfl, SqL.of hp2, at_of (j := 1) rfl rfl, _, rfl, p, _, 2, .int (z + 1), rfl, rfl, SqL.of hp2, at_of (j := 2) rfl rfl, 777767777, z + 1, rfl, rfl, .inl ⟨by decide, by decide⟩, y, _, rfl, rfl, .inl ⟨_, rfl, _, _, rfl, rfl, m230, ?_⟩⟩
      have b1 := Int.emod_nonneg (y + 777767777 * (z + 1)) (show (2305843009213693921 : Int) ≠ 0 by decide)
      have b2 := Int.emod_lt_of_pos (y + 777767777 * (z + 1)) (show (0 : Int) < 2305843009213693921 by decide)
      dsimp only
      generalize (y + 777767777 * (z + 1)) % 2305843009213693921 = u at b1 b2
      have cu : -(2 ^ 64) < u ∧ u < 2 ^ 64 := ⟨Int.lt_of_lt_of_le (by decide) b1, Int.lt_trans b2 (by decide)⟩
      refine ⟨_, rfl, _, rfl, u, u, rfl, rfl, .inl cu, .inl ⟨_, rfl, _, _, rfl, rfl, m231, _, rfl, _, u, rfl, rfl, .inr cu, _, rfl, p, _, 2, .int (z + 1), rfl, rfl, SqL.of hp2, at_of (j := 2) rfl rfl, 4099, z + 1, rfl, rfl, .inl ⟨by decide, by decide⟩, _, _, rfl, rfl, ?_⟩⟩
      dsimp only
      generalize u * u % 2305843009213693907 * u + 4099 * (z + 1) = t
      refine ⟨_, rfl, .inl ⟨t, rfl, _, _, rfl, rfl, m115, _, 8191, rfl, rfl, ⟨by decide, by decide⟩, .inl ⟨_, rfl, _, rfl, _, n, rfl, rfl, h1, ?_⟩⟩⟩
      exact q _ _ _ _ (Int.emod_nonneg _ (by omega)) (Int.emod_lt_of_pos _ h1)
end
end Wk

/-! Wk6: the law's _law_order, _law_shape, _law_counts. -/
namespace Wk
open PySem PySem.Spec PyProof.Rows L2 KR Kos

theorem SameX.of {l : Addr} {H H' : Hp} (h : Same H H') : SameX l H H' := fun b o _ e => h b o e
theorem SameX.trans {l : Addr} {H H1 H2 : Hp} (a : SameX l H H1) (b : SameX l H1 H2) : SameX l H H2 := fun c o hc e => b c o hc (a c o hc e)
theorem SameX.free {l b : Addr} {H H' : Hp} (h : SameX l H H') (hb : b ≠ l) (n : H' b = none) : H b = none := by
  cases q : H b with
  | none => rfl
  | some o =>
    rw [h b o hb q] at n
    cases n
/-- what is new to H (or l itself) is written -/
theorem SameX.put {l b : Addr} {o : HO} {H H' : Hp} (h : SameX l H H') (n : b = l ∨ H b = none) : SameX l H (upd H' b o) := fun c z hc e => by
  have : c ≠ b := fun q => by
    rcases n with m | m
    · exact hc (q.trans m)
    · rw [q, m] at e
      cases e
  rw [upd_ne this]
  exact h c z hc e
theorem SameX.same {l : Addr} {H H' : Hp} (h : SameX l H H') (n : H l = none) : Same H H' := fun b o e => h b o (ne_of_none e n) e
theorem ixN_lt {n : Nat} {r : Int} (h0 : 0 ≤ r) (h1 : r < n) : ixN n r = some r.toNat := by
  unfold ixN
  rw [if_pos h0, if_pos h1]
theorem erase_perm {α : Type} : ∀ {l : List α} {k : Nat} {y : α}, l[k]? = some y → l.Perm (y :: l.eraseIdx k)
  | [], k, y, h => by simp at h
  | a :: l, 0, y, h => by
    have h : a = y := by simpa using h
    subst h
    exact .refl _
  | a :: l, k + 1, y, h => by
    have := erase_perm (l := l) (k := k) (y := y) (by simpa using h)
    exact (this.cons a).trans (.swap _ _ _)
theorem map_erase {α β : Type} {g : α → β} : ∀ {l : List α} {k : Nat}, (l.map g).eraseIdx k = (l.eraseIdx k).map g
  | [], k => by simp
  | a :: l, 0 => rfl
  | a :: l, k + 1 => by
    show g a :: (l.map g).eraseIdx k = g a :: (l.eraseIdx k).map g
    rw [map_erase]

abbrev nOrder : List Str := ["_law_heap_here", "_law_items", "_law_pool", "_law_found", "_law_turn"]
theorem scOrder : FnScope nOrder ["_law_heap_here", "_law_items"] (defScope sOrder) := ⟨rfl, rfl, rfl, by decide +kernel, rfl, by decide +kernel, by decide +kernel⟩
abbrev nLShape : List Str := ["_law_heap_here", "_law_most", "_law_left", "_law_widest", "_law_found", "_law_size"]
theorem scLShape : FnScope nLShape ["_law_heap_here", "_law_most"] (defScope sLShape) := ⟨rfl, rfl, rfl, by decide +kernel, rfl, by decide +kernel, by decide +kernel⟩
abbrev nCounts : List Str := ["_law_heap_here", "_law_total", "_law_lots", "_law_found", "_law_turn", "_law_at"]
theorem scCounts : FnScope nCounts ["_law_heap_here", "_law_total", "_law_lots"] (defScope sCounts) := ⟨rfl, rfl, rfl, by decide +kernel, rfl, by decide +kernel, by decide +kernel⟩

section
variable {P : Program} {w : World} {K : PySem.W.Frag} {mg : Str → Option Value} {base : Heap}
/-- behind a call that draws from the heap at p: something new at q -/
def spOrder : Sp := fun vs H Q _ => ∃ (p b : Addr) (x y z : Int) (ms : List Int), vs = [.ref p, .ref b] ∧ H p = some (three x y z) ∧ TupI H b ms ∧ ms.length ≤ 10 ∧
  ∀ (H' : Hp) (q : Addr) (ms' : List Int) (x' y' z' : Int), SameX p H H' → q ≠ p → H q = none → H' q = some (.lst (ms'.map V.int)) → H' p = some (three x' y' z') → ms'.Perm ms → Q (.ref q) H'
theorem ok_order {f fL : Addr} {fd fdL : FuncData} (D : Df K mg "_law_order" sOrder ["_law_heap_here", "_law_items"] f fd) (DL : Df K mg "_law_less" sLess ["_law_heap_here", "_law_size"] fL fdL) (T : Txt mg) :
    FnOk P w K mg base CX0 2 f fd ["_law_heap_here", "_law_items"] spOrder := by
  have GL : FnOk P w K mg base CX0 1 fL fdL ["_law_heap_here", "_law_size"] spLess := ok_less DL T
  refine D.F.ok scOrder (fun vs H Q E h => ?_) (fun cdv A outer s H vs Q E hr h => ?_)
  · obtain ⟨p, b, x, y, z, ms, rfl, _⟩ := h
    rfl
  · obtain ⟨p, b, x, y, z, ms, rfl, hp, hM, hl, q⟩ := h
    have nd := scOrder.nd
    refine ⟨_, pss_cons (ps_par (i := 2) (j := 3) rfl nd rfl rfl (by decide) rfl rfl (pa_cons (pe_callTy call_list_of (by rfl) T.list PyProof.Rows.boot_list (pa_cons (pv 1) pa_nil)) (pa_cons (pe_lst pa_nil) pa_nil)) (by rfl))
      (pss_cons (ps_for PassesOwn.never rfl (pi_range1 (by rfl) T.range (pa_cons (pe_callB call_len_seq (by rfl) T.len PySem.boot_len (pa_cons (pv 1) pa_nil)) pa_nil)) (pg_name (i := 4) nd rfl (.inl rfl))
        (pss_one (ps_expr (pe_bm PySem.F.plainAttrs_list PySem.F.slot_list_append PySem.F.type_list_append mt_append (pv 3) (pa_cons (pe_bm PySem.F.plainAttrs_list PySem.F.slot_list_pop PySem.F.type_list_pop mt_popAt (pv 2)
          (pa_cons (pe_call GL hr (by rfl) DL.g DL.F.kp DL.b .nil pass0 (pa_cons (pv 0) (pa_cons (pe_callB call_len_seq (by rfl) T.len PySem.boot_len (pa_cons (pv 2) pa_nil)) pa_nil))) pa_nil)) pa_nil)))))
      (pss_one (ps_ret (pv 3)))), ?_⟩
    refine ⟨_, rfl, b, _, rfl, .inr (SqT.of hM), fun l nl => ⟨Nat.zero_le _, fun o no => ⟨_, _, rfl, ?_⟩⟩⟩
    have s1 := same_upd nl (o := .lst (ms.map V.int))
    have s2 := sm_new s1 no (o := .lst [])
    have nol : l ≠ o := ne_of_none upd_same no
    have nlp : l ≠ p := fun e => by rw [e, hp] at nl; cases nl
    have noH : H o = none := s1.free no
    have nop : o ≠ p := fun e => by rw [e, hp] at noH; cases noH
    refine ⟨_, rfl, b, _, rfl, .inr (SqT.of (s2 _ _ hM)), (ms.map V.int).length, rfl, ?_, ?_, ?_⟩
    · have : (0 : Int) ≤ ((ms.map V.int).length : Nat) := Int.natCast_nonneg _
      exact Int.le_trans (by decide) this
    · rw [List.length_map]
      exact Int.lt_of_le_of_lt (show (ms.length : Int) ≤ 10 by omega) (by decide)
    have en : (((ms.map V.int).length : Nat) : Int).toNat = ms.length := by
      rw [List.length_map]
      omega
    rw [en]
    refine for_range (fun i σ H' => ∃ pool got y4 x y z, σ = [some (.ref p), some (.ref b), some (.ref l), some (.ref o), y4] ∧ SameX p H H' ∧ H' p = some (three x y z) ∧ H' l = some (.lst (pool.map V.int)) ∧ H' o = some (.lst (got.map V.int)) ∧
      (pool ++ got).Perm ms ∧ got.length = i) ⟨ms, [], none, x, y, z, rfl, .of s2, s2 _ _ hp, (upd_ne nol).trans upd_same, upd_same, by rw [List.append_nil], rfl⟩ (fun i σ H1 hi h => ?_) (fun σ H1 h => ?_)
    · obtain ⟨pool, got, y4, x1, y1, z1, rfl, sx, ep, el, eo, pm, eg⟩ := h
      have hlen := pm.length_eq
      rw [List.length_append] at hlen
      have hpl : 0 < pool.length := by omega
      refine ⟨_, rfl, .inl ⟨rfl, _, SqL.of eo⟩, _, rfl, .inl ⟨rfl, _, SqL.of el⟩, _, rfl, _, rfl, l, _, rfl, .inl (SqL.of el), ?_⟩
      refine ⟨p, _, x1, y1, z1, rfl, ep, ?_, ?_, fun r x2 y2 z2 r0 r1 => ?_⟩
      · rw [List.length_map]
        omega
      · rw [List.length_map]
        omega
      rw [List.length_map] at r1
      have hk : r.toNat < pool.length := by omega
      have epool : (pool.map V.int)[r.toNat]? = some (.int pool[r.toNat]) := by
        rw [List.getElem?_map, List.getElem?_eq_getElem hk]
        rfl
      have el' : upd H1 p (three x2 y2 z2) l = some (.lst (pool.map V.int)) := (upd_ne nlp).trans el
      have eo' : upd H1 p (three x2 y2 z2) o = some (.lst (got.map V.int)) := (upd_ne nop).trans eo
      refine ⟨l, _, r, r.toNat, _, rfl, rfl, el', Int.le_trans (by decide) r0, Int.lt_of_lt_of_le r1 (by omega), ?_, epool, ?_⟩
      · rw [List.length_map, seqIndex_of r0 r1]
      have eo2 : upd (upd H1 p (three x2 y2 z2)) l (.lst ((pool.map V.int).eraseIdx r.toNat)) o = some (.lst (got.map V.int)) := (upd_ne nol.symm).trans eo'
      refine ⟨o, _, _, rfl, rfl, eo2, ?_, ?_⟩
      · rw [List.length_map]
        exact small1000 (by omega)
      · refine ⟨pool.eraseIdx r.toNat, got ++ [pool[r.toNat]], _, x2, y2, z2, rfl, ((sx.put (.inl rfl)).put (.inr nl)).put (.inr noH), ?_, ?_, ?_, ?_, ?_⟩
        · rw [upd_ne nop.symm, upd_ne nlp.symm, upd_same]
        · rw [upd_ne nol, upd_same, map_erase]
        · rw [upd_same, List.map_append]
          rfl
        · have e1 := erase_perm (List.getElem?_eq_getElem hk)
          refine List.Perm.trans ?_ pm
          have e2 : (pool.eraseIdx r.toNat ++ (got ++ [pool[r.toNat]])).Perm (pool[r.toNat] :: (pool.eraseIdx r.toNat ++ got)) := by
            rw [← List.append_assoc]
            exact List.perm_append_comm
          exact e2.trans (e1.symm.append_right got)
        · rw [List.length_append, eg]
          rfl
    · obtain ⟨pool, got, y4, x1, y1, z1, rfl, sx, ep, el, eo, pm, eg⟩ := h
      have hlen := pm.length_eq
      rw [List.length_append] at hlen
      have e0 : pool = [] := List.length_eq_zero_iff.mp (by omega)
      rw [e0, List.nil_append] at pm
      exact ⟨_, rfl, q H1 o got x1 y1 z1 sx nop noH eo ep pm⟩

/-- what is left, as the measure of the loop -/
def leftOf (σ : L2.St) : Nat := match σ[2]? with
  | some (some (V.int l)) => l.toNat
  | _ => 0
def spLShape : Sp := fun vs H Q _ => ∃ (p : Addr) (x y z : Int), vs = [.ref p, .int 10] ∧ H p = some (three x y z) ∧
  ∀ (H' : Hp) (q : Addr) (ns : List Int) (x' y' z' : Int), SameX p H H' → q ≠ p → H q = none → TupI H' q ns → Shp ns → H' p = some (three x' y' z') → Q (.ref q) H'
theorem ok_lshape {f fL : Addr} {fd fdL : FuncData} (D : Df K mg "_law_shape" sLShape ["_law_heap_here", "_law_most"] f fd) (DL : Df K mg "_law_less" sLess ["_law_heap_here", "_law_size"] fL fdL) (T : Txt mg) :
    FnOk P w K mg base CX0 2 f fd ["_law_heap_here", "_law_most"] spLShape := by
  have GL : FnOk P w K mg base CX0 1 fL fdL ["_law_heap_here", "_law_size"] spLess := ok_less DL T
  refine D.F.ok scLShape (fun vs H Q E h => ?_) (fun cdv A outer s H vs Q E hr h => ?_)
  · obtain ⟨p, x, y, z, rfl, _⟩ := h
    rfl
  · obtain ⟨p, x, y, z, rfl, hp, q⟩ := h
    have nd := scLShape.nd
    refine ⟨_, pss_cons (ps_par3 (i := 2) (j := 3) (l := 4) rfl nd rfl rfl rfl (by decide) (by decide) (by decide) rfl rfl rfl
        (pa_cons (pe_call GL hr (by rfl) DL.g DL.F.kp DL.b .nil pass0 (pa_cons (pv 0) (pa_cons (pe_op op_add (pv 1) pe_int) pa_nil))) (pa_cons (pv 1) (pa_cons (pe_lst pa_nil) pa_nil))) (by rfl))
      (pss_cons (ps_while PassesOwn.never (pt_cmpR op_gt (pv 2) pe_int (nomark _))
        (pss_cons (ps_set (i := 5) nd rfl (.inl rfl) (pe_op op_add pe_int (pe_call GL hr (by rfl) DL.g DL.F.kp DL.b .nil pass0 (pa_cons (pv 0) (pa_cons (pe_callB (call_min2 rfl) (by rfl) T.min PyProof.Rows.boot_min (pa_cons (pv 2) (pa_cons (pv 3) pa_nil))) pa_nil)))))
        (pss_cons (ps_expr (pe_bm PySem.F.plainAttrs_list PySem.F.slot_list_append PySem.F.type_list_append mt_append (pv 4) (pa_cons (pv 5) pa_nil)))
        (pss_one (ps_par (i := 2) (j := 3) rfl nd rfl rfl (by decide) rfl rfl (pa_cons (pe_op op_sub (pv 2) (pv 5)) (pa_cons (pv 5) pa_nil)) (by rfl))))))
      (pss_one (ps_ret (pe_callTy call_tuple_of (by rfl) T.tuple PyProof.Rows.boot_tuple (pa_cons (pv 4) pa_nil))))), ?_⟩
    refine ⟨_, rfl, _, rfl, 10, 1, rfl, rfl, p, 11, x, y, z, rfl, hp, by decide, by decide, fun r x1 y1 z1 r0 r1 => ⟨_, rfl, Nat.zero_le _, fun o no => ⟨_, _, _, rfl, ?_⟩⟩⟩
    have nop : o ≠ p := fun e => by rw [e, upd_same] at no; cases no
    have noH : H o = none := by rw [upd_ne nop] at no; exact no
    refine while_by (fun σ H' => ∃ (left widest : Int) (ns : List Int) (y5 : Option V) (x y z : Int), σ = [some (.ref p), some (.int 10), some (.int left), some (.int widest), some (.ref o), y5] ∧ SameX p H H' ∧ H' p = some (three x y z) ∧ H' o = some (.lst (ns.map V.int)) ∧
        0 ≤ left ∧ 1 ≤ widest ∧ widest ≤ 10 ∧ ns.sum + left ≤ 10 ∧ (∀ x : Int, x ∈ ns → widest ≤ x) ∧ List.Pairwise (· ≥ ·) ns) (fun σ _ => leftOf σ)
      ⟨r, 10, [], none, x1, y1, z1, rfl, ((SameX.of (Same.refl H)).put (.inl rfl)).put (.inr noH), (upd_ne nop.symm).trans upd_same, upd_same, r0, by decide, by decide, by show 0 + r ≤ 10; omega, (fun x h => nomatch h), List.Pairwise.nil⟩
      (fun σ H1 h => ?_) (fun σ H1 Q1 Q2 hQ h => ?_)
    · obtain ⟨left, widest, ns, y5, x2, y2, z2, rfl, sx, ep, eo, l0, w1, w10, sl, lo, pw⟩ := h
      have pos : ∀ x ∈ ns, 0 < x := fun x hx => Int.lt_of_lt_of_le w1 (lo x hx)
      have few : ns.length ≤ 10 := by
        have := len_le_sum pos
        omega
      refine ⟨_, rfl, left, 0, rfl, rfl, _, rfl, ite2 (fun c => ?_) (fun c => ?_)⟩
      · have c : 0 < left := of_decide_eq_true c
        -- the least of the two
        obtain ⟨m, hm, hm1, hm2, hm3⟩ : ∃ m : Int, (if widest < left then widest else left) = m ∧ 1 ≤ m ∧ m ≤ left ∧ m ≤ widest := by
          by_cases c2 : widest < left
          · exact ⟨widest, if_pos c2, w1, by omega, by omega⟩
          · exact ⟨left, if_neg c2, by omega, by omega, by omega⟩
        refine ⟨_, rfl, _, rfl, _, rfl, left, widest, rfl, p, m, x2, y2, z2, by rw [hm]; rfl, ep, by omega, by omega, fun r2 x3 y3 z3 a0 a1 => ?_⟩
        have eo' : upd H1 p (three x3 y3 z3) o = some (.lst (ns.map V.int)) := (upd_ne nop).trans eo
        refine ⟨1, r2, rfl, rfl, _, rfl, .inl ⟨rfl, _, SqL.of eo'⟩, _, rfl, o, _, _, rfl, rfl, eo', ?_, ?_⟩
        · rw [List.length_map]
          exact small1000 (by omega)
        refine ⟨_, rfl, _, rfl, left, 1 + r2, rfl, rfl, _, rfl, _, _, rfl, ⟨left - (1 + r2), 1 + r2, ns ++ [1 + r2], _, x3, y3, z3, rfl, (sx.put (.inl rfl)).put (.inr noH), (upd_ne nop.symm).trans upd_same, ?_, by omega, by omega, by omega, ?_, fun x hx => ?_, ?_⟩, ?_⟩
        · rw [upd_same, List.map_append]
          rfl
        · rw [List.sum_append_int, List.sum_cons, List.sum_nil]
          omega
        · rcases List.mem_append.mp hx with h | h
          · have := lo x h
            omega
          · have : x = 1 + r2 := by simpa using h
            omega
        · refine List.pairwise_append.mpr ⟨pw, by simp, fun a ha b hb => ?_⟩
          have : b = 1 + r2 := by simpa using hb
          have := lo a ha
          show b ≤ a
          omega
        · show (left - (1 + r2)).toNat < left.toNat
          omega
      · have c : ¬ 0 < left := fun z => c (decide_eq_true z)
        refine ⟨_, rfl, o, _, rfl, .inl ⟨SqL.of eo, fun t nt => ?_⟩⟩
        have nto : t ≠ o := fun e => by rw [e, eo] at nt; cases nt
        have ntp : t ≠ p := fun e => by rw [e, ep] at nt; cases nt
        exact q _ t ns x2 y2 z2 (sx.put (.inr (sx.free ntp nt))) ntp (sx.free ntp nt) upd_same ⟨dec_of pw fun x hx => Int.le_of_lt (pos x hx), pos, by omega⟩ ((upd_ne ntp.symm).trans ep)
    · obtain ⟨v, e, i, j, e1, e2, k, e3, h⟩ := h
      exact ⟨v, e, i, j, e1, e2, k, e3, hQ _ _ h⟩

def spCounts : Sp := fun vs H Q _ => ∃ (p : Addr) (t n x y z : Int), vs = [.ref p, .int t, .int n] ∧ H p = some (three x y z) ∧ 0 ≤ t ∧ t ≤ 10 ∧ 1 ≤ n ∧ n ≤ 5 ∧
  ∀ (H' : Hp) (q : Addr) (cs : List Int) (x' y' z' : Int), SameX p H H' → q ≠ p → H q = none → TupI H' q cs → cs.length = n.toNat → (∀ x ∈ cs, 0 ≤ x) → cs.sum = t → H' p = some (three x' y' z') → Q (.ref q) H'
theorem ok_counts {f fL : Addr} {fd fdL : FuncData} (D : Df K mg "_law_counts" sCounts ["_law_heap_here", "_law_total", "_law_lots"] f fd) (DL : Df K mg "_law_less" sLess ["_law_heap_here", "_law_size"] fL fdL) (T : Txt mg) :
    FnOk P w K mg base CX0 2 f fd ["_law_heap_here", "_law_total", "_law_lots"] spCounts := by
  have GL : FnOk P w K mg base CX0 1 fL fdL ["_law_heap_here", "_law_size"] spLess := ok_less DL T
  refine D.F.ok scCounts (fun vs H Q E h => ?_) (fun cdv A outer s H vs Q E hr h => ?_)
  · obtain ⟨p, t, n, x, y, z, rfl, _⟩ := h
    rfl
  · obtain ⟨p, t, n, x, y, z, rfl, hp, t0, t1, n1, n5, q⟩ := h
    have nd := scCounts.nd
    refine ⟨_, pss_cons (ps_set (i := 3) nd rfl (.inl rfl) (pe_op op_rep (pe_lst (pa_cons pe_int pa_nil)) (pv 2)))
      (pss_cons (ps_for PassesOwn.never rfl (pi_range1 (by rfl) T.range (pa_cons (pv 1) pa_nil)) (pg_name (i := 4) nd rfl (.inl rfl))
        (pss_cons (ps_set (i := 5) nd rfl (.inl rfl) (pe_call GL hr (by rfl) DL.g DL.F.kp DL.b .nil pass0 (pa_cons (pv 0) (pa_cons (pv 2) pa_nil))))
        (pss_one (ps_asg (pe_op op_add (pe_ix ix_list (pv 3) (pv 5) (fun _ _ => rfl)) pe_int) (pg_sub (pv 3) (pv 5) set_list)))))
      (pss_one (ps_ret (pe_callTy call_tuple_of (by rfl) T.tuple PyProof.Rows.boot_tuple (pa_cons (pv 3) pa_nil))))), ?_⟩
    refine ⟨by show 1 ≤ sizeLine; decide, fun l0 nl0 => ⟨_, rfl, l0, n, _, rfl, rfl, upd_same, by omega, by omega, ?_, fun o no => ?_⟩⟩
    · show 1 * n.toNat ≤ sizeLine
      have : n.toNat ≤ 1000 := by omega
      rw [Nat.one_mul]
      exact Nat.le_of_lt (small1000 this)
    have erep : (List.replicate n.toNat [V.int 0]).flatten = (List.replicate n.toNat (0 : Int)).map V.int := by
      rw [List.map_replicate]
      generalize n.toNat = k
      induction k with
      | zero => rfl
      | succ k ih =>
        rw [List.replicate_succ, List.flatten_cons, ih]
        rfl
    rw [erep]
    have s1 := same_upd nl0 (o := .lst [.int 0])
    have s2 := sm_new s1 no (o := .lst ((List.replicate n.toNat (0 : Int)).map V.int))
    have noH : H o = none := s1.free no
    have nop : o ≠ p := fun e => by rw [e, hp] at noH; cases noH
    refine ⟨_, rfl, t, rfl, by omega, by omega, ?_⟩
    refine for_range (fun i σ H' => ∃ (cs : List Int) (y4 y5 : Option V) (x y z : Int), σ = [some (.ref p), some (.int t), some (.int n), some (.ref o), y4, y5] ∧ SameX p H H' ∧ H' p = some (three x y z) ∧ H' o = some (.lst (cs.map V.int)) ∧
      cs.length = n.toNat ∧ (∀ x ∈ cs, 0 ≤ x) ∧ cs.sum = i) ⟨_, none, none, x, y, z, rfl, .of s2, s2 _ _ hp, upd_same, List.length_replicate, fun x hx => ?_, ?_⟩ (fun i σ H1 hi h => ?_) (fun σ H1 h => ?_)
    · rw [List.eq_of_mem_replicate hx]
      exact Int.le_refl _
    · generalize n.toNat = k
      induction k with
      | zero => rfl
      | succ k ih =>
        rw [List.replicate_succ, List.sum_cons, ih]
        rfl
    · obtain ⟨cs, y4, y5, x1, y1, z1, rfl, sx, ep, eo, el, cn, es⟩ := h
      refine ⟨_, rfl, _, rfl, p, n, x1, y1, z1, rfl, ep, by omega, by omega, fun r x2 y2 z2 r0 r1 => ?_⟩
      have hk : r.toNat < cs.length := by omega
      have eo' : upd H1 p (three x2 y2 z2) o = some (.lst (cs.map V.int)) := (upd_ne nop).trans eo
      have er : r = ((r.toNat : Nat) : Int) := by omega
      have ec : (cs.map V.int)[r.toNat]? = some (.int cs[r.toNat]) := by
        rw [List.getElem?_map, List.getElem?_eq_getElem hk]
        rfl
      refine ⟨_, rfl, _, rfl, o, _, r, _, rfl, rfl, SqL.of eo', at_of er ec, cs[r.toNat], 1, rfl, rfl, _, rfl, _, rfl, o, _, r, r.toNat, rfl, rfl, eo', ?_, ?_⟩
      · rw [List.length_map]
        exact ixN_lt r0 (by omega)
      · refine ⟨cs.set r.toNat (cs[r.toNat] + 1), _, _, x2, y2, z2, rfl, (sx.put (.inl rfl)).put (.inr noH), (upd_ne nop.symm).trans upd_same, ?_, ?_, fun x hx => ?_, ?_⟩
        · rw [upd_same, List.map_set]
        · rw [List.length_set, el]
        · rcases List.mem_or_eq_of_mem_set hx with h | h
          · exact cn x h
          · have := cn _ (List.getElem_mem hk)
            omega
        · rw [sum_set (List.getElem?_eq_getElem hk), es]
          omega
    · obtain ⟨cs, y4, y5, x1, y1, z1, rfl, sx, ep, eo, el, cn, es⟩ := h
      refine ⟨_, rfl, o, _, rfl, .inl ⟨SqL.of eo, fun t2 nt => ?_⟩⟩
      have nto : t2 ≠ o := fun e => by rw [e, eo] at nt; cases nt
      have ntp : t2 ≠ p := fun e => by rw [e, ep] at nt; cases nt
      exact q _ t2 cs x1 y1 z1 (sx.put (.inr (sx.free ntp nt))) ntp (sx.free ntp nt) upd_same el cn (by omega) ((upd_ne ntp.symm).trans ep)
end
end Wk

/-! Wk7: the law's _law_under, _law_moved. -/
namespace Wk
open PySem PySem.Spec PyProof.Rows L2 KR Kos

theorem rep0 : ∀ k : Nat, (List.replicate k [V.int 0]).flatten = (List.replicate k (0 : Int)).map V.int
  | 0 => rfl
  | k + 1 => by
    rw [List.replicate_succ, List.replicate_succ, List.flatten_cons, rep0 k]
    rfl
theorem cut0 (F : List Int) (k : Nat) : cutV (F.map V.int) none (some (k : Int)) = (F.take k).map V.int := by
  unfold cutV
  rw [HT.sIx_none, HT.sIx_nat, List.drop_zero, Nat.sub_zero, List.map_take]
  by_cases h : k ≤ (F.map V.int).length
  · rw [Nat.min_eq_left h]
  · rw [Nat.min_eq_right (by omega), List.take_of_length_le (Nat.le_refl _), List.take_of_length_le (by omega)]

abbrev nUnder : List Str := ["_law_one", "_law_other", "_law_lots", "_law_first", "_law_second", "_law_at"]
theorem scUnder : FnScope nUnder ["_law_one", "_law_other"] (defScope sUnder) := ⟨rfl, rfl, rfl, by decide +kernel, rfl, by decide +kernel, by decide +kernel⟩
abbrev nMoved : List Str := ["_law_row", "_law_one", "_law_other", "_law_at", "_law_entry"]
theorem scMoved : FnScope nMoved ["_law_row", "_law_one", "_law_other"] (defScope sMoved) := ⟨rfl, rfl, rfl, by decide +kernel, rfl, by decide +kernel, by decide +kernel⟩

/-! ### a row with zeros, sorted, turned about -/
abbrev tLen (K : PySem.W.Frag) (i : Nat) : TE := tCB (fun xs H Q => ∃ p ys, xs = [V.ref p] ∧ (SqL K H p ys ∨ SqT K H p ys) ∧ Q (.int ys.length) H) (tCons (tVar i) tNil)
abbrev tListOf (K : PySem.W.Frag) (i : Nat) : TE := tCB (fun xs H Q => ∃ p ys, xs = [V.ref p] ∧ (SqL K H p ys ∨ SqT K H p ys) ∧ ∀ l, H l = none → Q (.ref l) (upd H l (.lst ys))) (tCons (tVar i) tNil)
def tRow (i : Nat) : TE := fun σ H Q => ∃ (a : Addr) (cs : List Int) (n : Nat), σ[i]? = some (some (.ref a)) ∧ σ[2]? = some (some (.int n)) ∧ TupI H a cs ∧ cs.length ≤ n ∧ n ≤ 10 ∧
  ∀ (H' : Hp) (r : Addr) (F : List Int), Same H H' → H r = none → H' r = some (.lst (F.map V.int)) → F.Perm (cs ++ List.replicate (n - cs.length) 0) → F.Pairwise (· ≥ ·) → Q (.ref r) H'
theorem row_ok (K : PySem.W.Frag) (i : Nat) (σ : L2.St) (H : Hp) (Q : VK) (h : tRow i σ H Q) :
    tRevL K (tCB (rSorted K) (tCons (tOp rCat (tListOf K i) (tOp rRep (tLst (tCons (tC (.int 0)) tNil)) (tOp (rI0 fun i j => .int (i - j)) (tVar 2) (tLen K i)))) tNil)) σ H Q := by
  obtain ⟨a, cs, n, hi, h2, hT, l1, l2, q⟩ := h
  have one : ([V.int 0] : List V).length ≤ sizeLine := by
    show 1 ≤ sizeLine
    decide
  refine ⟨_, hi, a, _, rfl, .inr (SqT.of hT), fun l nl => ⟨one, fun o no => ?_⟩⟩
  have s1 := same_upd nl (o := .lst (cs.map V.int))
  have s2 := sm_new s1 no (o := .lst [.int 0])
  have ek : ((n : Int) - ((cs.map V.int).length : Nat)).toNat = n - cs.length := by
    rw [List.length_map]
    omega
  refine ⟨_, h2, _, hi, a, _, rfl, .inr (SqT.of (s2 _ _ hT)), n, _, rfl, rfl, o, _, _, rfl, rfl, upd_same, ?_, ?_, ?_, fun z nz => ?_⟩
  · rw [List.length_map]
    omega
  · rw [List.length_map]
    omega
  · rw [ek]
    show 1 * (n - cs.length) ≤ sizeLine
    rw [Nat.one_mul]
    exact Nat.le_of_lt (small1000 (by omega))
  rw [ek, rep0]
  have s3 := sm_new s2 nz (o := .lst ((List.replicate (n - cs.length) (0 : Int)).map V.int))
  have nlo : l ≠ o := ne_of_none upd_same no
  have el2 : upd (upd H l (.lst (cs.map V.int))) o (.lst [.int 0]) l = some (.lst (cs.map V.int)) := (upd_ne nlo).trans upd_same
  have nlz : l ≠ z := ne_of_none el2 nz
  refine ⟨l, z, _, _, rfl, rfl, (upd_ne nlz).trans el2, upd_same, ?_, fun c nc => ?_⟩
  · rw [List.length_map, List.length_map, List.length_replicate]
    exact Nat.le_of_lt (small1000 (by omega))
  rw [← List.map_append]
  have s4 := sm_new s3 nc (o := .lst ((cs ++ List.replicate (n - cs.length) 0).map V.int))
  refine ⟨c, _, rfl, SqL.of upd_same, ?_, fun A t hp ho nt => ?_⟩
  · rw [List.length_append, List.length_replicate]
    omega
  have s5 := sm_new s4 nt (o := .lst (A.map V.int))
  refine ⟨t, _, rfl, SqL.of upd_same, fun r nr => ?_⟩
  rw [← List.map_reverse]
  refine q _ r A.reverse (sm_new s5 nr) (s5.free nr) upd_same ((List.reverse_perm A).trans hp) ?_
  rw [List.pairwise_reverse]
  exact ho
/-! ### the prefixes that are too great -/
def bad (F G : List Int) (n : Nat) : List Int := ((List.range n).filter fun k => decide ((G.take k).sum < (F.take k).sum)).map fun k => ((k : Nat) : Int)
theorem bad_step (F G : List Int) (n : Nat) : bad F G (n + 1) = if (G.take n).sum < (F.take n).sum then bad F G n ++ [(n : Int)] else bad F G n := by
  unfold bad
  rw [List.range_succ, List.filter_append]
  by_cases c : (G.take n).sum < (F.take n).sum
  · rw [if_pos c, List.filter_cons_of_pos (by simpa using c), List.filter_nil, List.map_append]
    rfl
  · rw [if_neg c, List.filter_cons_of_neg (by simpa using c), List.filter_nil, List.append_nil]
theorem bad_len (F G : List Int) (n : Nat) : (bad F G n).length ≤ n := by
  unfold bad
  rw [List.length_map]
  refine Nat.le_trans (List.length_filter_le _ _) ?_
  rw [List.length_range]
  exact Nat.le_refl _
theorem bad_nil {F G : List Int} {n : Nat} : bad F G n = [] ↔ ∀ k, k < n → (F.take k).sum ≤ (G.take k).sum := by
  unfold bad
  rw [List.map_eq_nil_iff, List.filter_eq_nil_iff]
  constructor
  · intro h k hk
    have := h k (List.mem_range.mpr hk)
    have : ¬ (G.take k).sum < (F.take k).sum := by simpa using this
    omega
  · intro h k hk
    have := h k (List.mem_range.mp hk)
    simpa using this
theorem eqv_nil : ∀ B : List Int, PyData.eqv (.list (B.map PyData.int)) (.list []) = decide (B = [])
  | [] => by decide
  | _ :: _ => by
    rw [decide_eq_false (by simp)]
    first
      | rfl
      | simp [PyData.eqv]
abbrev tPre (K : PySem.W.Frag) (i : Nat) : TE := tCB (rSum K) (tCons (tSl (rSlL K) (tVar i) tNoPart (tPart (tVar 5))) tNil)
abbrev tBad (K : PySem.W.Frag) : TT := tTest (tOp (rI0 fun i j => .bl (decide (j < i))) (tPre K 3) (tPre K 4))

section
variable {P : Program} {w : World} {K : PySem.W.Frag} {mg : Str → Option Value} {base : Heap}
def spUnder : Sp := fun vs H Q _ => ∃ (a b : Addr) (cs ns : List Int), vs = [.ref a, .ref b] ∧ TupI H a cs ∧ TupI H b ns ∧ Shp ns ∧ (∀ x ∈ cs, 0 ≤ x) ∧ cs.length ≤ 10 ∧ ∀ H', Same H H' → Q (.bl (decide (0 < Kr cs ns))) H'
theorem ok_under {f : Addr} {fd : FuncData} (D : Df K mg "_law_under" sUnder ["_law_one", "_law_other"] f fd) (T : Txt mg) : FnOk P w K mg base CX0 1 f fd ["_law_one", "_law_other"] spUnder := by
  refine D.F.ok scUnder (fun vs H Q E h => ?_) (fun cdv A outer s H vs Q E hr h => ?_)
  · obtain ⟨a, b, cs, ns, rfl, _⟩ := h
    rfl
  · obtain ⟨a, b, cs, ns, rfl, hC, hN, hS, hc, hl, q⟩ := h
    have nd := scUnder.nd
    have hl2 := hS.len
    refine ⟨_, pss_cons (ps_set (i := 2) nd rfl (.inl rfl) (pe_callB (call_max2 rfl) (by rfl) T.max PyProof.Rows.boot_max (pa_cons (pe_callB call_len_seq (by rfl) T.len PySem.boot_len (pa_cons (pv 0) pa_nil)) (pa_cons (pe_callB call_len_seq (by rfl) T.len PySem.boot_len (pa_cons (pv 1) pa_nil)) pa_nil))))
      (pss_cons (ps_set (i := 3) nd rfl (.inr rfl) (pe_imp (pe_revL (pe_callB cr_sorted (by rfl) T.sorted PyProof.Rows.boot_sorted (pa_cons (pe_op op_cat (pe_callTy call_list_of (by rfl) T.list PyProof.Rows.boot_list (pa_cons (pv 0) pa_nil))
          (pe_op op_rep (pe_lst (pa_cons pe_int pa_nil)) (pe_op op_sub (pv 2) (pe_callB call_len_seq (by rfl) T.len PySem.boot_len (pa_cons (pv 0) pa_nil))))) pa_nil))) (row_ok K 0)))
      (pss_cons (ps_set (i := 4) nd rfl (.inr rfl) (pe_imp (pe_revL (pe_callB cr_sorted (by rfl) T.sorted PyProof.Rows.boot_sorted (pa_cons (pe_op op_cat (pe_callTy call_list_of (by rfl) T.list PyProof.Rows.boot_list (pa_cons (pv 1) pa_nil))
          (pe_op op_rep (pe_lst (pa_cons pe_int pa_nil)) (pe_op op_sub (pv 2) (pe_callB call_len_seq (by rfl) T.len PySem.boot_len (pa_cons (pv 1) pa_nil))))) pa_nil))) (row_ok K 1)))
      (pss_one (ps_ret (pe_and (pe_cmpR op_eq (pe_callB (cr_sum rfl) (by rfl) T.sum PyProof.Rows.boot_sum (pa_cons (pv 3) pa_nil)) (pe_callB (cr_sum rfl) (by rfl) T.sum PyProof.Rows.boot_sum (pa_cons (pv 4) pa_nil)) (nomark _))
        (pe_one (pe_cmpR (op_eqD hr.units)
          (pe_lc (own := [("_law_at", 5)]) (g := gName 5) (tt := tBad K) rfl nd (pi_range1 (by rfl) T.range (pa_cons (pv 2) pa_nil)) (blkOk_by (N := nUnder) (sc := defScope sUnder) (by decide +kernel))
            (fun _ _ _ _ _ => pg_name (i := 5) nd rfl (.inl rfl))
            (fun _ _ _ _ _ => pts_one (pt_cmpR op_gt (pe_callB (cr_sum rfl) (by rfl) T.sum PyProof.Rows.boot_sum (pa_cons (pe_slice sl_list (pv 3) po_none (po_some (pv 5))) pa_nil))
              (pe_callB (cr_sum rfl) (by rfl) T.sum PyProof.Rows.boot_sum (pa_cons (pe_slice sl_list (pv 4) po_none (po_some (pv 5))) pa_nil)) (nomark _)))
            (fun _ _ _ _ _ => pv 5)) (pe_lst pa_nil) (nomark _)))))))), ?_⟩
    refine ⟨_, rfl, a, _, rfl, .inr (SqT.of hC), _, rfl, b, _, rfl, .inr (SqT.of hN), _, _, rfl, ?_⟩
    -- the greater length
    obtain ⟨n, en, n1, n2, n10⟩ : ∃ n : Nat, (if (((ns.map V.int).length : Nat) : Int) > (((cs.map V.int).length : Nat) : Int) then (((ns.map V.int).length : Nat) : Int) else (((cs.map V.int).length : Nat) : Int)) = n ∧ cs.length ≤ n ∧ ns.length ≤ n ∧ n ≤ 10 := by
      rw [List.length_map, List.length_map]
      by_cases c : (ns.length : Int) > (cs.length : Int)
      · exact ⟨ns.length, if_pos c, by omega, Nat.le_refl _, hl2⟩
      · exact ⟨cs.length, if_neg c, Nat.le_refl _, by omega, hl⟩
    rw [en]
    refine ⟨a, cs, n, rfl, rfl, hC, n1, n10, fun H1 r1 F s1 nr1 e1 pF oF => ?_⟩
    refine ⟨b, ns, n, rfl, rfl, s1 _ _ hN, n2, n10, fun H2 r2 G s2 nr2 e2 pG oG => ?_⟩
    have e1' := s2 _ _ e1
    have lF : F.length ≤ n := by
      rw [pF.length_eq, List.length_append, List.length_replicate]
      omega
    have lG : G.length ≤ n := by
      rw [pG.length_eq, List.length_append, List.length_replicate]
      omega
    have iff := under_iff hS hc pF pG oF oG lF lG
    refine ⟨_, rfl, r1, F, rfl, SqL.of e1', _, rfl, r2, G, rfl, SqL.of e2, rfl, _, rfl, ite2 (fun c => ?_) (fun c => ?_)⟩
    · have c : F.sum = G.sum := V.int.inj (of_decide_eq_true c)
      refine ⟨_, rfl, n, rfl, by omega, by omega, fun o no => ?_⟩
      have en2 : ((n : Nat) : Int).toNat = n := by omega
      rw [en2]
      refine turns (walk_range (lo := 0) (n := n)) (fun i H' => Same H2 H' ∧ H' o = some (.lst ((bad F G i).map V.int))) ⟨same_upd no, upd_same⟩ (fun _ _ _ _ => trivial) (fun i x H3' H3 hi h hy => ?_) (fun H3 h => ?_)
      · obtain ⟨rfl, ex⟩ := hy
        obtain ⟨s3, eo⟩ := h
        have ex : x = V.int (i : Nat) := by
          rw [ex]
          show V.int (0 + (i : Int)) = V.int (i : Int)
          rw [Int.zero_add]
        subst ex
        refine ⟨rfl, _, rfl, _, rfl, i, rfl, r1, _, rfl, SqL.of (s3 _ _ e1'), fun t1 nt1 => ?_⟩
        rw [cut0]
        have s4 := sm_new s3 nt1 (o := .lst ((F.take i).map V.int))
        refine ⟨t1, _, rfl, SqL.of upd_same, _, rfl, _, rfl, i, rfl, r2, _, rfl, SqL.of (s4 _ _ e2), fun t2 nt2 => ?_⟩
        rw [cut0]
        have s5 := sm_new s4 nt2 (o := .lst ((G.take i).map V.int))
        have n1o : o ≠ t1 := ne_of_none eo nt1
        have eo4 : upd H3 t1 (.lst ((F.take i).map V.int)) o = some (.lst ((bad F G i).map V.int)) := (upd_ne n1o).trans eo
        have n2o : o ≠ t2 := ne_of_none eo4 nt2
        have eo5 : upd (upd H3 t1 (.lst ((F.take i).map V.int))) t2 (.lst ((G.take i).map V.int)) o = some (.lst ((bad F G i).map V.int)) := (upd_ne n2o).trans eo4
        refine ⟨t2, _, rfl, SqL.of upd_same, _, _, rfl, rfl, _, rfl, ite2 (fun c2 => ?_) (fun c2 => ?_)⟩
        · have c2 : (G.take i).sum < (F.take i).sum := of_decide_eq_true c2
          refine ⟨_, rfl, _, eo5, ?_, sm_keep s5 no, ?_⟩
          · rw [List.length_map]
            exact small1000 (by have := bad_len F G i; omega)
          · rw [upd_same, bad_step, if_pos c2, List.map_append]
            rfl
        · have c2 : ¬ (G.take i).sum < (F.take i).sum := fun z => c2 (decide_eq_true z)
          refine ⟨s5, ?_⟩
          rw [bad_step, if_neg c2]
          exact eo5
      · obtain ⟨s3, eo⟩ := h
        refine ⟨Nat.zero_le _, fun t nt => ?_⟩
        have s4 := sm_new s3 nt (o := .lst [])
        have not : o ≠ t := ne_of_none eo nt
        refine ⟨.list ((bad F G n).map PyData.int), .list [], .lst (SqL.of ((upd_ne not).trans eo)) (dpInts _), .lst (SqL.of upd_same) .nil, PySem.W.ke_shaped_ints _, PySem.W.ke_shaped_ints [], ?_⟩
        rw [eqv_nil]
        have eb : decide (bad F G n = []) = decide (0 < Kr cs ns) := by
          by_cases c3 : bad F G n = []
          · rw [decide_eq_true c3, decide_eq_true (iff.mpr ⟨c, bad_nil.mp c3⟩)]
          · rw [decide_eq_false c3, decide_eq_false fun z => c3 (bad_nil.mpr (iff.mp z).2)]
        rw [eb]
        exact q _ ((s1.trans s2).trans s4)
    · have c : ¬ F.sum = G.sum := fun z => c (by rw [z]; exact decide_eq_true rfl)
      have e : decide (0 < Kr cs ns) = false := decide_eq_false fun z => c (iff.mp z).1
      rw [e] at q
      exact q _ (s1.trans s2)

def spMoved : Sp := fun vs H Q _ => ∃ (a : Addr) (i j : Int) (cs : List Int), vs = [.ref a, .int i, .int j] ∧ TupI H a cs ∧ cs.length ≤ 10 ∧ ∀ H' q, Same H H' → H q = none → TupI H' q (mvd cs i j) → Q (.ref q) H'
theorem ok_moved {f : Addr} {fd : FuncData} (D : Df K mg "_law_moved" sMoved ["_law_row", "_law_one", "_law_other"] f fd) (T : Txt mg) : FnOk P w K mg base CX0 1 f fd ["_law_row", "_law_one", "_law_other"] spMoved := by
  refine D.F.ok scMoved (fun vs H Q E h => ?_) (fun cdv A outer s H vs Q E hr h => ?_)
  · obtain ⟨a, i, j, cs, rfl, _⟩ := h
    rfl
  · obtain ⟨a, i, j, cs, rfl, hC, hl, q⟩ := h
    have nd := scMoved.nd
    refine ⟨_, pss_one (ps_ret (pe_callTy call_tuple_of (by rfl) T.tuple PyProof.Rows.boot_tuple (pa_cons
      (pe_lc (own := [("_law_at", 3), ("_law_entry", 4)]) (g := gTup K 2 (gCons (gName 3) (gCons (gName 4) gNil))) (tt := tYes) rfl nd (pi_enT (by rfl) T.enum (pa_cons (pv 0) pa_nil)) (blkOk_by (N := nMoved) (sc := defScope sMoved) (by decide +kernel))
        (fun _ _ _ _ _ => pg_tup rfl (pgs_cons (pg_name (i := 3) nd rfl (.inl rfl) (.inr rfl)) (pgs_cons (pg_name (i := 4) nd rfl (.inl rfl) (.inr rfl)) pgs_nil))) (fun _ _ _ _ _ => pts_nil)
        (fun _ _ _ _ _ => pe_op op_add (pe_op op_sub (pv 4) (pe_callTy call_int1 (by rfl) T.int PyProof.Rows.boot_int (pa_cons (pe_cmpR op_eq (pv 3) (pv 1) (nomark _)) pa_nil)))
          (pe_callTy call_int1 (by rfl) T.int PyProof.Rows.boot_int (pa_cons (pe_cmpR op_eq (pv 3) (pv 2) (nomark _)) pa_nil)))) pa_nil))), ?_⟩
    refine ⟨_, rfl, a, _, rfl, SqT.of hC, fun o no => ?_⟩
    refine turns (walk_enT (xs := cs.map V.int)) (fun k H' => Same H H' ∧ H' o = some (.lst (((mvd cs i j).take k).map V.int))) ⟨same_upd no, upd_same⟩ (fun k H' _ h => SqT.of (h.1 _ _ hC)) (fun k x H1 H2 hk h hy => ?_) (fun H1 h => ?_)
    · obtain ⟨s1, eo⟩ := h
      obtain ⟨T1, x1, x2, rfl, nT, rfl, ex1, ex2⟩ := hy
      rw [List.length_map] at hk
      have ex2 : (cs.map V.int)[k]? = some x2 := ex2
      rw [List.getElem?_map, List.getElem?_eq_getElem hk] at ex2
      obtain rfl : V.int (k : Nat) = x1 := Option.some.inj ex1
      obtain rfl : V.int cs[k] = x2 := Option.some.inj ex2
      have s2 := sm_new s1 nT (o := .tup [.int (k : Nat), .int cs[k]])
      have noT : o ≠ T1 := ne_of_none eo nT
      have eo2 : upd H1 T1 (.tup [.int (k : Nat), .int cs[k]]) o = some (.lst (((mvd cs i j).take k).map V.int)) := (upd_ne noT).trans eo
      have ev : ∀ u v : Int, (if decide (V.int u = V.int v) = true then (1 : Int) else 0) = if u = v then 1 else 0 := fun u v => by
        by_cases c : u = v
        · rw [if_pos c, c, decide_eq_true rfl]
          rfl
        · rw [if_neg c, decide_eq_false fun z => c (V.int.inj z)]
          rfl
      refine ⟨T1, _, rfl, SqT.of upd_same, rfl, .int (k : Nat), [.int cs[k]], rfl, .int cs[k], [], rfl, rfl, rfl, yesT ?_⟩
      refine ⟨_, rfl, _, rfl, _, rfl, rfl, .inr ⟨_, rfl, cs[k], _, rfl, rfl, _, rfl, _, rfl, rfl, .inr ⟨_, rfl, _, _, rfl, rfl, _, eo2, ?_, sm_keep s2 no, ?_⟩⟩⟩
      · rw [List.length_map, List.length_take]
        have : (mvd cs i j).length = cs.length := by
          unfold mvd
          rw [List.length_mapIdx]
        exact small1000 (by omega)
      · rw [upd_same, List.take_add_one]
        have em : (mvd cs i j)[k]? = some (cs[k] - (if (k : Int) = i then 1 else 0) + (if (k : Int) = j then 1 else 0)) := by
          unfold mvd
          rw [List.getElem?_mapIdx, List.getElem?_eq_getElem hk]
          rfl
        rw [em, Option.toList_some, List.map_append, ev, ev]
        rfl
    · obtain ⟨s1, eo⟩ := h
      have full : (mvd cs i j).take (cs.map V.int).length = mvd cs i j := by
        refine List.take_of_length_le ?_
        unfold mvd
        rw [List.length_mapIdx, List.length_map]
        exact Nat.le_refl _
      rw [full] at eo
      refine ⟨o, _, rfl, .inl ⟨SqL.of eo, fun t nt => ?_⟩⟩
      exact q _ t (sm_new s1 nt) (s1.free nt) upd_same
end
end Wk

/-! Wk8: the law's _law_right. -/
namespace Wk
open PySem PySem.Spec PyProof.Rows L2 KR Kos

theorem perm_sum {l l' : List Int} (h : l.Perm l') : l.sum = l'.sum := by
  induction h with
  | nil => rfl
  | cons a _ ih => rw [List.sum_cons, List.sum_cons, ih]
  | swap a b l => rw [List.sum_cons, List.sum_cons, List.sum_cons, List.sum_cons]; omega
  | trans _ _ h1 h2 => exact h1.trans h2
theorem le_sum0 : ∀ {l : List Int}, (∀ x ∈ l, 0 ≤ x) → 0 ≤ l.sum ∧ ∀ x ∈ l, x ≤ l.sum
  | [], _ => ⟨Int.le_refl _, fun x hx => nomatch hx⟩
  | a :: l, h => by
    obtain ⟨h1, h2⟩ := le_sum0 (l := l) fun x hx => h x (List.mem_cons_of_mem _ hx)
    have h3 := h a List.mem_cons_self
    rw [List.sum_cons]
    refine ⟨by omega, fun x hx => ?_⟩
    rcases List.mem_cons.mp hx with e | hx
    · omega
    · have := h2 x hx
      omega
theorem Kr_self {ns : List Int} (h : Shp ns) : Kr ns ns = 1 := by
  have e := Kr_own (c := ns.reverse) (by rw [List.reverse_reverse]; exact h.dec)
  rw [List.reverse_reverse, Kr_rev h.dec] at e
  exact e
theorem Kr_snoc {cs ns : List Int} (h : Shp ns) : Kr (cs ++ [0]) ns = Kr cs ns := by
  rw [Kr_perm List.perm_append_comm h.dec]
  exact Kr_zero h.dec
/-- numbers that are counts for a shape -/
structure Cts (cs ns : List Int) : Prop where
  nn : ∀ x ∈ cs, 0 ≤ x
  sum : cs.sum = ns.sum
  len : cs.length ≤ 5
theorem Cts.le {cs ns : List Int} (h : Cts cs ns) (hS : Shp ns) : ∀ x ∈ cs, 0 ≤ x ∧ x ≤ 10 := fun x hx => by
  have h1 := (le_sum0 h.nn).2 x hx
  have h2 := h.sum
  have h3 := hS.few
  have h4 := h.nn x hx
  omega
theorem Cts.perm {cs ms ns : List Int} (h : Cts cs ns) (p : ms.Perm cs) : Cts ms ns := ⟨fun x hx => h.nn x (p.subset hx), (perm_sum p).trans h.sum, by rw [p.length_eq]; exact h.len⟩
theorem moved_ok {cs ns : List Int} {i j : Nat} {x y : Int} (h : Cts cs ns) (hS : Shp ns) (hx : cs[i]? = some x) (hy : cs[j]? = some y) (hlt : y + 1 < x) :
    (mvd cs i j).length ≤ 8 ∧ (∀ z ∈ mvd cs i j, 0 ≤ z ∧ z ≤ 42) ∧ (mvd cs i j).sum = ns.sum ∧ Kr cs ns ≤ Kr (mvd cs i j) ns := by
  obtain ⟨rest, p1, p2⟩ := mvd_perm hx hy hlt
  have hle := h.le hS
  have hX := hle x (List.mem_of_getElem? hx)
  have hY := hle y (List.mem_of_getElem? hy)
  refine ⟨?_, fun z hz => ?_, ?_, Kr_moved hS.dec hx hy hlt⟩
  · rw [p2.length_eq]
    have := p1.length_eq
    have := h.len
    simp only [List.length_cons] at *
    omega
  · rcases List.mem_cons.mp (p2.subset hz) with e | hz
    · omega
    rcases List.mem_cons.mp hz with e | hz
    · omega
    · have := hle z (p1.symm.subset (List.mem_cons_of_mem _ (List.mem_cons_of_mem _ hz)))
      omega
  · rw [perm_sum p2, ← h.sum, perm_sum p1, List.sum_cons, List.sum_cons, List.sum_cons, List.sum_cons]
    omega

abbrev nRight : List Str := ["_law_heap_here", "_law_shape_here", "_law_counts_here", "_law_lots", "_law_one", "_law_other"]
theorem scRight : FnScope nRight ["_law_heap_here"] (defScope sRight) := ⟨rfl, rfl, rfl, by decide +kernel, rfl, by decide +kernel, by decide +kernel⟩

section
variable {P : Program} {w : World} {K : PySem.W.Frag} {mg : Str → Option Value} {base : Heap}
def spRight : Sp := fun vs H Q _ => ∃ (p : Addr) (x y z : Int), vs = [.ref p] ∧ H p = some (three x y z) ∧ ∀ (H' : Hp) (x' y' z' : Int), SameX p H H' → H' p = some (three x' y' z') → Q (.bl true) H'
theorem ok_right {f fS fN fO fC fL fU fM : Addr} {fd fdS fdN fdO fdC fdL fdU fdM : FuncData} (D : Df K mg "_law_right" sRight ["_law_heap_here"] f fd)
    (DS : Df K mg "_law_shape" sLShape ["_law_heap_here", "_law_most"] fS fdS) (GS : FnOk P w K mg base CX0 2 fS fdS ["_law_heap_here", "_law_most"] spLShape)
    (DN : Df K mg "_law_counts" sCounts ["_law_heap_here", "_law_total", "_law_lots"] fN fdN) (GN : FnOk P w K mg base CX0 2 fN fdN ["_law_heap_here", "_law_total", "_law_lots"] spCounts)
    (DO : Df K mg "_law_order" sOrder ["_law_heap_here", "_law_items"] fO fdO) (GO : FnOk P w K mg base CX0 2 fO fdO ["_law_heap_here", "_law_items"] spOrder)
    (DC : Df K mg "count_fillings" sCount ["shape", "sums"] fC fdC) (GC : FnOk P w K mg base CX0 5 fC fdC ["shape", "sums"] spCount)
    (DL : Df K mg "_law_less" sLess ["_law_heap_here", "_law_size"] fL fdL) (DU : Df K mg "_law_under" sUnder ["_law_one", "_law_other"] fU fdU) (DM : Df K mg "_law_moved" sMoved ["_law_row", "_law_one", "_law_other"] fM fdM)
    (T : Txt mg) : FnOk P w K mg base CX0 6 f fd ["_law_heap_here"] spRight := by
  have GL : FnOk P w K mg base CX0 1 fL fdL ["_law_heap_here", "_law_size"] spLess := ok_less DL T
  have GU : FnOk P w K mg base CX0 1 fU fdU ["_law_one", "_law_other"] spUnder := ok_under DU T
  have GM : FnOk P w K mg base CX0 1 fM fdM ["_law_row", "_law_one", "_law_other"] spMoved := ok_moved DM T
  refine D.F.ok scRight (fun vs H Q E h => ?_) (fun cdv A outer s H vs Q E hr h => ?_)
  · obtain ⟨p, x, y, z, rfl, _⟩ := h
    rfl
  · obtain ⟨p, x, y, z, rfl, hp, q⟩ := h
    have nd := scRight.nd
    have r1 : Room 1 _ := hr.mono (by decide)
    have r2 : Room 2 _ := hr.mono (by decide)
    refine ⟨_, pss_cons (ps_set (i := 1) nd rfl (.inl rfl) (pe_call GS r2 (by rfl) DS.g DS.F.kp DS.b .nil pass0 (pa_cons (pv 0) (pa_cons pe_int pa_nil))))
      (pss_cons (ps_set (i := 2) nd rfl (.inl rfl) (pe_call GN r2 (by rfl) DN.g DN.F.kp DN.b .nil pass0 (pa_cons (pv 0) (pa_cons (pe_callB (cr_sumT rfl) (by rfl) T.sum PyProof.Rows.boot_sum (pa_cons (pv 1) pa_nil))
          (pa_cons (pe_op op_add pe_int (pe_call GL r1 (by rfl) DL.g DL.F.kp DL.b .nil pass0 (pa_cons (pv 0) (pa_cons pe_int pa_nil)))) pa_nil)))))
      (pss_cons (ps_set (i := 3) nd rfl (.inl rfl) (pe_call GC hr (by rfl) DC.g DC.F.kp DC.b .nil pass0 (pa_cons (pv 1) (pa_cons (pv 2) pa_nil))))
      (pss_cons (ps_if (PW.pt (pw_or (pt_cmpR op_ne (pe_call GC hr (by rfl) DC.g DC.F.kp DC.b .nil pass0 (pa_cons (pv 1) (pa_cons (pe_callTy call_tuple_of (by rfl) T.tuple PyProof.Rows.boot_tuple (pa_cons
            (pe_call GO r2 (by rfl) DO.g DO.F.kp DO.b .nil pass0 (pa_cons (pv 0) (pa_cons (pv 2) pa_nil))) pa_nil)) pa_nil))) (pv 3) (nomark _))
          (pw_or1 (pt_cmpR op_ne (pe_cmpR op_gt (pv 3) pe_int (nomark _)) (pe_call GU r1 (by rfl) DU.g DU.F.kp DU.b .nil pass0 (pa_cons (pv 2) (pa_cons (pv 1) pa_nil))) (nomark _))))) (pss_one (ps_ret pe_bl)) pss_nil)
      (pss_cons (ps_if (PW.pt (pw_or (pt_cmpR op_ne (pe_call GC hr (by rfl) DC.g DC.F.kp DC.b .nil pass0 (pa_cons (pv 1) (pa_cons (pe_op op_catT (pv 2) (pe_tup (pa_cons pe_int pa_nil))) pa_nil))) (pv 3) (nomark _))
          (pw_or1 (pt_cmpR op_ne (pe_call GC hr (by rfl) DC.g DC.F.kp DC.b .nil pass0 (pa_cons (pv 1) (pa_cons (pe_op op_catT (pe_tup (pa_cons pe_int pa_nil)) (pv 2)) pa_nil))) (pv 3) (nomark _))))) (pss_one (ps_ret pe_bl)) pss_nil)
      (pss_cons (ps_for PassesOwn.never rfl (pi_range1 (by rfl) T.range (pa_cons (pe_callB call_len_seq (by rfl) T.len PySem.boot_len (pa_cons (pv 2) pa_nil)) pa_nil)) (pg_name (i := 4) nd rfl (.inl rfl))
        (pss_one (ps_for PassesOwn.never rfl (pi_range1 (by rfl) T.range (pa_cons (pe_callB call_len_seq (by rfl) T.len PySem.boot_len (pa_cons (pv 2) pa_nil)) pa_nil)) (pg_name (i := 5) nd rfl (.inl rfl))
          (pss_one (ps_if (PW.pt (pw_and (pt_cmpR op_gt (pe_ix ix_tup (pv 2) (pv 4) (fun _ _ => rfl)) (pe_op op_add (pe_ix ix_tup (pv 2) (pv 5) (fun _ _ => rfl)) pe_int) (nomark _))
            (pw_and1 (pt_cmpR op_lt (pe_call GC hr (by rfl) DC.g DC.F.kp DC.b .nil pass0 (pa_cons (pv 1) (pa_cons (pe_call GM r1 (by rfl) DM.g DM.F.kp DM.b .nil pass0 (pa_cons (pv 2) (pa_cons (pv 4) (pa_cons (pv 5) pa_nil)))) pa_nil))) (pv 3) (nomark _)))))
            (pss_one (ps_ret pe_bl)) pss_nil)))))
      (pss_one (ps_ret (pe_or (pe_cmpR op_gt (pe_callB call_len_seq (by rfl) T.len PySem.boot_len (pa_cons (pv 1) pa_nil)) pe_int (nomark _))
        (pe_one (pe_cmpR op_eq (pe_call GC hr (by rfl) DC.g DC.F.kp DC.b .nil pass0 (pa_cons (pv 1) (pa_cons (pv 1) pa_nil))) pe_int (nomark _))))))))))), ?_⟩
    refine ⟨_, rfl, p, x, y, z, rfl, hp, fun H1 qS ns x1 y1 z1 sx1 nqS _ tS hS ep1 => ?_⟩
    have nsum : 0 ≤ ns.sum ∧ ∀ x ∈ ns, x ≤ ns.sum := le_sum0 fun x hx => Int.le_of_lt (hS.pos x hx)
    have f10 := hS.few
    refine ⟨_, rfl, _, rfl, qS, ns, rfl, SqT.of tS, _, rfl, p, 5, x1, y1, z1, rfl, ep1, by omega, by omega, fun r x2 y2 z2 r0 r5 => ⟨1, r, rfl, rfl, ?_⟩⟩
    have tS' : upd H1 p (three x2 y2 z2) qS = some (.tup (ns.map V.int)) := (upd_ne nqS).trans tS
    refine ⟨p, ns.sum, 1 + r, x2, y2, z2, rfl, upd_same, nsum.1, f10, by omega, by omega, fun H2 qC cs x3 y3 z3 sx2 nqC _ tC lC cn cS ep2 => ?_⟩
    have tS2 : TupI H2 qS ns := sx2 _ _ nqS tS'
    have hC : Cts cs ns := ⟨cn, cS, by omega⟩
    have hCle := hC.le hS
    have sxA : SameX p H H2 := (sx1.put (.inl rfl)).trans sx2
    refine ⟨_, rfl, _, rfl, qS, qC, ns, cs, rfl, tS2, hS, tC, by have := hC.len; omega, fun x hx => ⟨(hCle x hx).1, by have := (hCle x hx).2; omega⟩, cS, fun H3 s3 => ?_⟩
    have sxB := sxA.trans (.of s3)
    -- other order
    refine ⟨_, rfl, _, rfl, _, rfl, p, qC, x3, y3, z3, cs, rfl, s3 _ _ ep2, s3 _ _ tC, by have := hC.len; omega, fun H4 qO ms x4 y4 z4 sx4 nqO _ tO ep4 pm => ⟨qO, _, rfl, .inl ⟨SqL.of tO, fun t nt => ?_⟩⟩⟩
    have s5 := same_upd nt (o := .tup (ms.map V.int))
    have sxC : SameX p H (upd H4 t (.tup (ms.map V.int))) := (sxB.trans sx4).trans (.of s5)
    have tS4 := s5 _ _ (sx4 _ _ nqS (s3 _ _ tS2))
    have tC4 := s5 _ _ (sx4 _ _ nqC (s3 _ _ tC))
    have ep5 := s5 _ _ ep4
    have hM := hC.perm pm
    have hMle := hM.le hS
    refine ⟨qS, t, ns, ms, rfl, tS4, hS, upd_same, by have := hM.len; omega, fun x hx => ⟨(hMle x hx).1, by have := (hMle x hx).2; omega⟩, hM.sum, fun H5 s6 => ?_⟩
    have sxD := sxC.trans (.of s6)
    refine ⟨_, rfl, rfl, _, rfl, ?_⟩
    rw [Kr_perm pm hS.dec, decide_eq_true rfl]
    refine iteF ?_
    refine ⟨_, rfl, _, _, rfl, rfl, _, rfl, _, rfl, qC, qS, cs, ns, rfl, s6 _ _ tC4, s6 _ _ tS4, hS, cn, by have := hC.len; omega, fun H6 s7 => ⟨rfl, _, rfl, ?_⟩⟩
    rw [decide_eq_true rfl]
    refine iteF ?_
    have sxE := sxD.trans (.of s7)
    have tS6 := s7 _ _ (s6 _ _ tS4)
    have tC6 := s7 _ _ (s6 _ _ tC4)
    have ep6 := s7 _ _ (s6 _ _ ep5)
    -- a strip of zero more
    have csne : cs.map V.int ≠ [] := fun e => by
      have h0 := congrArg List.length e
      rw [List.length_map, List.length_nil] at h0
      omega
    have hm1 : ∀ x ∈ cs ++ [0], 0 ≤ x ∧ x ≤ 42 := fun x hx => by
      rcases List.mem_append.mp hx with hx | hx
      · exact ⟨(hCle x hx).1, by have := (hCle x hx).2; omega⟩
      · have : x = 0 := by simpa using hx
        omega
    have hm2 : ∀ x ∈ 0 :: cs, 0 ≤ x ∧ x ≤ 42 := fun x hx => by
      rcases List.mem_cons.mp hx with hx | hx
      · omega
      · exact ⟨(hCle x hx).1, by have := (hCle x hx).2; omega⟩
    have hl5 := hC.len
    refine ⟨_, rfl, _, rfl, by show 1 ≤ sizeLine; decide, fun z1 nz1 => ?_⟩
    have s8 := same_upd nz1 (o := .tup [.int 0])
    refine ⟨qC, z1, cs.map V.int, [.int 0], rfl, rfl, SqT.of (s8 _ _ tC6), SqT.of upd_same, csne, ?_, (fun e => nomatch e), fun _ t1 nt1 => ?_⟩
    · rw [List.length_map]
      exact Nat.le_of_lt (small1000 (by show cs.length + 1 ≤ 1000; omega))
    have s9 := sm_new s8 nt1 (o := .tup (cs.map V.int ++ [.int 0]))
    refine ⟨qS, t1, ns, cs ++ [0], rfl, s9 _ _ tS6, hS, by show upd _ t1 _ t1 = some (.tup ((cs ++ [0]).map V.int)); rw [upd_same, List.map_append]; rfl, by rw [List.length_append]; show cs.length + 1 ≤ 8; omega, hm1, ?_, fun H8 s10 => ?_⟩
    · rw [List.sum_append_int, List.sum_cons, List.sum_nil, cS]
      omega
    have s11 := s9.trans s10
    have tS8 := s11 _ _ tS6
    have tC8 := s11 _ _ tC6
    refine ⟨_, rfl, rfl, _, rfl, ?_⟩
    rw [Kr_snoc hS, decide_eq_true rfl]
    refine iteF ?_
    refine ⟨_, rfl, by show 1 ≤ sizeLine; decide, fun z2 nz2 => ?_⟩
    have s12 := same_upd nz2 (o := .tup [.int 0])
    refine ⟨_, rfl, z2, qC, [.int 0], cs.map V.int, rfl, rfl, SqT.of upd_same, SqT.of (s12 _ _ tC8), (fun e => nomatch e), ?_, fun e => (csne e).elim, fun _ t2 nt2 => ?_⟩
    · rw [List.length_map]
      exact Nat.le_of_lt (small1000 (by show 1 + cs.length ≤ 1000; omega))
    have s13 := sm_new s12 nt2 (o := .tup ([.int 0] ++ cs.map V.int))
    refine ⟨qS, t2, ns, 0 :: cs, rfl, s13 _ _ tS8, hS, upd_same, by rw [List.length_cons]; omega, hm2, ?_, fun H9 s14 => ?_⟩
    · rw [List.sum_cons, cS]
      omega
    have s15 := s13.trans s14
    have tS9 := s15 _ _ tS8
    have tC9 := s15 _ _ tC8
    have ep9 := s15 _ _ (s11 _ _ ep6)
    have sxF := sxE.trans (.of (s11.trans s15))
    refine ⟨_, rfl, rfl, _, rfl, ?_⟩
    rw [Kr_zero hS.dec, decide_eq_true rfl]
    refine iteF ?_
    -- the strips two by two
    have len2 : (((cs.map V.int).length : Nat) : Int).toNat = cs.length := by
      rw [List.length_map]
      omega
    refine ⟨_, rfl, qC, _, rfl, .inr (SqT.of tC9), _, rfl, ?_, ?_, ?_⟩
    · omega
    · rw [List.length_map]
      omega
    refine for_range (fun _ σ H' => ∃ (y4 y5 : Option V) (x y z : Int), σ = [some (.ref p), some (.ref qS), some (.ref qC), some (.int (Kr cs ns)), y4, y5] ∧ SameX p H H' ∧ H' p = some (three x y z) ∧ TupI H' qS ns ∧ TupI H' qC cs)
      ⟨_, _, _, _, _, rfl, sxF, ep9, tS9, tC9⟩ (fun i σ G1 hi h => ?_) (fun σ G1 h => ?_)
    · obtain ⟨y4, y5, x4, y6, z4, rfl, sxG, ep, tS1, tC1⟩ := h
      rw [len2] at hi
      refine ⟨_, rfl, qC, _, rfl, .inr (SqT.of tC1), _, rfl, ?_, ?_, ?_⟩
      · omega
      · rw [List.length_map]
        omega
      refine for_range (fun _ σ H' => ∃ (y5 : Option V) (x y z : Int), σ = [some (.ref p), some (.ref qS), some (.ref qC), some (.int (Kr cs ns)), some (.int (0 + (i : Nat))), y5] ∧ SameX p H H' ∧ H' p = some (three x y z) ∧ TupI H' qS ns ∧ TupI H' qC cs)
        ⟨_, _, _, _, rfl, sxG, ep, tS1, tC1⟩ (fun j σ G2 hj h => ?_) (fun σ G2 h => ?_)
      · obtain ⟨y7, x5, y8, z5, rfl, sxH, ep2, tS2, tC2⟩ := h
        rw [len2] at hj
        rw [Int.zero_add, Int.zero_add]
        have ei : (cs.map V.int)[i]? = some (.int cs[i]) := by
          rw [List.getElem?_map, List.getElem?_eq_getElem hi]
          rfl
        have ej : (cs.map V.int)[j]? = some (.int cs[j]) := by
          rw [List.getElem?_map, List.getElem?_eq_getElem hj]
          rfl
        refine ⟨_, rfl, _, rfl, qC, _, i, _, rfl, rfl, SqT.of tC2, at_of rfl ei, ?_⟩
        refine ⟨_, rfl, _, rfl, qC, _, j, _, rfl, rfl, SqT.of tC2, at_of rfl ej, cs[j], 1, rfl, rfl, cs[i], cs[j] + 1, rfl, rfl, _, rfl, ite2 (fun c => ?_) (fun c => iteF ?_)⟩
        · have c : cs[j] + 1 < cs[i] := of_decide_eq_true c
          obtain ⟨m1, m2, m3, m4⟩ := moved_ok hC hS (List.getElem?_eq_getElem hi) (List.getElem?_eq_getElem hj) c
          refine ⟨_, rfl, _, rfl, _, rfl, _, rfl, qC, i, j, cs, rfl, tC2, by omega, fun G3 qM u1 _ tM => ?_⟩
          refine ⟨qS, qM, ns, mvd cs i j, rfl, u1 _ _ tS2, hS, tM, m1, m2, m3, fun G4 u2 => ?_⟩
          refine ⟨_, rfl, _, _, rfl, rfl, _, rfl, ?_⟩
          rw [decide_eq_false (by omega)]
          have u3 := u1.trans u2
          exact iteF ⟨_, _, _, _, rfl, sxH.trans (.of u3), u3 _ _ ep2, u3 _ _ tS2, u3 _ _ tC2⟩
        · exact ⟨_, _, _, _, rfl, sxH, ep2, tS2, tC2⟩
      · obtain ⟨y7, x5, y8, z5, rfl, sxH, ep2, tS2, tC2⟩ := h
        exact ⟨_, _, _, _, _, rfl, sxH, ep2, tS2, tC2⟩
    · obtain ⟨y4, y5, x4, y6, z4, rfl, sxG, ep, tS1, tC1⟩ := h
      refine ⟨_, rfl, qS, _, rfl, .inr (SqT.of tS1), _, _, rfl, rfl, _, rfl, ite2 (fun c => ?_) (fun c => ?_)⟩
      · exact q _ _ _ _ sxG ep
      · have c : ¬ (8 : Int) < ((ns.map V.int).length : Nat) := fun z => c (decide_eq_true z)
        rw [List.length_map] at c
        refine ⟨_, rfl, _, rfl, qS, qS, ns, ns, rfl, tS1, hS, tS1, by omega, fun x hx => ⟨Int.le_of_lt (hS.pos x hx), by have := nsum.2 x hx; omega⟩, rfl, fun G2 u1 => ?_⟩
        rw [Kr_self hS]
        exact ⟨rfl, q _ _ _ _ (sxG.trans (.of u1)) (u1 _ _ ep)⟩
end
end Wk

/-! Wk9: the law. -/
namespace Wk
open PySem PySem.Spec PyProof.Rows L2 KR Kos

abbrev nLaw : List Str := ["_law_script", "_law_at", "_law_heap_here", "_law_told"]
theorem scLaw : FnScope nLaw ["_law_script"] (defScope sLaw) := ⟨rfl, rfl, rfl, by decide +kernel, rfl, by decide +kernel, by decide +kernel⟩
theorem shp21 : Shp [2, 1] := ⟨⟨by decide, by decide, trivial⟩, by decide, by decide⟩
theorem told1 : Kr [1, 1, 1] [2, 1] = 2 := by decide +kernel
theorem told2 : Kr [2, 1] [2, 1] = 1 := by decide +kernel
theorem told3 : Kr [3] [2, 1] = 0 := by decide +kernel

section
variable {P : Program} {w : World} {K : PySem.W.Frag} {mg : Str → Option Value} {base : Heap}
def spLaw (K : PySem.W.Frag) : Sp := fun vs H Q _ => ∃ (a : Addr) (ns : List Int), vs = [.ref a] ∧ SqL K H a (ns.map V.int) ∧ ns.length ≤ 63 ∧ ∀ H', Q (.bl true) H'
theorem ok_law {f fH fR fC : Addr} {fd fdH fdR fdC : FuncData} (D : Df K mg "law" sLaw ["_law_script"] f fd)
    (DH : Df K mg "_law_heap" sHeap ["_law_script", "_law_at"] fH fdH) (DR : Df K mg "_law_right" sRight ["_law_heap_here"] fR fdR) (GR : FnOk P w K mg base CX0 6 fR fdR ["_law_heap_here"] spRight)
    (DC : Df K mg "count_fillings" sCount ["shape", "sums"] fC fdC) (GC : FnOk P w K mg base CX0 5 fC fdC ["shape", "sums"] spCount) (T : Txt mg) : FnOk P w K mg base CX0 7 f fd ["_law_script"] (spLaw K) := by
  have GH : FnOk P w K mg base CX0 1 fH fdH ["_law_script", "_law_at"] (spHeap K) := ok_heap DH T
  refine D.F.ok scLaw (fun vs H Q E h => ?_) (fun cdv A outer s H vs Q E hr h => ?_)
  · obtain ⟨a, ns, rfl, _⟩ := h
    rfl
  · obtain ⟨a, ns, rfl, hS, hlen, q⟩ := h
    have nd := scLaw.nd
    have r1 : Room 1 _ := hr.mono (by decide)
    have r5 : Room 5 _ := hr.mono (by decide)
    refine ⟨_, pss_cons (ps_for PassesOwn.never rfl (pi_range1 (by rfl) T.range (pa_cons (pe_callB (call_max2 rfl) (by rfl) T.max PyProof.Rows.boot_max (pa_cons pe_int (pa_cons
          (pe_callB (call_min2 rfl) (by rfl) T.min PyProof.Rows.boot_min (pa_cons pe_int (pa_cons (pe_callB call_len_seq (by rfl) T.len PySem.boot_len (pa_cons (pv 0) pa_nil)) pa_nil))) pa_nil))) pa_nil)) (pg_name (i := 1) nd rfl (.inl rfl))
        (pss_cons (ps_set (i := 2) nd rfl (.inl rfl) (pe_call GH r1 (by rfl) DH.g DH.F.kp DH.b .nil pass0 (pa_cons (pv 0) (pa_cons (pv 1) pa_nil))))
        (pss_one (ps_if (PW.pt (pw_or (pt_not (pt_val (pe_call GR hr (by rfl) DR.g DR.F.kp DR.b .nil pass0 (pa_cons (pv 2) pa_nil))))
          (pw_or1 (pt_not (pt_val (pe_call GR hr (by rfl) DR.g DR.F.kp DR.b .nil pass0 (pa_cons (pv 2) pa_nil))))))) (pss_one (ps_ret pe_bl)) pss_nil))))
      (pss_cons (ps_set (i := 3) nd rfl (.inl rfl) (pe_lst
        (pa_cons (pe_call GC r5 (by rfl) DC.g DC.F.kp DC.b .nil pass0 (pa_cons (pe_tup (pa_cons pe_int (pa_cons pe_int pa_nil))) (pa_cons (pe_tup (pa_cons pe_int (pa_cons pe_int (pa_cons pe_int pa_nil)))) pa_nil)))
        (pa_cons (pe_call GC r5 (by rfl) DC.g DC.F.kp DC.b .nil pass0 (pa_cons (pe_tup (pa_cons pe_int (pa_cons pe_int pa_nil))) (pa_cons (pe_tup (pa_cons pe_int (pa_cons pe_int pa_nil))) pa_nil)))
        (pa_cons (pe_call GC r5 (by rfl) DC.g DC.F.kp DC.b .nil pass0 (pa_cons (pe_tup (pa_cons pe_int (pa_cons pe_int pa_nil))) (pa_cons (pe_tup (pa_cons pe_int pa_nil)) pa_nil))) pa_nil)))))
      (pss_one (ps_ret (pe_cmpR (op_eqD hr.units) (pv 3) (pe_lst (pa_cons pe_int (pa_cons pe_int (pa_cons pe_int pa_nil)))) (nomark _))))), ?_⟩
    refine ⟨_, rfl, a, _, rfl, .inl hS, 5, _, rfl, 1, _, rfl, _, rfl, ?_⟩
    obtain ⟨n, en, n1, n5⟩ : ∃ n : Nat, (if (if (((ns.map V.int).length : Nat) : Int) < 5 then (((ns.map V.int).length : Nat) : Int) else 5) > 1 then (if (((ns.map V.int).length : Nat) : Int) < 5 then (((ns.map V.int).length : Nat) : Int) else 5) else 1) = (n : Int) ∧ 1 ≤ n ∧ n ≤ 5 := by
      generalize (ns.map V.int).length = L
      by_cases c : (L : Int) < 5
      · rw [if_pos c]
        by_cases c2 : (L : Int) > 1
        · exact ⟨L, if_pos c2, by omega, by omega⟩
        · exact ⟨1, if_neg c2, by omega, by omega⟩
      · rw [if_neg c]
        exact ⟨5, by decide, by omega, by omega⟩
    rw [en]
    refine ⟨by omega, by omega, ?_⟩
    refine for_range (fun _ σ H' => ∃ (y1 y2 y3 : Option V), σ = [some (.ref a), y1, y2, y3] ∧ Same H H') ⟨_, _, _, rfl, fun _ _ e => e⟩ (fun i σ G hi h => ?_) (fun σ G h => ?_)
    · obtain ⟨y1, y2, y3, rfl, s1⟩ := h
      rw [Int.zero_add]
      refine ⟨_, rfl, _, rfl, a, ns, i, rfl, s1.seq hS, fun G1 p x y z s2 np ep => ?_⟩
      have nH : H p = none := s1.free np
      refine ⟨_, rfl, p, x, y, z, rfl, ep, fun G2 x2 y2 z2 sx ep2 => ⟨true, rfl, iteF ?_⟩⟩
      refine ⟨_, rfl, p, x2, y2, z2, rfl, ep2, fun G3 x3 y3 z3 sx2 ep3 => ⟨true, rfl, iteF ?_⟩⟩
      exact ⟨_, _, _, rfl, (((SameX.of (s1.trans s2)).trans sx).trans sx2).same nH⟩
    · obtain ⟨y1, y2, y3, rfl, s1⟩ := h
      refine ⟨by show 2 ≤ sizeLine; decide, fun t1 nt1 => ⟨by show 3 ≤ sizeLine; decide, fun t2 nt2 => ?_⟩⟩
      have e1 : TupI (upd (upd G t1 (.tup [.int 2, .int 1])) t2 (.tup [.int 1, .int 1, .int 1])) t1 [2, 1] := same_upd nt2 _ _ upd_same
      refine ⟨t1, t2, [2, 1], [1, 1, 1], rfl, e1, shp21, upd_same, by decide, by decide, rfl, fun G1 u1 => ?_⟩
      rw [told1]
      refine ⟨by show 2 ≤ sizeLine; decide, fun t3 nt3 => ⟨by show 2 ≤ sizeLine; decide, fun t4 nt4 => ?_⟩⟩
      have e2 : TupI (upd (upd G1 t3 (.tup [.int 2, .int 1])) t4 (.tup [.int 2, .int 1])) t3 [2, 1] := same_upd nt4 _ _ upd_same
      refine ⟨t3, t4, [2, 1], [2, 1], rfl, e2, shp21, upd_same, by decide, by decide, rfl, fun G2 u2 => ?_⟩
      rw [told2]
      refine ⟨by show 2 ≤ sizeLine; decide, fun t5 nt5 => ⟨by show 1 ≤ sizeLine; decide, fun t6 nt6 => ?_⟩⟩
      have e3 : TupI (upd (upd G2 t5 (.tup [.int 2, .int 1])) t6 (.tup [.int 3])) t5 [2, 1] := same_upd nt6 _ _ upd_same
      refine ⟨t5, t6, [2, 1], [3], rfl, e3, shp21, upd_same, by decide, by decide, rfl, fun G3 u3 => ?_⟩
      rw [told3]
      refine ⟨by show 3 ≤ sizeLine; decide, fun l nl => ?_⟩
      refine ⟨_, rfl, by show 3 ≤ sizeLine; decide, fun m nm => ?_⟩
      have s2 := same_upd nm (o := .lst [.int 2, .int 1, .int 0])
      refine ⟨.list ([2, 1, 0].map PyData.int), .list ([2, 1, 0].map PyData.int), .lst (SqL.of (s2 _ _ upd_same)) (dpInts [2, 1, 0]), .lst (SqL.of upd_same) (dpInts [2, 1, 0]), PySem.W.ke_shaped_ints _, PySem.W.ke_shaped_ints _, ?_⟩
      rw [SeqAt.eqv_refl _ (SeqAt.canLay_of_shaped (PySem.W.ke_shaped_ints _))]
      exact q _
end
end Wk

/-! End: what the top has left, and the theorem. -/
namespace Wk
open PySem PySem.Spec PyProof.Rows L2 KR Kos
theorem df_mk {K : PySem.W.Frag} {h : Heap} {mg : Str → Option Value} (X : K.In h) (G : h.Ns mainGlobals mg) {x : Str} {st : Stmt} {ps : List Str} {f : Addr} {oc kV dc pm cd ct : Value} {od an : Option Addr} {sl : Array (Option Value)}
    (a : PySem.W.nsIn K mainGlobals x = some (some (.ref f))) (l : K.lookup f = some ⟨oc, od, .func (PySem.W.fnOf x x (defArgs st) (defBody st) (defScope st) .none kV dc pm an cd ct), sl⟩)
    (c : PySem.W.codeIn K cd x = true) (k : PySem.W.keepIn K (.ref f) = true)
    (b : ∀ (kV doc pm : Value) (an : Option Addr) (cdv ct : Value) (us : List Value), us.length = ps.length → bindArgs (PySem.W.fnOf x x (defArgs st) (defBody st) (defScope st) .none kV doc pm an cdv ct) ⟨us, []⟩ = pure (ps.zip us)) :
    Df K mg x st ps f (PySem.W.fnOf x x (defArgs st) (defBody st) (defScope st) .none kV dc pm an cd ct) := ⟨fun_mk l c k, (fun_mk l c k).binds b, PySem.W.mg_of X G a⟩
theorem all_mk {l : PySem.W.OpenLaw} {w : World} {K : PySem.W.Frag} {h : Heap} {mg : Str → Option Value} {fa : Addr} (X : K.In h) (G : h.Ns mainGlobals mg) (hfa : mg "law" = some (.ref fa))
    {fIt : Addr} {odIt anIt : Option Addr} {slIt : Array (Option Value)} {ocIt kVIt dcIt pmIt cdIt ctIt : Value}
    (aIt : PySem.W.nsIn K mainGlobals "is_integer" = some (some (.ref fIt))) (lIt : K.lookup fIt = some ⟨ocIt, odIt, .func (PySem.W.fnOf "is_integer" "is_integer" (defArgs sInteger) (defBody sInteger) (defScope sInteger) .none kVIt dcIt pmIt anIt cdIt ctIt), slIt⟩) (cIt : PySem.W.codeIn K cdIt "is_integer" = true) (kIt : PySem.W.keepIn K (.ref fIt) = true)
    {fFr : Addr} {odFr anFr : Option Addr} {slFr : Array (Option Value)} {ocFr kVFr dcFr pmFr cdFr ctFr : Value}
    (aFr : PySem.W.nsIn K mainGlobals "is_from" = some (some (.ref fFr))) (lFr : K.lookup fFr = some ⟨ocFr, odFr, .func (PySem.W.fnOf "is_from" "is_from" (defArgs sFrom) (defBody sFrom) (defScope sFrom) .none kVFr dcFr pmFr anFr cdFr ctFr), slFr⟩) (cFr : PySem.W.codeIn K cdFr "is_from" = true) (kFr : PySem.W.keepIn K (.ref fFr) = true)
    {fSh : Addr} {odSh anSh : Option Addr} {slSh : Array (Option Value)} {ocSh kVSh dcSh pmSh cdSh ctSh : Value}
    (aSh : PySem.W.nsIn K mainGlobals "is_shape" = some (some (.ref fSh))) (lSh : K.lookup fSh = some ⟨ocSh, odSh, .func (PySem.W.fnOf "is_shape" "is_shape" (defArgs sShape) (defBody sShape) (defScope sShape) .none kVSh dcSh pmSh anSh cdSh ctSh), slSh⟩) (cSh : PySem.W.codeIn K cdSh "is_shape" = true) (kSh : PySem.W.keepIn K (.ref fSh) = true)
    {fRs : Addr} {odRs anRs : Option Addr} {slRs : Array (Option Value)} {ocRs kVRs dcRs pmRs cdRs ctRs : Value}
    (aRs : PySem.W.nsIn K mainGlobals "require_shape" = some (some (.ref fRs))) (lRs : K.lookup fRs = some ⟨ocRs, odRs, .func (PySem.W.fnOf "require_shape" "require_shape" (defArgs sReqShape) (defBody sReqShape) (defScope sReqShape) .none kVRs dcRs pmRs anRs cdRs ctRs), slRs⟩) (cRs : PySem.W.codeIn K cdRs "require_shape" = true) (kRs : PySem.W.keepIn K (.ref fRs) = true)
    {fSt : Addr} {odSt anSt : Option Addr} {slSt : Array (Option Value)} {ocSt kVSt dcSt pmSt cdSt ctSt : Value}
    (aSt : PySem.W.nsIn K mainGlobals "without_strip" = some (some (.ref fSt))) (lSt : K.lookup fSt = some ⟨ocSt, odSt, .func (PySem.W.fnOf "without_strip" "without_strip" (defArgs sStrip) (defBody sStrip) (defScope sStrip) .none kVSt dcSt pmSt anSt cdSt ctSt), slSt⟩) (cSt : PySem.W.codeIn K cdSt "without_strip" = true) (kSt : PySem.W.keepIn K (.ref fSt) = true)
    {fNu : Addr} {odNu anNu : Option Addr} {slNu : Array (Option Value)} {ocNu kVNu dcNu pmNu cdNu ctNu : Value}
    (aNu : PySem.W.nsIn K mainGlobals "number_of" = some (some (.ref fNu))) (lNu : K.lookup fNu = some ⟨ocNu, odNu, .func (PySem.W.fnOf "number_of" "number_of" (defArgs sNumber) (defBody sNumber) (defScope sNumber) .none kVNu dcNu pmNu anNu cdNu ctNu), slNu⟩) (cNu : PySem.W.codeIn K cdNu "number_of" = true) (kNu : PySem.W.keepIn K (.ref fNu) = true)
    {fRc : Addr} {odRc anRc : Option Addr} {slRc : Array (Option Value)} {ocRc kVRc dcRc pmRc cdRc ctRc : Value}
    (aRc : PySem.W.nsIn K mainGlobals "require_counts" = some (some (.ref fRc))) (lRc : K.lookup fRc = some ⟨ocRc, odRc, .func (PySem.W.fnOf "require_counts" "require_counts" (defArgs sReqCounts) (defBody sReqCounts) (defScope sReqCounts) .none kVRc dcRc pmRc anRc cdRc ctRc), slRc⟩) (cRc : PySem.W.codeIn K cdRc "require_counts" = true) (kRc : PySem.W.keepIn K (.ref fRc) = true)
    {fCo : Addr} {odCo anCo : Option Addr} {slCo : Array (Option Value)} {ocCo kVCo dcCo pmCo cdCo ctCo : Value}
    (aCo : PySem.W.nsIn K mainGlobals "count_fillings" = some (some (.ref fCo))) (lCo : K.lookup fCo = some ⟨ocCo, odCo, .func (PySem.W.fnOf "count_fillings" "count_fillings" (defArgs sCount) (defBody sCount) (defScope sCount) .none kVCo dcCo pmCo anCo cdCo ctCo), slCo⟩) (cCo : PySem.W.codeIn K cdCo "count_fillings" = true) (kCo : PySem.W.keepIn K (.ref fCo) = true)
    {fHe : Addr} {odHe anHe : Option Addr} {slHe : Array (Option Value)} {ocHe kVHe dcHe pmHe cdHe ctHe : Value}
    (aHe : PySem.W.nsIn K mainGlobals "_law_heap" = some (some (.ref fHe))) (lHe : K.lookup fHe = some ⟨ocHe, odHe, .func (PySem.W.fnOf "_law_heap" "_law_heap" (defArgs sHeap) (defBody sHeap) (defScope sHeap) .none kVHe dcHe pmHe anHe cdHe ctHe), slHe⟩) (cHe : PySem.W.codeIn K cdHe "_law_heap" = true) (kHe : PySem.W.keepIn K (.ref fHe) = true)
    {fLe : Addr} {odLe anLe : Option Addr} {slLe : Array (Option Value)} {ocLe kVLe dcLe pmLe cdLe ctLe : Value}
    (aLe : PySem.W.nsIn K mainGlobals "_law_less" = some (some (.ref fLe))) (lLe : K.lookup fLe = some ⟨ocLe, odLe, .func (PySem.W.fnOf "_law_less" "_law_less" (defArgs sLess) (defBody sLess) (defScope sLess) .none kVLe dcLe pmLe anLe cdLe ctLe), slLe⟩) (cLe : PySem.W.codeIn K cdLe "_law_less" = true) (kLe : PySem.W.keepIn K (.ref fLe) = true)
    {fOr : Addr} {odOr anOr : Option Addr} {slOr : Array (Option Value)} {ocOr kVOr dcOr pmOr cdOr ctOr : Value}
    (aOr : PySem.W.nsIn K mainGlobals "_law_order" = some (some (.ref fOr))) (lOr : K.lookup fOr = some ⟨ocOr, odOr, .func (PySem.W.fnOf "_law_order" "_law_order" (defArgs sOrder) (defBody sOrder) (defScope sOrder) .none kVOr dcOr pmOr anOr cdOr ctOr), slOr⟩) (cOr : PySem.W.codeIn K cdOr "_law_order" = true) (kOr : PySem.W.keepIn K (.ref fOr) = true)
    {fLs : Addr} {odLs anLs : Option Addr} {slLs : Array (Option Value)} {ocLs kVLs dcLs pmLs cdLs ctLs : Value}
    (aLs : PySem.W.nsIn K mainGlobals "_law_shape" = some (some (.ref fLs))) (lLs : K.lookup fLs = some ⟨ocLs, odLs, .func (PySem.W.fnOf "_law_shape" "_law_shape" (defArgs sLShape) (defBody sLShape) (defScope sLShape) .none kVLs dcLs pmLs anLs cdLs ctLs), slLs⟩) (cLs : PySem.W.codeIn K cdLs "_law_shape" = true) (kLs : PySem.W.keepIn K (.ref fLs) = true)
    {fLc : Addr} {odLc anLc : Option Addr} {slLc : Array (Option Value)} {ocLc kVLc dcLc pmLc cdLc ctLc : Value}
    (aLc : PySem.W.nsIn K mainGlobals "_law_counts" = some (some (.ref fLc))) (lLc : K.lookup fLc = some ⟨ocLc, odLc, .func (PySem.W.fnOf "_law_counts" "_law_counts" (defArgs sCounts) (defBody sCounts) (defScope sCounts) .none kVLc dcLc pmLc anLc cdLc ctLc), slLc⟩) (cLc : PySem.W.codeIn K cdLc "_law_counts" = true) (kLc : PySem.W.keepIn K (.ref fLc) = true)
    {fUn : Addr} {odUn anUn : Option Addr} {slUn : Array (Option Value)} {ocUn kVUn dcUn pmUn cdUn ctUn : Value}
    (aUn : PySem.W.nsIn K mainGlobals "_law_under" = some (some (.ref fUn))) (lUn : K.lookup fUn = some ⟨ocUn, odUn, .func (PySem.W.fnOf "_law_under" "_law_under" (defArgs sUnder) (defBody sUnder) (defScope sUnder) .none kVUn dcUn pmUn anUn cdUn ctUn), slUn⟩) (cUn : PySem.W.codeIn K cdUn "_law_under" = true) (kUn : PySem.W.keepIn K (.ref fUn) = true)
    {fMo : Addr} {odMo anMo : Option Addr} {slMo : Array (Option Value)} {ocMo kVMo dcMo pmMo cdMo ctMo : Value}
    (aMo : PySem.W.nsIn K mainGlobals "_law_moved" = some (some (.ref fMo))) (lMo : K.lookup fMo = some ⟨ocMo, odMo, .func (PySem.W.fnOf "_law_moved" "_law_moved" (defArgs sMoved) (defBody sMoved) (defScope sMoved) .none kVMo dcMo pmMo anMo cdMo ctMo), slMo⟩) (cMo : PySem.W.codeIn K cdMo "_law_moved" = true) (kMo : PySem.W.keepIn K (.ref fMo) = true)
    {fRi : Addr} {odRi anRi : Option Addr} {slRi : Array (Option Value)} {ocRi kVRi dcRi pmRi cdRi ctRi : Value}
    (aRi : PySem.W.nsIn K mainGlobals "_law_right" = some (some (.ref fRi))) (lRi : K.lookup fRi = some ⟨ocRi, odRi, .func (PySem.W.fnOf "_law_right" "_law_right" (defArgs sRight) (defBody sRight) (defScope sRight) .none kVRi dcRi pmRi anRi cdRi ctRi), slRi⟩) (cRi : PySem.W.codeIn K cdRi "_law_right" = true) (kRi : PySem.W.keepIn K (.ref fRi) = true)
    {fLa : Addr} {odLa anLa : Option Addr} {slLa : Array (Option Value)} {ocLa kVLa dcLa pmLa cdLa ctLa : Value}
    (aLa : PySem.W.nsIn K mainGlobals "law" = some (some (.ref fLa))) (lLa : K.lookup fLa = some ⟨ocLa, odLa, .func (PySem.W.fnOf "law" "law" (defArgs sLaw) (defBody sLaw) (defScope sLaw) .none kVLa dcLa pmLa anLa cdLa ctLa), slLa⟩) (cLa : PySem.W.codeIn K cdLa "law" = true) (kLa : PySem.W.keepIn K (.ref fLa) = true)
    (zisinst : PySem.W.nsIn K mainGlobals "isinstance" = some none)
    (zint : PySem.W.nsIn K mainGlobals "int" = some none)
    (zbool : PySem.W.nsIn K mainGlobals "bool" = some none)
    (ztuple : PySem.W.nsIn K mainGlobals "tuple" = some none)
    (zlist : PySem.W.nsIn K mainGlobals "list" = some none)
    (zall : PySem.W.nsIn K mainGlobals "all" = some none)
    (zsum : PySem.W.nsIn K mainGlobals "sum" = some none)
    (zsorted : PySem.W.nsIn K mainGlobals "sorted" = some none)
    (zenum : PySem.W.nsIn K mainGlobals "enumerate" = some none)
    (zlen : PySem.W.nsIn K mainGlobals "len" = some none)
    (zrange : PySem.W.nsIn K mainGlobals "range" = some none)
    (zabs : PySem.W.nsIn K mainGlobals "abs" = some none)
    (zmax : PySem.W.nsIn K mainGlobals "max" = some none)
    (zmin : PySem.W.nsIn K mainGlobals "min" = some none)
    {t1 t2 : Tok} (zcells : PySem.W.nsIn K mainGlobals "MAX_CELLS" = some (some (.int 42 t1))) (zentries : PySem.W.nsIn K mainGlobals "MAX_ENTRIES" = some (some (.int 8 t2))) :
    ∃ fd : FuncData, (∀ (s : Shared) (v : Value), BindsTo s fd ⟨[v], []⟩ [("_law_script", v)]) ∧ ∀ base : Heap, K.In base → base.Ns mainGlobals mg → FnOk l.prog w K mg base CX0 7 fa fd ["_law_script"] (spLaw K) := by
  have e := hfa.symm.trans (PySem.W.mg_of X G aLa)
  cases e
  have DIt : Df K mg "is_integer" sInteger ["value"] _ _ := df_mk X G aIt lIt cIt kIt fun _ _ _ _ _ _ us hl => match us, hl with | [_], _ => rfl
  have DFr : Df K mg "is_from" sFrom ["value", "first", "last"] _ _ := df_mk X G aFr lFr cFr kFr fun _ _ _ _ _ _ us hl => match us, hl with | [_, _, _], _ => rfl
  have DSh : Df K mg "is_shape" sShape ["value"] _ _ := df_mk X G aSh lSh cSh kSh fun _ _ _ _ _ _ us hl => match us, hl with | [_], _ => rfl
  have DRs : Df K mg "require_shape" sReqShape ["shape"] _ _ := df_mk X G aRs lRs cRs kRs fun _ _ _ _ _ _ us hl => match us, hl with | [_], _ => rfl
  have DSt : Df K mg "without_strip" sStrip ["shape", "many"] _ _ := df_mk X G aSt lSt cSt kSt fun _ _ _ _ _ _ us hl => match us, hl with | [_, _], _ => rfl
  have DNu : Df K mg "number_of" sNumber ["shape", "sums"] _ _ := df_mk X G aNu lNu cNu kNu fun _ _ _ _ _ _ us hl => match us, hl with | [_, _], _ => rfl
  have DRc : Df K mg "require_counts" sReqCounts ["sums"] _ _ := df_mk X G aRc lRc cRc kRc fun _ _ _ _ _ _ us hl => match us, hl with | [_], _ => rfl
  have DCo : Df K mg "count_fillings" sCount ["shape", "sums"] _ _ := df_mk X G aCo lCo cCo kCo fun _ _ _ _ _ _ us hl => match us, hl with | [_, _], _ => rfl
  have DHe : Df K mg "_law_heap" sHeap ["_law_script", "_law_at"] _ _ := df_mk X G aHe lHe cHe kHe fun _ _ _ _ _ _ us hl => match us, hl with | [_, _], _ => rfl
  have DLe : Df K mg "_law_less" sLess ["_law_heap_here", "_law_size"] _ _ := df_mk X G aLe lLe cLe kLe fun _ _ _ _ _ _ us hl => match us, hl with | [_, _], _ => rfl
  have DOr : Df K mg "_law_order" sOrder ["_law_heap_here", "_law_items"] _ _ := df_mk X G aOr lOr cOr kOr fun _ _ _ _ _ _ us hl => match us, hl with | [_, _], _ => rfl
  have DLs : Df K mg "_law_shape" sLShape ["_law_heap_here", "_law_most"] _ _ := df_mk X G aLs lLs cLs kLs fun _ _ _ _ _ _ us hl => match us, hl with | [_, _], _ => rfl
  have DLc : Df K mg "_law_counts" sCounts ["_law_heap_here", "_law_total", "_law_lots"] _ _ := df_mk X G aLc lLc cLc kLc fun _ _ _ _ _ _ us hl => match us, hl with | [_, _, _], _ => rfl
  have DUn : Df K mg "_law_under" sUnder ["_law_one", "_law_other"] _ _ := df_mk X G aUn lUn cUn kUn fun _ _ _ _ _ _ us hl => match us, hl with | [_, _], _ => rfl
  have DMo : Df K mg "_law_moved" sMoved ["_law_row", "_law_one", "_law_other"] _ _ := df_mk X G aMo lMo cMo kMo fun _ _ _ _ _ _ us hl => match us, hl with | [_, _, _], _ => rfl
  have DRi : Df K mg "_law_right" sRight ["_law_heap_here"] _ _ := df_mk X G aRi lRi cRi kRi fun _ _ _ _ _ _ us hl => match us, hl with | [_], _ => rfl
  have DLa : Df K mg "law" sLaw ["_law_script"] _ _ := df_mk X G aLa lLa cLa kLa fun _ _ _ _ _ _ us hl => match us, hl with | [_], _ => rfl
  have T : Txt mg := ⟨PySem.W.mg_none_of X G zisinst, PySem.W.mg_none_of X G zint, PySem.W.mg_none_of X G zbool, PySem.W.mg_none_of X G ztuple, PySem.W.mg_none_of X G zlist, PySem.W.mg_none_of X G zall, PySem.W.mg_none_of X G zsum, PySem.W.mg_none_of X G zsorted, PySem.W.mg_none_of X G zenum, PySem.W.mg_none_of X G zlen, PySem.W.mg_none_of X G zrange, PySem.W.mg_none_of X G zabs, PySem.W.mg_none_of X G zmax, PySem.W.mg_none_of X G zmin, ⟨t1, PySem.W.mg_of X G zcells⟩, ⟨t2, PySem.W.mg_of X G zentries⟩⟩
  refine ⟨PySem.W.fnOf "law" "law" (defArgs sLaw) (defBody sLaw) (defScope sLaw) .none kVLa dcLa pmLa anLa cdLa ctLa, fun s v => .of_eq rfl, fun base _ _ => ?_⟩
  have GF : FnOk l.prog w K mg base CX0 2 fFr _ ["value", "first", "last"] spFrom := ok_from DFr DIt T
  have GSh : FnOk l.prog w K mg base CX0 3 fSh _ ["value"] spShape := ok_shape DSh DFr DIt T
  have GRs : FnOk l.prog w K mg base CX0 4 fRs _ ["shape"] spReqShape := ok_reqShape DRs DSh GSh
  have GRc : FnOk l.prog w K mg base CX0 3 fRc _ ["sums"] spReqCounts := ok_reqCounts DRc DFr GF T
  have GNu : FnOk l.prog w K mg base CX0 2 fNu _ ["shape", "sums"] spNumber := ok_number DNu DSt (ok_strip DSt T)
  have GCo : FnOk l.prog w K mg base CX0 5 fCo _ ["shape", "sums"] spCount := ok_count DCo DRs GRs DRc GRc DNu GNu T
  have GRi : FnOk l.prog w K mg base CX0 6 fRi _ ["_law_heap_here"] spRight := ok_right DRi DLs (ok_lshape DLs DLe T) DLc (ok_counts DLc DLe T) DOr (ok_order DOr DLe T) DCo GCo DLe DUn DMo T
  exact ok_law DLa DHe DRi GRi DCo GCo T
end Wk
open PySem PySem.W PyProof.Rows
set_option maxHeartbeats 0 in
theorem PySem.Challenge.cw_sumsalone_k74_whole_fillings_and_order_holds : PySem.Challenge.rw_sumsalone_k74_whole_fillings_and_order.Holds := by
  w_on; o_law; k_head; (case hw => w_witness2)
  k_fill
  refine L2.walk_of (l := PySem.Challenge.rw_sumsalone_k74_whole_fillings_and_order) (n := 63) (k := 7) (x := "_law_script") (CX := fun _ => L2.CX0) (sp := fun w => Wk.spLaw _) rfl (by decide) rfl ⟨rfl, by decide, by decide⟩ (fun w h Y => PySem.W.kIn_of Y) ?F (fun _ _ a ns hl _ hS => ⟨a, ns, rfl, hS, hl, fun _ => rfl⟩) (fun _ _ _ _ _ h => h)
  case F =>
    intro w mg fa h KX G hmg
    refine' Wk.all_mk KX G hmg ?aIt ?lIt ?cIt ?kIt ?aFr ?lFr ?cFr ?kFr ?aSh ?lSh ?cSh ?kSh ?aRs ?lRs ?cRs ?kRs ?aSt ?lSt ?cSt ?kSt ?aNu ?lNu ?cNu ?kNu ?aRc ?lRc ?cRc ?kRc ?aCo ?lCo ?cCo ?kCo ?aHe ?lHe ?cHe ?kHe ?aLe ?lLe ?cLe ?kLe ?aOr ?lOr ?cOr ?kOr ?aLs ?lLs ?cLs ?kLs ?aLc ?lLc ?cLc ?kLc ?aUn ?lUn ?cUn ?kUn ?aMo ?lMo ?cMo ?kMo ?aRi ?lRi ?cRi ?kRi ?aLa ?lLa ?cLa ?kLa ?zisinst ?zint ?zbool ?ztuple ?zlist ?zall ?zsum ?zsorted ?zenum ?zlen ?zrange ?zabs ?zmax ?zmin ?zcells ?zentries
    (case aIt => k_is)
    (case lIt => k_is)
    (case cIt => k_is)
    (case kIt => k_is)
    (case aFr => k_is)
    (case lFr => k_is)
    (case cFr => k_is)
    (case kFr => k_is)
    (case aSh => k_is)
    (case lSh => k_is)
    (case cSh => k_is)
    (case kSh => k_is)
    (case aRs => k_is)
    (case lRs => k_is)
    (case cRs => k_is)
    (case kRs => k_is)
    (case aSt => k_is)
    (case lSt => k_is)
    (case cSt => k_is)
    (case kSt => k_is)
    (case aNu => k_is)
    (case lNu => k_is)
    (case cNu => k_is)
    (case kNu => k_is)
    (case aRc => k_is)
    (case lRc => k_is)
    (case cRc => k_is)
    (case kRc => k_is)
    (case aCo => k_is)
    (case lCo => k_is)
    (case cCo => k_is)
    (case kCo => k_is)
    (case aHe => k_is)
    (case lHe => k_is)
    (case cHe => k_is)
    (case kHe => k_is)
    (case aLe => k_is)
    (case lLe => k_is)
    (case cLe => k_is)
    (case kLe => k_is)
    (case aOr => k_is)
    (case lOr => k_is)
    (case cOr => k_is)
    (case kOr => k_is)
    (case aLs => k_is)
    (case lLs => k_is)
    (case cLs => k_is)
    (case kLs => k_is)
    (case aLc => k_is)
    (case lLc => k_is)
    (case cLc => k_is)
    (case kLc => k_is)
    (case aUn => k_is)
    (case lUn => k_is)
    (case cUn => k_is)
    (case kUn => k_is)
    (case aMo => k_is)
    (case lMo => k_is)
    (case cMo => k_is)
    (case kMo => k_is)
    (case aRi => k_is)
    (case lRi => k_is)
    (case cRi => k_is)
    (case kRi => k_is)
    (case aLa => k_is)
    (case lLa => k_is)
    (case cLa => k_is)
    (case kLa => k_is)
    (case zisinst => k_is)
    (case zint => k_is)
    (case zbool => k_is)
    (case ztuple => k_is)
    (case zlist => k_is)
    (case zall => k_is)
    (case zsum => k_is)
    (case zsorted => k_is)
    (case zenum => k_is)
    (case zlen => k_is)
    (case zrange => k_is)
    (case zabs => k_is)
    (case zmax => k_is)
    (case zmin => k_is)
    (case zcells => k_is)
    (case zentries => k_is)
