import PyProof.Rows.All
import Wide.All
import OpenK.AllK
import Wide.FinOn
import HandS.ForMost
import HandS.ForExc
import HandS.Evl
import HandS.Walk
import HandS.Zip
import HandS.DictComp
import HandS.Flow
import HandS.Style
import HandS.Wide
import HandS.Strs
import HandS.IsInst
import HandS.Slots
import HandS.SlotsOwn
import HandS.Small
import HandS.TryMany
import KE.KSortTupG
import KE.GoesMore
import PyProof.EnumMake
import PySem.Challenge.RW_joinlags_k73_whole_what_is_joined
section
set_option linter.unusedVariables false
set_option autoImplicit false
namespace K73
abbrev Ent := Option Int
def addE : Ent → Ent → Ent
  | some a, some b => some (a + b)
  | _, _ => none
def leE : Ent → Ent → Bool
  | _, none => true
  | none, some _ => false
  | some a, some b => decide (a ≤ b)
def minE (a b : Ent) : Ent := if leE a b = true then a else b
theorem leE_iff {a b : Ent} : leE a b = true ↔ ∀ y, b = some y → ∃ x, a = some x ∧ x ≤ y := by
  cases b with
  | none => exact ⟨fun _ y h => (nomatch h), fun _ => by cases a <;> rfl⟩
  | some y =>
    cases a with
    | none => exact ⟨fun h => (nomatch h), fun h => by obtain ⟨x, e, _⟩ := h y rfl; cases e⟩
    | some x =>
      constructor
      · intro h z e
        cases e
        exact ⟨x, rfl, of_decide_eq_true h⟩
      · intro h
        obtain ⟨z, e, l⟩ := h y rfl
        cases e
        exact decide_eq_true l
theorem addE_some {a b : Ent} {c : Int} : addE a b = some c ↔ ∃ x y, a = some x ∧ b = some y ∧ c = x + y := by
  cases a with
  | none => exact ⟨fun h => (by cases b <;> cases h), fun ⟨x, _, h, _⟩ => nomatch h⟩
  | some x =>
    cases b with
    | none => exact ⟨fun h => (by cases h), fun ⟨_, y, _, h, _⟩ => nomatch h⟩
    | some y =>
      constructor
      · intro h
        cases h
        exact ⟨x, y, rfl, rfl, rfl⟩
      · rintro ⟨x', y', e1, e2, rfl⟩
        cases e1
        cases e2
        rfl
theorem leE_refl (a : Ent) : leE a a = true := leE_iff.mpr fun y e => ⟨y, e, Int.le_refl _⟩
theorem leE_trans {a b c : Ent} (h : leE a b = true) (k : leE b c = true) : leE a c = true := leE_iff.mpr fun z e => by
  obtain ⟨y, e1, l1⟩ := leE_iff.mp k z e
  obtain ⟨x, e2, l2⟩ := leE_iff.mp h y e1
  exact ⟨x, e2, Int.le_trans l2 l1⟩
theorem leE_total (a b : Ent) (h : ¬ leE a b = true) : leE b a = true := by
  cases a with
  | none => cases b <;> rfl
  | some x =>
    cases b with
    | none => exact absurd rfl h
    | some y =>
      have : ¬ x ≤ y := fun l => h (decide_eq_true l)
      exact decide_eq_true (by omega)
theorem minE_l (a b : Ent) : leE (minE a b) a = true := by
  unfold minE
  split
  · exact leE_refl a
  · rename_i h
    exact leE_total a b h
theorem minE_r (a b : Ent) : leE (minE a b) b = true := by
  unfold minE
  split
  · assumption
  · exact leE_refl b
theorem minE_or (a b : Ent) : minE a b = a ∨ minE a b = b := by
  unfold minE
  split
  · exact .inl rfl
  · exact .inr rfl
theorem leE_anti {a b : Ent} (h : leE a b = true) (k : leE b a = true) : a = b := by
  cases a with
  | none =>
    cases b with
    | none => rfl
    | some y => cases h
  | some x =>
    cases b with
    | none => cases k
    | some y =>
      have h1 : x ≤ y := of_decide_eq_true h
      have h2 : y ≤ x := of_decide_eq_true k
      rw [Int.le_antisymm h1 h2]
theorem minE_glb {a b c : Ent} (h : leE c a = true) (k : leE c b = true) : leE c (minE a b) = true := by
  rcases minE_or a b with e | e <;> rw [e] <;> assumption
theorem minE_comm (a b : Ent) : minE a b = minE b a :=
  leE_anti (minE_glb (minE_r a b) (minE_l a b)) (minE_glb (minE_r b a) (minE_l b a))
theorem minE_self (a : Ent) : minE a a = a := by
  rcases minE_or a a with e | e <;> exact e

/-! ### walks -/
section
variable {α : Type} {E E' : α → α → Int → Prop} {u v x : α} {c d : Int}
inductive Wk {α : Type} (E : α → α → Int → Prop) : α → α → Int → Prop
  | one {u v : α} {c : Int} : E u v c → Wk E u v c
  | snoc {u v x : α} {c d : Int} : Wk E u v c → E v x d → Wk E u x (c + d)
theorem Wk.trans (a : Wk E u v c) (b : Wk E v x d) : Wk E u x (c + d) := by
  induction b with
  | one e => exact .snoc a e
  | snoc _ e ih =>
    have q := Wk.snoc ih e
    rw [Int.add_assoc] at q
    exact q
def Good {α : Type} (E : α → α → Int → Prop) : Prop := ∀ u c, Wk E u u c → 0 < c
def IsD {α : Type} (E : α → α → Int → Prop) (u v : α) (o : Ent) : Prop := (∀ c, Wk E u v c → ∃ d, o = some d ∧ d ≤ c) ∧ ∀ d, o = some d → Wk E u v d
theorem isD_unique {o o' : Ent} (h : IsD E u v o) (k : IsD E u v o') : o = o' := by
  cases o with
  | none =>
    cases o' with
    | none => rfl
    | some d =>
      obtain ⟨_, e, _⟩ := h.1 d (k.2 d rfl)
      cases e
  | some c =>
    obtain ⟨d, e, l⟩ := k.1 c (h.2 c rfl)
    subst e
    obtain ⟨c', e', l'⟩ := h.1 d (k.2 d rfl)
    cases e'
    rw [Int.le_antisymm l' l]
/-- each edge of the one is done by a walk of the other that costs no more -/
def Le {α : Type} (E E' : α → α → Int → Prop) : Prop := ∀ u v c, E u v c → ∃ d, Wk E' u v d ∧ d ≤ c
theorem Le.walk (h : Le E E') (w : Wk E u v c) : ∃ d, Wk E' u v d ∧ d ≤ c := by
  induction w with
  | one e => exact h _ _ _ e
  | snoc _ e ih =>
    obtain ⟨d1, w1, l1⟩ := ih
    obtain ⟨d2, w2, l2⟩ := h _ _ _ e
    exact ⟨_, w1.trans w2, Int.add_le_add l1 l2⟩
theorem Le.good (h : Le E E') (g : Good E') : Good E := fun u c w => by
  obtain ⟨d, w', l⟩ := h.walk w
  exact Int.lt_of_lt_of_le (g u d w') l
theorem isD_sim {o : Ent} (h : Le E E') (k : Le E' E) (i : IsD E u v o) : IsD E' u v o := by
  refine ⟨fun c w => ?_, fun d e => ?_⟩
  · obtain ⟨d, w', l⟩ := k.walk w
    obtain ⟨d', e, l'⟩ := i.1 d w'
    exact ⟨d', e, Int.le_trans l' l⟩
  · obtain ⟨d', w', l⟩ := h.walk (i.2 d e)
    obtain ⟨d'', w'', l''⟩ := k.walk w'
    obtain ⟨d3, e3, l3⟩ := i.1 d'' w''
    rw [e] at e3
    cases e3
    have : d = d' := by omega
    rw [this]
    exact w'
/-- a height that each edge keeps -/
theorem good_of_height (m : Int) (hm : 0 < m) (t : α → Int) (h : ∀ u v c, E u v c → t u - t v < m * c) : Good E := by
  have key : ∀ {u v : α} {c : Int}, Wk E u v c → t u - t v < m * c := by
    intro u v c w
    induction w with
    | one e => exact h _ _ _ e
    | snoc _ e ih =>
      have q := h _ _ _ e
      rw [Int.mul_add]
      omega
  intro u c w
  have q := key w
  have q' : 0 < m * c := by omega
  have : ¬ c ≤ 0 := fun l => by
    have := Int.mul_nonpos_of_nonneg_of_nonpos (Int.le_of_lt hm) l
    omega
  omega
end

/-! ### the table of least sums -/
abbrev Mat := Nat → Nat → Ent
def stepM (b : Nat) (M : Mat) : Mat := fun i j => minE (M i j) (addE (M i b) (M b j))
def fwM : Nat → Mat → Mat
  | 0, M => M
  | k + 1, M => stepM k (fwM k M)
def Edge (n : Nat) (M : Mat) (i j : Nat) (c : Int) : Prop := i < n ∧ j < n ∧ M i j = some c
section
variable {n : Nat} {M : Mat}
theorem fw_sound : ∀ (k : Nat), k ≤ n → ∀ (i j : Nat) (c : Int), i < n → j < n → fwM k M i j = some c → Wk (Edge n M) i j c
  | 0, _, i, j, c, hi, hj, h => .one ⟨hi, hj, h⟩
  | k + 1, hk, i, j, c, hi, hj, h => by
    have ih := fw_sound k (Nat.le_of_succ_le hk)
    have h' : minE (fwM k M i j) (addE (fwM k M i k) (fwM k M k j)) = some c := h
    rcases minE_or (fwM k M i j) (addE (fwM k M i k) (fwM k M k j)) with e | e
    · rw [e] at h'
      exact ih i j c hi hj h'
    · rw [e] at h'
      obtain ⟨x, y, ex, ey, rfl⟩ := addE_some.mp h'
      exact (ih i k x hi hk ex).trans (ih k j y hk hj ey)
theorem fw_down (i j : Nat) : ∀ (k m : Nat), leE (fwM (m + k) M i j) (fwM m M i j) = true
  | 0, m => leE_refl _
  | k + 1, m => leE_trans (minE_l _ _) (fw_down i j k m)
theorem fw_le {k m : Nat} (h : m ≤ k) (i j : Nat) : leE (fwM k M i j) (fwM m M i j) = true := by
  obtain ⟨d, rfl⟩ := Nat.le.dest h
  exact fw_down i j d m
/-- no place leads back to itself at 0 or less -/
def PosD (n : Nat) (F : Mat) : Prop := ∀ p, p < n → ¬ leE (F p p) (some 0) = true
theorem pos_get {F : Mat} (h : PosD n F) {p : Nat} (hp : p < n) {c : Int} (e : F p p = some c) : 0 < c := by
  have q := h p hp
  rw [e] at q
  have : ¬ c ≤ 0 := fun l => q (decide_eq_true l)
  omega
theorem fw_tri (hp : PosD n (fwM n M)) : ∀ (k : Nat), k ≤ n → ∀ (m i j : Nat), m < k → i < n → j < n → ∀ x y, fwM k M i m = some x → fwM k M m j = some y → ∃ z, fwM k M i j = some z ∧ z ≤ x + y
  | 0, _, m, _, _, hm, _, _, _, _, _, _ => absurd hm (Nat.not_lt_zero m)
  | k + 1, hk, m, i, j, hm, hi, hj, x, y, hx, hy => by
    have hkn : k < n := hk
    have pk : ∀ c, fwM k M k k = some c → 0 < c := by
      intro c e
      obtain ⟨c', e', l'⟩ := leE_iff.mp (fw_le (M := M) (Nat.le_of_lt hkn) k k) c e
      have := pos_get hp hkn e'
      omega
    have ih := fw_tri hp k (Nat.le_of_lt hkn)
    have lo : ∀ (a b : Nat) (c : Int), fwM k M a b = some c → ∃ z, fwM (k + 1) M a b = some z ∧ z ≤ c := fun a b c e => leE_iff.mp (minE_l _ _) c e
    have via : ∀ (a b : Nat) (c d : Int), fwM k M a k = some c → fwM k M k b = some d → ∃ z, fwM (k + 1) M a b = some z ∧ z ≤ c + d := fun a b c d e f =>
      leE_iff.mp (minE_r (fwM k M a b) (addE (fwM k M a k) (fwM k M k b))) (c + d) (addE_some.mpr ⟨c, d, e, f, rfl⟩)
    have spl : ∀ (a b : Nat) (c : Int), fwM (k + 1) M a b = some c → fwM k M a b = some c ∨ ∃ p q, fwM k M a k = some p ∧ fwM k M k b = some q ∧ c = p + q := by
      intro a b c e
      have e' : minE (fwM k M a b) (addE (fwM k M a k) (fwM k M k b)) = some c := e
      rcases minE_or (fwM k M a b) (addE (fwM k M a k) (fwM k M k b)) with z | z
      · rw [z] at e'
        exact .inl e'
      · rw [z] at e'
        exact .inr (addE_some.mp e')
    by_cases hmk : m = k
    · subst hmk
      -- i to m and m to j are the old ones
      have hx' : ∃ x', fwM m M i m = some x' ∧ x' ≤ x := by
        rcases spl i m x hx with e | ⟨p, q, e1, e2, rfl⟩
        · exact ⟨x, e, Int.le_refl _⟩
        · have := pk q e2
          exact ⟨p, e1, by omega⟩
      have hy' : ∃ y', fwM m M m j = some y' ∧ y' ≤ y := by
        rcases spl m j y hy with e | ⟨p, q, e1, e2, rfl⟩
        · exact ⟨y, e, Int.le_refl _⟩
        · have := pk p e1
          exact ⟨q, e2, by omega⟩
      obtain ⟨x', ex, lx⟩ := hx'
      obtain ⟨y', ey, ly⟩ := hy'
      obtain ⟨z, ez, lz⟩ := via i j x' y' ex ey
      exact ⟨z, ez, by omega⟩
    · have hm' : m < k := by omega
      have hmn : m < n := by omega
      rcases spl i m x hx with e | ⟨p, q, e1, e2, rfl⟩
      · rcases spl m j y hy with f | ⟨r, t, f1, f2, rfl⟩
        · obtain ⟨z, ez, lz⟩ := ih m i j hm' hi hj x y e f
          obtain ⟨z', ez', lz'⟩ := lo i j z ez
          exact ⟨z', ez', by omega⟩
        · obtain ⟨z, ez, lz⟩ := ih m i k hm' hi hkn x r e f1
          obtain ⟨z', ez', lz'⟩ := via i j z t ez f2
          exact ⟨z', ez', by omega⟩
      · rcases spl m j y hy with f | ⟨r, t, f1, f2, rfl⟩
        · obtain ⟨z, ez, lz⟩ := ih m k j hm' hkn hj q y e2 f
          obtain ⟨z', ez', lz'⟩ := via i j p z e1 ez
          exact ⟨z', ez', by omega⟩
        · obtain ⟨z, ez, lz⟩ := ih m k k hm' hkn hkn q r e2 f1
          have := pk z ez
          obtain ⟨z', ez', lz'⟩ := via i j p t e1 f2
          exact ⟨z', ez', by omega⟩
theorem fw_low (hp : PosD n (fwM n M)) {i j : Nat} {c : Int} (w : Wk (Edge n M) i j c) : i < n ∧ j < n ∧ ∃ z, fwM n M i j = some z ∧ z ≤ c := by
  induction w with
  | one e =>
    obtain ⟨hi, hj, e⟩ := e
    exact ⟨hi, hj, leE_iff.mp (fw_le (Nat.zero_le n) _ _) _ e⟩
  | snoc _ e ih =>
    obtain ⟨hi, hj, z, ez, lz⟩ := ih
    obtain ⟨_, hx, e⟩ := e
    obtain ⟨y, ey, ly⟩ := leE_iff.mp (fw_le (k := n) (Nat.zero_le n) _ _) _ e
    obtain ⟨z', ez', lz'⟩ := fw_tri hp n (Nat.le_refl n) _ _ _ hj hi hx z y ez ey
    exact ⟨hi, hx, z', ez', by omega⟩
theorem fw_good : PosD n (fwM n M) ↔ Good (Edge n M) := by
  constructor
  · intro hp u c w
    obtain ⟨hu, _, z, ez, lz⟩ := fw_low hp w
    have := pos_get hp hu ez
    omega
  · intro g p hp l
    cases e : fwM n M p p with
    | none =>
      rw [e] at l
      cases l
    | some c =>
      rw [e] at l
      have l' : c ≤ 0 := of_decide_eq_true l
      have := g p c (fw_sound n (Nat.le_refl n) p p c hp hp e)
      omega
theorem fw_isD (g : Good (Edge n M)) {i j : Nat} (hi : i < n) (hj : j < n) : IsD (Edge n M) i j (fwM n M i j) :=
  ⟨fun c w => (fw_low (fw_good.mpr g) w).2.2, fun d e => fw_sound n (Nat.le_refl n) i j d hi hj e⟩
instance (n : Nat) (F : Mat) : Decidable (PosD n F) := by
  unfold PosD
  exact inferInstance
/-- closed_table -/
def closeT (n : Nat) (M : Mat) : Option Mat := if PosD n (fwM n M) then some (fun i j => if j = i then some 0 else fwM n M i j) else none
/-- T is the table of the graph E between the places at -/
structure IsTab {α : Type} (E : α → α → Int → Prop) (k : Nat) (at_ : Nat → α) (T : Mat) : Prop where
  good : Good E
  diag : ∀ i, i < k → T i i = some 0
  dist : ∀ i j, i < k → j < k → i ≠ j → IsD E (at_ i) (at_ j) (T i j)
/-- what table_of says: a table, or none where somebody can be held -/
def TabOf {α : Type} (E : α → α → Int → Prop) (k : Nat) (at_ : Nat → α) : Option Mat → Prop
  | none => ¬ Good E
  | some T => IsTab E k at_ T
theorem closeT_tab : TabOf (Edge n M) n (fun i => i) (closeT n M) := by
  unfold closeT
  split
  · rename_i h
    have g := fw_good.mp h
    refine ⟨g, fun i _ => if_pos rfl, fun i j hi hj ne => ?_⟩
    show IsD (Edge n M) i j (if j = i then some 0 else fwM n M i j)
    rw [if_neg (Ne.symm ne)]
    exact fw_isD g hi hj
  · rename_i h
    exact fun g => h (fw_good.mpr g)
end
end K73
end
section
set_option linter.unusedVariables false
set_option linter.unusedSectionVars false
set_option autoImplicit false
namespace K73
section
variable {α : Type} [DecidableEq α]
/-- f with another value at u -/
def put {α β : Type} [DecidableEq α] (f : α → β) (u : α) (x : β) : α → β := fun w => if w = u then x else f w
theorem put_same {β : Type} (f : α → β) (u : α) (x : β) : put f u x u = x := if_pos rfl
theorem put_ne {β : Type} {f : α → β} {u w : α} {x : β} (h : w ≠ u) : put f u x w = f w := if_neg h
/-- what the rounds of tried keep: f the numbers, cm the reasons; lev, t are not the program's: the round, the time of the last change -/
structure BF {α : Type} [DecidableEq α] (A : List (α × α × Int)) (N : Int) (r k : Nat) (last : Option α) (f : α → Int) (cm : α → Option (α × Int)) (lev t : α → Nat) (now : Nat) : Prop where
  edge : ∀ u v c, cm u = some (v, c) → (u, v, c) ∈ A ∧ (f v + c * N - 1 < f u ∨ (f v + c * N - 1 = f u ∧ t v < t u)) ∧ lev u ≤ lev v + 1 ∧ 1 ≤ lev u
  hasc : ∀ u, 1 ≤ lev u → ∃ v c, cm u = some (v, c)
  tle : ∀ u, t u ≤ now
  lle : ∀ u, lev u ≤ r
  kept : ∀ i u v c, A[i]? = some (u, v, c) → f u ≤ f v + c * N - 1 ∨ (if i < k then r ≤ lev v else r ≤ lev v + 1)
  calm : last = none → ∀ i u v c, i < k → A[i]? = some (u, v, c) → f u ≤ f v + c * N - 1
  hit : ∀ u, last = some u → lev u = r
variable {A : List (α × α × Int)} {N : Int} {r k : Nat} {last : Option α} {f : α → Int} {cm : α → Option (α × Int)} {lev t : α → Nat} {now : Nat}
theorem bf_start : BF A N 1 0 none (fun _ => 0) (fun _ => none) (fun _ => 0) (fun _ => 0) 0 where
  edge := fun u v c h => nomatch h
  hasc := fun u h => absurd h (by decide)
  tle := fun u => Nat.le_refl _
  lle := fun u => Nat.zero_le _
  kept := fun i u v c h => .inr (by rw [if_neg (Nat.not_lt_zero i)]; exact Nat.le_refl _)
  calm := fun _ i u v c h => absurd h (Nat.not_lt_zero i)
  hit := fun u h => nomatch h
theorem bf_round (b : BF A N r A.length last f cm lev t now) : BF A N (r + 1) 0 none f cm lev t now where
  edge := b.edge
  hasc := b.hasc
  tle := b.tle
  lle := fun u => Nat.le_succ_of_le (b.lle u)
  kept := fun i u v c h => by
    have hi : i < A.length := (List.getElem?_eq_some_iff.mp h).1
    rcases b.kept i u v c h with q | q
    · exact .inl q
    · rw [if_pos hi] at q
      refine .inr ?_
      rw [if_neg (Nat.not_lt_zero i)]
      omega
  calm := fun _ i u v c h => absurd h (Nat.not_lt_zero i)
  hit := fun u h => nomatch h
theorem bf_stay {u v : α} {c : Int} (b : BF A N r k last f cm lev t now) (h : A[k]? = some (u, v, c)) (hl : f u ≤ f v + c * N - 1) : BF A N r (k + 1) last f cm lev t now where
  edge := b.edge
  hasc := b.hasc
  tle := b.tle
  lle := b.lle
  kept := fun i u1 v1 c1 h1 => by
    by_cases hi : i = k
    · subst hi
      rw [h] at h1
      cases h1
      exact .inl hl
    · rcases b.kept i u1 v1 c1 h1 with q | q
      · exact .inl q
      · refine .inr ?_
        split at q
        · rw [if_pos (by omega)]
          exact q
        · rw [if_neg (by omega)]
          exact q
  calm := fun e i u1 v1 c1 hi h1 => by
    by_cases hk : i = k
    · subst hk
      rw [h] at h1
      cases h1
      exact hl
    · exact b.calm e i u1 v1 c1 (by omega) h1
  hit := b.hit
theorem bf_move {u v : α} {c : Int} (b : BF A N r k last f cm lev t now) (h : A[k]? = some (u, v, c)) (hl : f v + c * N - 1 < f u) (hr : 1 ≤ r) :
    BF A N r (k + 1) (some u) (put f u (f v + c * N - 1)) (put cm u (some (v, c))) (put lev u r) (put t u (now + 1)) (now + 1) := by
  have hlv : r ≤ lev v + 1 := by
    rcases b.kept k u v c h with q | q
    · omega
    · rw [if_neg (Nat.lt_irrefl k)] at q
      exact q
  have fle : ∀ w, put f u (f v + c * N - 1) w ≤ f w := fun w => by
    by_cases e : w = u
    · rw [e, put_same]
      omega
    · rw [put_ne e]
      exact Int.le_refl _
  refine ⟨fun u1 v1 c1 e1 => ?_, fun u1 h1 => ?_, fun u1 => ?_, fun u1 => ?_, fun i u1 v1 c1 h1 => ?_, fun e => (nomatch e), fun u1 e => ?_⟩
  · by_cases eu : u1 = u
    · subst eu
      rw [put_same] at e1
      cases e1
      refine ⟨List.mem_of_getElem? h, ?_, ?_, ?_⟩
      · by_cases ev : v = u1
        · subst ev
          rw [put_same]
          exact .inl (by omega)
        · rw [put_ne ev, put_same, put_ne ev, put_same]
          have := b.tle v
          exact .inr ⟨rfl, by omega⟩
      · rw [put_same]
        by_cases ev : v = u1
        · rw [ev, put_same]
          omega
        · rw [put_ne ev]
          exact hlv
      · rw [put_same]
        exact hr
    · rw [put_ne eu] at e1
      obtain ⟨m, q, l1, l2⟩ := b.edge u1 v1 c1 e1
      refine ⟨m, ?_, ?_, ?_⟩
      · by_cases ev : v1 = u
        · subst ev
          rw [put_same, put_ne eu]
          rcases q with q | q
          · exact .inl (by omega)
          · exact .inl (by omega)
        · rw [put_ne ev, put_ne eu, put_ne ev, put_ne eu]
          exact q
      · rw [put_ne eu]
        by_cases ev : v1 = u
        · rw [ev, put_same]
          have := b.lle u1
          omega
        · rw [put_ne ev]
          exact l1
      · rw [put_ne eu]
        exact l2
  · by_cases eu : u1 = u
    · subst eu
      exact ⟨v, c, put_same _ _ _⟩
    · rw [put_ne eu] at h1
      obtain ⟨v1, c1, e1⟩ := b.hasc u1 h1
      exact ⟨v1, c1, by rw [put_ne eu]; exact e1⟩
  · by_cases eu : u1 = u
    · rw [eu, put_same]
      exact Nat.le_refl _
    · rw [put_ne eu]
      exact Nat.le_succ_of_le (b.tle u1)
  · by_cases eu : u1 = u
    · rw [eu, put_same]
      exact Nat.le_refl _
    · rw [put_ne eu]
      exact b.lle u1
  · by_cases ev : v1 = u
    · refine .inr ?_
      rw [ev, put_same]
      split <;> omega
    · by_cases hi : i = k
      · subst hi
        rw [h] at h1
        cases h1
        rw [put_same, put_ne ev]
        exact .inl (Int.le_refl _)
      · rw [put_ne ev, put_ne ev]
        rcases b.kept i u1 v1 c1 h1 with q | q
        · exact .inl (Int.le_trans (fle u1) q)
        · refine .inr ?_
          split at q
          · rw [if_pos (by omega)]
            exact q
          · rw [if_neg (by omega)]
            exact q
  · cases e
    exact put_same _ _ _
/-- the arcs as a graph -/
def ArcE {α : Type} (A : List (α × α × Int)) (u v : α) (c : Int) : Prop := (u, v, c) ∈ A
theorem bf_good (hN : 0 < N) (b : BF A N r A.length none f cm lev t now) : Good (ArcE A) := by
  refine good_of_height N hN f fun u v c h => ?_
  obtain ⟨i, hi⟩ := List.mem_iff_getElem?.mp (show (u, v, c) ∈ A from h)
  have q := b.calm rfl i u v c (List.getElem?_eq_some_iff.mp hi).1 hi
  have e : N * c = c * N := Int.mul_comm _ _
  omega
/-! ### the ring of reasons -/
/-- the reasons followed from u -/
def chain {α : Type} (cm : α → Option (α × Int)) (u : α) : Nat → α
  | 0 => u
  | j + 1 => match cm (chain cm u j) with
    | some (v, _) => v
    | none => chain cm u j
theorem chain_next {u : α} {j : Nat} {v : α} {c : Int} (h : cm (chain cm u j) = some (v, c)) : chain cm u (j + 1) = v := by
  show (match cm (chain cm u j) with | some (v, _) => v | none => chain cm u j) = v
  rw [h]
theorem chain_eq {u : α} {i j : Nat} (h : chain cm u i = chain cm u j) : ∀ m, chain cm u (i + m) = chain cm u (j + m)
  | 0 => h
  | m + 1 => by
    have ih := chain_eq h m
    show (match cm (chain cm u (i + m)) with | some (v, _) => v | none => chain cm u (i + m)) = (match cm (chain cm u (j + m)) with | some (v, _) => v | none => chain cm u (j + m))
    rw [ih]
theorem length_le_of_nodup : ∀ (l1 l2 : List α), l1.Nodup → (∀ x ∈ l1, x ∈ l2) → l1.length ≤ l2.length
  | [], _, _, _ => Nat.zero_le _
  | a :: r, l2, hn, hs => by
    obtain ⟨h1, h2⟩ := List.nodup_cons.mp hn
    have ha : a ∈ l2 := hs a List.mem_cons_self
    have ih := length_le_of_nodup r (l2.erase a) h2 fun x hx => by
      have hne : x ≠ a := fun e => h1 (e ▸ hx)
      exact (List.mem_erase_of_ne hne).mpr (hs x (List.mem_cons_of_mem _ hx))
    rw [List.length_erase_of_mem ha] at ih
    have : 0 < l2.length := List.length_pos_of_mem ha
    rw [List.length_cons]
    omega
theorem pigeon (l : List α) (p : Nat → α) (h : ∀ j, j ≤ l.length → p j ∈ l) : ∃ i j, i < j ∧ j ≤ l.length ∧ p i = p j := by
  apply Classical.byContradiction
  intro hno
  have hn : ((List.range (l.length + 1)).map p).Nodup := by
    unfold List.Nodup
    rw [List.pairwise_map]
    refine List.Pairwise.imp_of_mem ?_ (List.pairwise_lt_range (n := l.length + 1))
    intro a b ha hb hab e
    rw [List.mem_range] at ha hb
    exact hno ⟨a, b, hab, by omega, e⟩
  have q := length_le_of_nodup _ l hn fun x hx => by
    obtain ⟨j, hj, e⟩ := List.mem_map.mp hx
    rw [List.mem_range] at hj
    rw [← e]
    exact h j (by omega)
  rw [List.length_map, List.length_range] at q
  omega
/-- behind the last of r rounds: the reasons of a worker changed in it -/
theorem bf_chain {u : α} (b : BF A N r k last f cm lev t now) (hu : lev u = r) : ∀ j, j ≤ r → r ≤ lev (chain cm u j) + j
  | 0, _ => by
    show r ≤ lev u + 0
    omega
  | j + 1, hj => by
    have ih := bf_chain b hu j (by omega)
    obtain ⟨v, c, e⟩ := b.hasc (chain cm u j) (by omega)
    have q := (b.edge _ _ _ e).2.2.1
    rw [chain_next e]
    omega
theorem bf_has {u : α} (b : BF A N r k last f cm lev t now) (hu : lev u = r) {j : Nat} (hj : j < r) : ∃ c, cm (chain cm u j) = some (chain cm u (j + 1), c) := by
  have q := bf_chain b hu j (by omega)
  obtain ⟨v, c, e⟩ := b.hasc (chain cm u j) (by omega)
  exact ⟨c, by rw [chain_next e]; exact e⟩
variable {ws : List α}
/-- two places of the chain are one -/
theorem bf_twice {u : α} (b : BF A N ws.length k last f cm lev t now) (hu : lev u = ws.length) (hw : ∀ a ∈ A, a.1 ∈ ws ∧ a.2.1 ∈ ws) (h1 : u ∈ ws) : ∃ i j, i < j ∧ j ≤ ws.length ∧ chain cm u i = chain cm u j := by
  refine pigeon ws (chain cm u) fun j hj => ?_
  cases j with
  | zero => exact h1
  | succ j =>
    obtain ⟨c, e⟩ := bf_has b hu (j := j) (by omega)
    exact (hw _ (b.edge _ _ _ e).1).2
/-- the chain goes on for ever -/
theorem bf_ever {u : α} (b : BF A N ws.length k last f cm lev t now) (hu : lev u = ws.length) (hw : ∀ a ∈ A, a.1 ∈ ws ∧ a.2.1 ∈ ws) (h1 : u ∈ ws) (m : Nat) : ∃ c, cm (chain cm u m) = some (chain cm u (m + 1), c) := by
  obtain ⟨i, j, hij, hj, e⟩ := bf_twice b hu hw h1
  have key : ∀ m, ∃ q, q < j ∧ chain cm u m = chain cm u q := by
    intro m
    induction m with
    | zero => exact ⟨0, by omega, rfl⟩
    | succ m ih =>
      obtain ⟨q, hq, eq⟩ := ih
      have z := chain_eq eq 1
      by_cases h : q + 1 < j
      · exact ⟨q + 1, h, z⟩
      · have : q + 1 = j := by omega
        rw [this] at z
        exact ⟨i, hij, z.trans e.symm⟩
  obtain ⟨q, hq, eq⟩ := key m
  obtain ⟨c, ec⟩ := bf_has b hu (j := q) (by omega)
  have z := chain_eq eq 1
  exact ⟨c, by rw [eq, z]; exact ec⟩
/-- behind as many steps as there are reasons the chain is in its ring -/
theorem bf_ring {u : α} {ks : List α} (b : BF A N ws.length k last f cm lev t now) (hu : lev u = ws.length) (hw : ∀ a ∈ A, a.1 ∈ ws ∧ a.2.1 ∈ ws) (h1 : u ∈ ws) (hk : ∀ w v c, cm w = some (v, c) → w ∈ ks) :
    ∃ d, 1 ≤ d ∧ d ≤ ks.length ∧ chain cm u (ks.length + d) = chain cm u ks.length := by
  obtain ⟨i, j, hij, hj, e⟩ := pigeon ks (chain cm u) fun j _ => by
    obtain ⟨c, ec⟩ := bf_ever b hu hw h1 j
    exact hk _ _ _ ec
  refine ⟨j - i, by omega, by omega, ?_⟩
  have z := chain_eq e (ks.length - i)
  have e1 : i + (ks.length - i) = ks.length := by omega
  have e2 : j + (ks.length - i) = ks.length + (j - i) := by omega
  rw [e1, e2] at z
  exact z.symm
theorem bf_bad {u : α} (b : BF A (ws.length : Int) ws.length k last f cm lev t now) (hu : lev u = ws.length) (hw : ∀ a ∈ A, a.1 ∈ ws ∧ a.2.1 ∈ ws) (h1 : u ∈ ws) : ¬ Good (ArcE A) := by
  obtain ⟨i, j, hij, hj, e⟩ := bf_twice b hu hw h1
  -- heights that make each reason strict
  have key : ∀ m, 1 ≤ m → i + m ≤ j → ∃ C, Wk (ArcE A) (chain cm u i) (chain cm u (i + m)) C ∧
      ((now : Int) + 1) * (C * (ws.length : Int) - (m : Int)) < (f (chain cm u i) * ((now : Int) + 1) + (t (chain cm u i) : Int)) - (f (chain cm u (i + m)) * ((now : Int) + 1) + (t (chain cm u (i + m)) : Int)) := by
    have one : ∀ q, q < j → ∃ c, ArcE A (chain cm u q) (chain cm u (q + 1)) c ∧
        ((now : Int) + 1) * (c * (ws.length : Int) - 1) < (f (chain cm u q) * ((now : Int) + 1) + (t (chain cm u q) : Int)) - (f (chain cm u (q + 1)) * ((now : Int) + 1) + (t (chain cm u (q + 1)) : Int)) := by
      intro q hq
      obtain ⟨c, ec⟩ := bf_has b hu (j := q) (by omega)
      obtain ⟨m, z, _⟩ := b.edge _ _ _ ec
      refine ⟨c, m, ?_⟩
      have t1 := b.tle (chain cm u q)
      have t2 := b.tle (chain cm u (q + 1))
      generalize f (chain cm u q) = x at z ⊢
      generalize f (chain cm u (q + 1)) = y at z ⊢
      generalize t (chain cm u q) = p at z t1 ⊢
      generalize t (chain cm u (q + 1)) = s at z t2 ⊢
      generalize hW : c * (ws.length : Int) - 1 = w
      have hd : ((now : Int) + 1) * w = w * ((now : Int) + 1) := Int.mul_comm _ _
      rw [hd]
      rcases z with z | ⟨z, zt⟩
      · have hm : (w + 1) * ((now : Int) + 1) ≤ (x - y) * ((now : Int) + 1) := Int.mul_le_mul_of_nonneg_right (by omega) (by omega)
        rw [Int.add_mul, Int.sub_mul] at hm
        omega
      · have hm : (x - y) * ((now : Int) + 1) = w * ((now : Int) + 1) := by rw [show x - y = w by omega]
        rw [Int.sub_mul] at hm
        omega
    intro m
    induction m with
    | zero => intro h; exact absurd h (by decide)
    | succ m ih =>
      intro _ hm
      obtain ⟨c, ec, lc⟩ := one (i + m) (by omega)
      by_cases h0 : m = 0
      · subst h0
        refine ⟨c, .one ec, ?_⟩
        exact lc
      · obtain ⟨C, wC, lC⟩ := ih (by omega) (by omega)
        refine ⟨C + c, .snoc wC ec, ?_⟩
        have e1 : ((now : Int) + 1) * ((C + c) * (ws.length : Int) - ((m + 1 : Nat) : Int)) = ((now : Int) + 1) * (C * (ws.length : Int) - (m : Int)) + ((now : Int) + 1) * (c * (ws.length : Int) - 1) := by
          rw [← Int.mul_add]
          congr 1
          rw [Int.add_mul]
          omega
        rw [e1]
        show _ < _ - (f (chain cm u (i + m + 1)) * ((now : Int) + 1) + (t (chain cm u (i + m + 1)) : Int))
        omega
  obtain ⟨C, wC, lC⟩ := key (j - i) (by omega) (by omega)
  rw [show i + (j - i) = j by omega, ← e] at wC lC
  intro g
  have hC := g _ _ wC
  have h2 : (ws.length : Int) ≤ C * (ws.length : Int) := by
    have := Int.mul_le_mul_of_nonneg_right (show (1 : Int) ≤ C by omega) (show (0 : Int) ≤ (ws.length : Int) by omega)
    omega
  have h3 : 0 ≤ ((now : Int) + 1) * (C * (ws.length : Int) - ((j - i : Nat) : Int)) := Int.mul_nonneg (by omega) (by omega)
  omega
end
end K73
end
section
set_option linter.unusedVariables false
set_option linter.unusedSectionVars false
set_option autoImplicit false
namespace K73
section
variable {α : Type} {E E' : α → α → Int → Prop} {k : Nat} {at_ : Nat → α}
theorem Wk.first {u v : α} {c : Int} (w : Wk E u v c) : ∃ x d, E u x d := by
  induction w with
  | one e => exact ⟨_, _, e⟩
  | snoc _ _ ih => exact ih
theorem Wk.map {β : Type} {G : β → β → Int → Prop} (f : α → β) (h : ∀ u v c, E u v c → Wk G (f u) (f v) c) {u v : α} {c : Int} (w : Wk E u v c) : Wk G (f u) (f v) c := by
  induction w with
  | one e => exact h _ _ _ e
  | snoc _ e ih => exact ih.trans (h _ _ _ e)
theorem TabOf.sim {o : Option Mat} (h : Le E E') (k' : Le E' E) (t : TabOf E k at_ o) : TabOf E' k at_ o := by
  cases o with
  | none => exact fun g => t (h.good g)
  | some T => exact ⟨k'.good t.good, t.diag, fun i j hi hj ne => isD_sim h k' (t.dist i j hi hj ne)⟩
/-- the same table, as far as k places go -/
def EqT (k : Nat) : Option Mat → Option Mat → Prop
  | none, none => True
  | some A, some B => ∀ i j, i < k → j < k → A i j = B i j
  | _, _ => False
theorem TabOf.unique {o o' : Option Mat} (h : TabOf E k at_ o) (h' : TabOf E k at_ o') : EqT k o o' := by
  cases o with
  | none =>
    cases o' with
    | none => trivial
    | some B => exact h h'.good
  | some A =>
    cases o' with
    | none => exact h' h.good
    | some B =>
      intro i j hi hj
      by_cases e : i = j
      · subst e
        rw [h.diag i hi, h'.diag i hi]
      · exact isD_unique (h.dist i j hi hj e) (h'.dist i j hi hj e)
end
/-- the steps of two tables, between unlike doors -/
def DoorE (k : Nat) (A B : Mat) (i j : Nat) (c : Int) : Prop := i < k ∧ j < k ∧ i ≠ j ∧ (A i j = some c ∨ B i j = some c)
def mixM (A B : Mat) : Mat := fun i j => if j = i then none else minE (A i j) (B i j)
/-- & -/
def bothT (k : Nat) : Option Mat → Option Mat → Option Mat
  | some A, some B => closeT k (mixM A B)
  | _, _ => none
section
variable {k : Nat} {A B C : Mat}
theorem mix_le : Le (Edge k (mixM A B)) (DoorE k A B) := fun i j c ⟨hi, hj, e⟩ => by
  have e' : (if j = i then none else minE (A i j) (B i j)) = some c := e
  by_cases h : j = i
  · rw [if_pos h] at e'
    cases e'
  · rw [if_neg h] at e'
    refine ⟨c, .one ⟨hi, hj, fun z => h z.symm, ?_⟩, Int.le_refl _⟩
    rcases minE_or (A i j) (B i j) with z | z
    · rw [z] at e'
      exact .inl e'
    · rw [z] at e'
      exact .inr e'
theorem door_le : Le (DoorE k A B) (Edge k (mixM A B)) := fun i j c ⟨hi, hj, ne, e⟩ => by
  have q : ∃ d, minE (A i j) (B i j) = some d ∧ d ≤ c := by
    rcases e with e | e
    · exact leE_iff.mp (minE_l _ _) c e
    · exact leE_iff.mp (minE_r _ _) c e
  obtain ⟨d, ed, l⟩ := q
  refine ⟨d, .one ⟨hi, hj, ?_⟩, l⟩
  show (if j = i then none else minE (A i j) (B i j)) = some d
  rw [if_neg (Ne.symm ne)]
  exact ed
theorem both_tab : TabOf (DoorE k A B) k (fun i => i) (bothT k (some A) (some B)) := closeT_tab.sim mix_le door_le
theorem both_comm (o o' : Option Mat) : bothT k o o' = bothT k o' o := by
  cases o with
  | none => cases o' <;> rfl
  | some A =>
    cases o' with
    | none => rfl
    | some B =>
      show closeT k (mixM A B) = closeT k (mixM B A)
      congr 1
      funext i j
      show (if j = i then none else minE (A i j) (B i j)) = (if j = i then none else minE (B i j) (A i j))
      rw [minE_comm]
theorem both_self {α : Type} {E : α → α → Int → Prop} {at_ : Nat → α} {o : Option Mat} (h : TabOf E k at_ o) : EqT k (bothT k o o) o := by
  cases o with
  | none => trivial
  | some T =>
    have m : ∀ u v c, DoorE k T T u v c → Wk E (at_ u) (at_ v) c := fun i j c ⟨hi, hj, ne, e⟩ => (h.dist i j hi hj ne).2 c (e.elim id id)
    have t : TabOf (DoorE k T T) k (fun i => i) (some T) := by
      refine ⟨fun u c w => h.good _ _ (w.map at_ m), h.diag, fun i j hi hj ne => ⟨fun c w => (h.dist i j hi hj ne).1 c (w.map at_ m), fun d e => .one ⟨hi, hj, ne, .inl e⟩⟩⟩
    exact both_tab.unique t
/-- three tables' steps -/
def Door3 (k : Nat) (A B C : Mat) (i j : Nat) (c : Int) : Prop := i < k ∧ j < k ∧ i ≠ j ∧ (A i j = some c ∨ B i j = some c ∨ C i j = some c)
theorem both3_tab : TabOf (Door3 k A B C) k (fun i => i) (bothT k (bothT k (some A) (some B)) (some C)) := by
  have h := both_tab (k := k) (A := A) (B := B)
  have sub : ∀ u v c, DoorE k A B u v c → Wk (Door3 k A B C) u v c := fun i j c ⟨hi, hj, ne, e⟩ => .one ⟨hi, hj, ne, e.elim .inl fun z => .inr (.inl z)⟩
  cases e : bothT k (some A) (some B) with
  | none =>
    rw [e] at h
    exact fun g => h fun u c w => g u c (w.map (fun i => i) sub)
  | some D =>
    rw [e] at h
    refine (both_tab (k := k) (A := D) (B := C)).sim ?_ ?_
    · rintro i j c ⟨hi, hj, ne, e | e⟩
      · exact ⟨c, ((h.dist i j hi hj ne).2 c e).map (fun i => i) sub, Int.le_refl _⟩
      · exact ⟨c, .one ⟨hi, hj, ne, .inr (.inr e)⟩, Int.le_refl _⟩
    · rintro i j c ⟨hi, hj, ne, e | e | e⟩
      · obtain ⟨d, ed, l⟩ := (h.dist i j hi hj ne).1 c (.one ⟨hi, hj, ne, .inl e⟩)
        exact ⟨d, .one ⟨hi, hj, ne, .inl ed⟩, l⟩
      · obtain ⟨d, ed, l⟩ := (h.dist i j hi hj ne).1 c (.one ⟨hi, hj, ne, .inr e⟩)
        exact ⟨d, .one ⟨hi, hj, ne, .inl ed⟩, l⟩
      · exact ⟨c, .one ⟨hi, hj, ne, .inr e⟩, Int.le_refl _⟩
theorem both_turn (a b c : Option Mat) : EqT k (bothT k (bothT k b c) a) (bothT k (bothT k a b) c) := by
  cases a with
  | none =>
    have e1 : bothT k (bothT k b c) none = none := by cases bothT k b c <;> rfl
    have e2 : bothT k (bothT k none b) c = none := by cases b <;> cases c <;> rfl
    rw [e1, e2]
    trivial
  | some A =>
    cases b with
    | none =>
      have e1 : bothT k (bothT k none c) (some A) = none := by cases c <;> rfl
      have e2 : bothT k (bothT k (some A) none) c = none := by cases c <;> rfl
      rw [e1, e2]
      trivial
    | some B =>
      cases c with
      | none =>
        have e2 : bothT k (bothT k (some A) (some B)) none = none := by cases bothT k (some A) (some B) <;> rfl
        rw [e2]
        trivial
      | some C =>
        refine TabOf.unique ((both3_tab (k := k) (A := B) (B := C) (C := A)).sim (E' := Door3 k A B C) ?_ ?_) both3_tab
        · rintro i j c ⟨hi, hj, ne, e⟩
          refine ⟨c, .one ⟨hi, hj, ne, ?_⟩, Int.le_refl _⟩
          rcases e with e | e | e
          · exact .inr (.inl e)
          · exact .inr (.inr e)
          · exact .inl e
        · rintro i j c ⟨hi, hj, ne, e⟩
          refine ⟨c, .one ⟨hi, hj, ne, ?_⟩, Int.le_refl _⟩
          rcases e with e | e | e
          · exact .inr (.inr e)
          · exact .inl e
          · exact .inr (.inl e)
/-- & is within both -/
theorem both_within {W : Mat} (h : bothT k (some A) (some B) = some W) (dA : ∀ i, i < k → A i i = some 0) (dB : ∀ i, i < k → B i i = some 0) (i j : Nat) (hi : i < k) (hj : j < k) : leE (W i j) (A i j) = true ∧ leE (W i j) (B i j) = true := by
  have t := both_tab (k := k) (A := A) (B := B)
  rw [h] at t
  by_cases e : i = j
  · subst e
    rw [t.diag i hi, dA i hi, dB i hi]
    exact ⟨leE_refl _, leE_refl _⟩
  · exact ⟨leE_iff.mpr fun y ey => (t.dist i j hi hj e).1 y (.one ⟨hi, hj, e, .inl ey⟩), leE_iff.mpr fun y ey => (t.dist i j hi hj e).1 y (.one ⟨hi, hj, e, .inr ey⟩)⟩
theorem both_one : bothT 1 (some A) (some B) ≠ none := by
  intro h
  have t := both_tab (k := 1) (A := A) (B := B)
  rw [h] at t
  refine t fun u c w => ?_
  obtain ⟨x, d, hi, hj, ne, _⟩ := w.first
  omega
end
/-! ### two graphs with their doors made one -/
section
variable {α γ : Type} {E : Bool → α → α → Int → Prop} {f : Bool → α → γ} {d : Bool → Nat → α} {D : Nat → γ} {k : Nat}
def UniE {α γ : Type} (E : Bool → α → α → Int → Prop) (f : Bool → α → γ) (x y : γ) (c : Int) : Prop := ∃ s u v, f s u = x ∧ f s v = y ∧ E s u v c
structure Glue {α γ : Type} (f : Bool → α → γ) (d : Bool → Nat → α) (D : Nat → γ) (k : Nat) : Prop where
  inj : ∀ s u v, f s u = f s v → u = v
  door : ∀ s i, i < k → f s (d s i) = D i
  one : ∀ i j, i < k → j < k → D i = D j → i = j
  glue : ∀ s u v, f s u = f (!s) v → ∃ i, i < k ∧ u = d s i
theorem Glue.at_ (g : Glue f d D k) {s : Bool} {u : α} {i : Nat} (hi : i < k) (h : f s u = D i) : u = d s i := g.inj s _ _ (h.trans (g.door s i hi).symm)
theorem uni_map (s : Bool) {u v : α} {c : Int} (w : Wk (E s) u v c) : Wk (UniE E f) (f s u) (f s v) c := w.map (f s) fun u v c e => .one ⟨s, u, v, rfl, rfl, e⟩
variable {T : Bool → Mat}
abbrev DT (k : Nat) (T : Bool → Mat) : Nat → Nat → Int → Prop := DoorE k (T true) (T false)
theorem dt_of {s : Bool} {i j : Nat} {c : Int} (hi : i < k) (hj : j < k) (ne : i ≠ j) (h : T s i j = some c) : DT k T i j c := ⟨hi, hj, ne, by cases s; exact .inr h; exact .inl h⟩
theorem dt_map (g : Glue f d D k) (t : ∀ s, IsTab (E s) k (d s) (T s)) {i j : Nat} {c : Int} (w : Wk (DT k T) i j c) : Wk (UniE E f) (D i) (D j) c := by
  refine w.map D fun i j c ⟨hi, hj, ne, e⟩ => ?_
  have key : ∀ s, T s i j = some c → Wk (UniE E f) (D i) (D j) c := fun s z => by
    have q := uni_map (E := E) (f := f) s (((t s).dist i j hi hj ne).2 c z)
    rw [g.door s i hi, g.door s j hj] at q
    exact q
  exact e.elim (key true) (key false)
/-- at a door, behind one step or more -/
def AtD (k : Nat) (T : Bool → Mat) (i m : Nat) (c : Int) : Prop := (m = i ∧ 0 < c) ∨ ∃ a, Wk (DT k T) i m a ∧ a ≤ c
def At0 (k : Nat) (T : Bool → Mat) (i m : Nat) (a : Int) : Prop := (m = i ∧ a = 0) ∨ Wk (DT k T) i m a
def StD (E : Bool → α → α → Int → Prop) (f : Bool → α → γ) (d : Bool → Nat → α) (D : Nat → γ) (k : Nat) (T : Bool → Mat) (i : Nat) (x : γ) (c : Int) : Prop :=
  (∃ m, m < k ∧ x = D m ∧ AtD k T i m c) ∨ ∃ m a, m < k ∧ At0 k T i m a ∧ ∃ s y b, f s y = x ∧ (∀ j, j < k → y ≠ d s j) ∧ Wk (E s) (d s m) y b ∧ a + b ≤ c
theorem st_close (g : Glue f d D k) (t : ∀ s, IsTab (E s) k (d s) (T s)) {i m : Nat} {a b c : Int} {s : Bool} {y : α} (hm : m < k) (h : At0 k T i m a) (w : Wk (E s) (d s m) y b) (l : a + b ≤ c) : StD E f d D k T i (f s y) c := by
  by_cases hy : ∃ j, j < k ∧ y = d s j
  · obtain ⟨j, hj, rfl⟩ := hy
    refine .inl ⟨j, hj, g.door s j hj, ?_⟩
    by_cases e : j = m
    · subst e
      have hb := (t s).good _ _ w
      rcases h with ⟨rfl, rfl⟩ | h
      · exact .inl ⟨rfl, by omega⟩
      · exact .inr ⟨a, h, by omega⟩
    · obtain ⟨z, ez, lz⟩ := ((t s).dist m j hm hj (Ne.symm e)).1 b w
      have ed := dt_of (T := T) hm hj (Ne.symm e) ez
      rcases h with ⟨rfl, rfl⟩ | h
      · exact .inr ⟨z, .one ed, by omega⟩
      · exact .inr ⟨a + z, .snoc h ed, by omega⟩
  · exact .inr ⟨m, a, hm, h, s, y, b, rfl, fun j hj e => hy ⟨j, hj, e⟩, w, l⟩
theorem st_walk (g : Glue f d D k) (t : ∀ s, IsTab (E s) k (d s) (T s)) {i : Nat} (hi : i < k) {z x : γ} {c : Int} (w : Wk (UniE E f) z x c) (hz : z = D i) : StD E f d D k T i x c := by
  induction w with
  | one e =>
    obtain ⟨s, u, v, hu, rfl, e⟩ := e
    have eu := g.at_ hi (hu.trans hz)
    subst eu
    exact st_close g t hi (.inl ⟨rfl, rfl⟩) (.one e) (by omega)
  | snoc _ e ih =>
    obtain ⟨s, u, v, hu, rfl, e⟩ := e
    rcases ih with ⟨m, hm, rfl, h⟩ | ⟨m, a, hm, h, s', y, b, hy, nd, w, l⟩
    · have eu := g.at_ hm hu
      subst eu
      rcases h with ⟨rfl, h⟩ | ⟨a, h, l⟩
      · exact st_close g t hm (.inl ⟨rfl, rfl⟩) (.one e) (by omega)
      · exact st_close g t hm (.inr h) (.one e) (by omega)
    · have es : s' = s := by
        apply Classical.byContradiction
        intro ne
        have e2 : s = !s' := by cases s <;> cases s' <;> first | rfl | exact absurd rfl ne
        subst e2
        obtain ⟨j, hj, ej⟩ := g.glue s' y u (hy.trans hu.symm)
        exact nd j hj ej
      subst es
      have ey := g.inj s' _ _ (hy.trans hu.symm)
      subst ey
      exact st_close g t hm h (.snoc w e) (by omega)
theorem at_door (g : Glue f d D k) (t : ∀ s, IsTab (E s) k (d s) (T s)) {i j : Nat} (hi : i < k) (hj : j < k) {c : Int} (w : Wk (UniE E f) (D i) (D j) c) : AtD k T i j c := by
  rcases st_walk g t hi w rfl with ⟨m, hm, e, h⟩ | ⟨m, a, hm, h, s, y, b, hy, nd, _⟩
  · have := g.one j m hj hm e
    subst this
    exact h
  · exact absurd (g.at_ hj hy) (nd j hj)
/-- a walk from a place that is no door: within its part, or through a door -/
theorem st_inner (g : Glue f d D k) {s : Bool} {y0 : α} {z x : γ} {c : Int} (w : Wk (UniE E f) z x c) (hz : z = f s y0) (nd : ∀ j, j < k → y0 ≠ d s j) :
    (∃ y, f s y = x ∧ (∀ j, j < k → y ≠ d s j) ∧ Wk (E s) y0 y c) ∨ ∃ m b c', m < k ∧ Wk (UniE E f) z (D m) b ∧ ((x = D m ∧ c' = 0) ∨ Wk (UniE E f) (D m) x c') ∧ b + c' = c := by
  have same : ∀ {s' : Bool} {u y : α}, f s' u = f s y → (∀ j, j < k → y ≠ d s j) → s' = s ∧ u = y := fun {s' u y} h nd => by
    have es : s' = s := by
      apply Classical.byContradiction
      intro ne
      have e2 : s' = !s := by cases s <;> cases s' <;> first | rfl | exact absurd rfl ne
      subst e2
      obtain ⟨j, hj, ej⟩ := g.glue s y u h.symm
      exact nd j hj ej
    subst es
    exact ⟨rfl, g.inj _ _ _ h⟩
  induction w with
  | one e =>
    obtain ⟨s', u, v, hu, rfl, e⟩ := e
    obtain ⟨rfl, rfl⟩ := same (hu.trans hz) nd
    by_cases hv : ∃ j, j < k ∧ v = d s' j
    · obtain ⟨j, hj, rfl⟩ := hv
      refine .inr ⟨j, _, 0, hj, .one ⟨s', u, _, hu, g.door s' j hj, e⟩, .inl ⟨g.door s' j hj, rfl⟩, by omega⟩
    · exact .inl ⟨v, rfl, fun j hj ej => hv ⟨j, hj, ej⟩, .one e⟩
  | snoc w0 e ih =>
    have e0 := e
    obtain ⟨s', u, v, hu, rfl, e⟩ := e
    rcases ih with ⟨y, hy, ny, w1⟩ | ⟨m, b, c', hm, w1, w2, l⟩
    · obtain ⟨rfl, rfl⟩ := same (hu.trans hy.symm) ny
      by_cases hv : ∃ j, j < k ∧ v = d s' j
      · obtain ⟨j, hj, rfl⟩ := hv
        have w3 := Wk.snoc w0 e0
        refine .inr ⟨j, _, 0, hj, ?_, .inl ⟨g.door s' j hj, rfl⟩, Int.add_zero _⟩
        rw [g.door s' j hj] at w3
        exact w3
      · exact .inl ⟨v, rfl, fun j hj ej => hv ⟨j, hj, ej⟩, .snoc w1 e⟩
    · rcases w2 with ⟨hx, rfl⟩ | w2
      · subst hx
        exact .inr ⟨m, b, _, hm, w1, .inr (.one e0), by omega⟩
      · exact .inr ⟨m, b, _, hm, w1, .inr (.snoc w2 e0), by omega⟩
theorem uni_good (g : Glue f d D k) (t : ∀ s, IsTab (E s) k (d s) (T s)) (gd : Good (DT k T)) : Good (UniE E f) := by
  have doorp : ∀ i, i < k → ∀ c, Wk (UniE E f) (D i) (D i) c → 0 < c := fun i hi c w => by
    rcases at_door g t hi hi w with ⟨_, h⟩ | ⟨a, h, l⟩
    · exact h
    · have := gd _ _ h
      omega
  intro x c w
  obtain ⟨_, _, s, u, _, rfl, _⟩ := w.first
  by_cases hu : ∃ j, j < k ∧ u = d s j
  · obtain ⟨j, hj, rfl⟩ := hu
    rw [g.door s j hj] at w
    exact doorp j hj c w
  · have nd : ∀ j, j < k → u ≠ d s j := fun j hj e => hu ⟨j, hj, e⟩
    rcases st_inner g w rfl nd with ⟨y, hy, _, w1⟩ | ⟨m, b, c', hm, w1, w2, l⟩
    · have e := g.inj s _ _ hy
      subst e
      exact (t s).good _ _ w1
    · rcases w2 with ⟨hx, rfl⟩ | w2
      · rw [hx] at w1
        have := doorp m hm b w1
        omega
      · have := doorp m hm _ (w2.trans w1)
        omega
/-- THE TABLE OF WHAT IS JOINED: & of the two tables -/
theorem joined_tab (g : Glue f d D k) {o : Bool → Option Mat} (t : ∀ s, TabOf (E s) k (d s) (o s)) : TabOf (UniE E f) k D (bothT k (o true) (o false)) := by
  have part : ∀ s, Good (UniE E f) → Good (E s) := fun s gu u c w => gu _ _ (uni_map s w)
  cases e1 : o true with
  | none =>
    have := t true
    rw [e1] at this
    exact fun gu => this (part true gu)
  | some A =>
    cases e2 : o false with
    | none =>
      have := t false
      rw [e2] at this
      exact fun gu => this (part false gu)
    | some B =>
      have ht : ∀ s, IsTab (E s) k (d s) ((fun b => bif b then A else B) s) := fun s => by
        have := t s
        cases s
        · rw [e2] at this
          exact this
        · rw [e1] at this
          exact this
      have h := both_tab (k := k) (A := A) (B := B)
      have back : Good (UniE E f) → Good (DoorE k A B) := fun gu i c w => gu _ _ (dt_map (T := fun b => bif b then A else B) g ht w)
      cases e : bothT k (some A) (some B) with
      | none =>
        rw [e] at h
        exact fun gu => h (back gu)
      | some W =>
        rw [e] at h
        refine ⟨uni_good (T := fun b => bif b then A else B) g ht h.good, h.diag, fun i j hi hj ne => ⟨fun c w => ?_, fun z ez => ?_⟩⟩
        · rcases at_door (T := fun b => bif b then A else B) g ht hi hj w with ⟨q, _⟩ | ⟨a, wa, l⟩
          · exact absurd q.symm ne
          · obtain ⟨z, ez, lz⟩ := (h.dist i j hi hj ne).1 a wa
            exact ⟨z, ez, by omega⟩
        · exact dt_map (T := fun b => bif b then A else B) g ht ((h.dist i j hi hj ne).2 z ez)
end
/-! ### a TABLE -/
structure TableM (k : Nat) (T : Mat) : Prop where
  diag : ∀ i, i < k → T i i = some 0
  sym : ∀ i j, i < k → j < k → T i j = none → T j i = none
  pos : ∀ i j x y, i < k → j < k → i ≠ j → T i j = some x → T j i = some y → 1 ≤ x + y
  tri : ∀ i m j, i < k → m < k → j < k → leE (T i j) (addE (T i m) (T m j)) = true
theorem tableM_of {α : Type} {E : α → α → Int → Prop} {k : Nat} {at_ : Nat → α} {T : Mat} (h : IsTab E k at_ T) (hs : ∀ u v c, E u v c → ∃ d, E v u d) : TableM k T := by
  have rev : ∀ {u v : α} {c : Int}, Wk E u v c → ∃ d, Wk E v u d := fun {u v c} w => by
    induction w with
    | one e =>
      obtain ⟨d, q⟩ := hs _ _ _ e
      exact ⟨d, .one q⟩
    | snoc _ e ih =>
      obtain ⟨d, q⟩ := ih
      obtain ⟨d', q'⟩ := hs _ _ _ e
      exact ⟨_, (Wk.one q').trans q⟩
  refine ⟨h.diag, fun i j hi hj e => ?_, fun i j x y hi hj ne ex ey => ?_, fun i m j hi hm hj => ?_⟩
  · by_cases ne : i = j
    · subst ne
      exact e
    · cases q : T j i with
      | none => rfl
      | some y =>
        obtain ⟨d, w⟩ := rev ((h.dist j i hj hi (Ne.symm ne)).2 y q)
        obtain ⟨z, ez, _⟩ := (h.dist i j hi hj ne).1 d w
        rw [e] at ez
        cases ez
  · have := h.good _ _ (((h.dist i j hi hj ne).2 x ex).trans ((h.dist j i hj hi (Ne.symm ne)).2 y ey))
    omega
  · refine leE_iff.mpr fun c ec => ?_
    obtain ⟨x, y, ex, ey, rfl⟩ := addE_some.mp ec
    by_cases e1 : i = m
    · subst e1
      rw [h.diag i hi] at ex
      cases ex
      exact ⟨y, ey, by omega⟩
    · by_cases e2 : m = j
      · subst e2
        rw [h.diag m hm] at ey
        cases ey
        exact ⟨x, ex, by omega⟩
      · have w := ((h.dist i m hi hm e1).2 x ex).trans ((h.dist m j hm hj e2).2 y ey)
        by_cases e3 : i = j
        · subst e3
          have := h.good _ _ w
          exact ⟨0, h.diag i hi, by omega⟩
        · obtain ⟨z, ez, l⟩ := (h.dist i j hi hj e3).1 _ w
          exact ⟨z, ez, l⟩
theorem tableM_both {k : Nat} {A B W : Mat} (hA : TableM k A) (hB : TableM k B) (h : bothT k (some A) (some B) = some W) : TableM k W := by
  have t := both_tab (k := k) (A := A) (B := B)
  rw [h] at t
  refine tableM_of t fun i j c ⟨hi, hj, ne, e⟩ => ?_
  have flip : ∀ {T : Mat}, TableM k T → T i j = some c → ∃ d, T j i = some d := fun {T} hT z => by
    cases q : T j i with
    | none =>
      have := hT.sym j i hj hi q
      rw [z] at this
      cases this
    | some d => exact ⟨d, rfl⟩
  rcases e with e | e
  · obtain ⟨d, q⟩ := flip hA e
    exact ⟨d, hj, hi, Ne.symm ne, .inl q⟩
  · obtain ⟨d, q⟩ := flip hB e
    exact ⟨d, hj, hi, Ne.symm ne, .inr q⟩
end K73
end
section
set_option Elab.async false
set_option linter.all false
set_option maxRecDepth 100000
set_option maxHeartbeats 4000000
namespace K73
open PySem L2 Evl
/-! ### heaps: what may be spoken of -/
/-- H2 without what H1 knew and B did not -/
def cut (B H1 H2 : Hp) : Hp := fun a => if B a = none ∧ H1 a ≠ none then none else H2 a
section
variable {B B' H H1 H2 H3 : Hp} {a : Addr} {o : HO}
theorem cut_pos (h : B a = none) (h1 : H1 a ≠ none) : cut B H1 H2 a = none := if_pos ⟨h, h1⟩
theorem cut_new (h1 : H1 a = none) : cut B H1 H2 a = H2 a := if_neg fun z => z.2 h1
theorem cut_old (h : B a = some o) : cut B H1 H2 a = H2 a := if_neg fun z => by rw [h] at z; cases z.1
theorem cut_ex : Ex (cut B H1 H2) H2 := fun a o h => by
  unfold cut at h
  split at h
  · cases h
  · exact h
theorem ex_cut (e : Ex B H1) (e2 : Ex H1 H2) : Ex B (cut B H1 H2) := fun a o h => by
  rw [cut_old h]
  exact e2 a o (e a o h)
theorem cut_mono (e : Ex H2 H3) : Ex (cut B H1 H2) (cut B H1 H3) := fun a o h => by
  unfold cut at h ⊢
  split at h
  · cases h
  · rename_i n
    rw [if_neg n]
    exact e a o h
theorem cut_base (e : Ex B B') : Ex (cut B H1 H2) (cut B' H1 H2) := fun a o h => by
  unfold cut at h ⊢
  split at h
  · cases h
  · rename_i n
    rw [if_neg fun z => n ⟨?_, z.2⟩]
    · exact h
    · cases q : B a with
      | none => rfl
      | some u =>
        rw [e a u q] at z
        cases z.1
theorem cut_self (e : Ex B H) : cut B B H = H := by
  funext a
  unfold cut
  rw [if_neg fun z => z.2 z.1]
/-- what is known stays known -/
def Dm (H H' : Hp) : Prop := ∀ a, H a ≠ none → H' a ≠ none
theorem dm_of (e : Ex H H1) : Dm H H1 := fun a h => by
  cases q : H a with
  | none => exact absurd q h
  | some o =>
    rw [e a o q]
    exact fun z => nomatch z
theorem Dm.trans (d : Dm H H1) (e : Dm H1 H2) : Dm H H2 := fun a h => e a (d a h)
theorem cut_cut (d : Dm H1 H2) : cut (cut B H1 H2) H2 H3 = cut B H1 H3 := by
  funext a
  unfold cut
  by_cases h : B a = none ∧ H1 a ≠ none
  · rw [if_pos h, if_pos h, if_pos ⟨rfl, d a h.2⟩]
  · rw [if_neg h, if_neg h]
    by_cases h2 : H2 a = none ∧ H2 a ≠ none
    · exact absurd h2.1 h2.2
    · rw [if_neg h2]
theorem cut_upd (h : B a = none) (h1 : H1 a ≠ none) : cut B H1 (upd H2 a o) = cut B H1 H2 := by
  funext b
  unfold cut
  by_cases q : B b = none ∧ H1 b ≠ none
  · rw [if_pos q, if_pos q]
  · rw [if_neg q, if_neg q]
    by_cases e : b = a
    · subst e
      exact absurd ⟨h, h1⟩ q
    · rw [upd_ne e]
end
/-! ### data -/
abbrev PD := PyData
section
variable {K : PySem.W.Frag} {B B' H H1 H2 H3 : Hp}
theorem dp_mono (e : Ex H H1) {v : V} {d : PD} (h : Dp K H v d) : Dp K H1 v d := by
  refine Dp.rec (motive_1 := fun v d _ => Dp K H1 v d) (motive_2 := fun vs ds _ => DpAll K H1 vs ds) ?_ ?_ ?_ ?_ ?_ ?_ ?_ ?_ h
  · exact .non
  · exact fun b => .bl b
  · exact fun i => .int i
  · exact fun x => .str x
  · exact fun s _ ih => .lst (ex_l e s) ih
  · exact fun s _ ih => .tup (ex_t e s) ih
  · exact .nil
  · exact fun _ _ h1 h2 => .cons h1 h2
theorem dpa_mono (e : Ex H H1) : ∀ {vs : List V} {ds : List PD}, DpAll K H vs ds → DpAll K H1 vs ds
  | [], _, h => by cases h; exact .nil
  | v :: vs, _, h => by
    cases h with
    | cons h1 h2 => exact .cons (dp_mono e h1) (dpa_mono e h2)
theorem dpa_len : ∀ {vs : List V} {ds : List PD}, DpAll K H vs ds → vs.length = ds.length
  | [], _, h => by cases h; rfl
  | v :: vs, _, h => by
    cases h with
    | cons h1 h2 => rw [List.length_cons, List.length_cons, dpa_len h2]
theorem dpa_get : ∀ {vs : List V} {ds : List PD} {i : Nat} {v : V}, DpAll K H vs ds → vs[i]? = some v → ∃ d, ds[i]? = some d ∧ Dp K H v d
  | [], _, _, _, _, h => by simp at h
  | x :: vs, _, i, v, h, e => by
    cases h with
    | cons h1 h2 =>
      cases i with
      | zero =>
        have : x = v := by simpa using e
        subst this
        exact ⟨_, rfl, h1⟩
      | succ i =>
        obtain ⟨d, q1, q2⟩ := dpa_get (i := i) h2 (by simpa using e)
        exact ⟨d, by simpa using q1, q2⟩
theorem dpa_at {vs : List V} {ds : List PD} (h : DpAll K H vs ds) {i : Nat} {d : PD} (e : ds[i]? = some d) : ∃ v, vs[i]? = some v ∧ Dp K H v d := by
  have hi := (List.getElem?_eq_some_iff.mp e).1
  have hl := dpa_len h
  have hv : vs[i]? = some (vs[i]'(by omega)) := List.getElem?_eq_getElem (by omega)
  obtain ⟨d', q1, q2⟩ := dpa_get h hv
  rw [e] at q1
  cases q1
  exact ⟨_, hv, q2⟩
theorem dpa_snoc : ∀ {vs : List V} {ds : List PD} {v : V} {d : PD}, DpAll K H vs ds → Dp K H v d → DpAll K H (vs ++ [v]) (ds ++ [d])
  | [], _, _, _, h, q => by cases h; exact .cons q .nil
  | x :: vs, _, _, _, h, q => by
    cases h with
    | cons h1 h2 => exact .cons h1 (dpa_snoc h2 q)
theorem dpa_app : ∀ {vs ws : List V} {ds es : List PD}, DpAll K H vs ds → DpAll K H ws es → DpAll K H (vs ++ ws) (ds ++ es)
  | [], _, _, _, h, q => by cases h; exact q
  | x :: vs, _, _, _, h, q => by
    cases h with
    | cons h1 h2 => exact .cons h1 (dpa_app h2 q)
/-- data that is a value by itself -/
def imm : PD → Option V
  | .none => some .non
  | .bool b => some (.bl b)
  | .int i => some (.int i)
  | .str x => some (.str x)
  | _ => none
theorem dp_imm {d : PD} {v w : V} (e : imm d = some w) : Dp K H v d ↔ v = w := by
  constructor
  · intro h
    cases h <;> first | (cases e; rfl) | cases e
  · rintro rfl
    cases d <;> cases e <;> constructor
theorem dp_int {i : Int} {v : V} (h : Dp K H v (.int i)) : v = .int i := by cases h; rfl
theorem dp_str {x : Str} {v : V} (h : Dp K H v (.str x)) : v = .str x := by cases h; rfl
theorem dp_bl {b : Bool} {v : V} (h : Dp K H v (.bool b)) : v = .bl b := by cases h; rfl
theorem dp_non {v : V} (h : Dp K H v .none) : v = .non := by cases h; rfl
theorem dp_lst {ds : List PD} {v : V} (h : Dp K H v (.list ds)) : ∃ a xs, v = .ref a ∧ SqL K H a xs ∧ DpAll K H xs ds := by
  cases h with
  | lst s h => exact ⟨_, _, rfl, s, h⟩
theorem dp_tup {ds : List PD} {v : V} (h : Dp K H v (.tuple ds)) : ∃ a xs, v = .ref a ∧ SqT K H a xs ∧ DpAll K H xs ds := by
  cases h with
  | tup s h => exact ⟨_, _, rfl, s, h⟩
theorem dpa_strs : ∀ {vs : List V} {xs : List Str}, DpAll K H vs (xs.map PyData.str) ↔ vs = xs.map V.str
  | [], [] => ⟨fun _ => rfl, fun _ => .nil⟩
  | [], x :: xs => ⟨fun h => (by cases h), fun h => (by cases h)⟩
  | v :: vs, [] => ⟨fun h => (by cases h), fun h => (by cases h)⟩
  | v :: vs, x :: xs => by
    constructor
    · intro h
      cases h with
      | cons h1 h2 => rw [dp_str h1, dpa_strs.mp h2] <;> rfl
    · intro h
      rw [List.map_cons] at h
      cases h
      exact .cons (.str x) (dpa_strs.mpr rfl)
theorem dpa_ints : ∀ {vs : List V} {xs : List Int}, DpAll K H vs (xs.map PyData.int) ↔ vs = xs.map V.int
  | [], [] => ⟨fun _ => rfl, fun _ => .nil⟩
  | [], x :: xs => ⟨fun h => (by cases h), fun h => (by cases h)⟩
  | v :: vs, [] => ⟨fun h => (by cases h), fun h => (by cases h)⟩
  | v :: vs, x :: xs => by
    constructor
    · intro h
      cases h with
      | cons h1 h2 => rw [dp_int h1, dpa_ints.mp h2] <;> rfl
    · intro h
      rw [List.map_cons] at h
      cases h
      exact .cons (.int x) (dpa_ints.mpr rfl)
theorem dpa_bls : ∀ {vs : List V} {xs : List Bool}, DpAll K H vs (xs.map PyData.bool) ↔ vs = xs.map V.bl
  | [], [] => ⟨fun _ => rfl, fun _ => .nil⟩
  | [], x :: xs => ⟨fun h => (by cases h), fun h => (by cases h)⟩
  | v :: vs, [] => ⟨fun h => (by cases h), fun h => (by cases h)⟩
  | v :: vs, x :: xs => by
    constructor
    · intro h
      cases h with
      | cons h1 h2 => rw [dp_bl h1, dpa_bls.mp h2] <;> rfl
    · intro h
      rw [List.map_cons] at h
      cases h
      exact .cons (.bl x) (dpa_bls.mpr rfl)
end
/-! ### what an expression comes to -/
abbrev PV := V → Hp → Prop
abbrev Dd (K : PySem.W.Frag) (d : PD) : PV := fun v H => Dp K H v d
def Mon (P : PV) : Prop := ∀ v H H', Ex H H' → P v H → P v H'
theorem mon_dd {K : PySem.W.Frag} {d : PD} : Mon (Dd K d) := fun _ _ _ e h => dp_mono e h
def Ret (P : PV) (B H : Hp) (Q : VK) : Prop := ∀ v H', Ex H H' → P v (cut B H H') → Q v H'
def EvG (te : TE) (σ : L2.St) (B : Hp) (P : PV) : Prop := ∀ H, Ex B H → ∀ Q : VK, Ret P B H Q → te σ H Q
def RetA (P : List V → Hp → Prop) (B H : Hp) (Q : List V → Hp → Prop) : Prop := ∀ vs H', Ex H H' → P vs (cut B H H') → Q vs H'
def EvGA (ta : TA) (σ : L2.St) (B : Hp) (P : List V → Hp → Prop) : Prop := ∀ H, Ex B H → ∀ Q : List V → Hp → Prop, RetA P B H Q → ta σ H Q
section
variable {K : PySem.W.Frag} {B B' H H1 H2 H3 : Hp} {P P' : PV} {σ : L2.St} {te ta tb : TE} {Q : VK} {d : PD} {v : V}
theorem Ret.next (r : Ret P B H Q) (d : Dm H H1) (e : Ex H H1) : Ret P (cut B H H1) H1 Q := fun v H' e' h => by
  rw [cut_cut d] at h
  exact r v H' (e.trans e') h
theorem RetA.next {P : List V → Hp → Prop} {Q : List V → Hp → Prop} (r : RetA P B H Q) (d : Dm H H1) (e : Ex H H1) : RetA P (cut B H H1) H1 Q := fun v H' e' h => by
  rw [cut_cut d] at h
  exact r v H' (e.trans e') h
theorem EvG.mono (m : Mon P) (e : Ex B B') (h : EvG te σ B P) : EvG te σ B' P := fun H eb Q r =>
  h H (e.trans eb) Q fun v H' e' p => r v H' e' (m v _ _ (cut_base e) p)
theorem EvG.imp (h : EvG te σ B P) (k : ∀ v B', Ex B B' → P v B' → P' v B') : EvG te σ B P' := fun H eb Q r =>
  h H eb Q fun v H' e' p => r v H' e' (k v _ (ex_cut eb e') p)
/-- run it, then go on over the base with what it gave -/
theorem EvG.go (h : EvG ta σ B P) (e : Ex B H) (k : ∀ v H1, Ex H H1 → Ex B (cut B H H1) → Ex (cut B H H1) H1 → P v (cut B H H1) → Q v H1) : ta σ H Q :=
  h H e Q fun v H1 e1 p => k v H1 e1 (ex_cut e e1) cut_ex p
theorem eg_var {i : Nat} (h : σ[i]? = some (some v)) (p : P v B) (m : Mon P) : EvG (tVar i) σ B P := fun H e Q r =>
  ⟨v, h, r v H (Ex.refl H) (m v _ _ (ex_cut e (Ex.refl H)) p)⟩
theorem eg_d {i : Nat} (h : σ[i]? = some (some v)) (p : Dp K B v d) : EvG (tVar i) σ B (Dd K d) := eg_var h p mon_dd
theorem eg_c (p : ∀ B', P v B') : EvG (tC v) σ B P := fun H e Q r => r v H (Ex.refl H) (p _)
theorem eg_int {i : Int} : EvG (tC (.int i)) σ B (Dd K (.int i)) := eg_c fun _ => .int i
theorem eg_non : EvG (tC .non) σ B (Dd K .none) := eg_c fun _ => .non
theorem eg_str {x : Str} : EvG (tC (.str x)) σ B (Dd K (.str x)) := eg_c fun _ => .str x
theorem eg_bl {b : Bool} : EvG (tC (.bl b)) σ B (Dd K (.bool b)) := eg_c fun _ => .bl b
/-- a value by itself, from the one form to the other -/
theorem eg_of (h : Ev te σ B v) (p : ∀ B', P v B') : EvG te σ B P := fun H e Q r => h H e Q fun H2 e2 => r v H2 e2 (p _)
theorem eg_imm (h : Ev te σ B v) (e : imm d = some v) : EvG te σ B (Dd K d) := eg_of h fun _ => (dp_imm e).mpr rfl
theorem ev_imm (h : EvG te σ B (Dd K d)) (e : imm d = some v) : Ev te σ B v := fun H eb Q q => h H eb Q fun u H2 e2 p => by
  rw [(dp_imm e).mp p]
  exact q H2 e2
theorem ev_is (h : EvG te σ B fun u _ => u = v) : Ev te σ B v := fun H eb Q q => h H eb Q fun u H2 e2 p => by
  rw [p]
  exact q H2 e2
/-- the base with more -/
theorem ev_more (e : Ex B B') (h : Ev te σ B v) : Ev te σ B' v := h.mono e
theorem ega_nil : EvGA tNil σ B (fun vs B' => DpAll K B' vs []) := fun H e Q r => r [] H (Ex.refl H) .nil
theorem ega_cons {tr : TA} {ds : List PD} (h : EvG te σ B (Dd K d)) (hr : ∀ B', Ex B B' → EvGA tr σ B' (fun vs B' => DpAll K B' vs ds)) : EvGA (tCons te tr) σ B (fun vs B' => DpAll K B' vs (d :: ds)) := fun H e Q r =>
  h.go e fun v H1 e1 eb ec p => hr _ eb H1 ec _ fun vs H2 e2 q => by
    rw [cut_cut (dm_of e1)] at q
    exact r (v :: vs) H2 (e1.trans e2) (.cons (dp_mono (cut_mono e2) p) q)
theorem EvGA.mono {ds : List PD} {ta : TA} (e : Ex B B') (h : EvGA ta σ B (fun vs B' => DpAll K B' vs ds)) : EvGA ta σ B' (fun vs B' => DpAll K B' vs ds) := fun H eb Q r =>
  h H (e.trans eb) Q fun v H' e' p => r v H' e' (dpa_mono (cut_base e) p)
theorem ega_cons' {tr : TA} {ds : List PD} (h : EvG te σ B (Dd K d)) (hr : EvGA tr σ B (fun vs B' => DpAll K B' vs ds)) : EvGA (tCons te tr) σ B (fun vs B' => DpAll K B' vs (d :: ds)) :=
  ega_cons h fun _ e => hr.mono e
theorem new_ex {p : Addr} {o : HO} (hp : H1 p = none) (e : Ex H H1) : Ex H (upd H1 p o) := e.trans (Ex.new hp)
/-- a new tuple, a new list -/
theorem eg_tup {ta : TA} {ds : List PD} (h : EvGA ta σ B (fun vs B' => DpAll K B' vs ds)) (hl : ds.length ≤ 100000) : EvG (tTup ta) σ B (Dd K (.tuple ds)) := fun H e Q r =>
  h H e _ fun vs H1 e1 q => ⟨by rw [dpa_len q]; exact sz_of hl, fun p hp => r (.ref p) _ (new_ex hp e1) (.tup (xs := vs) (st_of (by rw [cut_new (fresh_back e1 hp)]; exact upd_same)) (dpa_mono (cut_mono (Ex.new hp)) q))⟩
theorem eg_lst {ta : TA} {ds : List PD} (h : EvGA ta σ B (fun vs B' => DpAll K B' vs ds)) (hl : ds.length ≤ 100000) : EvG (tLst ta) σ B (Dd K (.list ds)) := fun H e Q r =>
  h H e _ fun vs H1 e1 q => ⟨by rw [dpa_len q]; exact sz_of hl, fun p hp => r (.ref p) _ (new_ex hp e1) (.lst (xs := vs) (sq_of (by rw [cut_new (fresh_back e1 hp)]; exact upd_same)) (dpa_mono (cut_mono (Ex.new hp)) q))⟩
abbrev rTupOf (K : PySem.W.Frag) : List V → Hp → VK → Prop := fun xs H Q => ∃ p ys, xs = [V.ref p] ∧ ((SqL K H p ys ∧ ∀ l, H l = none → Q (.ref l) (upd H l (.tup ys))) ∨ (SqT K H p ys ∧ Q (.ref p) H))
abbrev rListOf (K : PySem.W.Frag) : List V → Hp → VK → Prop := fun xs H Q => ∃ p ys, xs = [V.ref p] ∧ (SqL K H p ys ∨ SqT K H p ys) ∧ ∀ l, H l = none → Q (.ref l) (upd H l (.lst ys))
abbrev rLenOf (K : PySem.W.Frag) : List V → Hp → VK → Prop := fun xs H Q => ∃ p ys, xs = [V.ref p] ∧ (SqL K H p ys ∨ SqT K H p ys) ∧ Q (.int ys.length) H
/-- tuple(xs), tuple(t), list(xs), list(t) -/
def isSeq (d : PD) (ds : List PD) : Prop := d = .list ds ∨ d = .tuple ds
theorem eg_tupleOf {ds : List PD} (h : EvG ta σ B (Dd K d)) (hd : isSeq d ds) : EvG (tCB (rTupOf K) (tCons ta tNil)) σ B (Dd K (.tuple ds)) := fun H e Q r =>
  h.go e fun v H1 e1 eb ec p => by
    rcases hd with rfl | rfl
    · obtain ⟨a, xs, rfl, s, q⟩ := dp_lst p
      exact ⟨a, xs, rfl, .inl ⟨ex_l ec s, fun l hl => r (.ref l) _ (new_ex hl e1) (.tup (xs := xs) (st_of (by rw [cut_new (fresh_back e1 hl)]; exact upd_same)) (dpa_mono (cut_mono (Ex.new hl)) q))⟩⟩
    · obtain ⟨a, xs, rfl, s, q⟩ := dp_tup p
      exact ⟨a, xs, rfl, .inr ⟨ex_t ec s, r (.ref a) _ e1 (.tup s q)⟩⟩
theorem eg_listOf {ds : List PD} (h : EvG ta σ B (Dd K d)) (hd : isSeq d ds) : EvG (tCB (rListOf K) (tCons ta tNil)) σ B (Dd K (.list ds)) := fun H e Q r =>
  h.go e fun v H1 e1 eb ec p => by
    rcases hd with rfl | rfl
    · obtain ⟨a, xs, rfl, s, q⟩ := dp_lst p
      exact ⟨a, xs, rfl, .inl (ex_l ec s), fun l hl => r (.ref l) _ (new_ex hl e1) (.lst (xs := xs) (sq_of (by rw [cut_new (fresh_back e1 hl)]; exact upd_same)) (dpa_mono (cut_mono (Ex.new hl)) q))⟩
    · obtain ⟨a, xs, rfl, s, q⟩ := dp_tup p
      exact ⟨a, xs, rfl, .inr (ex_t ec s), fun l hl => r (.ref l) _ (new_ex hl e1) (.lst (xs := xs) (sq_of (by rw [cut_new (fresh_back e1 hl)]; exact upd_same)) (dpa_mono (cut_mono (Ex.new hl)) q))⟩
/-- len(x) -/
theorem ev_lenD {ds : List PD} (h : EvG ta σ B (Dd K d)) (hd : isSeq d ds) : Ev (tCB (rLenOf K) (tCons ta tNil)) σ B (.int (ds.length : Int)) := fun H e Q r =>
  h.go e fun v H1 e1 eb ec p => by
    rcases hd with rfl | rfl
    · obtain ⟨a, xs, rfl, s, q⟩ := dp_lst p
      exact ⟨a, xs, rfl, .inl (ex_l ec s), by rw [dpa_len q]; exact r H1 e1⟩
    · obtain ⟨a, xs, rfl, s, q⟩ := dp_tup p
      exact ⟨a, xs, rfl, .inr (ex_t ec s), by rw [dpa_len q]; exact r H1 e1⟩
/-- xs[i] -/
theorem eg_ix {ds : List PD} {e : PD} {i : Nat} (h : EvG ta σ B (Dd K d)) (hd : isSeq d ds) (hi : Ev tb σ B (.int (i : Int))) (hg : ds[i]? = some e) : EvG (tOp (rIx K) ta tb) σ B (Dd K e) := fun H eb Q r =>
  h.go eb fun v H1 e1 eb' ec p => hi H1 (eb.trans e1) _ fun H2 e2 => by
    rcases hd with rfl | rfl
    · obtain ⟨a, xs, rfl, s, q⟩ := dp_lst p
      obtain ⟨w, hw, qw⟩ := dpa_at q hg
      exact .inl ⟨a, xs, i, w, rfl, rfl, ex_l (ec.trans e2) s, atI_nat hw, r w H2 (e1.trans e2) (dp_mono (cut_mono e2) qw)⟩
    · obtain ⟨a, xs, rfl, s, q⟩ := dp_tup p
      obtain ⟨w, hw, qw⟩ := dpa_at q hg
      exact .inr (.inl ⟨a, xs, i, w, rfl, rfl, ex_t (ec.trans e2) s, atI_nat hw, r w H2 (e1.trans e2) (dp_mono (cut_mono e2) qw)⟩)
theorem eg_if {t : TT} {b : Bool} (h : EvT t σ B b) (h1 : b = true → EvG ta σ B P) (h2 : b = false → EvG tb σ B P) (m : Mon P) : EvG (tIf t ta tb) σ B P := fun H e Q r => h H e _ fun H2 e2 => by
  have r2 : Ret P (cut B H H2) H2 Q := r.next (dm_of e2) e2
  cases b with
  | true =>
    show ta σ H2 Q
    exact (h1 rfl).mono m (ex_cut e e2) H2 cut_ex Q r2
  | false =>
    show tb σ H2 Q
    exact (h2 rfl).mono m (ex_cut e e2) H2 cut_ex Q r2
end
/-! ### a def's promise over data -/
/-- called with the data ds it gives the data d, F ds d -/
def spD (K : PySem.W.Frag) (F : List PD → PD → Prop) : Sp := fun vs H Q _ => ∃ B ds d, Ex B H ∧ DpAll K B vs ds ∧ F ds d ∧ Ret (Dd K d) B H Q
section
variable {K : PySem.W.Frag} {B B' H H1 H2 H3 : Hp} {P P' : PV} {σ : L2.St} {te : TE} {ta : TA} {Q : VK} {d : PD} {v : V}
theorem eg_call {F : List PD → PD → Prop} {ds : List PD} {E : XK} (h : EvGA ta σ B (fun vs B' => DpAll K B' vs ds)) (hf : F ds d) : EvG (tCall (spD K F) [] E ta) σ B (Dd K d) := fun H e Q r =>
  h H e _ fun vs H1 e1 q => ⟨cut B H H1, ds, d, cut_ex, by rw [List.append_nil]; exact q, hf, r.next (dm_of e1) e1⟩
theorem spD_imp {F G : List PD → PD → Prop} (k : ∀ ds d, G ds d → F ds d) (vs : List V) (H : Hp) (Q : VK) (E : XK) (h : spD K G vs H Q E) : spD K F vs H Q E := by
  obtain ⟨B, ds, d, e, a, f, r⟩ := h
  exact ⟨B, ds, d, e, a, k ds d f, r⟩
/-! statements -/
variable {D : Ends} {tu tw tz : TS}
theorem sg_ret (h : EvG te σ B P) (e : Ex B H) (k : Ret P B H D.rt) : tRet te D σ H := h H e _ k
theorem sg_asg {i : Nat} (h : EvG te σ B P) (e : Ex B H) (k : ∀ v H1, Ex H H1 → Ex B (cut B H H1) → Ex (cut B H H1) H1 → P v (cut B H H1) → D.nx (σ.set i (some v)) H1) : tAsg te (gName i) D σ H := h.go e k
theorem qg_asg {i : Nat} (h : EvG te σ B P) (e : Ex B H) (k : ∀ v H1, Ex H H1 → Ex B (cut B H H1) → Ex (cut B H H1) H1 → P v (cut B H H1) → tz D (σ.set i (some v)) H1) : tSeq (tAsg te (gName i)) tz D σ H := h.go e k
end
end K73
end
section
set_option Elab.async false
set_option linter.all false
set_option maxRecDepth 100000
set_option maxHeartbeats 4000000
/-! enumerate of a tuple -/
namespace K73E
open PySem
open AutoSeq1 (wpAny_loadPart')
theorem enumT_new (l : Addr) (items : Array Value) (n : Nat) (dct : Option Addr) (sl : Array (Option Value)) :
    Meets (Builtin.«enumerate.__new__» ⟨[.type "enumerate", .ref l], []⟩) (fun _ R s => s.heap.get? l = some { cls := .type "tuple", dict := dct, data := .seq items n, slots := sl } ∧
      R (.ok (.ret (.ref (s.heap.push { cls := .type "tuple_iterator", data := .fields #[.ref l, .int 0 0] }).objs.size)))
        { s with heap := (s.heap.push { cls := .type "tuple_iterator", data := .fields #[.ref l, .int 0 0] }).push { cls := .type "enumerate", data := .fields #[.none, .bool false, .ref s.heap.objs.size, rawInt 0, .none, .none] } }) :=
  .of_wp fun prog w A R s h => by
    obtain ⟨hp, g, d, tk, os⟩ := s
    obtain ⟨hl, h⟩ := h
    have hsub := sub_enumerate
    have hT : Heap.IsTuple (Shared.heap ⟨hp, g, d, tk, os⟩) l items := ⟨_, hl, rfl, n, rfl⟩
    wp_walk using wpAny_loadPart' hl
    refine wpAny_stack_any fun st => wpAny_pure ?_
    split
    · rename_i c _ _ _ _ _
      cases (c == Value.type "enumerate")
      · wp_walk using wpAny_loadPart' hl, wpAny_pyIter_tuple hT
        exact ⟨_, rfl, h⟩
      · wp_walk using wpAny_loadPart' hl, wpAny_pyIter_tuple hT
        exact ⟨_, rfl, h⟩
    · wp_walk using wpAny_loadPart' hl, wpAny_pyIter_tuple hT
      exact ⟨_, rfl, h⟩
section
variable {prog : Program} {w : World} {A : Around} {E : Value → Shared → Prop} {s : Shared}
theorem call_enumT {l : Addr} {items : Array Value} {Q : Value → Shared → Prop} (hL : s.heap.IsTuple l items)
    (h : ∀ h', IsEnum h' (s.heap.objs.size + 1) s.heap.objs.size 0 .none → h'.IsTupleIter s.heap.objs.size l 0 → h'.objs.size = s.heap.objs.size + 2 →
      (∀ b o, s.heap.get? b = some o → h'.get? b = some o) → Q (.ref (s.heap.objs.size + 1)) { s with heap := h' }) :
    wpAny (model prog w) A (call (.type "enumerate") [.ref l]) Q E s := by
  obtain ⟨⟨c, dct, dt, sl⟩, hl, hc, n, hd⟩ := hL
  replace hc : c = .type "tuple" := hc
  replace hd : dt = .seq items n := hd
  subst hc hd
  refine callType_new F.called_enumerate (by decide) (F.typeCall_enumerate_1 _) (F.newCall_enumerate_1 _) (fun obj => F.args_object_init_2 obj _) F.entry_enumerate_new
    (enumT_new l items n dct sl) ⟨hl, ?_⟩
  have hz : (s.heap.push { cls := .type "tuple_iterator", data := .fields #[.ref l, .int 0 0] }).objs.size = s.heap.objs.size + 1 := Heap.size_push ..
  show _ ∧ _
  rw [hz]
  have he : IsEnum ((s.heap.push { cls := .type "tuple_iterator", data := .fields #[.ref l, .int 0 0] }).push
      { cls := .type "enumerate", data := .fields #[.none, .bool false, .ref s.heap.objs.size, rawInt 0, .none, .none] }) (s.heap.objs.size + 1) s.heap.objs.size 0 .none := by
    have := Heap.get?_push_size (s.heap.push { cls := .type "tuple_iterator", data := .fields #[.ref l, .int 0 0] })
      (o := { cls := .type "enumerate", data := .fields #[.none, .bool false, .ref s.heap.objs.size, rawInt 0, .none, .none] }) rfl
    rw [hz] at this
    exact this
  refine ⟨⟨_, he, rfl⟩, h _ he ⟨_, Heap.get?_push_of_some _ (Heap.get?_push_size _ rfl), rfl, rfl⟩ (by rw [Heap.size_push, hz]) fun b o x => Heap.get?_push_of_some _ (Heap.get?_push_of_some _ x)⟩
end
end K73E
namespace L2
open PySem PySem.Spec PyProof.Rows
def IteT (K : PySem.W.Frag) (a : Addr) : It :=
  ⟨fun i H => ∃ (xs : List V) (x : V), SqT K H a xs ∧ xs[i]? = some x, fun i H v H' => ∃ T x, v = .ref T ∧ H T = none ∧ H' = upd H T (.tup [.int (i : Nat), x]) ∧ ∀ xs, SqT K H a xs → xs[i]? = some x, fun i H => ∃ xs : List V, SqT K H a xs ∧ xs.length ≤ i⟩
theorem turn_enumT {P : Program} {w : World} {K : PySem.W.Frag} {elts : List Expr} {kk : Nat} {tpos : Pos} (a e it : Addr) (hai : a ≠ it) (hae : a ≠ e) :
    Turn P w K (.Tuple elts kk tpos) (IteT K a) [e, it] e (fun i h => (∃ old, IsEnum h e it ((i : Nat) : Int) old) ∧ h.IsTupleIter it a i ∧ e ≠ it) where
  mem := by simp
  obj := fun i h st b hb => by
    obtain ⟨⟨old, he⟩, ⟨o, ho, hc, hd⟩, _⟩ := st
    have e' : b = e ∨ b = it := by simpa using hb
    rcases e' with z | z
    · rw [z]; exact ⟨_, he, fun v q => nomatch q⟩
    · rw [z]; exact ⟨o, ho, fun v q => by rw [hd] at q; cases q⟩
  keep := fun i h h' st k => let ⟨⟨old, he⟩, hi, hne⟩ := st; ⟨⟨old, k e (by simp) _ he⟩, hi.at fun o q => k it (by simp) o q, hne⟩
  item := by
    intro X hP hw hK hc i pins s σ H E I hf st hg
    subst hP hw hK
    obtain ⟨⟨old, he⟩, hit, hne⟩ := st
    obtain ⟨xs, x, hq, hx⟩ := hg
    obtain ⟨its, rv, p, hz⟩ := I.tuple hq
    obtain ⟨u, hu, ru⟩ := rv.get hx
    have hel : e < s.heap.objs.size := Heap.lt_size he
    have hil : it < s.heap.objs.size := by obtain ⟨_, q, _⟩ := hit; exact Heap.lt_size q
    have hin : i < its.toArray.size := by
      have := (List.getElem?_eq_some_iff.mp hu).1
      simpa using this
    refine wpAny_pyNext_enum_itemD (Draws.tuple (show X.A.in1.handled = none from I.ok.hd hc) it a hai its.toArray) he ⟨hit, p⟩ hin hne (by simp; exact ⟨hne, fun z => hae z.symm⟩) fun x' h' tk hP' ho st' hT hsz hk => ?_
    have ex : x' = u := by
      have q : its.toArray[i]? = some x' := hP'
      rw [List.getElem?_toArray, hu] at q
      exact (Option.some.inj q).symm
    subst ex
    refine ⟨_, rfl, wpAny_letOwnedTupleGo_enum (s := { s with heap := h', toks := tk + 1 }) ho fun h'' he' sb => ?_⟩
    have hT2 : h''.get? s.heap.objs.size = some { cls := .type "tuple", data := .seq #[.int i tk, x'] } := (sb.2 _ (Nat.ne_of_gt hel)).trans hT
    have new : ObjOk X.prog X.w (upd H s.heap.objs.size (.tup [.int (i : Nat), x])) h'' s.heap.objs.size (.tup [.int (i : Nat), x]) :=
      ⟨by show 2 ≤ sizeLine; decide, [.int i tk, x'], .cons ⟨_, rfl⟩ (.cons ru .nil), ⟨_, hT2, rfl, _, rfl⟩⟩
    have I1 : Inv X pins σ (upd H s.heap.objs.size (.tup [.int (i : Nat), x])) { s with heap := h'', toks := tk + 1 } :=
      I.turnedNew (ch := [e, it]) (fun b ob hb q => (sb.2 b (fun z => hb (by simp [z]))).trans (hk b ob (fun z => hb (by simp [z])) (fun z => hb (by simp [z])) q)) hf (Nat.le_refl _) new
    refine ⟨.ref s.heap.objs.size, _, I1, rfl, ⟨_, x, rfl, I.hok.fresh (Nat.le_refl _), rfl, fun ys hy => by rw [I.tuple_inj hy hq]; exact hx⟩, ⟨⟨x', ?_⟩, st'.1.at fun o q => (sb.2 it (Ne.symm hne)).trans q, hne⟩, fun b hb => ?_⟩
    · have e1 : ((i + 1 : Nat) : Int) = (i : Int) + 1 := by omega
      rw [e1]; exact he'
    · have hb' : b < s.heap.objs.size := by
        have e' : b = e ∨ b = it := by simpa using hb
        rcases e' with z | z
        · rw [z]; exact hel
        · rw [z]; exact hil
      rw [upd_ne (Nat.ne_of_lt hb')]
      exact (hf b hb).1
  done := by
    intro X hP hw hK hc i pins s σ H E I hf st hg
    subst hP hw hK
    obtain ⟨⟨old, he⟩, hit, hne⟩ := st
    obtain ⟨xs, hq, hx⟩ := hg
    obtain ⟨its, rv, p, hz⟩ := I.tuple hq
    obtain ⟨f0, f1, f2, f3, f4, f5⟩ := hf it (by simp)
    have hl := rv.length
    unfold pyNext
    have hT : s.TypeIs (.ref e) "enumerate" := ⟨_, he, rfl⟩
    refine wpAny_bind (wpAny_attempt (wpAny_callSpecial?_slot (name := Str.ofString "__next__") hT F.slot_enumerate_next
      (wpAny_call_entry F.slot_enumerate_next hT F.entry_enumerate_next ?_ (F.args_enumerate_next_1 _))))
    show wpAny _ _ (field (.ref e) 2 >>= _) _ _ _
    refine wpAny_bind (wpAny_field he rfl (x := .ref it) rfl ?_)
    refine wpAny_bind (wpAny_nextOf_tuple_end (show X.A.in1.handled = none from I.ok.hd hc) hit p (by simp; omega) fun h' x he' hx' => ?_)
    obtain ⟨o, ho, hc'⟩ := hx'
    refine wpAny_bind (wpAny_isInstance (T := "StopIteration") (b := true) ⟨o, ho, hc'⟩ isSubtype_stop ?_)
    exact wpAny_pure ⟨rfl, I.turned (t' := s.toks) (fun b o hb q => he' b o hb q) f0 f1 f3 f4 f5⟩
  self := fun A i s Q E st h => let ⟨⟨_, he⟩, _⟩ := st; wpAny_pyIter_enum he h
/-- enumerate of a list or a tuple -/
def iEnumA (K : PySem.W.Frag) (ta : TA) : TI := fun σ H R => ta σ H fun vs H1 => ∃ a xs, vs = [.ref a] ∧ ((SqL K H1 a xs ∧ R (Ite K a) H1) ∨ (SqT K H1 a xs ∧ R (IteT K a) H1))
theorem pi_enumA {X : Cx} {e : Expr} {ta : TA} {p pos tpos : Pos} {elts : List Expr} {kk : Nat} (hg : Gl X "enumerate") (hm : X.mg "enumerate" = none) (ha : PA X [e] ta) (hs : starEach [e] X.env = [(false, eval e X.env)] := by rfl) :
    PI X (.Tuple elts kk tpos) (.Call (.Name "enumerate" p) [e] [] pos) (iEnumA X.K ta) := by
  refine ⟨fun pins s σ H R I h => ?_⟩
  refine Call_ (ld_blt I hg hm boot_enumerate (PyProof.Rows.callWith_type1 (thn (ha.run pos pins s σ H _ I h) fun us s1 ⟨vs, H1, I1, r1, q1⟩ => ?_) hs rfl))
  obtain ⟨a, xs, ex, hq⟩ := q1
  subst ex
  cases r1 with
  | cons r rr =>
    cases rr
    cases r
    have fp : ∀ b, b ∈ [s1.heap.objs.size + 1, s1.heap.objs.size] → FpOk X pins H1 b := fun b hb => by
      have e' : b = s1.heap.objs.size + 1 ∨ b = s1.heap.objs.size := by simpa using hb
      have hle : s1.heap.objs.size ≤ b := by
        rcases e' with z | z
        · rw [z]; exact Nat.le_add_right _ _
        · rw [z]; exact Nat.le_refl _
      exact I1.fpOk hle (I1.hok.fresh hle)
    rcases hq with ⟨hq, q⟩ | ⟨hq, q⟩
    · obtain ⟨its, rv, p', hz⟩ := I1.list hq
      refine call_enumerate_list p'.isList fun h' he hit hsz hk => wpAny_pyIter_enum he ?_
      have I2 : Inv X pins σ H1 { s1 with heap := h' } := I1.kept (t' := s1.toks) hk
      exact ⟨s1.heap.objs.size + 1, [s1.heap.objs.size + 1, s1.heap.objs.size], _, _, H1, rfl, I2, turn_enum a (s1.heap.objs.size + 1) s1.heap.objs.size, ⟨⟨.none, he⟩, hit, Nat.succ_ne_self _⟩, fp, q⟩
    · obtain ⟨its, rv, p', hz⟩ := I1.tuple hq
      have hlt : a < s1.heap.objs.size := p'.lt
      refine K73E.call_enumT p' fun h' he hit hsz hk => wpAny_pyIter_enum he ?_
      have I2 : Inv X pins σ H1 { s1 with heap := h' } := I1.kept (t' := s1.toks) hk
      exact ⟨s1.heap.objs.size + 1, [s1.heap.objs.size + 1, s1.heap.objs.size], _, _, H1, rfl, I2, turn_enumT a (s1.heap.objs.size + 1) s1.heap.objs.size (Nat.ne_of_lt hlt) (Nat.ne_of_lt (Nat.lt_succ_of_lt hlt)), ⟨⟨.none, he⟩, hit, Nat.succ_ne_self _⟩, fp, q⟩
end L2
end
section
set_option Elab.async false
set_option linter.all false
set_option maxRecDepth 100000
set_option maxHeartbeats 4000000
namespace K73
open PySem L2 Evl
/-! ### a def of the text, with all that a call of it asks -/
structure Own (P : Program) (w : World) (K : PySem.W.Frag) (mg : Str → Option Value) (base : Heap) (C : CXT) (k : Nat) (x : Str) (ps : List Str) (sp : Sp) : Prop where
  ex : ∃ f fd, FnOk P w K mg base C k f fd ps sp ∧ mg x = some (.ref f) ∧ PySem.W.keepIn K (.ref f) = true ∧ Binds K fd ps []
section
variable {X : Cx} {C : CXT} {k n : Nat} {x : Str} {ps : List Str} {sp : Sp} {E : XK} {e : Expr} {es : List Expr} {p pos : Pos} {t : TA}
theorem pe_own (F : Own X.prog X.w X.K X.mg X.base C k x ps sp) (hr : Room n X.A) (hk : k ≤ n) (hx : Passes C X E) (ha : PA X (e :: es) t) (hg : Gl X x := by rfl) (hdb : (x == ("__debug__" : Str)) = false := by decide)
    (he : starEach (e :: es) X.env = (false, eval e X.env) :: starEach es X.env := by rfl) (hpl : (backTo pos (starEach es X.env)).any (·.1) = false := by rfl) :
    PE X (.Call (.Name x p) (e :: es) [] pos) (tCall sp [] E t) := by
  obtain ⟨f, fd, F, hm, hkp, hb⟩ := F.ex
  exact pe_call F (hr.mono hk) hg hm hkp hb .nil hx ha hdb he hpl
end
/-- a list or a tuple, walked -/
def iSeq (K : PySem.W.Frag) (tl : TE) : TI := fun σ H R => tl σ H fun x H1 => ∃ a, x = .ref a ∧ (((∃ xs, SqL K H1 a xs) ∧ R (Itl K a) H1) ∨ ((∃ xs, SqT K H1 a xs) ∧ R (Itt K a) H1))
theorem pi_seq {X : Cx} {tg l : Expr} {tl : TE} (hl : PE X l tl) : PI X tg l (iSeq X.K tl) := by
  refine ⟨fun pins s σ H R I h => ?_⟩
  refine thn (hl.run pins s σ H _ I h) fun u s1 ⟨x, H1, I1, rx, a, ex, q⟩ => ?_
  rcases q with ⟨⟨xs, hq⟩, q⟩ | ⟨⟨xs, hq⟩, q⟩
  · subst ex
    obtain rfl : u = Value.ref a := rx
    obtain ⟨its, rv, pl, hz⟩ := I1.list hq
    exact wpAny_pyIter_list pl.isList (pi_one (tk := s1.toks) I1 _ (turn_list a _) ⟨_, Heap.get?_push_size _ rfl, rfl, rfl⟩ q)
  · subst ex
    obtain rfl : u = Value.ref a := rx
    obtain ⟨its, rv, pt, hz⟩ := I1.tuple hq
    exact wpAny_pyIter_tuple (show s1.heap.IsTuple a its.toArray from pt) (pi_one (tk := s1.toks) I1 _ (turn_tuple a _) ⟨_, Heap.get?_push_size _ rfl, rfl, rfl⟩ q)
/-! ### what is walked, over a base -/
abbrev YT := Hp → Nat → Hp → V → Hp → Prop
def EvI (wi : TI) (σ : L2.St) (B : Hp) (n : Nat) (Y : YT) : Prop := ∀ H, Ex B H → ∀ R : It → Hp → Prop, (∀ J H2, Ex H H2 → Walk J n (Ex (cut B H H2)) (Y (cut B H H2)) → R J H2) → wi σ H R
/-- the i-th of ds, the heap as it was -/
def YSq (K : PySem.W.Frag) (ds : List PD) : YT := fun B i H v H' => H' = H ∧ ∃ d, ds[i]? = some d ∧ Dp K B v d
/-- a new pair of two data -/
def YPr (K : PySem.W.Frag) (ds es : List PD) : YT := fun B i H v H' => ∃ T x y d e, v = .ref T ∧ H T = none ∧ H' = upd H T (.tup [x, y]) ∧ ds[i]? = some d ∧ es[i]? = some e ∧ Dp K B x d ∧ Dp K B y e
def YRg : YT := fun _ i H v H' => H' = H ∧ v = .int (i : Nat)
/-- the places of n -/
def nums (n : Nat) : List PD := (List.range n).map fun (i : Nat) => PyData.int (i : Int)
theorem nums_at {n i : Nat} (h : i < n) : (nums n)[i]? = some (PyData.int (i : Nat)) := by
  unfold nums
  rw [List.getElem?_map, List.getElem?_range h]
  rfl
section
variable {K : PySem.W.Frag} {B B' H H1 H2 H3 : Hp} {σ : L2.St} {te ta tb tl : TE} {d : PD} {ds es : List PD}
theorem ei_seq (h : EvG tl σ B (Dd K d)) (hd : isSeq d ds) : EvI (iSeq K tl) σ B ds.length (YSq K ds) := fun H e R r => h.go e fun v H1 e1 eb ec p => by
  rcases hd with rfl | rfl
  · obtain ⟨a, xs, rfl, s, q⟩ := dp_lst p
    refine ⟨a, rfl, .inl ⟨⟨xs, ex_l ec s⟩, r _ H1 e1 ?_⟩⟩
    rw [← dpa_len q]
    refine walk_list.mono (fun H' g => ex_l g s) fun i H' x H'' hi g y => ⟨y.1, ?_⟩
    obtain ⟨d, hd, hp⟩ := dpa_get q y.2
    exact ⟨d, hd, hp⟩
  · obtain ⟨a, xs, rfl, s, q⟩ := dp_tup p
    refine ⟨a, rfl, .inr ⟨⟨xs, ex_t ec s⟩, r _ H1 e1 ?_⟩⟩
    rw [← dpa_len q]
    refine walk_tup.mono (fun H' g => ex_t g s) fun i H' x H'' hi g y => ⟨y.1, ?_⟩
    obtain ⟨d, hd, hp⟩ := dpa_get q y.2
    exact ⟨d, hd, hp⟩
theorem walk_enumT {a : Addr} {xs : List V} : Walk (IteT K a) xs.length (fun H => SqT K H a xs) (YPair (fun i => some (.int (i : Nat))) (fun i => xs[i]?)) := by
  refine ⟨fun i _ hi q => ⟨xs, xs[i], q, by simp [hi]⟩, fun _ q => ⟨xs, q, Nat.le_refl _⟩, fun i H v H' _ q y => ?_⟩
  obtain ⟨T, x, h1, h2, h3, h4⟩ := y
  exact ⟨T, .int (i : Nat), x, h1, h2, h3, rfl, h4 xs q⟩
theorem walk_zipT {a b : Addr} {xs ys : List V} {n : Nat} (hn : n = min xs.length ys.length) : Walk (RZ.ItzT K a b) n (fun H => SqT K H a xs ∧ SqT K H b ys) (YPair (fun i => xs[i]?) (fun i => ys[i]?)) := by
  subst hn
  refine ⟨fun i _ hi q => ?_, fun _ q => ⟨xs, ys, q.1, q.2, by omega⟩, fun i H v H' _ q y => ?_⟩
  · have h1 : i < xs.length := by omega
    have h2 : i < ys.length := by omega
    exact ⟨xs, ys, xs[i], ys[i], q.1, q.2, by simp [h1], by simp [h2]⟩
  · obtain ⟨T, x, z, h1, h2, h3, h4, h5⟩ := y
    exact ⟨T, x, z, h1, h2, h3, h4 xs q.1, h5 ys q.2⟩
theorem ei_enum (h : EvG ta σ B (Dd K d)) (hd : isSeq d ds) : EvI (iEnumA K (tCons ta tNil)) σ B ds.length (YPr K (nums ds.length) ds) := fun H e R r => h.go e fun v H1 e1 eb ec p => by
  rcases hd with rfl | rfl
  · obtain ⟨a, xs, rfl, s, q⟩ := dp_lst p
    refine ⟨a, xs, rfl, .inl ⟨ex_l ec s, r _ H1 e1 ?_⟩⟩
    rw [← dpa_len q]
    refine walk_enum.mono (fun H' g => ex_l g s) fun i H' x H'' hi g y => ?_
    obtain ⟨T, x, z, h1, h2, h3, h4, h5⟩ := y
    obtain ⟨d, hd, hp⟩ := dpa_get q h5
    cases h4
    exact ⟨T, _, z, _, d, h1, h2, h3, nums_at hi, hd, .int _, hp⟩
  · obtain ⟨a, xs, rfl, s, q⟩ := dp_tup p
    refine ⟨a, xs, rfl, .inr ⟨ex_t ec s, r _ H1 e1 ?_⟩⟩
    rw [← dpa_len q]
    refine walk_enumT.mono (fun H' g => ex_t g s) fun i H' x H'' hi g y => ?_
    obtain ⟨T, x, z, h1, h2, h3, h4, h5⟩ := y
    obtain ⟨d, hd, hp⟩ := dpa_get q h5
    cases h4
    exact ⟨T, _, z, _, d, h1, h2, h3, nums_at hi, hd, .int _, hp⟩
/-- zip of two tuples -/
theorem ei_zip (h : EvGA ta' σ B (fun vs B' => DpAll K B' vs [.tuple ds, .tuple es])) (hl : ds.length = es.length) : EvI (RZ.iZipA K ta') σ B ds.length (YPr K ds es) := fun H e R r => h H e _ fun vs H1 e1 p => by
  have ec : Ex (cut B H H1) H1 := cut_ex
  cases p with
  | cons p1 p2 =>
    cases p2 with
    | cons p2 p3 =>
      cases p3
      obtain ⟨a, xs, rfl, s, q⟩ := dp_tup p1
      obtain ⟨b, ys, rfl, s2, q2⟩ := dp_tup p2
      refine ⟨a, b, xs, ys, rfl, .inr ⟨ex_t ec s, ex_t ec s2, r _ H1 e1 ?_⟩⟩
      rw [← dpa_len q]
      have hl2 : xs.length = ys.length := by rw [dpa_len q, dpa_len q2, hl]
      refine (walk_zipT (xs := xs) (ys := ys) (n := xs.length) (by omega)).mono (fun H' g => ⟨ex_t g s, ex_t g s2⟩) fun i H' x H'' hi g y => ?_
      obtain ⟨T, x, z, h1, h2, h3, h4, h5⟩ := y
      obtain ⟨d, hd, hp⟩ := dpa_get q h4
      obtain ⟨d2, hd2, hp2⟩ := dpa_get q2 h5
      exact ⟨T, x, z, d, d2, h1, h2, h3, hd, hd2, hp, hp2⟩
theorem ei_range {n : Nat} (h : Ev ta σ B (.int (n : Int))) (hn : n ≤ 100000) : EvI (iRng1 (tCons ta tNil)) σ B n YRg := fun H e R r => h H e _ fun H1 e1 => by
  refine ⟨(n : Int), rfl, by omega, by omega, ?_⟩
  refine r _ H1 e1 ?_
  refine (walk_range (lo := 0) (n := n)).mono (fun _ _ => trivial) fun i H' x H'' hi g y => ⟨y.1, ?_⟩
  rw [y.2]
  show V.int (0 + (i : Int)) = V.int (i : Int)
  rw [Int.zero_add]
/-- two cuts of one heap -/
theorem cut_sub {Hs : Hp} (hB : B' = cut B H H2) (hd : Dm H Hs) : Ex (cut B' Hs H3) (cut B H H3) := fun a o h => by
  unfold cut at h ⊢
  split at h
  · cases h
  · rename_i n
    rw [if_neg fun z => n ⟨?_, hd a z.2⟩]
    · exact h
    · rw [hB, cut_pos z.1 z.2]
theorem cut_dm (hd : Dm H1 H2) : Ex (cut B H2 H3) (cut B H1 H3) := fun a o h => by
  unfold cut at h ⊢
  split at h
  · cases h
  · rename_i n
    rw [if_neg fun z => n ⟨z.1, hd a z.2⟩]
    exact h
theorem Ret.dm {P : PV} {Q : VK} (m : Mon P) (r : Ret P B H1 Q) (e : Ex H1 H2) : Ret P B H2 Q := fun v H' e' p => r v H' (e.trans e') (m v _ _ (cut_dm (dm_of e)) p)
/-- A COMPREHENSION: the i-th turn gives gd i -/
theorem eg_lc {wi : TI} {g : TG} {vs : List Nat} {n : Nat} {Y : YT} (gd : Nat → PD) (hi : EvI wi σ B n Y) (hn : n ≤ 100000)
    (hs : ∀ B' i x H1 H2 Q, Ex B B' → i < n → Ex B' H1 → Y B' i H1 x H2 → Ret (Dd K (gd i)) B' H1 Q → g x (wipe σ vs) H2 fun σ2 H3 => wipe σ2 vs = wipe σ vs ∧ te σ2 H3 Q) :
    EvG (tLc wi g tYes te vs) σ B (Dd K (.list ((List.range n).map gd))) := fun H e Q r => hi H e _ fun J H2 e2 w D hD => by
  have hB : cut B H H2 D = none := fresh_back cut_ex hD
  have eB : Ex B (cut B H H2) := ex_cut e e2
  have dm0 : Dm H (upd H2 D (.lst [])) := dm_of (e2.trans (Ex.new hD))
  refine lc_it w (fun i H' => Ex H2 H' ∧ ∃ vs, H' D = some (.lst vs) ∧ DpAll K (cut (cut B H H2) (upd H2 D (.lst [])) H') vs ((List.range i).map gd)) ?_ ?_ ?_ ?_
  · exact ⟨Ex.new hD, [], upd_same, .nil⟩
  · rintro i H' _ ⟨e', _⟩
    exact cut_ex.trans e'
  · rintro i x H' H'' hlt ⟨e', us, hu, hp⟩ y
    have ec : Ex (cut B H H2) H' := cut_ex.trans e'
    have fin : Ret (Dd K (gd i)) (cut B H H2) H' fun y H4 => ∃ acc, H4 D = some (.lst acc) ∧ acc.length < sizeLine ∧ (Ex H2 (upd H4 D (.lst (acc ++ [y]))) ∧ ∃ vs, (upd H4 D (.lst (acc ++ [y]))) D = some (.lst vs) ∧ DpAll K (cut (cut B H H2) (upd H2 D (.lst [])) (upd H4 D (.lst (acc ++ [y])))) vs ((List.range (i + 1)).map gd)) := fun y H4 e4 hy => by
      refine ⟨us, e4 D _ hu, ?_, Ex.mut (e'.trans e4) hD, us ++ [y], upd_same, ?_⟩
      · have := dpa_len hp
        rw [List.length_map, List.length_range] at this
        exact sz_lt (by omega)
      · rw [cut_upd hB (by rw [upd_same]; exact fun z => nomatch z), List.range_succ, List.map_append]
        refine dpa_snoc (dpa_mono (cut_mono e4) hp) (dp_mono (cut_dm ?_) hy)
        intro a ha
        by_cases ea : a = D
        · rw [ea, hu]
          exact fun z => nomatch z
        · rw [upd_ne ea] at ha
          exact dm_of e' a ha
    have q := hs (cut B H H2) i x H' H'' _ eB hlt ec y fin
    refine q
  · rintro H' ⟨e', us, hu, hp⟩
    refine r (.ref D) H' (e2.trans e') (.lst (xs := us) (sq_of ?_) (dpa_mono (cut_sub rfl dm0) hp))
    rw [cut_new (fresh_back e2 hD)]
    exact hu
/-- the turn's target a name -/
theorem lc_name {B' : Hp} {j : Nat} {vs : List Nat} {x : V} {Q : VK} {P : PV} (e : Ex B' H1) (hw : wipe ((wipe σ vs).set j (some x)) vs = wipe σ vs) (h : EvG te ((wipe σ vs).set j (some x)) B' P) (r : Ret P B' H1 Q) :
    gName j x (wipe σ vs) H1 fun σ2 H3 => wipe σ2 vs = wipe σ vs ∧ te σ2 H3 Q := ⟨hw, h H1 e Q r⟩
/-- the turn's target a pair of names -/
theorem lc_pair {B' : Hp} {i j : Nat} {vs : List Nat} {T : Addr} {x y : V} {Q : VK} {P : PV} (m : Mon P) (e : Ex B' H1) (hT : H1 T = none) (hw : wipe (((wipe σ vs).set i (some x)).set j (some y)) vs = wipe σ vs) (h : EvG te (((wipe σ vs).set i (some x)).set j (some y)) B' P) (r : Ret P B' H1 Q) :
    gTup K 2 (gCons (gName i) (gCons (gName j) gNil)) (.ref T) (wipe σ vs) (upd H1 T (.tup [x, y])) fun σ2 H3 => wipe σ2 vs = wipe σ vs ∧ te σ2 H3 Q :=
  ⟨T, [x, y], rfl, st_of upd_same, rfl, x, [y], rfl, y, [], rfl, rfl, hw, h _ (e.trans (Ex.new hT)) Q (r.dm m (Ex.new hT))⟩
end
end K73
end
section
set_option Elab.async false
set_option linter.all false
set_option maxRecDepth 100000
set_option maxHeartbeats 4000000
namespace K73
open PySem L2 Evl
def topS (i : Nat) : Stmt := PySem.Challenge.pw_joinlags_k73_whole_what_is_joined.main.body.getD i (.Pass ⟨0, 0, 0, 0⟩)
/-- what the walks ask of names -/
structure Tx (mg : Str → Option Value) : Prop where
  isinstance : mg "isinstance" = none
  list : mg "list" = none
  tuple : mg "tuple" = none
  int : mg "int" = none
  bool : mg "bool" = none
  str : mg "str" = none
  len : mg "len" = none
  range : mg "range" = none
  enumerate : mg "enumerate" = none
  zip : mg "zip" = none
  any : mg "any" = none
  all : mg "all" = none
  sorted : mg "sorted" = none
  abs : mg "abs" = none
  min : mg "min" = none
  max : mg "max" = none
section
variable {P : Program} {w : World} {K : PySem.W.Frag} {mg : Str → Option Value} {base : Heap}
theorem own_mk {C : CXT} {k : Nat} {x qual : Str} {st : Stmt} {f : Addr} {fd : FuncData} {ps : List Str} {sp : Sp} (F : Fun K x qual st f fd) (G : FnOk P w K mg base C k f fd ps sp) (hm : mg x = some (.ref f)) (hb : Binds K fd ps []) : Own P w K mg base C k x ps sp :=
  ⟨f, fd, G, hm, F.kp, hb⟩
theorem Own.mono {C : CXT} {k j : Nat} {x : Str} {ps : List Str} {sp : Sp} (o : Own P w K mg base C k x ps sp) (h : k ≤ j) : Own P w K mg base C j x ps sp := by
  obtain ⟨f, fd, F, a, b, c⟩ := o.ex
  exact ⟨f, fd, F.mono h, a, b, c⟩
theorem Own.imp {C : CXT} {k : Nat} {x : Str} {ps : List Str} {sp sp' : Sp} (o : Own P w K mg base C k x ps sp) (h : ∀ vs H Q E, sp' vs H Q E → sp vs H Q E) : Own P w K mg base C k x ps sp' := by
  obtain ⟨f, fd, F, a, b, c⟩ := o.ex
  exact ⟨f, fd, F.imp h, a, b, c⟩
/-! ### entries -/
def eV : Ent → V
  | none => .non
  | some i => .int i
def eD : Ent → PD
  | none => .none
  | some i => .int i
theorem imm_eD (e : Ent) : imm (eD e) = some (eV e) := by cases e <;> rfl
theorem dp_ent {H : Hp} (e : Ent) : Dp K H (eV e) (eD e) := (dp_imm (imm_eD e)).mpr rfl
def spE (g : Ent → Ent → V) : Sp := fun vs H Q _ => ∃ a b, vs = [eV a, eV b] ∧ Q (g a b) H
theorem ev_e2 {g : Ent → Ent → V} {σ : L2.St} {B : Hp} {ta tb : TE} {a b : Ent} {E : XK} (h1 : Ev ta σ B (eV a)) (h2 : Ev tb σ B (eV b)) : Ev (tCall (spE g) [] E (tCons ta (tCons tb tNil))) σ B (g a b) := fun H e Q q =>
  h1 H e _ fun H1 e1 => h2 H1 (e.trans e1) _ fun H2 e2 => ⟨a, b, rfl, q H2 (e1.trans e2)⟩
abbrev sPlus : Stmt := topS 14
abbrev sAtMost : Stmt := topS 15
abbrev sLesser : Stmt := topS 16
theorem scPlus : FnScope ["one", "other"] ["one", "other"] (defScope sPlus) := ⟨rfl, rfl, rfl, by decide +kernel, rfl, by decide +kernel, by decide +kernel⟩
theorem scAtMost : FnScope ["one", "other"] ["one", "other"] (defScope sAtMost) := ⟨rfl, rfl, rfl, by decide +kernel, rfl, by decide +kernel, by decide +kernel⟩
theorem scLesser : FnScope ["one", "other"] ["one", "other"] (defScope sLesser) := ⟨rfl, rfl, rfl, by decide +kernel, rfl, by decide +kernel, by decide +kernel⟩
abbrev spPlus : Sp := spE fun a b => eV (addE a b)
abbrev spAtMost : Sp := spE fun a b => .bl (leE a b)
abbrev spLesser : Sp := spE fun a b => eV (minE a b)
theorem ok_plus {f : Addr} {fd : FuncData} (F : Fun K "plus" "plus" sPlus f fd) : FnOk P w K mg base CX0 1 f fd ["one", "other"] spPlus := by
  refine F.ok scPlus (fun vs H Q E h => ?_) (fun cdv A outer s H vs Q E hr h => ?_)
  · obtain ⟨a, b, rfl, _⟩ := h
    rfl
  · obtain ⟨a, b, rfl, k⟩ := h
    refine ⟨_, pss_one (ps_ret (pe_ifExp (PW.pt (pw_or (pt_cmpR op_isN (pv 0) pe_non (nomark _)) (pw_or1 (pt_cmpR op_isN (pv 1) pe_non (nomark _))))) pe_non (pe_op op_add (pv 0) (pv 1)))), ?_⟩
    cases a with
    | none =>
      refine ⟨_, rfl, rfl, true, rfl, ?_⟩
      exact k
    | some a =>
      refine ⟨_, rfl, rfl, false, rfl, ?_⟩
      cases b with
      | none =>
        refine ⟨_, rfl, rfl, true, rfl, ?_⟩
        exact k
      | some b =>
        refine ⟨_, rfl, rfl, false, rfl, ?_⟩
        exact ⟨_, rfl, _, rfl, a, b, rfl, rfl, k⟩
theorem ok_atMost {f : Addr} {fd : FuncData} (F : Fun K "at_most" "at_most" sAtMost f fd) : FnOk P w K mg base CX0 1 f fd ["one", "other"] spAtMost := by
  refine F.ok scAtMost (fun vs H Q E h => ?_) (fun cdv A outer s H vs Q E hr h => ?_)
  · obtain ⟨a, b, rfl, _⟩ := h
    rfl
  · obtain ⟨a, b, rfl, k⟩ := h
    refine ⟨_, pss_one (ps_ret (pe_or (pe_cmpR op_isN (pv 1) pe_non (nomark _)) (pe_one (pe_and (pe_cmpR op_notN (pv 0) pe_non (nomark _)) (pe_one (pe_cmpR op_le (pv 0) (pv 1) (nomark _))))))), ?_⟩
    cases b with
    | none =>
      refine ⟨_, rfl, rfl, true, rfl, ?_⟩
      have e : leE a none = true := by cases a <;> rfl
      have k : Q (V.bl (leE a none)) H := k
      rw [e] at k
      exact k
    | some b =>
      refine ⟨_, rfl, rfl, false, rfl, ?_⟩
      cases a with
      | none =>
        refine ⟨_, rfl, rfl, false, rfl, ?_⟩
        exact k
      | some a =>
        refine ⟨_, rfl, rfl, true, rfl, ?_⟩
        exact ⟨_, rfl, _, rfl, a, b, rfl, rfl, k⟩
theorem ok_lesser {f : Addr} {fd : FuncData} (F : Fun K "lesser" "lesser" sLesser f fd) (oA : Own P w K mg base CX0 1 "at_most" ["one", "other"] spAtMost) : FnOk P w K mg base CX0 2 f fd ["one", "other"] spLesser := by
  refine F.ok scLesser (fun vs H Q E h => ?_) (fun cdv A outer s H vs Q E hr h => ?_)
  · obtain ⟨a, b, rfl, _⟩ := h
    rfl
  · obtain ⟨a, b, rfl, k⟩ := h
    refine ⟨_, pss_one (ps_ret (pe_ifExp (pt_val (pe_own oA hr (by decide) pass0 (pa_cons (pv 0) (pa_cons (pv 1) pa_nil)))) (pv 0) (pv 1))), ?_⟩
    refine ⟨_, rfl, _, rfl, a, b, rfl, leE a b, rfl, ?_⟩
    have k : Q (eV (if leE a b = true then a else b)) H := k
    cases h : leE a b with
    | true =>
      rw [h] at k
      exact ⟨_, rfl, k⟩
    | false =>
      rw [h] at k
      exact ⟨_, rfl, k⟩
/-! ### is_number, is_entry -/
abbrev sIsNum : Stmt := topS 9
abbrev sIsEnt : Stmt := topS 13
theorem scIsNum : FnScope ["thing"] ["thing"] (defScope sIsNum) := ⟨rfl, rfl, rfl, by decide +kernel, rfl, by decide +kernel, by decide +kernel⟩
theorem scIsEnt : FnScope ["thing"] ["thing"] (defScope sIsEnt) := ⟨rfl, rfl, rfl, by decide +kernel, rfl, by decide +kernel, by decide +kernel⟩
def spIsNum : Sp := fun vs H Q _ => ∃ a : Int, vs = [.int a] ∧ RetV (.bl true) H Q
def spIsEnt : Sp := fun vs H Q _ => ∃ a : Ent, vs = [eV a] ∧ RetV (.bl true) H Q
/-- isinstance(x, T) for a built-in class T -/
def tIs (K : PySem.W.Frag) (T : String) (ta : TE) : TE := tCB (rIsi K) (tCons ta (tCons (tC (.ty T)) tNil))
theorem boot_isinstance : bootBuiltins "isinstance" = some (.builtin "isinstance") := by decide +kernel
section
variable {X : Cx} {e : Expr} {te : TE} {T : Str} {Tn : String} {p p2 pos : Pos}
theorem pe_isT (T1 : Tx X.mg) (he : PE X e te) (hT : X.mg T = none) (hv : bootBuiltins T = some (.type Tn)) (hg : Gl X "isinstance" := by rfl) (hg2 : Gl X T := by rfl)
    (s1 : starEach [e, .Name T p2] X.env = (false, eval e X.env) :: starEach [.Name T p2] X.env := by rfl) (s2 : starEach [.Name T p2] X.env = (false, eval (.Name T p2) X.env) :: starEach [] X.env := by rfl)
    (s3 : (backTo pos (starEach [.Name T p2] X.env)).any (·.1) = false := by rfl) (n1 : T ≠ "__name__" := by decide) (n2 : (T == ("__debug__" : Str)) = false := by decide) :
    PE X (.Call (.Name "isinstance" p) [e, .Name T p2] [] pos) (tIs X.K Tn te) :=
  pe_callB call_isi hg T1.isinstance boot_isinstance (pa_cons he (pa_cons (pe_bltn (v := .ty Tn) hg2 hT hv rfl n1 n2) pa_nil s2) s1) (by decide) (by decide) s1 s3
end
theorem ev_isT {σ : L2.St} {B : Hp} {ta : TE} {v : V} {t : String} {T : String} {b : Bool} (h : Ev ta σ B v) (ht : ∀ H, Ex B H → TyX K H v (.type t)) (hk : kitB t T = some b) : Ev (tIs K T ta) σ B (.bl b) := fun H e Q q =>
  h H e _ fun H1 e1 => ⟨v, .ty T, .type t, .type T, b, rfl, .ty T, ht H1 (e.trans e1), kit_ty hk, q H1 e1⟩
theorem ok_isNum {f : Addr} {fd : FuncData} (F : Fun K "is_number" "is_number" sIsNum f fd) (T : Tx mg) : FnOk P w K mg base CX0 1 f fd ["thing"] spIsNum := by
  refine F.ok scIsNum (fun vs H Q E h => ?_) (fun cdv A outer s H vs Q E hr h => ?_)
  · obtain ⟨a, rfl, _⟩ := h
    rfl
  · obtain ⟨a, rfl, k⟩ := h
    refine ⟨_, pss_one (ps_ret (pe_and (pe_isT T (pv 0) T.int (Tn := "int") (by decide +kernel)) (pe_one (pe_not (pe_isT T (pv 0) T.bool (Tn := "bool") (by decide +kernel)))))), ?_⟩
    have e1 : Ev (tIs K "int" (tVar 0)) (start ["thing"] [V.int a]) H (.bl true) := ev_isT (t := "int") (ev_var rfl) (fun H _ => .base (.int a)) (by decide +kernel)
    have e2 : Ev (tIs K "bool" (tVar 0)) (start ["thing"] [V.int a]) H (.bl false) := ev_isT (t := "int") (ev_var rfl) (fun H _ => .base (.int a)) (by decide +kernel)
    exact ev_andV e1 (fun _ => ev_notV e2) H (Ex.refl H) _ fun H2 e => k H2 e
theorem ok_isEnt {f : Addr} {fd : FuncData} (F : Fun K "is_entry" "is_entry" sIsEnt f fd) (o : Own P w K mg base CX0 1 "is_number" ["thing"] spIsNum) : FnOk P w K mg base CX0 2 f fd ["thing"] spIsEnt := by
  refine F.ok scIsEnt (fun vs H Q E h => ?_) (fun cdv A outer s H vs Q E hr h => ?_)
  · obtain ⟨a, rfl, _⟩ := h
    rfl
  · obtain ⟨a, rfl, k⟩ := h
    refine ⟨_, pss_one (ps_ret (pe_or (pe_cmpR op_isN (pv 0) pe_non (nomark _)) (pe_one (pe_own o hr (by decide) pass0 (pa_cons (pv 0) pa_nil))))), ?_⟩
    cases a with
    | none =>
      refine ⟨_, rfl, rfl, true, rfl, ?_⟩
      exact k H (Ex.refl H)
    | some a =>
      refine ⟨_, rfl, rfl, false, rfl, ?_⟩
      exact ⟨_, rfl, a, rfl, k⟩
end
end K73
end
section
set_option Elab.async false
set_option linter.all false
set_option maxRecDepth 100000
set_option maxHeartbeats 4000000
namespace K73
open PySem L2 Evl
section
variable {P : Program} {w : World} {K : PySem.W.Frag} {mg : Str → Option Value} {base : Heap}
theorem fnok_false {C : CXT} {f : Addr} {fd : FuncData} {ps : List Str} : FnOk P w K mg base C 0 f fd ps (fun _ _ _ _ => False) :=
  ⟨fun _ _ _ _ h => h.elim, fun _ _ _ _ _ _ _ _ _ _ _ _ _ h => h.elim⟩
/-! ### kinds of data -/
theorem tyx_l {H : Hp} {a : Addr} {xs : List V} (h : SqL K H a xs) : TyX K H (.ref a) (.type "list") := by
  rcases h with (h | ⟨o, h⟩) | ⟨o, its, n, h1, h2, _⟩
  · exact .base (.lst h)
  · exact .base (.frz h)
  · exact .kList h1 h2
theorem tyx_t {H : Hp} {a : Addr} {xs : List V} (h : SqT K H a xs) : TyX K H (.ref a) (.type "tuple") := by
  rcases h with (h | ⟨o, h⟩) | ⟨o, its, n, h1, h2, _⟩
  · exact .base (.tup h)
  · exact .fTuple h
  · exact .kTuple h1 h2
def kindD : PD → String
  | .none => "NoneType"
  | .bool _ => "bool"
  | .int _ => "int"
  | .str _ => "str"
  | .list _ => "list"
  | .tuple _ => "tuple"
  | .dict _ => "dict"
theorem tyx_of {H : Hp} {v : V} {d : PD} (h : Dp K H v d) : TyX K H v (.type (kindD d)) := by
  cases h with
  | non => exact .base .non
  | bl b => exact .base (.bl b)
  | int i => exact .base (.int i)
  | str x => exact .base (.str x)
  | lst s _ => exact tyx_l s
  | tup s _ => exact tyx_t s
/-- isinstance(x, (T1, T2)) -/
def tIs2 (K : PySem.W.Frag) (T1 T2 : String) (ta : TE) : TE := tCB (rIsiT K) (tCons ta (tCons (tTup (tCons (tC (.ty T1)) (tCons (tC (.ty T2)) tNil))) tNil))
section
variable {X : Cx} {e : Expr} {te : TE} {T U : Str} {Tn Un : String} {p p2 p3 p4 pos : Pos} {kk : Nat}
theorem pe_isT2 (T1 : Tx X.mg) (he : PE X e te) (hT : X.mg T = none) (hv : bootBuiltins T = some (.type Tn)) (hU : X.mg U = none) (hv2 : bootBuiltins U = some (.type Un)) (hg : Gl X "isinstance" := by rfl) (hg2 : Gl X T := by rfl) (hg3 : Gl X U := by rfl)
    (s1 : starEach [e, .Tuple [.Name T p2, .Name U p3] kk p4] X.env = (false, eval e X.env) :: starEach [.Tuple [.Name T p2, .Name U p3] kk p4] X.env := by rfl)
    (s2 : starEach [.Tuple [.Name T p2, .Name U p3] kk p4] X.env = (false, eval (.Tuple [.Name T p2, .Name U p3] kk p4) X.env) :: starEach [] X.env := by rfl)
    (s3 : (backTo pos (starEach [.Tuple [.Name T p2, .Name U p3] kk p4] X.env)).any (·.1) = false := by rfl)
    (s4 : starEach [.Name T p2, .Name U p3] X.env = (false, eval (.Name T p2) X.env) :: starEach [.Name U p3] X.env := by rfl)
    (s5 : starEach [.Name U p3] X.env = (false, eval (.Name U p3) X.env) :: starEach [] X.env := by rfl)
    (n1 : T ≠ "__name__" := by decide) (n2 : (T == ("__debug__" : Str)) = false := by decide) (n3 : U ≠ "__name__" := by decide) (n4 : (U == ("__debug__" : Str)) = false := by decide) :
    PE X (.Call (.Name "isinstance" p) [e, .Tuple [.Name T p2, .Name U p3] kk p4] [] pos) (tIs2 X.K Tn Un te) :=
  pe_callB call_isiT hg T1.isinstance boot_isinstance (pa_cons he (pa_cons (pe_tup (pa_cons (pe_bltn (v := .ty Tn) hg2 hT hv rfl n1 n2) (pa_cons (pe_bltn (v := .ty Un) hg3 hU hv2 rfl n3 n4) pa_nil s5) s4)) pa_nil s2) s1) (by decide) (by decide) s1 s3
end
theorem ev_isT2 {σ : L2.St} {B : Hp} {ta : TE} {d : PD} {T U : String} {b1 b2 : Bool} (h : EvG ta σ B (Dd K d)) (hk : kitB (kindD d) T = some b1) (hk2 : kitB (kindD d) U = some b2) : Ev (tIs2 K T U ta) σ B (.bl (b1 || b2)) := fun H e Q q =>
  h.go e fun v H1 e1 eb ec p => ⟨by show 2 ≤ sizeLine; decide, fun u hu => ⟨v, u, [.ty T, .ty U], .type (kindD d), [.type T, .type U], _, rfl, upd_same, .cons (.ty T) (.cons (.ty U) .nil), tyx_of (dp_mono (ec.trans (Ex.new hu)) p),
    kitAny_cons (kit_ty hk) (fun e => by
      rw [e]
      exact kitAny_cons (kit_ty hk2) (fun z => by rw [z]; exact kitAny_nil) (fun z => by rw [z]; rfl)) (fun e => by rw [e]; rfl), q _ (e1.trans (Ex.new hu))⟩⟩
theorem ev_isD {σ : L2.St} {B : Hp} {ta : TE} {d : PD} {T : String} {b : Bool} (h : EvG ta σ B (Dd K d)) (hk : kitB (kindD d) T = some b) : Ev (tIs K T ta) σ B (.bl b) := fun H e Q q =>
  h.go e fun v H1 e1 eb ec p => ⟨v, .ty T, .type (kindD d), .type T, b, rfl, .ty T, tyx_of (dp_mono ec p), kit_ty hk, q H1 e1⟩
theorem kNL : kitB "NoneType" "list" = some false := by decide +kernel
theorem kNT : kitB "NoneType" "tuple" = some false := by decide +kernel
theorem kBL : kitB "bool" "list" = some false := by decide +kernel
theorem kBT : kitB "bool" "tuple" = some false := by decide +kernel
theorem kIL : kitB "int" "list" = some false := by decide +kernel
theorem kIT : kitB "int" "tuple" = some false := by decide +kernel
theorem kSL : kitB "str" "list" = some false := by decide +kernel
theorem kST : kitB "str" "tuple" = some false := by decide +kernel
theorem kLL : kitB "list" "list" = some true := by decide +kernel
theorem kLT : kitB "list" "tuple" = some false := by decide +kernel
theorem kTL : kitB "tuple" "list" = some false := by decide +kernel
theorem kTT : kitB "tuple" "tuple" = some true := by decide +kernel
/-! ### plain -/
def plainD : Nat → PD → PD
  | 0, d => d
  | n + 1, .list xs => .tuple (xs.map (plainD n))
  | n + 1, .tuple xs => .tuple (xs.map (plainD n))
  | _ + 1, d => d
def okD : Nat → PD → Prop
  | 0, d => (imm d).isSome = true
  | n + 1, .list xs => xs.length ≤ 100000 ∧ ∀ x ∈ xs, okD n x
  | n + 1, .tuple xs => xs.length ≤ 100000 ∧ ∀ x ∈ xs, okD n x
  | _ + 1, d => (imm d).isSome = true
def plF (n : Nat) (ds : List PD) (d : PD) : Prop := ∃ x, ds = [x] ∧ okD n x ∧ d = plainD n x
abbrev sPlain : Stmt := topS 8
theorem scPlain : FnScope ["matter", "part"] ["matter"] (defScope sPlain) := ⟨rfl, rfl, rfl, by decide +kernel, rfl, by decide +kernel, by decide +kernel⟩
theorem sp_len1 {F : List PD → PD → Prop} {ps : List Str} (hF : ∀ ds d, F ds d → ds.length = ps.length) (vs : List V) (H : Hp) (Q : VK) (E : XK) (h : spD K F vs H Q E) : vs.length = ps.length := by
  obtain ⟨B, ds, d, _, a, f, _⟩ := h
  rw [dpa_len a, hF ds d f]
theorem map_range {α : Type} {β : Type} (f : α → β) (xs : List α) (dflt : α) : (List.range xs.length).map (fun i => f (xs.getD i dflt)) = xs.map f := by
  apply List.ext_getElem
  · simp
  · intro i h1 h2
    simp at h1 h2
    simp [h1]
theorem boot_list : bootBuiltins "list" = some (.type "list") := by decide +kernel
theorem boot_tuple' : bootBuiltins "tuple" = some (.type "tuple") := by decide +kernel
theorem plain_step {f : Addr} {fd : FuncData} (F : Fun K "plain" "plain" sPlain f fd) (T : Tx mg) (n : Nat) (sp : Sp) (o : Own P w K mg base CX0 n "plain" ["matter"] sp) (hsp : ∀ m, n = m + 1 → sp = spD K (plF m)) : FnOk P w K mg base CX0 (n + 1) f fd ["matter"] (spD K (plF n)) := by
    refine F.ok scPlain (sp_len1 fun ds d ⟨x, e, _⟩ => by rw [e]; rfl) (fun cdv A outer s H vs Q E hr h => ?_)
    obtain ⟨B, ds, d, eb, ha, ⟨x, rfl, hx, rfl⟩, r⟩ := h
    cases ha with
    | cons hv hn =>
      cases hn
      rename_i v
      refine ⟨_, pss_one (ps_ret (pe_ifExp (pt_val (pe_isT2 T (pv 0) T.list boot_list T.tuple boot_tuple'))
        (pe_callTy call_tuple_of (by rfl) T.tuple boot_tuple' (pa_cons (pe_lc (own := [("part", 1)]) (g := gName 1) (tt := tYes) rfl scPlain.nd (pi_seq (pv 0)) (blkOk_by (N := ["matter", "part"]) (sc := defScope sPlain) (by decide +kernel))
          (fun _ _ _ _ _ => pg_name (i := 1) scPlain.nd rfl (Or.inl rfl)) (fun _ _ _ _ _ => pts_nil) (fun _ _ _ _ _ => pe_own o hr (Nat.le_refl _) pass0 (pa_cons (pv 1) pa_nil))) pa_nil)) (pv 0))), ?_⟩
      have hv0 : EvG (tVar 0) (start ["matter", "part"] [v]) B (Dd K x) := eg_d rfl hv
      refine sg_ret (B := B) (P := Dd K (plainD n x)) ?_ eb r
      -- what stands at each turn
      have seq : ∀ ds : List PD, isSeq x ds → ∀ m, n = m + 1 → ds.length ≤ 100000 → (∀ y ∈ ds, okD m y) → EvG (tCB (rTupOf K) (tCons (tLc (iSeq K (tVar 0)) (gName 1) tYes (tCall sp [] E0 (tCons (tVar 1) tNil)) [1]) tNil)) (start ["matter", "part"] [v]) B (Dd K (.tuple (ds.map (plainD m)))) := by
        intro ds hd m en hl hy
        have L := eg_lc (K := K) (te := tCall sp [] E0 (tCons (tVar 1) tNil)) (g := gName 1) (vs := [1]) (fun i => plainD m (ds.getD i .none)) (ei_seq hv0 hd) hl (by
          intro B' i y H1 H2 Q eB hi e1 hY rt
          obtain ⟨rfl, d, hd', hp⟩ := hY
          have hg : ds.getD i .none = d := by rw [List.getD_eq_getElem?_getD, hd'] <;> rfl
          refine lc_name (P := Dd K (plainD m d)) e1 rfl ?_ (by rw [hg] at rt; exact rt)
          rw [hsp m en]
          exact eg_call (ega_cons' (eg_d rfl hp) ega_nil) ⟨d, rfl, hy d (List.mem_of_getElem? hd'), rfl⟩)
        rw [map_range (plainD m) ds .none] at L
        exact eg_tupleOf L (.inl rfl)
      have imm' : (imm x).isSome = true → plainD n x = x → kitB (kindD x) "list" = some false → kitB (kindD x) "tuple" = some false → EvG (tIf (tB (tIs2 K "list" "tuple" (tVar 0))) (tCB (rTupOf K) (tCons (tLc (iSeq K (tVar 0)) (gName 1) tYes (tCall sp [] E0 (tCons (tVar 1) tNil)) [1]) tNil)) (tVar 0)) (start ["matter", "part"] [v]) B (Dd K (plainD n x)) := fun hi e k1 k2 => by
        rw [e]
        exact eg_if (et_B (ev_isT2 hv0 k1 k2)) (fun z => by cases z) (fun _ => hv0) mon_dd
      cases n with
      | zero =>
        have hi : (imm x).isSome = true := hx
        have kk : kitB (kindD x) "list" = some false ∧ kitB (kindD x) "tuple" = some false := by
          cases x with
          | list _ => cases hi
          | tuple _ => cases hi
          | dict _ => cases hi
          | none => exact ⟨kNL, kNT⟩
          | bool _ => exact ⟨kBL, kBT⟩
          | int _ => exact ⟨kIL, kIT⟩
          | str _ => exact ⟨kSL, kST⟩
        exact imm' hi rfl kk.1 kk.2
      | succ m =>
        cases x with
        | list xs => exact eg_if (et_B (ev_isT2 hv0 (b1 := true) (b2 := false) kLL kLT)) (fun _ => seq xs (.inl rfl) m rfl hx.1 hx.2) (fun z => by cases z) mon_dd
        | tuple xs => exact eg_if (et_B (ev_isT2 hv0 (b1 := false) (b2 := true) kTL kTT)) (fun _ => seq xs (.inr rfl) m rfl hx.1 hx.2) (fun z => by cases z) mon_dd
        | none => exact imm' rfl rfl kNL kNT
        | bool b => exact imm' rfl rfl kBL kBT
        | int i => exact imm' rfl rfl kIL kIT
        | str z => exact imm' rfl rfl kSL kST
        | dict _ => cases hx
theorem ok_plain {f : Addr} {fd : FuncData} (F : Fun K "plain" "plain" sPlain f fd) (T : Tx mg) (hm : mg "plain" = some (.ref f)) (hb : Binds K fd ["matter"] []) : ∀ n : Nat, FnOk P w K mg base CX0 (n + 1) f fd ["matter"] (spD K (plF n))
  | 0 => plain_step F T 0 _ ⟨f, fd, fnok_false, hm, F.kp, hb⟩ fun m e => nomatch e
  | n + 1 => plain_step F T (n + 1) _ (own_mk F (ok_plain F T hm hb n) hm hb) fun m e => by
    injection e with e
    subst e
    rfl
end
end K73
end
section
set_option Elab.async false
set_option linter.all false
set_option maxRecDepth 100000
set_option maxHeartbeats 4000000
namespace K73
open PySem L2 Evl
/-! ### the rules with the written part named, for use within blocks -/
section
variable (K : PySem.W.Frag) {X : Cx} {a b e e2 tg iter : Expr} {ta tb te : TE} {pos p p2 p3 p4 tpos : Pos} {elts : List Expr} {kk : Nat}
theorem kix (ha : PE X a ta) (hb : PE X b tb) (hK : X.K = K := by rfl) (hs : PlainIx b := by exact fun _ _ => rfl) : PE X (.Subscript a b pos) (tOp (rIx K) ta tb) := by
  subst hK
  exact pe_ix ix_seq ha hb hs
theorem kseq {l : Expr} {tl : TE} (hl : PE X l tl) (hK : X.K = K := by rfl) : PI X tg l (iSeq K tl) := by
  subst hK
  exact pi_seq hl
theorem kenum (T : Tx X.mg) (ha : PE X e te) (hK : X.K = K := by rfl) (hg : Gl X "enumerate" := by rfl) (hs : starEach [e] X.env = (false, eval e X.env) :: starEach [] X.env := by rfl) (hs2 : starEach [e] X.env = [(false, eval e X.env)] := by rfl) :
    PI X (.Tuple elts kk tpos) (.Call (.Name "enumerate" p) [e] [] pos) (iEnumA K (tCons te tNil)) := by
  subst hK
  exact pi_enumA hg T.enumerate (pa_cons ha pa_nil hs) hs2
theorem kzip (T : Tx X.mg) (ha : PE X e ta) (hb : PE X e2 tb) (hK : X.K = K := by rfl) (hg : Gl X "zip" := by rfl) (hs : starEach [e, e2] X.env = (false, eval e X.env) :: starEach [e2] X.env := by rfl) (hs2 : starEach [e2] X.env = (false, eval e2 X.env) :: starEach [] X.env := by rfl)
    (hpl : (backTo pos (starEach [e2] X.env)).any (·.1) = false := by rfl) :
    PI X (.Tuple elts kk tpos) (.Call (.Name "zip" p) [e, e2] [] pos) (RZ.iZipA K (tCons ta (tCons tb tNil))) := by
  subst hK
  exact RZ.pi_zipA hg T.zip (pa_cons ha (pa_cons hb pa_nil hs2) hs) hs hpl
theorem krange (T : Tx X.mg) (ha : PE X e te) (hg : Gl X "range" := by rfl) (hs : starEach [e] X.env = (false, eval e X.env) :: starEach [] X.env := by rfl) (hs2 : starEach [e] X.env = [(false, eval e X.env)] := by rfl) :
    PI X tg (.Call (.Name "range" p) [e] [] pos) (iRng1 (tCons te tNil)) := pi_range1 hg T.range (pa_cons ha pa_nil hs) hs2
theorem ktup {es : List Expr} {t : TGs} {n : Nat} (hc : X.calm = true) (h : PGs X es t) (hK : X.K = K := by rfl) (hn : (assignEach es X.env).length = n := by rfl) (hst : (assignEach es X.env).findIdx? (·.1) = none := by rfl) : PG X (.Tuple es kk pos) (gTup K n t) := by
  subst hK
  exact pg_tup hc h hn hst
theorem klen (T : Tx X.mg) (ha : PE X e te) (hK : X.K = K := by rfl) (hg : Gl X "len" := by rfl) (hs : starEach [e] X.env = (false, eval e X.env) :: starEach [] X.env := by rfl) (hpl : (backTo pos (starEach [] X.env)).any (·.1) = false := by rfl) :
    PE X (.Call (.Name "len" p) [e] [] pos) (tCB (rLenOf K) (tCons te tNil)) := by
  subst hK
  exact pe_callB call_len_seq hg T.len PySem.boot_len (pa_cons ha pa_nil hs) (by decide) (by decide) hs hpl
theorem klist (T : Tx X.mg) (ha : PE X e te) (hK : X.K = K := by rfl) (hg : Gl X "list" := by rfl) (hs : starEach [e] X.env = (false, eval e X.env) :: starEach [] X.env := by rfl) (hpl : (backTo pos (starEach [] X.env)).any (·.1) = false := by rfl) :
    PE X (.Call (.Name "list" p) [e] [] pos) (tCB (rListOf K) (tCons te tNil)) := by
  subst hK
  exact pe_callTy call_list_of hg T.list boot_list (pa_cons ha pa_nil hs) (by decide) (by decide) hs hpl
theorem ktupleOf (T : Tx X.mg) (ha : PE X e te) (hK : X.K = K := by rfl) (hg : Gl X "tuple" := by rfl) (hs : starEach [e] X.env = (false, eval e X.env) :: starEach [] X.env := by rfl) (hpl : (backTo pos (starEach [] X.env)).any (·.1) = false := by rfl) :
    PE X (.Call (.Name "tuple" p) [e] [] pos) (tCB (rTupOf K) (tCons te tNil)) := by
  subst hK
  exact pe_callTy call_tuple_of hg T.tuple boot_tuple' (pa_cons ha pa_nil hs) (by decide) (by decide) hs hpl
theorem kall (T : Tx X.mg) (hc : X.calm = true) (ha : PE X e te) (hK : X.K = K := by rfl) (hg : Gl X "all" := by rfl) (hs : starEach [e] X.env = (false, eval e X.env) :: starEach [] X.env := by rfl) (hpl : (backTo pos (starEach [] X.env)).any (·.1) = false := by rfl) :
    PE X (.Call (.Name "all" p) [e] [] pos) (tCB (rAll K) (tCons te tNil)) := by
  subst hK
  exact pe_callB (cr_all hc) hg T.all (by decide +kernel) (pa_cons ha pa_nil hs) (by decide) (by decide) hs hpl
theorem kany (T : Tx X.mg) (hc : X.calm = true) (ha : PE X e te) (hK : X.K = K := by rfl) (hg : Gl X "any" := by rfl) (hs : starEach [e] X.env = (false, eval e X.env) :: starEach [] X.env := by rfl) (hpl : (backTo pos (starEach [] X.env)).any (·.1) = false := by rfl) :
    PE X (.Call (.Name "any" p) [e] [] pos) (tCB (rAny K) (tCons te tNil)) := by
  subst hK
  exact pe_callB (cr_any hc) hg T.any (by decide +kernel) (pa_cons ha pa_nil hs) (by decide) (by decide) hs hpl
theorem kisT {t : Str} {Tn : String} (T : Tx X.mg) (he : PE X e te) (hT : X.mg t = none) (hv : bootBuiltins t = some (.type Tn)) (hK : X.K = K := by rfl) (hg : Gl X "isinstance" := by rfl) (hg2 : Gl X t := by rfl)
    (s1 : starEach [e, .Name t p2] X.env = (false, eval e X.env) :: starEach [.Name t p2] X.env := by rfl) (s2 : starEach [.Name t p2] X.env = (false, eval (.Name t p2) X.env) :: starEach [] X.env := by rfl)
    (s3 : (backTo pos (starEach [.Name t p2] X.env)).any (·.1) = false := by rfl) (n1 : t ≠ "__name__" := by decide) (n2 : (t == ("__debug__" : Str)) = false := by decide) :
    PE X (.Call (.Name "isinstance" p) [e, .Name t p2] [] pos) (tIs K Tn te) := by
  subst hK
  exact pe_isT T he hT hv hg hg2 s1 s2 s3 n1 n2
theorem kin (ha : PE X a ta) (hb : PE X b tb) (hK : X.K = K := by rfl) (hm : behindInMarks .In b = false := by rfl) : PE X (.Compare a [.In] [b] pos) (tOp (rIn K false) ta tb) := by
  subst hK
  exact pe_cmpR op_in_seq ha hb hm
theorem knotin (ha : PE X a ta) (hb : PE X b tb) (hK : X.K = K := by rfl) (hm : behindInMarks .NotIn b = false := by rfl) : PE X (.Compare a [.NotIn] [b] pos) (tOp (rIn K true) ta tb) := by
  subst hK
  exact pe_cmpR op_notIn_seq ha hb hm
/-- a comprehension -/
theorem klc {elt : Expr} {ifs : List Expr} {scope : Scope} {wi : TI} {g : TG} {tt : TT} (own : List (Str × Nat)) (hN : X.N.Nodup) (hi : PI X tg iter wi) (ok : blkC X.N X.env.scope scope own = true)
    (hg : ∀ (s : Shared) (H : Hp) (C : Addr) (cl : List (Str × Addr)) (fp : List Addr), PG (X.blk s H scope (compEnvC scope cl C X.env) fp) tg g) (ht : ∀ (s : Shared) (H : Hp) (C : Addr) (cl : List (Str × Addr)) (fp : List Addr), PTs (X.blk s H scope (compEnvC scope cl C X.env) fp) ifs tt)
    (he : ∀ (s : Shared) (H : Hp) (C : Addr) (cl : List (Str × Addr)) (fp : List Addr), PE (X.blk s H scope (compEnvC scope cl C X.env) fp) elt te) (hc : X.calm = true := by rfl) (hs : ∀ x, foldedSetIterable iter X.env x = pure x := by intro _; rfl) :
    PE X (.ListComp elt [⟨tg, iter, ifs, 0⟩] scope pos) (tLc wi g tt te (own.map (·.2))) := pe_lc hc hN hi (blkOk_by ok) hg ht he hs
end
section
variable {K : PySem.W.Frag} {B : Hp} {σ : L2.St} {te : TE}
/-- all, any of a new list of bools -/
theorem ev_all {bs : List Bool} (h : EvG te σ B (Dd K (.list (bs.map PyData.bool)))) : Ev (tCB (rAll K) (tCons te tNil)) σ B (.bl (bs.all id)) := fun H e Q q => h.go e fun v H1 e1 eb ec p => by
  obtain ⟨a, xs, rfl, s, hx⟩ := dp_lst p
  rw [dpa_bls.mp hx] at s
  exact ⟨a, bs, rfl, ex_l ec s, q H1 e1⟩
theorem ev_any {bs : List Bool} (h : EvG te σ B (Dd K (.list (bs.map PyData.bool)))) : Ev (tCB (rAny K) (tCons te tNil)) σ B (.bl (bs.any id)) := fun H e Q q => h.go e fun v H1 e1 eb ec p => by
  obtain ⟨a, xs, rfl, s, hx⟩ := dp_lst p
  rw [dpa_bls.mp hx] at s
  exact ⟨a, bs, rfl, ex_l ec s, q H1 e1⟩
end
end K73
end
section
set_option Elab.async false
set_option linter.all false
set_option maxRecDepth 100000
set_option maxHeartbeats 4000000
namespace K73
open PySem L2 Evl
/-! ### matrices as data -/
def rowD (n : Nat) (r : Nat → Ent) : List PD := (List.range n).map fun j => eD (r j)
def matDs (n : Nat) (M : Mat) : List PD := (List.range n).map fun i => PyData.list (rowD n (M i))
def matL (n : Nat) (M : Mat) : PD := .list (matDs n M)
def matTs (n : Nat) (M : Mat) : List PD := (List.range n).map fun i => PyData.tuple (rowD n (M i))
def matT (n : Nat) (M : Mat) : PD := .tuple (matTs n M)
theorem mr_get {α : Type} (f : Nat → α) {n i : Nat} (h : i < n) : ((List.range n).map f)[i]? = some (f i) := by
  rw [List.getElem?_map, List.getElem?_range h]
  rfl
theorem rowD_len (n : Nat) (r : Nat → Ent) : (rowD n r).length = n := by simp [rowD]
theorem matDs_len (n : Nat) (M : Mat) : (matDs n M).length = n := by simp [matDs]
theorem matTs_len (n : Nat) (M : Mat) : (matTs n M).length = n := by simp [matTs]
theorem rowD_get {n j : Nat} (r : Nat → Ent) (h : j < n) : (rowD n r)[j]? = some (eD (r j)) := mr_get _ h
theorem matDs_get {n i : Nat} (M : Mat) (h : i < n) : (matDs n M)[i]? = some (PyData.list (rowD n (M i))) := mr_get _ h
theorem matTs_get {n i : Nat} (M : Mat) (h : i < n) : (matTs n M)[i]? = some (PyData.tuple (rowD n (M i))) := mr_get _ h
theorem get_lt {α : Type} {xs : List α} {i : Nat} {x : α} (h : xs[i]? = some x) : i < xs.length := (List.getElem?_eq_some_iff.mp h).1
section
variable {P : Program} {w : World} {K : PySem.W.Frag} {mg : Str → Option Value} {base : Heap}
variable {B H : Hp} {σ : L2.St} {ta tb te : TE}
/-- x[i] that is an entry -/
theorem ev_ixE {d : PD} {ds : List PD} {e : Ent} {i : Nat} (h : EvG ta σ B (Dd K d)) (hd : isSeq d ds) (hi : Ev tb σ B (.int (i : Int))) (hg : ds[i]? = some (eD e)) : Ev (tOp (rIx K) ta tb) σ B (eV e) := ev_imm (eg_ix h hd hi hg) (imm_eD e)
theorem ev_entV {e : Ent} {i : Nat} {v : V} (h : σ[i]? = some (some v)) (p : Dp K B v (eD e)) : Ev (tVar i) σ B (eV e) := by
  have q := (dp_imm (imm_eD e)).mp p
  rw [q] at h
  exact ev_var h
theorem ev_intV {z : Int} {i : Nat} {v : V} (h : σ[i]? = some (some v)) (p : Dp K B v (.int z)) : Ev (tVar i) σ B (.int z) := by
  rw [dp_int p] at h
  exact ev_var h
/-! ### least_sums -/
abbrev sLeast : Stmt := topS 18
abbrev nLeast : List Str := ["rows", "found", "by", "row", "at", "entry"]
theorem scLeast : FnScope nLeast ["rows"] (defScope sLeast) := ⟨rfl, rfl, rfl, by decide +kernel, rfl, by decide +kernel, by decide +kernel⟩
def leastF (ds : List PD) (d : PD) : Prop := ∃ n M, n ≤ 1000 ∧ ds = [matL n M] ∧ d = matL n (fwM n M)
theorem ok_least {f : Addr} {fd : FuncData} (F : Fun K "least_sums" "least_sums" sLeast f fd) (T : Tx mg) (oL : Own P w K mg base CX0 2 "lesser" ["one", "other"] spLesser) (oP : Own P w K mg base CX0 1 "plus" ["one", "other"] spPlus) :
    FnOk P w K mg base CX0 3 f fd ["rows"] (spD K leastF) := by
  refine F.ok scLeast (sp_len1 fun ds d ⟨n, M, _, e, _⟩ => by rw [e]; rfl) (fun cdv A outer s H vs Q E hr h => ?_)
  obtain ⟨B, ds, d, eb, ha, ⟨n, M, hn, rfl, rfl⟩, r⟩ := h
  cases ha with
  | cons hv hnil =>
    cases hnil
    rename_i v
    refine ⟨_, pss_cons (ps_set (i := 1) scLeast.nd rfl (Or.inr rfl) (klc (own := [("row", 3)]) (g := gName 3) (tt := tYes) scLeast.nd (kseq K (pv 0)) (by kernel_rfl)
        (fun _ _ _ _ _ => pg_name (i := 3) scLeast.nd rfl (Or.inl rfl)) (fun _ _ _ _ _ => pts_nil) (fun _ _ _ _ _ => klist K T (pv 3))))
      (pss_cons (ps_for PassesOwn.never rfl (krange T (klen K T (pv 0))) (pg_name (i := 2) scLeast.nd rfl (Or.inr rfl))
        (pss_one (ps_set (i := 1) scLeast.nd rfl (Or.inr rfl) (klc (own := [("row", 3)]) (g := gName 3) (tt := tYes) scLeast.nd (kseq K (pv 1)) (by kernel_rfl)
          (fun _ _ _ _ _ => pg_name (i := 3) scLeast.nd rfl (Or.inr rfl)) (fun _ _ _ _ _ => pts_nil) (fun _ _ _ _ _ =>
            klc (own := [("at", 4), ("entry", 5)]) (g := gTup K 2 (gCons (gName 4) (gCons (gName 5) gNil))) (tt := tYes) scLeast.nd (kenum K T (pv 3)) (by kernel_rfl)
              (fun _ _ _ _ _ => ktup K rfl (pgs_cons (pg_name (i := 4) scLeast.nd rfl (Or.inl rfl)) (pgs_cons (pg_name (i := 5) scLeast.nd rfl (Or.inl rfl)) pgs_nil))) (fun _ _ _ _ _ => pts_nil)
              (fun _ _ _ _ _ => pe_own oL hr (by decide) pass0 (pa_cons (pv 5) (pa_cons (pe_own oP hr (by decide) pass0 (pa_cons (kix K (pv 3) (pv 2)) (pa_cons (kix K (kix K (pv 1) (pv 2)) (pv 4)) pa_nil))) pa_nil))))))))
      (pss_one (ps_ret (pv 1)))), ?_⟩
    have hv0 : ∀ σ : L2.St, σ[0]? = some (some v) → EvG (tVar 0) σ B (Dd K (matL n M)) := fun σ h => eg_d h hv
    -- found = [list(row) for row in rows]
    refine qg_asg (B := B) (P := Dd K (matL n M)) ?_ eb ?_
    · have L := eg_lc (K := K) (B := B) (σ := start nLeast [v]) (te := tCB (rListOf K) (tCons (tVar 3) tNil)) (g := gName 3) (vs := [3]) (fun i => PyData.list (rowD n (M i))) (ei_seq (hv0 _ rfl) (.inl rfl)) (by rw [matDs_len]; omega) (by
        intro B' i y H1 H2 Q eB hi e1 hY rt
        obtain ⟨rfl, d, hd', hp⟩ := hY
        rw [matDs_len] at hi
        rw [matDs_get M hi] at hd'
        cases hd'
        exact lc_name e1 rfl (eg_listOf (eg_d rfl hp) (.inl rfl)) rt)
      rw [matDs_len] at L
      exact L
    intro vf H1 e1 eB1 eC1 hf
    -- for by in range(len(rows))
    have hlen : Ev (tCB (rLenOf K) (tCons (tVar 0) tNil)) ((start nLeast [v]).set 1 (some vf)) H1 (.int (n : Int)) := by
      have q := ev_lenD (ds := matDs n M) ((hv0 ((start nLeast [v]).set 1 (some vf)) rfl).mono mon_dd eB1) (.inl rfl)
      rw [matDs_len] at q
      exact ev_more eC1 q
    refine q_forR1 (n := (n : Int)) (ea_cons hlen ea_nil) (by omega) (fun i σ' H' => ∃ vf x2 x3 x4 x5, σ' = [some v, some vf, x2, x3, x4, x5] ∧ Ex H H' ∧ Dp K (cut B H H') vf (matL n (fwM i M))) ?_ ?_ ?_
    · intro H2 e2
      exact ⟨vf, none, none, none, none, rfl, e1.trans e2, dp_mono (cut_mono e2) hf⟩
    · rintro i σ' H' hi ⟨vf, x2, x3, x4, x5, rfl, eH, hf⟩
      have hin : i < n := by omega
      have eB' : Ex B (cut B H H') := ex_cut eb eH
      refine sg_asg (B := cut B H H') (P := Dd K (matL n (fwM (i + 1) M))) ?_ cut_ex ?_
      · have L := eg_lc (K := K) (B := cut B H H') (σ := [some v, some vf, some (.int (i : Int)), x3, x4, x5])
          (te := tLc (iEnumA K (tCons (tVar 3) tNil)) (gTup K 2 (gCons (gName 4) (gCons (gName 5) gNil))) tYes (tCall spLesser [] E0 (tCons (tVar 5) (tCons (tCall spPlus [] E0 (tCons (tOp (rIx K) (tVar 3) (tVar 2)) (tCons (tOp (rIx K) (tOp (rIx K) (tVar 1) (tVar 2)) (tVar 4)) tNil))) tNil))) [4, 5])
          (wi := iSeq K (tVar 1)) (g := gName 3) (vs := [3]) (fun a => PyData.list (rowD n (fwM (i + 1) M a))) (ei_seq (eg_d rfl hf) (.inl rfl)) (by rw [matDs_len]; omega) (by
          intro B2 a y H2 H3 Q eB2 ha e2 hY rt
          obtain ⟨rfl, d, hd', hp⟩ := hY
          rw [matDs_len] at ha
          rw [matDs_get _ ha] at hd'
          cases hd'
          refine lc_name e2 rfl ?_ rt
          have L2 := eg_lc (K := K) (B := B2) (σ := (wipe [some v, some vf, some (.int (i : Int)), x3, x4, x5] [3]).set 3 (some y)) (te := tCall spLesser [] E0 (tCons (tVar 5) (tCons (tCall spPlus [] E0 (tCons (tOp (rIx K) (tVar 3) (tVar 2)) (tCons (tOp (rIx K) (tOp (rIx K) (tVar 1) (tVar 2)) (tVar 4)) tNil))) tNil)))
            (wi := iEnumA K (tCons (tVar 3) tNil)) (g := gTup K 2 (gCons (gName 4) (gCons (gName 5) gNil))) (vs := [4, 5]) (fun b => eD (fwM (i + 1) M a b)) (ei_enum (eg_d rfl hp) (.inl rfl)) (by rw [rowD_len]; omega) (by
            intro B3 b y2 H4 H5 Q2 eB3 hb e3 hY2 rt2
            obtain ⟨T1, z1, z2, d1, d2, rfl, hT1, rfl, h1, h2, p1, p2⟩ := hY2
            rw [nums_at hb] at h1
            cases h1
            rw [rowD_len] at hb
            rw [rowD_get _ hb] at h2
            cases h2
            cases dp_int p1
            exact lc_pair mon_dd e3 hT1 rfl (eg_imm (ev_e2 (ev_entV rfl p2) (ev_e2 (a := fwM i M a i) (b := fwM i M i b) (ev_ixE (eg_d rfl (dp_mono eB3 hp)) (.inl rfl) (ev_var rfl) (rowD_get _ hin))
              (ev_ixE (eg_ix (eg_d rfl (dp_mono (eB2.trans eB3) hf)) (.inl rfl) (ev_var rfl) (matDs_get _ hin)) (.inl rfl) (ev_var rfl) (rowD_get _ hb)))) (imm_eD _)) rt2)
          rw [rowD_len] at L2
          exact L2)
        rw [matDs_len] at L
        exact L
      · intro vg H2 e2 eB2 eC2 hg
        rw [cut_cut (dm_of eH)] at hg
        exact ⟨vg, _, x3, x4, x5, rfl, eH.trans e2, hg⟩
    · rintro σ' H' ⟨vf, x2, x3, x4, x5, rfl, eH, hf⟩
      rw [Int.toNat_natCast] at hf
      exact sg_ret (B := cut B H H') (eg_d rfl hf) cut_ex (r.next (dm_of eH) eH)
end
end K73
end
section
set_option Elab.async false
set_option linter.all false
set_option maxRecDepth 100000
set_option maxHeartbeats 4000000
namespace K73
open PySem L2 Evl
section
variable {P : Program} {w : World} {K : PySem.W.Frag} {mg : Str → Option Value} {base : Heap}
/-! ### without_stays -/
abbrev sWs : Stmt := topS 19
abbrev nWs : List Str := ["rows", "place", "row", "at", "entry"]
theorem scWs : FnScope nWs ["rows"] (defScope sWs) := ⟨rfl, rfl, rfl, by decide +kernel, rfl, by decide +kernel, by decide +kernel⟩
def noStay (M : Mat) : Mat := fun i j => if j = i then none else M i j
def wsF (ds : List PD) (d : PD) : Prop := ∃ n M, n ≤ 1000 ∧ ds = [matL n M] ∧ d = matL n (noStay M)
/-- e1 if at == place else e2, of two places -/
theorem ev_same {B : Hp} {σ : L2.St} {ta tb te tf : TE} {a b : Nat} {x y : V} (h1 : Ev ta σ B (.int (a : Int))) (h2 : Ev tb σ B (.int (b : Int))) (hx : Ev te σ B x) (hy : Ev tf σ B y) :
    Ev (tIf (tTest (tOp rEq ta tb)) te tf) σ B (if a = b then x else y) := by
  refine ev_if (et_test (ev_op h1 h2 (rv_eq rfl))) (fun h => ?_) (fun h => ?_)
  · have e : a = b := by
      have q := V.int.inj (of_decide_eq_true h)
      omega
    rw [if_pos e]
    exact hx
  · have e : a ≠ b := fun z => by
      rw [z] at h
      exact absurd h (by simp)
    rw [if_neg e]
    exact hy
theorem ok_ws {f : Addr} {fd : FuncData} (F : Fun K "without_stays" "without_stays" sWs f fd) (T : Tx mg) : FnOk P w K mg base CX0 1 f fd ["rows"] (spD K wsF) := by
  refine F.ok scWs (sp_len1 fun ds d ⟨n, M, _, e, _⟩ => by rw [e]; rfl) (fun cdv A outer s H vs Q E hr h => ?_)
  obtain ⟨B, ds, d, eb, ha, ⟨n, M, hn, rfl, rfl⟩, r⟩ := h
  cases ha with
  | cons hv hnil =>
    cases hnil
    rename_i v
    refine ⟨_, pss_one (ps_ret (klc (own := [("place", 1), ("row", 2)]) (g := gTup K 2 (gCons (gName 1) (gCons (gName 2) gNil))) (tt := tYes) scWs.nd (kenum K T (pv 0)) (by kernel_rfl)
        (fun _ _ _ _ _ => ktup K rfl (pgs_cons (pg_name (i := 1) scWs.nd rfl (Or.inr rfl)) (pgs_cons (pg_name (i := 2) scWs.nd rfl (Or.inl rfl)) pgs_nil))) (fun _ _ _ _ _ => pts_nil) (fun _ _ _ _ _ =>
          klc (own := [("at", 3), ("entry", 4)]) (g := gTup K 2 (gCons (gName 3) (gCons (gName 4) gNil))) (tt := tYes) scWs.nd (kenum K T (pv 2)) (by kernel_rfl)
            (fun _ _ _ _ _ => ktup K rfl (pgs_cons (pg_name (i := 3) scWs.nd rfl (Or.inl rfl)) (pgs_cons (pg_name (i := 4) scWs.nd rfl (Or.inl rfl)) pgs_nil))) (fun _ _ _ _ _ => pts_nil)
            (fun _ _ _ _ _ => pe_ifExp (pt_cmpR op_eq (pv 3) (pv 1) (nomark _)) pe_non (pv 4))))), ?_⟩
    refine sg_ret (B := B) (P := Dd K (matL n (noStay M))) ?_ eb r
    have L := eg_lc (K := K) (B := B) (σ := start nWs [v])
      (te := tLc (iEnumA K (tCons (tVar 2) tNil)) (gTup K 2 (gCons (gName 3) (gCons (gName 4) gNil))) tYes (tIf (tTest (tOp rEq (tVar 3) (tVar 1))) (tC .non) (tVar 4)) [3, 4])
      (wi := iEnumA K (tCons (tVar 0) tNil)) (g := gTup K 2 (gCons (gName 1) (gCons (gName 2) gNil))) (vs := [1, 2]) (fun a => PyData.list (rowD n (noStay M a))) (ei_enum (eg_d rfl hv) (.inl rfl)) (by rw [matDs_len]; omega) (by
      intro B2 a y H2 H3 Q2 eB2 ha e2 hY rt
      obtain ⟨T1, z1, z2, d1, d2, rfl, hT1, rfl, h1, h2, p1, p2⟩ := hY
      rw [nums_at ha] at h1
      cases h1
      rw [matDs_len] at ha
      rw [matDs_get _ ha] at h2
      cases h2
      cases dp_int p1
      refine lc_pair mon_dd e2 hT1 rfl ?_ rt
      have L2 := eg_lc (K := K) (B := B2) (σ := ((wipe (start nWs [v]) [1, 2]).set 1 (some (.int (a : Int)))).set 2 (some z2)) (te := tIf (tTest (tOp rEq (tVar 3) (tVar 1))) (tC .non) (tVar 4))
        (wi := iEnumA K (tCons (tVar 2) tNil)) (g := gTup K 2 (gCons (gName 3) (gCons (gName 4) gNil))) (vs := [3, 4]) (fun b => eD (noStay M a b)) (ei_enum (eg_d rfl p2) (.inl rfl)) (by rw [rowD_len]; omega) (by
        intro B3 b y2 H4 H5 Q3 eB3 hb e3 hY2 rt2
        obtain ⟨T2, z3, z4, d3, d4, rfl, hT2, rfl, h3, h4, p3, p4⟩ := hY2
        rw [nums_at hb] at h3
        cases h3
        rw [rowD_len] at hb
        rw [rowD_get _ hb] at h4
        cases h4
        cases dp_int p3
        have e : (if b = a then V.non else eV (M a b)) = eV (noStay M a b) := by
          unfold noStay
          split <;> rfl
        exact lc_pair mon_dd e3 hT2 rfl (eg_imm (e ▸ ev_same (ev_var rfl) (ev_var rfl) ev_c (ev_entV rfl p4)) (imm_eD _)) rt2)
      rw [rowD_len] at L2
      exact L2)
    rw [matDs_len] at L
    exact L
/-! ### closed_table -/
abbrev sCt : Stmt := topS 20
abbrev nCt : List Str := ["rows", "found", "place", "row", "at", "entry"]
theorem scCt : FnScope nCt ["rows"] (defScope sCt) := ⟨rfl, rfl, rfl, by decide +kernel, rfl, by decide +kernel, by decide +kernel⟩
def tabD (n : Nat) : Option Mat → PD
  | none => .none
  | some T => matT n T
def ctF (ds : List PD) (d : PD) : Prop := ∃ n M, n ≤ 1000 ∧ ds = [matL n M] ∧ d = tabD n (closeT n M)
theorem any_pos (n : Nat) (F : Mat) : (((List.range n).map fun p => leE (F p p) (some 0)).any id = true) ↔ ¬ PosD n F := by
  rw [List.any_map, List.any_eq_true]
  constructor
  · rintro ⟨p, hp, h⟩ hP
    exact hP p (List.mem_range.mp hp) h
  · intro h
    apply Classical.byContradiction
    intro hn
    exact h fun p hp hl => hn ⟨p, List.mem_range.mpr hp, hl⟩
theorem ok_ct {f : Addr} {fd : FuncData} (F : Fun K "closed_table" "closed_table" sCt f fd) (T : Tx mg) (oS : Own P w K mg base CX0 3 "least_sums" ["rows"] (spD K leastF)) (oA : Own P w K mg base CX0 1 "at_most" ["one", "other"] spAtMost) :
    FnOk P w K mg base CX0 4 f fd ["rows"] (spD K ctF) := by
  refine F.ok scCt (sp_len1 fun ds d ⟨n, M, _, e, _⟩ => by rw [e]; rfl) (fun cdv A outer s H vs Q E hr h => ?_)
  obtain ⟨B, ds, d, eb, ha, ⟨n, M, hn, rfl, rfl⟩, r⟩ := h
  cases ha with
  | cons hv hnil =>
    cases hnil
    rename_i v
    refine ⟨_, pss_cons (ps_set (i := 1) scCt.nd rfl (Or.inr rfl) (pe_own oS hr (by decide) pass0 (pa_cons (pv 0) pa_nil)))
      (pss_cons (ps_if (pt_val (kany K T rfl (klc (own := [("place", 2)]) (g := gName 2) (tt := tYes) scCt.nd (krange T (klen K T (pv 1))) (by kernel_rfl) (fun _ _ _ _ _ => pg_name (i := 2) scCt.nd rfl (Or.inl rfl)) (fun _ _ _ _ _ => pts_nil)
          (fun _ _ _ _ _ => pe_own oA hr (by decide) pass0 (pa_cons (kix K (kix K (pv 1) (pv 2)) (pv 2)) (pa_cons pe_int pa_nil)))))) (pss_one (ps_ret pe_non)) pss_nil)
      (pss_one (ps_ret (ktupleOf K T (klc (own := [("place", 2), ("row", 3)]) (g := gTup K 2 (gCons (gName 2) (gCons (gName 3) gNil))) (tt := tYes) scCt.nd (kenum K T (pv 1)) (by kernel_rfl)
        (fun _ _ _ _ _ => ktup K rfl (pgs_cons (pg_name (i := 2) scCt.nd rfl (Or.inr rfl)) (pgs_cons (pg_name (i := 3) scCt.nd rfl (Or.inl rfl)) pgs_nil))) (fun _ _ _ _ _ => pts_nil) (fun _ _ _ _ _ =>
          ktupleOf K T (klc (own := [("at", 4), ("entry", 5)]) (g := gTup K 2 (gCons (gName 4) (gCons (gName 5) gNil))) (tt := tYes) scCt.nd (kenum K T (pv 3)) (by kernel_rfl)
            (fun _ _ _ _ _ => ktup K rfl (pgs_cons (pg_name (i := 4) scCt.nd rfl (Or.inl rfl)) (pgs_cons (pg_name (i := 5) scCt.nd rfl (Or.inl rfl)) pgs_nil))) (fun _ _ _ _ _ => pts_nil)
            (fun _ _ _ _ _ => pe_ifExp (pt_cmpR op_eq (pv 4) (pv 2) (nomark _)) pe_int (pv 5))))))))), ?_⟩
    -- found = least_sums(rows)
    refine qg_asg (B := B) (P := Dd K (matL n (fwM n M))) (eg_call (ega_cons' (eg_d rfl hv) ega_nil) ⟨n, M, hn, rfl, rfl⟩) eb ?_
    intro vf H1 e1 eB1 eC1 hf
    have r1 := r.next (dm_of e1) e1
    -- any
    have hlen : ∀ σ : L2.St, σ[1]? = some (some vf) → Ev (tCB (rLenOf K) (tCons (tVar 1) tNil)) σ (cut B H H1) (.int (n : Int)) := fun σ h => by
      have q := ev_lenD (ds := matDs n (fwM n M)) (eg_d (K := K) h hf) (.inl rfl)
      rw [matDs_len] at q
      exact q
    have A1 := eg_lc (K := K) (B := cut B H H1) (σ := (start nCt [v]).set 1 (some vf)) (te := tCall spAtMost [] E0 (tCons (tOp (rIx K) (tOp (rIx K) (tVar 1) (tVar 2)) (tVar 2)) (tCons (tC (.int 0)) tNil)))
      (wi := iRng1 (tCons (tCB (rLenOf K) (tCons (tVar 1) tNil)) tNil)) (g := gName 2) (vs := [2]) (fun p => PyData.bool (leE (fwM n M p p) (some 0))) (ei_range (hlen _ rfl) (by omega)) (by omega) (by
      intro B2 p y H2 H3 Q2 eB2 hp e2 hY rt
      obtain ⟨rfl, rfl⟩ := hY
      exact lc_name e2 rfl (eg_imm (ev_e2 (a := fwM n M p p) (b := some 0) (ev_ixE (eg_ix (eg_d rfl (dp_mono eB2 hf)) (.inl rfl) (ev_var rfl) (matDs_get _ hp)) (.inl rfl) (ev_var rfl) (rowD_get _ hp)) ev_c) rfl) rt)
    have em : (List.range n).map (fun p => PyData.bool (leE (fwM n M p p) (some 0))) = ((List.range n).map fun p => leE (fwM n M p p) (some 0)).map PyData.bool := by rw [List.map_map]; rfl
    rw [em] at A1
    refine q_when (et_B (ev_more eC1 (ev_any A1))) (fun hb H2 e2 => ?_) (fun hb H2 e2 => ?_)
    · -- return None
      have hp := (any_pos n (fwM n M)).mp hb
      have ec : closeT n M = none := if_neg hp
      rw [ec] at r1
      exact r1.next (dm_of e2) e2 _ H2 (Ex.refl H2) .non
    · have hp : PosD n (fwM n M) := by
        apply Classical.byContradiction
        intro hn
        rw [(any_pos n (fwM n M)).mpr hn] at hb
        cases hb
      have ec : closeT n M = some (fun i j => if j = i then some 0 else fwM n M i j) := if_pos hp
      rw [ec] at r1
      refine sg_ret (B := cut (cut B H H1) H1 H2) (P := Dd K (matT n (fun i j => if j = i then some 0 else fwM n M i j))) ?_ cut_ex (r1.next (dm_of e2) e2)
      have hf2 : Dp K (cut (cut B H H1) H1 H2) vf (matL n (fwM n M)) := dp_mono (ex_cut eC1 e2) hf
      generalize cut (cut B H H1) H1 H2 = B4 at hf2 ⊢
      have L := eg_lc (K := K) (B := B4) (σ := (start nCt [v]).set 1 (some vf))
        (te := tCB (rTupOf K) (tCons (tLc (iEnumA K (tCons (tVar 3) tNil)) (gTup K 2 (gCons (gName 4) (gCons (gName 5) gNil))) tYes (tIf (tTest (tOp rEq (tVar 4) (tVar 2))) (tC (.int 0)) (tVar 5)) [4, 5]) tNil))
        (wi := iEnumA K (tCons (tVar 1) tNil)) (g := gTup K 2 (gCons (gName 2) (gCons (gName 3) gNil))) (vs := [2, 3]) (fun a => PyData.tuple (rowD n fun j => if j = a then some 0 else fwM n M a j)) (ei_enum (eg_d rfl hf2) (.inl rfl)) (by rw [matDs_len]; omega) (by
        intro B2 a y H2 H3 Q2 eB2 ha e2 hY rt
        obtain ⟨T1, z1, z2, d1, d2, rfl, hT1, rfl, h1, h2, p1, p2⟩ := hY
        rw [nums_at ha] at h1
        cases h1
        rw [matDs_len] at ha
        rw [matDs_get _ ha] at h2
        cases h2
        cases dp_int p1
        refine lc_pair mon_dd e2 hT1 rfl ?_ rt
        have L2 := eg_lc (K := K) (B := B2) (σ := ((wipe ((start nCt [v]).set 1 (some vf)) [2, 3]).set 2 (some (.int (a : Int)))).set 3 (some z2)) (te := tIf (tTest (tOp rEq (tVar 4) (tVar 2))) (tC (.int 0)) (tVar 5))
          (wi := iEnumA K (tCons (tVar 3) tNil)) (g := gTup K 2 (gCons (gName 4) (gCons (gName 5) gNil))) (vs := [4, 5]) (fun b => eD (if b = a then some 0 else fwM n M a b)) (ei_enum (eg_d rfl p2) (.inl rfl)) (by rw [rowD_len]; omega) (by
          intro B3 b y2 H4 H5 Q3 eB3 hb e3 hY2 rt2
          obtain ⟨T2, z3, z4, d3, d4, rfl, hT2, rfl, h3, h4, p3, p4⟩ := hY2
          rw [nums_at hb] at h3
          cases h3
          rw [rowD_len] at hb
          rw [rowD_get _ hb] at h4
          cases h4
          cases dp_int p3
          have e : (if b = a then V.int 0 else eV (fwM n M a b)) = eV (if b = a then some 0 else fwM n M a b) := by
            split <;> rfl
          exact lc_pair mon_dd e3 hT2 rfl (eg_imm (e ▸ ev_same (ev_var rfl) (ev_var rfl) ev_c (ev_entV rfl p4)) (imm_eD _)) rt2)
        rw [rowD_len] at L2
        exact eg_tupleOf L2 (.inl rfl))
      rw [matDs_len] at L
      exact eg_tupleOf L (.inl rfl)
end
end K73
end
section
set_option Elab.async false
set_option linter.all false
set_option maxRecDepth 100000
set_option maxHeartbeats 4000000
namespace K73
open PySem L2 Evl
section
variable {P : Program} {w : World} {K : PySem.W.Frag} {mg : Str → Option Value} {base : Heap}
variable {B H : Hp} {σ : L2.St} {te : TE}
/-- a for over what EvI tells -/
theorem sg_for {D : Ends} {wi : TI} {g : TG} {tb : TS} {n : Nat} {Y : YT} (hi : EvI wi σ B n Y) (eb : Ex B H) (Pv : Hp → Nat → L2.St → Hp → Prop) (h0 : ∀ H2, Ex H H2 → Pv H2 0 σ H2) (hG : ∀ H2 i σ' H', Ex H H2 → Pv H2 i σ' H' → Ex (cut B H H2) H')
    (hs : ∀ H2 i x σ' H' H'', Ex H H2 → i < n → Pv H2 i σ' H' → Y (cut B H H2) i H' x H'' → g x σ' H'' fun σ2 H3 => tb { D with nx := Pv H2 (i + 1), ct := Pv H2 (i + 1), bk := D.nx } σ2 H3) (hd : ∀ H2 σ' H', Ex H H2 → Pv H2 n σ' H' → D.nx σ' H') : tFor wi g tb D σ H :=
  hi H eb _ fun J H2 e2 w => for_it w (Pv H2) (h0 H2 e2) (fun i σ' H' _ p => hG H2 i σ' H' e2 p) (fun i x σ' H' H'' hi p y => hs H2 i x σ' H' H'' e2 hi p y) (hd H2 · · e2)
theorem qg_for {D : Ends} {wi : TI} {g : TG} {tb tz : TS} {n : Nat} {Y : YT} (hi : EvI wi σ B n Y) (eb : Ex B H) (Pv : Hp → Nat → L2.St → Hp → Prop) (h0 : ∀ H2, Ex H H2 → Pv H2 0 σ H2) (hG : ∀ H2 i σ' H', Ex H H2 → Pv H2 i σ' H' → Ex (cut B H H2) H')
    (hs : ∀ H2 i x σ' H' H'', Ex H H2 → i < n → Pv H2 i σ' H' → Y (cut B H H2) i H' x H'' → g x σ' H'' fun σ2 H3 => tb { D with nx := Pv H2 (i + 1), ct := Pv H2 (i + 1), bk := tz D } σ2 H3) (hd : ∀ H2 σ' H', Ex H H2 → Pv H2 n σ' H' → tz D σ' H') : tSeq (tFor wi g tb) tz D σ H :=
  sg_for (D := { D with nx := tz D }) hi eb Pv h0 hG hs hd
def rIsN0 : R2 := fun x y H Q => y = .non ∧ Q (.bl (decide (x = .non))) H
def rNotN0 : R2 := fun x y H Q => y = .non ∧ Q (.bl (!decide (x = .non))) H
theorem rv_isN {x : V} : RV rIsN0 x .non H (.bl (decide (x = .non))) := fun H1 _ _ q => And.intro rfl (q H1 (Ex.refl H1))
theorem rv_notN {x : V} : RV rNotN0 x .non H (.bl (!decide (x = .non))) := fun H1 _ _ q => And.intro rfl (q H1 (Ex.refl H1))
def nonE (e : Ent) : Bool := e.isNone
theorem nonE_dec (e : Ent) : decide (eV e = .non) = nonE e := by cases e <;> rfl
theorem ev_isNon {e : Ent} (h : Ev te σ B (eV e)) : Ev (tOp rIsN0 te (tC .non)) σ B (.bl (nonE e)) := nonE_dec e ▸ ev_op h ev_c rv_isN
theorem ev_notNon {e : Ent} (h : Ev te σ B (eV e)) : Ev (tOp rNotN0 te (tC .non)) σ B (.bl (!nonE e)) := nonE_dec e ▸ ev_op h ev_c rv_notN
theorem ev_callV {sp : Sp} {E : XK} {ta : TE} {v z : V} (h : Ev ta σ B v) (hs : ∀ H Q, RetV z H Q → sp [v] H Q E) : Ev (tCall sp [] E (tCons ta tNil)) σ B z := fun H e Q q => h H e _ fun H1 e1 => hs H1 Q fun H2 e2 => q H2 (e1.trans e2)
/-! ### is_square -/
abbrev sSq : Stmt := topS 21
abbrev nSq : List Str := ["thing", "row", "one"]
theorem scSq : FnScope nSq ["thing"] (defScope sSq) := ⟨rfl, rfl, rfl, by decide +kernel, rfl, by decide +kernel, by decide +kernel⟩
def sqF (ds : List PD) (d : PD) : Prop := ∃ n M, 0 < n ∧ n ≤ 1000 ∧ ds = [matT n M] ∧ d = .bool true
theorem bool_map {n : Nat} {f : Nat → Bool} : (List.range n).map (fun i => PyData.bool (f i)) = ((List.range n).map f).map PyData.bool := by
  rw [List.map_map]
  rfl
theorem all_true {n : Nat} {f : Nat → Bool} (h : ∀ i, i < n → f i = true) : ((List.range n).map f).all id = true := by
  rw [List.all_map, List.all_eq_true]
  intro i hi
  exact h i (List.mem_range.mp hi)
theorem ok_sq {f : Addr} {fd : FuncData} (F : Fun K "is_square" "is_square" sSq f fd) (T : Tx mg) (oE : Own P w K mg base CX0 2 "is_entry" ["thing"] spIsEnt) : FnOk P w K mg base CX0 3 f fd ["thing"] (spD K sqF) := by
  refine F.ok scSq (sp_len1 fun ds d ⟨n, M, _, _, e, _⟩ => by rw [e]; rfl) (fun cdv A outer s H vs Q E hr h => ?_)
  obtain ⟨B, ds, d, eb, ha, ⟨n, M, h0, hn, rfl, rfl⟩, r⟩ := h
  cases ha with
  | cons hv hnil =>
    cases hnil
    rename_i v
    refine ⟨_, pss_cons (ps_if (PW.pt (pw_or (pt_not (pt_val (kisT K T (pv 0) T.tuple boot_tuple'))) (pw_or1 (pt_cmpR op_eq (klen K T (pv 0)) pe_int (nomark _))))) (pss_one (ps_ret pe_bl)) pss_nil)
      (pss_one (ps_ret (kall K T rfl (klc (own := [("row", 1)]) (g := gName 1) (tt := tYes) scSq.nd (kseq K (pv 0)) (by kernel_rfl) (fun _ _ _ _ _ => pg_name (i := 1) scSq.nd rfl (Or.inl rfl)) (fun _ _ _ _ _ => pts_nil)
        (fun _ _ _ _ _ => pe_and (kisT K T (pv 1) T.tuple boot_tuple') (pe_and (pe_cmpR op_eq (klen K T (pv 1)) (klen K T (pv 0)) (nomark _)) (pe_one (kall K T rfl
          (klc (own := [("one", 2)]) (g := gName 2) (tt := tYes) scSq.nd (kseq K (pv 1)) (by kernel_rfl) (fun _ _ _ _ _ => pg_name (i := 2) scSq.nd rfl (Or.inl rfl)) (fun _ _ _ _ _ => pts_nil) (fun _ _ _ _ _ => pe_own oE hr (by decide) pass0 (pa_cons (pv 2) pa_nil))))))))))), ?_⟩
    have hlen : ∀ σ : L2.St, σ[0]? = some (some v) → Ev (tCB (rLenOf K) (tCons (tVar 0) tNil)) σ B (.int (n : Int)) := fun σ h => by
      have q := ev_lenD (ds := matTs n M) (eg_d (K := K) h hv) (.inr rfl)
      rw [matTs_len] at q
      exact q
    have e0 : decide (V.int (n : Int) = V.int 0) = false := by
      refine decide_eq_false fun z => ?_
      have := V.int.inj z
      omega
    have t1 : EvT (tOr (tNot (tB (tIs K "tuple" (tVar 0)))) (tTest (tOp rEq (tCB (rLenOf K) (tCons (tVar 0) tNil)) (tC (.int 0))))) (start nSq [v]) B (!true || decide (V.int (n : Int) = V.int 0)) :=
      et_or (et_not (et_B (ev_isD (eg_d rfl hv) kTT))) fun _ => et_test (ev_op (hlen _ rfl) ev_c (rv_eq rfl))
    rw [e0] at t1
    refine q_when (t1.mono eb) (fun z => by cases z) (fun _ H1 e1 => ?_)
    refine sg_ret (B := cut B H H1) (P := Dd K (.bool true)) ?_ cut_ex (r.next (dm_of e1) e1)
    have eB1 : Ex B (cut B H H1) := ex_cut eb e1
    generalize cut B H H1 = B1 at eB1
    have L := eg_lc (K := K) (B := B1) (σ := start nSq [v]) (te := tAndV (tIs K "tuple" (tVar 1)) (tAndV (tOp rEq (tCB (rLenOf K) (tCons (tVar 1) tNil)) (tCB (rLenOf K) (tCons (tVar 0) tNil))) (tCB (rAll K) (tCons (tLc (iSeq K (tVar 1)) (gName 2) tYes (tCall spIsEnt [] E0 (tCons (tVar 2) tNil)) [2]) tNil))))
      (wi := iSeq K (tVar 0)) (g := gName 1) (vs := [1]) (fun a => PyData.bool true) (ei_seq (eg_d rfl (dp_mono eB1 hv)) (.inr rfl)) (by rw [matTs_len]; omega) (by
      intro B2 a y H2 H3 Q2 eB2 ha e2 hY rt
      obtain ⟨rfl, d, hd', hp⟩ := hY
      rw [matTs_len] at ha
      rw [matTs_get _ ha] at hd'
      cases hd'
      refine lc_name e2 rfl (eg_imm (d := .bool true) (v := .bl true) ?_ rfl) rt
      have L2 := eg_lc (K := K) (B := B2) (σ := (wipe (start nSq [v]) [1]).set 1 (some y)) (te := tCall spIsEnt [] E0 (tCons (tVar 2) tNil)) (wi := iSeq K (tVar 1)) (g := gName 2) (vs := [2]) (fun b => PyData.bool true) (ei_seq (eg_d rfl hp) (.inr rfl)) (by rw [rowD_len]; omega) (by
        intro B3 b y2 H4 H5 Q3 eB3 hb e3 hY2 rt2
        obtain ⟨rfl, d, hd', hp2⟩ := hY2
        rw [rowD_len] at hb
        rw [rowD_get _ hb] at hd'
        cases hd'
        exact lc_name e3 rfl (eg_imm (ev_callV (ev_entV rfl hp2) fun H Q k => ⟨M a b, rfl, k⟩) rfl) rt2)
      rw [rowD_len, bool_map] at L2
      have l1 : Ev (tCB (rLenOf K) (tCons (tVar 1) tNil)) ((wipe (start nSq [v]) [1]).set 1 (some y)) B2 (.int (n : Int)) := by
        have q := ev_lenD (ds := rowD n (M a)) (σ := (wipe (start nSq [v]) [1]).set 1 (some y)) (eg_d (i := 1) (K := K) rfl hp) (.inr rfl)
        rw [rowD_len] at q
        exact q
      have E1 := ev_andV (ev_isD (σ := (wipe (start nSq [v]) [1]).set 1 (some y)) (eg_d (i := 1) (K := K) rfl hp) kTT) fun _ => ev_andV (ev_op l1 ((hlen _ rfl).mono (eB1.trans eB2)) (rv_eq rfl)) fun _ => ev_all L2
      rw [all_true (n := n) (f := fun _ => true) fun _ _ => rfl, decide_eq_true rfl] at E1
      exact E1)
    rw [matTs_len, bool_map] at L
    have A2 := ev_all L
    rw [all_true (n := n) (f := fun _ => true) fun _ _ => rfl] at A2
    exact eg_imm A2 rfl
/-! ### is_table -/
abbrev sTb : Stmt := topS 22
abbrev nTb : List Str := ["thing", "place", "one", "row", "other", "entry", "back", "by", "step"]
theorem scTb : FnScope nTb ["thing"] (defScope sTb) := ⟨rfl, rfl, rfl, by decide +kernel, rfl, by decide +kernel, by decide +kernel⟩
def tbF (ds : List PD) (d : PD) : Prop := ∃ n M, 0 < n ∧ n ≤ 1000 ∧ TableM n M ∧ ds = [matT n M] ∧ d = .bool true
theorem ok_tb {f : Addr} {fd : FuncData} (F : Fun K "is_table" "is_table" sTb f fd) (T : Tx mg) (oS : Own P w K mg base CX0 3 "is_square" ["thing"] (spD K sqF)) (oA : Own P w K mg base CX0 1 "at_most" ["one", "other"] spAtMost) (oP : Own P w K mg base CX0 1 "plus" ["one", "other"] spPlus) :
    FnOk P w K mg base CX0 4 f fd ["thing"] (spD K tbF) := by
  refine F.ok scTb (sp_len1 fun ds d ⟨n, M, _, _, _, e, _⟩ => by rw [e]; rfl) (fun cdv A outer s H vs Q E hr h => ?_)
  obtain ⟨B, ds, d, eb, ha, ⟨n, M, h0, hn, hM, rfl, rfl⟩, r⟩ := h
  cases ha with
  | cons hv hnil =>
    cases hnil
    rename_i v
    refine ⟨_, pss_cons (ps_if (PW.pt (pw_or (pt_not (pt_val (pe_own oS hr (by decide) pass0 (pa_cons (pv 0) pa_nil)))) (pw_or1 (pt_val (kany K T rfl (klc (own := [("place", 1)]) (g := gName 1) (tt := tYes) scTb.nd (krange T (klen K T (pv 0))) (by kernel_rfl)
          (fun _ _ _ _ _ => pg_name (i := 1) scTb.nd rfl (Or.inl rfl)) (fun _ _ _ _ _ => pts_nil) (fun _ _ _ _ _ => pe_cmpR op_ne (kix K (kix K (pv 0) (pv 1)) (pv 1)) pe_int (nomark _)))))))) (pss_one (ps_ret pe_bl)) pss_nil)
      (pss_cons (ps_for PassesOwn.never rfl (kenum K T (pv 0)) (ktup K rfl (pgs_cons (pg_name (i := 2) scTb.nd rfl (Or.inl rfl)) (pgs_cons (pg_name (i := 3) scTb.nd rfl (Or.inl rfl)) pgs_nil)))
        (pss_one (ps_for PassesOwn.never rfl (kenum K T (pv 3)) (ktup K rfl (pgs_cons (pg_name (i := 4) scTb.nd rfl (Or.inr rfl)) (pgs_cons (pg_name (i := 5) scTb.nd rfl (Or.inr rfl)) pgs_nil)))
          (pss_cons (ps_set (i := 6) scTb.nd rfl (Or.inl rfl) (kix K (kix K (pv 0) (pv 4)) (pv 2)))
          (pss_cons (ps_if (pt_cmpR op_ne (pe_cmpR op_isN (pv 5) pe_non (nomark _)) (pe_cmpR op_isN (pv 6) pe_non (nomark _)) (nomark _)) (pss_one (ps_ret pe_bl)) pss_nil)
          (pss_cons (ps_if (PW.pt (pw_and (pt_cmpR op_ne (pv 2) (pv 4) (nomark _)) (pw_and (pt_cmpR op_notN (pv 5) pe_non (nomark _)) (pw_and1 (pt_cmpR op_lt (pe_op op_add (pv 5) (pv 6)) pe_int (nomark _)))))) (pss_one (ps_ret pe_bl)) pss_nil)
          (pss_one (ps_if (pt_not (pt_val (kall K T rfl (klc (own := [("by", 7), ("step", 8)]) (g := gTup K 2 (gCons (gName 7) (gCons (gName 8) gNil))) (tt := tYes) scTb.nd (kenum K T (pv 3)) (by kernel_rfl)
              (fun _ _ _ _ _ => ktup K rfl (pgs_cons (pg_name (i := 7) scTb.nd rfl (Or.inl rfl)) (pgs_cons (pg_name (i := 8) scTb.nd rfl (Or.inl rfl)) pgs_nil))) (fun _ _ _ _ _ => pts_nil)
              (fun _ _ _ _ _ => pe_own oA hr (by decide) pass0 (pa_cons (pv 5) (pa_cons (pe_own oP hr (by decide) pass0 (pa_cons (pv 8) (pa_cons (kix K (kix K (pv 0) (pv 7)) (pv 4)) pa_nil))) pa_nil))))))) (pss_one (ps_ret pe_bl)) pss_nil))))))))
      (pss_one (ps_ret pe_bl))), ?_⟩
    -- the first test
    have hlen : ∀ σ : L2.St, σ[0]? = some (some v) → Ev (tCB (rLenOf K) (tCons (tVar 0) tNil)) σ B (.int (n : Int)) := fun σ h => by
      have q := ev_lenD (ds := matTs n M) (eg_d (K := K) h hv) (.inr rfl)
      rw [matTs_len] at q
      exact q
    have L := eg_lc (K := K) (B := B) (σ := start nTb [v]) (te := tOp rNe (tOp (rIx K) (tOp (rIx K) (tVar 0) (tVar 1)) (tVar 1)) (tC (.int 0)))
      (wi := iRng1 (tCons (tCB (rLenOf K) (tCons (tVar 0) tNil)) tNil)) (g := gName 1) (vs := [1]) (fun p => PyData.bool false) (ei_range (hlen _ rfl) (by omega)) (by omega) (by
      intro B2 p y H2 H3 Q2 eB2 hp e2 hY rt
      obtain ⟨rfl, rfl⟩ := hY
      have q : Ev (tOp (rIx K) (tOp (rIx K) (tVar 0) (tVar 1)) (tVar 1)) ((wipe (start nTb [v]) [1]).set 1 (some (.int (p : Int)))) B2 (eV (M p p)) := ev_ixE (eg_ix (eg_d rfl (dp_mono eB2 hv)) (.inr rfl) (ev_var rfl) (matTs_get _ hp)) (.inr rfl) (ev_var rfl) (rowD_get _ hp)
      rw [hM.diag p hp] at q
      exact lc_name e2 rfl (eg_imm (ev_op q ev_c (rv_ne rfl)) rfl) rt)
    rw [bool_map] at L
    have A1 := ev_any L
    have ef : ((List.range n).map fun _ => false).any id = false := by
      rw [List.any_map]
      refine List.any_eq_false.mpr fun x _ => ?_
      exact fun z => by cases z
    rw [ef] at A1
    have C1 : Ev (tCall (spD K sqF) [] E0 (tCons (tVar 0) tNil)) (start nTb [v]) B (.bl true) := ev_imm (eg_call (d := .bool true) (ega_cons' (eg_d rfl hv) ega_nil) ⟨n, M, h0, hn, rfl, rfl⟩) rfl
    refine q_when ((et_or (et_not (et_B C1)) fun _ => et_B A1).mono eb) (fun z => by cases z) (fun _ H1 e1 => ?_)
    have eB1 : Ex B (cut B H H1) := ex_cut eb e1
    -- the loops
    refine qg_for (B := cut B H H1) (n := n) (Y := YPr K (nums n) (matTs n M)) ?_ cut_ex (fun H2 i σ' H' => ∃ a1 a2 a3 a4 a5 a6 a7 a8, σ' = [some v, a1, a2, a3, a4, a5, a6, a7, a8] ∧ Ex H2 H') ?_ ?_ ?_ ?_
    · have q := ei_enum (K := K) (σ := start nTb [v]) (ds := matTs n M) (eg_d (i := 0) rfl (dp_mono eB1 hv)) (.inr rfl)
      rw [matTs_len] at q
      exact q
    · exact fun H2 e2 => ⟨none, none, none, none, none, none, none, none, rfl, Ex.refl _⟩
    · rintro H2 i σ' H' e2 ⟨a1, a2, a3, a4, a5, a6, a7, a8, rfl, e⟩
      exact cut_ex.trans e
    · rintro H2 i x σ' H' H'' e2 hi ⟨a1, a2, a3, a4, a5, a6, a7, a8, rfl, e⟩ hY
      obtain ⟨T1, z1, z2, d1, d2, rfl, hT1, rfl, h1, h2, p1, p2⟩ := hY
      rw [nums_at hi] at h1
      cases h1
      rw [matTs_get _ hi] at h2
      cases h2
      cases dp_int p1
      refine ⟨T1, _, rfl, st_of upd_same, rfl, _, _, rfl, z2, [], rfl, rfl, ?_⟩
      -- over the base B2
      have eB2 : Ex B (cut (cut B H H1) H1 H2) := ex_cut (eB1.trans cut_ex) e2 |> fun z => eB1.trans (ex_cut cut_ex e2)
      have eC2 : Ex (cut (cut B H H1) H1 H2) (upd H' T1 (.tup [.int (i : Int), z2])) := (cut_ex.trans e).trans (Ex.new hT1)
      have eK : Ex H2 (upd H' T1 (.tup [.int (i : Int), z2])) := e.trans (Ex.new hT1)
      generalize cut (cut B H H1) H1 H2 = B2 at eB2 eC2 p2
      generalize upd H' T1 (.tup [.int (i : Int), z2]) = H3 at eC2 eK
      refine sg_for (B := B2) (n := n) (Y := YPr K (nums n) (rowD n (M i))) ?_ eC2 (fun H4 j σ' H' => ∃ a1 a4 a5 a6 a7 a8, σ' = [some v, a1, some (.int (i : Int)), some z2, a4, a5, a6, a7, a8] ∧ Ex H4 H') ?_ ?_ ?_ ?_
      · have q := ei_enum (K := K) (σ := [some v, a1, some (.int (i : Int)), some z2, a4, a5, a6, a7, a8]) (ds := rowD n (M i)) (eg_d (i := 3) rfl p2) (.inr rfl)
        rw [rowD_len] at q
        exact q
      · exact fun H4 e4 => ⟨a1, a4, a5, a6, a7, a8, rfl, Ex.refl _⟩
      · rintro H4 j σ' H' e4 ⟨a1, a4, a5, a6, a7, a8, rfl, e⟩
        exact cut_ex.trans e
      · rintro H4 j x σ' H' H'' e4 hj ⟨a1, a4, a5, a6, a7, a8, rfl, e⟩ hY
        obtain ⟨T2, z3, z4, d3, d4, rfl, hT2, rfl, h3, h4, p3, p4⟩ := hY
        rw [nums_at hj] at h3
        cases h3
        rw [rowD_get _ hj] at h4
        cases h4
        cases dp_int p3
        refine ⟨T2, _, rfl, st_of upd_same, rfl, _, _, rfl, z4, [], rfl, rfl, ?_⟩
        have eB3 : Ex B (cut B2 H3 H4) := eB2.trans (ex_cut eC2 e4)
        have eB23 : Ex B2 (cut B2 H3 H4) := ex_cut eC2 e4
        have eC3 : Ex (cut B2 H3 H4) (upd H' T2 (.tup [.int (j : Int), z4])) := (cut_ex.trans e).trans (Ex.new hT2)
        have eK2 : Ex H4 (upd H' T2 (.tup [.int (j : Int), z4])) := e.trans (Ex.new hT2)
        generalize cut B2 H3 H4 = B3 at eB3 eB23 eC3 p4
        generalize upd H' T2 (.tup [.int (j : Int), z4]) = H5 at eC3 eK2
        have ez : z4 = eV (M i j) := (dp_imm (imm_eD _)).mp p4
        subst ez
        -- back = thing[other][one]
        refine q_asg (v := eV (M j i)) (ev_more eC3 (ev_ixE (eg_ix (eg_d rfl (dp_mono eB3 hv)) (.inr rfl) (ev_var rfl) (matTs_get _ hj)) (.inr rfl) (ev_var rfl) (rowD_get _ hi))) (fun H6 e6 => ?_)
        have s1 : decide (V.bl (nonE (M i j)) = V.bl (nonE (M j i))) = true := by
          have q : nonE (M i j) = nonE (M j i) := by
            cases a : M i j with
            | none => rw [hM.sym i j hi hj a]
            | some x =>
              cases b : M j i with
              | none =>
                have z := hM.sym j i hj hi b
                rw [a] at z
                cases z
              | some y => rfl
          rw [q]
          exact decide_eq_true rfl
        have c1 : EvT (tTest (tOp rNe (tOp rIsN0 (tVar 5) (tC .non)) (tOp rIsN0 (tVar 6) (tC .non)))) [some v, a1, some (.int (i : Int)), some z2, some (.int (j : Int)), some (eV (M i j)), some (eV (M j i)), a7, a8] B3 (!decide (V.bl (nonE (M i j)) = V.bl (nonE (M j i)))) :=
          et_test (ev_op (ev_isNon (ev_var rfl)) (ev_isNon (ev_var rfl)) (rv_ne rfl))
        rw [s1] at c1
        refine q_when (c1.mono (eC3.trans e6)) (fun z => by cases z) (fun _ H7 e7 => ?_)
        -- the sum
        refine q_when (b := false) (fun H8 e8 Q q => ?_) (fun z => by cases z) (fun _ H8 e8 => ?_)
        · by_cases ij : i = j
          · refine (show EvT _ _ H7 (!decide (V.int (i : Int) = V.int (j : Int))) from et_test (ev_op (ev_var rfl) (ev_var rfl) (rv_ne rfl))) H8 e8 _ fun H9 e9 => ?_
            rw [show decide (V.int (i : Int) = V.int (j : Int)) = true from decide_eq_true (by rw [ij])]
            exact q H9 e9
          · refine (show EvT _ _ H7 (!decide (V.int (i : Int) = V.int (j : Int))) from et_test (ev_op (ev_var rfl) (ev_var rfl) (rv_ne rfl))) H8 e8 _ fun H9 e9 => ?_
            rw [show decide (V.int (i : Int) = V.int (j : Int)) = false from decide_eq_false fun z => ij (by have := V.int.inj z; omega)]
            refine (show EvT _ _ H7 (!nonE (M i j)) from et_test (ev_notNon (ev_var rfl))) H9 (e8.trans e9) _ fun H10 e10 => ?_
            cases a : M i j with
            | none => exact q H10 (e9.trans e10)
            | some x =>
              cases b : M j i with
              | none =>
                have z := hM.sym j i hj hi b
                rw [a] at z
                cases z
              | some y =>
                have hxy := hM.pos i j x y hi hj ij a b
                refine (show EvT (tTest (tOp (rI0 fun i j => .bl (decide (i < j))) (tOp (rI0 fun i j => .int (i + j)) (tVar 5) (tVar 6)) (tC (.int 1)))) [some v, a1, some (.int (i : Int)), some z2, some (.int (j : Int)), some (.int x), some (.int y), a7, a8] H7 (decide (x + y < 1)) from et_test (ev_op (ev_op (ev_var rfl) (ev_var rfl) rv_I0) ev_c rv_I0)) H10 ((e8.trans e9).trans e10) _ fun H11 e11 => ?_
                rw [show decide (x + y < 1) = false from decide_eq_false (by omega)]
                exact q H11 ((e9.trans e10).trans e11)
        -- the triangles
        have L := eg_lc (K := K) (B := B3) (σ := [some v, a1, some (.int (i : Int)), some z2, some (.int (j : Int)), some (eV (M i j)), some (eV (M j i)), a7, a8])
          (te := tCall spAtMost [] E0 (tCons (tVar 5) (tCons (tCall spPlus [] E0 (tCons (tVar 8) (tCons (tOp (rIx K) (tOp (rIx K) (tVar 0) (tVar 7)) (tVar 4)) tNil))) tNil)))
          (wi := iEnumA K (tCons (tVar 3) tNil)) (g := gTup K 2 (gCons (gName 7) (gCons (gName 8) gNil))) (vs := [7, 8]) (fun m => PyData.bool (leE (M i j) (addE (M i m) (M m j)))) (ei_enum (eg_d rfl (dp_mono eB23 p2)) (.inr rfl)) (by rw [rowD_len]; omega) (by
          intro B4 m y2 H8 H9 Q2 eB4 hm e3 hY2 rt2
          obtain ⟨T3, z5, z6, d5, d6, rfl, hT3, rfl, h5, h6, p5, p6⟩ := hY2
          rw [nums_at hm] at h5
          cases h5
          rw [rowD_len] at hm
          rw [rowD_get _ hm] at h6
          cases h6
          cases dp_int p5
          exact lc_pair mon_dd e3 hT3 rfl (eg_imm (ev_e2 (a := M i j) (b := addE (M i m) (M m j)) (ev_var rfl) (ev_e2 (a := M i m) (b := M m j) (ev_entV rfl p6) (ev_ixE (eg_ix (eg_d rfl (dp_mono (eB3.trans eB4) hv)) (.inr rfl) (ev_var rfl) (matTs_get _ hm)) (.inr rfl) (ev_var rfl) (rowD_get _ hj)))) rfl) rt2)
        rw [rowD_len, bool_map] at L
        have A2 := ev_all L
        rw [all_true (n := n) fun m hm => hM.tri i m j hi hm hj] at A2
        refine s_when ((et_not (et_B A2)).mono (((eC3.trans e6).trans e7).trans e8)) (fun z => by cases z) (fun _ H9 e9 => ?_)
        exact ⟨a1, _, _, _, a7, a8, rfl, (((eK2.trans e6).trans e7).trans e8).trans e9⟩
      · rintro H4 σ' H' e4 ⟨a1, a4, a5, a6, a7, a8, rfl, e⟩
        exact ⟨a1, _, _, a4, a5, a6, a7, a8, rfl, (eK.trans e4).trans e⟩
    · rintro H2 σ' H' e2 ⟨a1, a2, a3, a4, a5, a6, a7, a8, rfl, e⟩
      exact r _ H' (((e1.trans e2).trans e)) (.bl true)
end
end K73
end
section
set_option Elab.async false
set_option linter.all false
set_option maxRecDepth 100000
set_option maxHeartbeats 4000000
namespace K73
open PySem L2 Evl
/-- X(), X an own exception class without own __init__ -/
theorem pmk_own0 {X : Cx} {C : Addr} {bmB : List Value} {B newId initId : String} {x : Str} {p pos : Pos} (F : ExcBaseFacts B newId initId bmB) (q : PySem.W.excIn X.K C bmB newId = true) (gC : X.mg x = some (.ref C))
    (kC : PySem.W.keepIn X.K (.ref C) = true) (r : Raises X (.ref C)) (hg : Gl X x) (hdb : (x == ("__debug__" : Str)) = false := by decide) : PMk X (.Call (.Name x p) [] [] pos) (fun _ H Q => Q (.ref C) none H) := by
  intro pins s σ H Q I h
  refine wpAny_Call_Name_kw (ld_glob I hg gC ?_ hdb)
  refine PySem.W.callWith_K0 I.kIn kC ?_
  show wpAny _ _ (call (.ref C) []) _ _ _
  obtain ⟨bm, N, nm, qn, bs, hdct, sn, sub, ab, col, dd, k0, k1, k2, k3, k5, mN, hC, hN, hni, T⟩ := exc_obj I.kIn q
  exact wpAny_call_exc_subT F T hC hN hni (fun h' e hm => mk_of I hm r h (I.hok.gone hm.new)) (Nat.zero_le _)
/-! ### Tables -/
/-- the class Table: its slot own_rows at p -/
structure TC (K : PySem.W.Frag) (C p : Addr) : Prop where
  cls : SlX.SCls K C
  slot : SlX.Slot1 K C "own_rows" p 0
  isi : SlX.SIsi K C
def TabAt (K : PySem.W.Frag) (C : Addr) (k : Nat) (T : Mat) : PV := fun v H => ∃ a dx vs u, v = .ref a ∧ SlX.Slt H a C dx vs ∧ vs[0]? = some (some u) ∧ Dp K H u (matT k T)
section
variable {P : Program} {w : World} {K : PySem.W.Frag} {mg : Str → Option Value} {base : Heap} {C p : Addr}
theorem slt_mono {H H' : Hp} {a dx : Addr} {vs : List (Option V)} (e : Ex H H') (h : SlX.Slt H a C dx vs) : SlX.Slt H' a C dx vs := by
  rcases h with ⟨h1, h2⟩ | ⟨h1, h2⟩
  · exact .inl ⟨e _ _ h1, h2⟩
  · exact .inr ⟨e _ _ h1, e _ _ h2⟩
theorem mon_tab {k : Nat} {T : Mat} : Mon (TabAt K C k T) := fun v H H' e h => by
  obtain ⟨a, dx, vs, u, e1, s, g, d⟩ := h
  exact ⟨a, dx, vs, u, e1, slt_mono e s, g, dp_mono e d⟩
variable {B H : Hp} {σ : L2.St} {ta te : TE}
/-- t.own_rows -/
theorem eg_rows {k : Nat} {T : Mat} (tc : TC K C p) (h : EvG ta σ B (TabAt K C k T)) : EvG (SlX.tSl K ta "own_rows") σ B (Dd K (matT k T)) := fun H e Q r => h.go e fun v H1 e1 eb ec hp => by
  obtain ⟨a, dx, vs, u, rfl, s, g, d⟩ := hp
  exact ⟨a, C, dx, p, vs, 0, u, rfl, slt_mono ec s, tc.cls, tc.slot, g, r u H1 e1 d⟩
/-! #### __init__ -/
abbrev sTabC : Stmt := topS 23
abbrev sTInit : Stmt := inClass sTabC 1
abbrev sTRows : Stmt := inClass sTabC 2
abbrev sTFit : Stmt := inClass sTabC 3
abbrev sTWithin : Stmt := inClass sTabC 5
abbrev sTEq : Stmt := inClass sTabC 11
abbrev sTAnd : Stmt := inClass sTabC 13
abbrev nTI : List Str := ["self", "rows", "kept"]
theorem scTI : FnScope nTI ["self", "rows"] (defScope sTInit) := ⟨rfl, rfl, rfl, by decide +kernel, rfl, by decide +kernel, by decide +kernel⟩
def spTI (K : PySem.W.Frag) (C : Addr) : Sp := fun vs H Q _ => ∃ (x dx : Addr) (B : Hp) (rv : V) (d : PD) (n k : Nat) (T : Mat), vs = [.ref x, rv] ∧ H x = some (.ins C dx []) ∧ dx ≠ x ∧ H dx = some (.own x) ∧ Ex B H ∧ Dp K B rv d ∧ n ≤ 3 ∧ okD n d ∧ plainD n d = matT k T ∧ 0 < k ∧ k ≤ 1000 ∧ TableM k T ∧
  ∀ kept H2, Ex H H2 → Dp K (cut B H H2) kept (matT k T) → Q .non (SlX.slH H2 x C dx (SlX.putS 0 kept []))
theorem ok_tinit {f : Addr} {fd : FuncData} (F : Fun K "__init__" "Table.__init__" sTInit f fd) (tc : TC K C p) (oP : ∀ n, Own P w K mg base CX0 (n + 1) "plain" ["matter"] (spD K (plF n))) (oT : Own P w K mg base CX0 4 "is_table" ["thing"] (spD K tbF)) :
    FnOk P w K mg base CX0 5 f fd ["self", "rows"] (spTI K C) := by
  refine F.ok scTI (fun vs H Q E h => ?_) (fun cdv A outer s H vs Q E hr h => ?_)
  · obtain ⟨x, dx, B, rv, d, n, k, T, rfl, _⟩ := h
    rfl
  · obtain ⟨x, dx, B, rv, d, n, k, T, rfl, hx, ne, hdx, eb, hd, hn, ok, hp, h0, hk, hT, q⟩ := h
    refine ⟨_, pss_cons (ps_set (i := 2) scTI.nd rfl (Or.inl rfl) (pe_own (oP n) hr (by omega) pass0 (pa_cons (pv 1) pa_nil)))
      (pss_cons (ps_if (pt_not (pt_val (pe_own oT hr (by decide) pass0 (pa_cons (pv 2) pa_nil)))) (pss_one ps_never) pss_nil)
      (pss_one (SlX.ps_sl (pv 0) (pv 2)))), ?_⟩
    refine qg_asg (B := B) (P := Dd K (matT k T)) (eg_call (ega_cons' (eg_d rfl hd) ega_nil) ⟨d, rfl, ok, hp.symm⟩) eb ?_
    intro kept H1 e1 eB1 eC1 hk1
    refine q_when ((et_not (et_B (ev_imm (d := .bool true) (v := .bl true) (eg_call (ega_cons' (eg_d rfl hk1) ega_nil) ⟨k, T, h0, hk, hT, rfl, rfl⟩) rfl))).mono eC1) (fun z => by cases z) (fun _ H2 e2 => ?_)
    refine ⟨kept, rfl, .ref x, rfl, x, C, dx, p, [], 0, rfl, .inl ⟨(e1.trans e2) _ _ hx, rfl⟩, tc.cls, tc.slot, ?_⟩
    exact q kept H2 (e1.trans e2) (dp_mono (cut_mono e2) hk1)
/-- Table(rows) -/
theorem eg_table {d : PD} {n k : Nat} {T : Mat} {E : XK} (h : EvG ta σ B (Dd K d)) (hn : n ≤ 3) (ok : okD n d) (hp : plainD n d = matT k T) (h0 : 0 < k) (hk : k ≤ 1000) (hT : TableM k T) :
    EvG (tMake C (spTI K C) [] E (tCons ta tNil)) σ B (TabAt K C k T) := fun H e Q r => h.go e fun v H1 e1 eB eC hd x dx hx hdx ne => by
  have exm : Ex H1 (upd (upd H1 dx (.own x)) x (.ins C dx [])) := fun a o z => by
    rw [upd_ne (ne_of_none z hx), upd_ne (ne_of_none z hdx)]
    exact z
  refine ⟨x, dx, cut B H H1, v, d, n, k, T, rfl, upd_same, ne, by rw [upd_ne ne]; exact upd_same, eC.trans exm, hd, hn, ok, hp, h0, hk, hT, fun kept H2 e2 hkp => ⟨rfl, ?_⟩⟩
  have ex3 : Ex H1 (SlX.slH H2 x C dx (SlX.putS 0 kept [])) := fun a o z => by
    rw [SlX.slH_ne (ne_of_none z hx) (ne_of_none z hdx)]
    exact e2 a o (exm a o z)
  refine r _ _ (e1.trans ex3) ⟨x, dx, SlX.putS 0 kept [], kept, rfl, .inr ⟨?_, ?_⟩, SlX.putS_get 0 kept [], dp_mono (fun a o z => ?_) hkp⟩
  · rw [cut_new (fresh_back e1 hx)]
    exact upd_same
  · rw [cut_new (fresh_back e1 hdx)]
    unfold SlX.slH
    rw [upd_ne ne, upd_same]
  · have hBx : cut B H H1 x = none := fresh_back eC hx
    have hBd : cut B H H1 dx = none := fresh_back eC hdx
    have nx : a ≠ x := fun q => by
      rw [q, cut_pos hBx (by rw [upd_same]; exact fun z => nomatch z)] at z
      cases z
    have nd : a ≠ dx := fun q => by
      rw [q, cut_pos hBd (by rw [upd_ne ne, upd_same]; exact fun z => nomatch z)] at z
      cases z
    have z2 : H2 a = some o := cut_ex a o z
    have n2 : ¬ (B a = none ∧ H a ≠ none) := fun q => by
      have q1 : cut B H H1 a = none := cut_pos q.1 q.2
      rw [cut_pos q1 (dm_of (e1.trans exm) a q.2)] at z
      cases z
    unfold cut
    rw [if_neg n2, SlX.slH_ne nx nd]
    exact z2
/-! #### rows, check_fit, is_within, __eq__ -/
theorem scTR : FnScope ["self"] ["self"] (defScope sTRows) := ⟨rfl, rfl, rfl, by decide +kernel, rfl, by decide +kernel, by decide +kernel⟩
theorem scTF : FnScope ["self", "other"] ["self", "other"] (defScope sTFit) := ⟨rfl, rfl, rfl, by decide +kernel, rfl, by decide +kernel, by decide +kernel⟩
abbrev nTW : List Str := ["self", "other", "row", "more", "entry", "high"]
theorem scTW : FnScope nTW ["self", "other"] (defScope sTWithin) := ⟨rfl, rfl, rfl, by decide +kernel, rfl, by decide +kernel, by decide +kernel⟩
theorem scTE : FnScope ["self", "other"] ["self", "other"] (defScope sTEq) := ⟨rfl, rfl, rfl, by decide +kernel, rfl, by decide +kernel, by decide +kernel⟩
def spTR (K : PySem.W.Frag) (C : Addr) : Sp := fun vs H Q _ => ∃ B v k T, Ex B H ∧ vs = [v] ∧ TabAt K C k T v B ∧ Ret (Dd K (matT k T)) B H Q
/-- two Tables of one size, and a value -/
def spT2 (K : PySem.W.Frag) (C : Addr) (g : Nat → Mat → Mat → V → Prop) : Sp := fun vs H Q _ => ∃ B v1 v2 k T1 T2 z, Ex B H ∧ vs = [v1, v2] ∧ k ≤ 100 ∧ TabAt K C k T1 v1 B ∧ TabAt K C k T2 v2 B ∧ g k T1 T2 z ∧ RetV z H Q
theorem ok_trows {f : Addr} {fd : FuncData} (F : Fun K "rows" "Table.rows" sTRows f fd) (tc : TC K C p) : FnOk P w K mg base CX0 1 f fd ["self"] (spTR K C) := by
  refine F.ok scTR (fun vs H Q E h => ?_) (fun cdv A outer s H vs Q E hr h => ?_)
  · obtain ⟨B, v, k, T, _, rfl, _⟩ := h
    rfl
  · obtain ⟨B, v, k, T, eb, rfl, h, r⟩ := h
    refine ⟨_, pss_one (ps_ret (SlX.pe_sl (pv 0))), ?_⟩
    exact sg_ret (eg_rows tc (eg_var rfl h mon_tab)) eb r
theorem ok_tfit {f : Addr} {fd : FuncData} (F : Fun K "check_fit" "Table.check_fit" sTFit f fd) (T : Tx mg) (tc : TC K C p) : FnOk P w K mg base CX0 1 f fd ["self", "other"] (spT2 K C fun _ _ _ z => z = .non) := by
  refine F.ok scTF (fun vs H Q E h => ?_) (fun cdv A outer s H vs Q E hr h => ?_)
  · obtain ⟨B, v1, v2, k, T1, T2, z, _, rfl, _⟩ := h
    rfl
  · obtain ⟨B, v1, v2, k, T1, T2, z, eb, rfl, hk, h1, h2, rfl, r⟩ := h
    refine ⟨_, pss_one (ps_if (pt_cmpR op_ne (klen K T (SlX.pe_sl (pv 0))) (klen K T (SlX.pe_sl (pv 1))) (nomark _)) (pss_one ps_never) pss_nil), ?_⟩
    have l1 := ev_lenD (σ := start ["self", "other"] [v1, v2]) (eg_rows tc (eg_var (i := 0) rfl h1 mon_tab)) (.inr rfl)
    have l2 := ev_lenD (σ := start ["self", "other"] [v1, v2]) (eg_rows tc (eg_var (i := 1) rfl h2 mon_tab)) (.inr rfl)
    rw [matTs_len] at l1 l2
    have c := et_test (ev_op l1 l2 (rv_ne rfl))
    rw [show decide (V.int (k : Int) = V.int (k : Int)) = true from decide_eq_true rfl] at c
    exact s_when (c.mono eb) (fun z => by cases z) fun _ H1 e1 => r H1 e1
theorem lc_yes {A A' : Hp → Prop} (h : A H) : tYes σ H (fun b H3 => if b = true then A H3 else A' H3) := by
  show (if true = true then A H else A' H)
  rw [if_pos rfl]
  exact h
/-- a list of bools, over two walks -/
theorem ok_twithin {f : Addr} {fd : FuncData} {fF : Addr} {fdF : FuncData} (F : Fun K "is_within" "Table.is_within" sTWithin f fd) (T : Tx mg) (tc : TC K C p) (G : FnOk P w K mg base CX0 1 fF fdF ["self", "other"] (spT2 K C fun _ _ _ z => z = .non)) (bF : Binds K fdF ["self", "other"] []) (mF : Meth K C "check_fit" fF)
    (oA : Own P w K mg base CX0 1 "at_most" ["one", "other"] spAtMost) : FnOk P w K mg base CX0 2 f fd ["self", "other"] (spT2 K C fun k T1 T2 z => (∀ i j, i < k → j < k → leE (T1 i j) (T2 i j) = true) ∧ z = .bl true) := by
  refine F.ok scTW (fun vs H Q E h => ?_) (fun cdv A outer s H vs Q E hr h => ?_)
  · obtain ⟨B, v1, v2, k, T1, T2, z, _, rfl, _⟩ := h
    rfl
  · obtain ⟨B, v1, v2, k, T1, T2, z, eb, rfl, hk, h1, h2, ⟨hle, rfl⟩, r⟩ := h
    have FR := G.raw bF .nil
    refine ⟨_, pss_cons (ps_expr (SlX.pe_methSl (pv 0) tc.cls mF FR hr pass0 (pa_cons (pv 1) pa_nil)))
      (pss_one (ps_ret (kall K T rfl (pe_lc2 (own := [("row", 2), ("more", 3), ("entry", 4), ("high", 5)]) (vs1 := [4, 5]) (wi := RZ.iZipA K (tCons (SlX.tSl K (tVar 0) "own_rows") (tCons (SlX.tSl K (tVar 1) "own_rows") tNil))) (g := gTup K 2 (gCons (gName 2) (gCons (gName 3) gNil))) (tt := tYes)
        (wi1 := RZ.iZipA K (tCons (tVar 2) (tCons (tVar 3) tNil))) (g1 := gTup K 2 (gCons (gName 4) (gCons (gName 5) gNil))) (tt1 := tYes) (te := tCall spAtMost [] E0 (tCons (tVar 4) (tCons (tVar 5) tNil)))
        rfl scTW.nd (kzip K T (SlX.pe_sl (pv 0)) (SlX.pe_sl (pv 1))) (blkOk_by (by kernel_rfl)) (by decide)
        (fun _ _ _ _ _ => ktup K rfl (pgs_cons (pg_name (i := 2) scTW.nd rfl (Or.inl rfl)) (pgs_cons (pg_name (i := 3) scTW.nd rfl (Or.inl rfl)) pgs_nil))) (fun _ _ _ _ _ => pts_nil)
        (fun _ _ _ _ _ => kzip K T (pv 2) (pv 3)) (fun _ _ _ _ _ => ktup K rfl (pgs_cons (pg_name (i := 4) scTW.nd rfl (Or.inl rfl)) (pgs_cons (pg_name (i := 5) scTW.nd rfl (Or.inl rfl)) pgs_nil))) (fun _ _ _ _ _ => pts_nil)
        (fun _ _ _ _ _ => pe_own oA hr (by decide) pass0 (pa_cons (pv 4) (pa_cons (pv 5) pa_nil))))))), ?_⟩
    have hr1 : EvG (tVar 0) (start nTW [v1, v2]) B (TabAt K C k T1) := eg_var rfl h1 mon_tab
    have hr2 : EvG (tVar 1) (start nTW [v1, v2]) B (TabAt K C k T2) := eg_var rfl h2 mon_tab
    -- self.check_fit(other)
    obtain ⟨a1, dx1, vs1, u1, e, s1, g1, d1⟩ := id h1
    subst e
    refine ⟨_, rfl, a1, dx1, vs1, rfl, slt_mono eb s1, v2, rfl, B, .ref a1, v2, k, T1, T2, .non, eb, rfl, hk, h1, h2, rfl, fun H2 e2 => ?_⟩
    -- return all(..)
    have zi : EvI (RZ.iZipA K (tCons (SlX.tSl K (tVar 0) "own_rows") (tCons (SlX.tSl K (tVar 1) "own_rows") tNil))) (start nTW [.ref a1, v2]) B k (YPr K (matTs k T1) (matTs k T2)) := by
      have q := ei_zip (K := K) (σ := start nTW [.ref a1, v2]) (ds := matTs k T1) (es := matTs k T2) (ega_cons' (eg_rows tc hr1) (ega_cons' (eg_rows tc hr2) ega_nil)) (by rw [matTs_len, matTs_len])
      rw [matTs_len] at q
      exact q
    have el : EvG (tLc2 (RZ.iZipA K (tCons (SlX.tSl K (tVar 0) "own_rows") (tCons (SlX.tSl K (tVar 1) "own_rows") tNil))) (gTup K 2 (gCons (gName 2) (gCons (gName 3) gNil))) tYes (RZ.iZipA K (tCons (tVar 2) (tCons (tVar 3) tNil))) (gTup K 2 (gCons (gName 4) (gCons (gName 5) gNil))) tYes
        (tCall spAtMost [] E0 (tCons (tVar 4) (tCons (tVar 5) tNil))) [2, 3, 4, 5] [4, 5]) (start nTW [.ref a1, v2]) B (Dd K (.list ((List.replicate (k * k) true).map PyData.bool))) := by
      intro H eb Q r
      refine zi H eb _ fun J H2 e2 w D hD => ?_
      have hB : cut B H H2 D = none := fresh_back cut_ex hD
      refine ⟨fun i m H' => m = k - i ∧ i ≤ k ∧ Ex H2 H' ∧ H' D = some (.lst (List.replicate (i * k) (V.bl true))), ⟨k, by simp, Nat.zero_le _, Ex.new hD, by rw [upd_same]; simp⟩, ?_⟩
      rintro i m H' ⟨rfl, hi, e', hd⟩
      have ec : Ex (cut B H H2) H' := cut_ex.trans e'
      by_cases hlt : i < k
      · refine .inr ⟨w.goes i H' hlt ec, fun H3 => Ex H2 H3 ∧ H3 D = some (.lst (List.replicate ((i + 1) * k) (V.bl true))), fun H3 ⟨q1, q2⟩ => ⟨k - (i + 1), by omega, rfl, hlt, q1, q2⟩, fun x H3 y => ?_⟩
        obtain ⟨t, x1, x2, d3, d4, rfl, hT, rfl, g3, g4, p3, p4⟩ := w.yields i H' x H3 hlt ec y
        rw [matTs_get _ hlt] at g3 g4
        cases g3
        cases g4
        refine ⟨t, [x1, x2], rfl, st_of upd_same, rfl, x1, [x2], rfl, x2, [], rfl, rfl, rfl, ?_⟩
        refine lc_yes ?_
        have eT : Ex H' (upd H' t (.tup [x1, x2])) := Ex.new hT
        have zj := ei_zip (K := K) (B := cut B H H2) (σ := [some (.ref a1), some v2, some x1, some x2, none, none]) (ds := rowD k (T1 i)) (es := rowD k (T2 i)) (ega_cons' (eg_d (i := 2) rfl p3) (ega_cons' (eg_d (i := 3) rfl p4) ega_nil)) (by rw [rowD_len, rowD_len])
        rw [rowD_len] at zj
        refine zj _ (ec.trans eT) _ fun J1 H4 e4 w1 => ?_
        have hD4 : cut (cut B H H2) (upd H' t (.tup [x1, x2])) H4 D = none := cut_pos hB (dm_of eT D (by rw [hd]; exact fun z => nomatch z))
        have e4B : Ex (cut (cut B H H2) (upd H' t (.tup [x1, x2])) H4) H4 := cut_ex
        generalize cut (cut B H H2) (upd H' t (.tup [x1, x2])) H4 = B4 at w1 hD4 e4B
        refine ⟨fun j m H' => m = k - j ∧ j ≤ k ∧ Ex H2 H' ∧ Ex B4 H' ∧ H' D = some (.lst (List.replicate (i * k + j) (V.bl true))), ⟨k, by simp, Nat.zero_le _, (e'.trans eT).trans e4, e4B, e4 D _ (eT D _ hd)⟩, ?_⟩
        rintro j m H5 ⟨rfl, hj, q1, q2, q3⟩
        by_cases hlt2 : j < k
        · refine .inr ⟨w1.goes j H5 hlt2 q2, fun H3 => Ex H2 H3 ∧ Ex B4 H3 ∧ H3 D = some (.lst (List.replicate (i * k + (j + 1)) (V.bl true))), fun H3 ⟨z1, z2, z3⟩ => ⟨k - (j + 1), by omega, rfl, hlt2, z1, z2, z3⟩, fun x H6 y => ?_⟩
          obtain ⟨t2, y1, y2, d5, d6, rfl, hT2, rfl, g5, g6, p5, p6⟩ := w1.yields j H5 x H6 hlt2 q2 y
          rw [rowD_get _ hlt2] at g5 g6
          cases g5
          cases g6
          refine ⟨t2, [y1, y2], rfl, st_of upd_same, rfl, y1, [y2], rfl, y2, [], rfl, rfl, rfl, ?_⟩
          refine lc_yes ?_
          have q := ev_e2 (g := fun a b => .bl (leE a b)) (E := E0) (σ := [some (.ref a1), some v2, some x1, some x2, some y1, some y2]) (ev_entV (i := 4) (e := T1 i j) rfl p5) (ev_entV (i := 5) (e := T2 i j) rfl p6)
          rw [hle i j hlt hlt2] at q
          refine q _ (q2.trans (Ex.new hT2)) _ fun H7 e7 => ?_
          have e57 : Ex H5 H7 := (Ex.new hT2).trans e7
          refine ⟨_, e57 D _ q3, ?_, Ex.mut (q1.trans e57) hD, Ex.mut (q2.trans e57) hD4, ?_⟩
          · rw [List.length_replicate]
            have h9 : i * k ≤ 100 * 100 := Nat.mul_le_mul (by omega) hk
            exact sz_lt (by omega)
          · rw [upd_same, ← Nat.add_assoc, List.replicate_succ']
        · have ej : j = k := by omega
          subst ej
          refine .inl ⟨w1.stops H5 q2, q1, ?_⟩
          rw [Nat.succ_mul]
          exact q3
      · have ei : i = k := by omega
        subst ei
        refine .inl ⟨w.stops H' ec, ?_⟩
        refine r (.ref D) H' (e2.trans e') (.lst (xs := List.replicate (i * i) (V.bl true)) (sq_of ?_) ?_)
        · rw [cut_new (fresh_back e2 hD)]
          exact hd
        · exact dpa_bls.mpr (by rw [List.map_replicate])
    have A2 := ev_all el
    have ea : (List.replicate (k * k) true).all id = true := by
      rw [List.all_eq_true]
      intro b hb
      rw [(List.mem_replicate.mp hb).2]
      rfl
    rw [ea] at A2
    exact A2 H2 (eb.trans e2) _ fun H3 e3 => r H3 (e2.trans e3)
end
end K73
end
section
set_option Elab.async false
set_option linter.all false
set_option maxRecDepth 100000
set_option maxHeartbeats 4000000
namespace K73
open PySem L2 Evl
/-! ### data that == can read -/
theorem can_map {α : Type} (f : α → PD) : ∀ xs : List α, (∀ x ∈ xs, (f x).canLay0 = true) → PyData.canLayAll0 (xs.map f) = true
  | [], _ => by simp [PyData.canLayAll0]
  | x :: xs, h => by
    have h1 := h x List.mem_cons_self
    have h2 := can_map f xs fun y hy => h y (List.mem_cons_of_mem _ hy)
    simp [PyData.canLayAll0, h1, h2]
theorem depth_map {α : Type} (f : α → PD) (n : Nat) : ∀ xs : List α, (∀ x ∈ xs, (f x).depth ≤ n) → PyData.depthAll (xs.map f) ≤ n
  | [], _ => by simp [PyData.depthAll]
  | x :: xs, h => by
    have h1 := h x List.mem_cons_self
    have h2 := depth_map f n xs fun y hy => h y (List.mem_cons_of_mem _ hy)
    simp only [List.map_cons, PyData.depthAll]
    omega
theorem can_ent (e : Ent) : (eD e).canLay0 = true := by cases e <;> simp [eD, PyData.canLay0]
theorem depth_ent (e : Ent) : (eD e).depth ≤ 1 := by cases e <;> simp [eD, PyData.depth]
theorem can_row (n : Nat) (r : Nat → Ent) : (PyData.tuple (rowD n r)).canLay0 = true := by
  simp only [PyData.canLay0]
  exact can_map _ _ fun x _ => can_ent _
theorem depth_row (n : Nat) (r : Nat → Ent) : (PyData.tuple (rowD n r)).depth ≤ 2 := by
  have := depth_map (fun j => eD (r j)) 1 (List.range n) fun x _ => depth_ent _
  simp only [PyData.depth]
  unfold rowD
  omega
theorem can_mat (n : Nat) (M : Mat) : (matT n M).canLay0 = true := by
  unfold matT matTs
  simp only [PyData.canLay0]
  exact can_map _ _ fun x _ => can_row _ _
theorem shaped_mat (n : Nat) (M : Mat) : SeqAt.shaped (matT n M) = true := by
  unfold SeqAt.shaped
  rw [can_mat, Bool.true_and]
  refine decide_eq_true ?_
  have := depth_map (fun i => PyData.tuple (rowD n (M i))) 2 (List.range n) fun x _ => depth_row _ _
  unfold matT matTs
  simp only [PyData.depth]
  omega
theorem mat_congr {n : Nat} {M N : Mat} (h : ∀ i j, i < n → j < n → M i j = N i j) : matT n M = matT n N := by
  unfold matT matTs
  congr 1
  refine List.map_congr_left fun i hi => ?_
  unfold rowD
  congr 1
  refine List.map_congr_left fun j hj => ?_
  rw [h i j (List.mem_range.mp hi) (List.mem_range.mp hj)]
section
variable {P : Program} {w : World} {K : PySem.W.Frag} {mg : Str → Option Value} {base : Heap} {C p : Addr}
variable {B H : Hp} {σ : L2.St} {ta tb te : TE}
theorem ev_eqD {d : PD} (hs : SeqAt.shaped d = true) (h1 : EvG ta σ B (Dd K d)) (h2 : EvG tb σ B (Dd K d)) : Ev (tOp (rEqD K) ta tb) σ B (.bl true) := fun H e Q q => h1.go e fun v H1 e1 eb1 ec1 p1 => h2 H1 (e.trans e1) _ fun u H2 e2 p2 =>
  ⟨d, d, dp_mono (ec1.trans e2) p1, dp_mono cut_ex p2, hs, hs, by
    rw [SeqAt.eqv_refl d (SeqAt.canLay_of_shaped hs)]
    exact q H2 (e1.trans e2)⟩
/-! #### __eq__ -/
/-- isinstance(x, Table), x a Table -/
theorem ev_isTab {k : Nat} {T : Mat} (tc : TC K C p) (h : EvG ta σ B (TabAt K C k T)) (h2 : Ev tb σ B (.ref C)) : Ev (tCB (SlX.rIsiSl K (.ref C)) (tCons ta (tCons tb tNil))) σ B (.bl true) := fun H e Q q => h.go e fun v H1 e1 eb1 ec1 p1 => h2 H1 (e.trans e1) _ fun H2 e2 => by
  obtain ⟨a, dx, vs, u, rfl, s, g, d⟩ := p1
  exact ⟨a, C, dx, vs, .ref C, true, rfl, rfl, fun w r => r, slt_mono (ec1.trans e2) s, tc.cls, tc.isi, if_pos (beq_self_eq_true _), q H2 (e1.trans e2)⟩
theorem ok_teq {f : Addr} {fd : FuncData} (F : Fun K "__eq__" "Table.__eq__" sTEq f fd) (T : Tx mg) (tc : TC K C p) (gC : mg "Table" = some (.ref C)) : FnOk P w K mg base CX0 1 f fd ["self", "other"] (spT2 K C fun k T1 T2 z => (∀ i j, i < k → j < k → T1 i j = T2 i j) ∧ z = .bl true) := by
  refine F.ok scTE (fun vs H Q E h => ?_) (fun cdv A outer s H vs Q E hr h => ?_)
  · obtain ⟨B, v1, v2, k, T1, T2, z, _, rfl, _⟩ := h
    rfl
  · obtain ⟨B, v1, v2, k, T1, T2, z, eb, rfl, hk, h1, h2, ⟨heq, rfl⟩, r⟩ := h
    refine ⟨_, pss_one (ps_ret (pe_and (pe_callB (SlX.call_isiSl (.ref C)) (by rfl) T.isinstance boot_isinstance (pa_cons (pv 1) (pa_cons (pe_glob (v := .ref C) (by rfl) gC rfl) pa_nil)))
      (pe_one (pe_cmpR (op_eqD hr.units) (SlX.pe_sl (pv 0)) (SlX.pe_sl (pv 1)) (nomark _))))), ?_⟩
    have hr1 : EvG (tVar 0) (start ["self", "other"] [v1, v2]) B (TabAt K C k T1) := eg_var rfl h1 mon_tab
    have hr2 : EvG (tVar 1) (start ["self", "other"] [v1, v2]) B (TabAt K C k T2) := eg_var rfl h2 mon_tab
    have g2 := eg_rows tc hr2
    rw [← mat_congr heq] at g2
    exact ev_andV (ev_isTab tc hr2 ev_c) (fun _ => ev_eqD (shaped_mat _ _) (eg_rows tc hr1) g2) H eb _ fun H1 e1 => r H1 e1
/-! #### __and__ -/
abbrev nTA : List Str := ["self", "other", "rows", "row", "high", "entry", "more"]
theorem scTA : FnScope nTA ["self", "other"] (defScope sTAnd) := ⟨rfl, rfl, rfl, by decide +kernel, rfl, by decide +kernel, by decide +kernel⟩
/-- an own exception class over ValueError -/
structure XC (K : PySem.W.Frag) (mg : Str → Option Value) (x : Str) (C : Addr) : Prop where
  ex : PySem.W.excIn K C [.type "ValueError", .type "Exception", .type "BaseException", .type "object"] "ValueError.__new__" = true
  mg : mg x = some (.ref C)
  kp : PySem.W.keepIn K (.ref C) = true
  sub : PySem.W.subIn K (.ref C) (.type "BaseException") = some true
  ty : PySem.W.typeIn K (.ref C) = some (.type "type")
def andQ (K : PySem.W.Frag) (C CN : Addr) (k : Nat) (B H : Hp) (Q : VK) (E : XK) : Option Mat → Prop
  | some W => Ret (TabAt K C k W) B H Q
  | none => ∀ H', Ex H H' → E (.ref CN) none H'
def spTA (K : PySem.W.Frag) (C CN : Addr) : Sp := fun vs H Q E => ∃ B v1 v2 k T1 T2, Ex B H ∧ vs = [v1, v2] ∧ 0 < k ∧ k ≤ 100 ∧ TableM k T1 ∧ TableM k T2 ∧ TabAt K C k T1 v1 B ∧ TabAt K C k T2 v2 B ∧ andQ K C CN k B H Q E (bothT k (some T1) (some T2))
theorem okD_row (k : Nat) (r : Nat → Ent) (hk : k ≤ 1000) : okD 1 (.tuple (rowD k r)) := by
  refine ⟨by rw [rowD_len]; omega, fun x hx => ?_⟩
  obtain ⟨j, _, rfl⟩ := List.mem_map.mp hx
  show (imm (eD (r j))).isSome = true
  rw [imm_eD]
  rfl
theorem okD_mat (k : Nat) (M : Mat) (hk : k ≤ 1000) : okD 2 (matT k M) := by
  refine ⟨by rw [matTs_len]; omega, fun x hx => ?_⟩
  obtain ⟨j, _, rfl⟩ := List.mem_map.mp hx
  exact okD_row k _ hk
theorem plain_ent (n : Nat) (e : Ent) : plainD n (eD e) = eD e := by cases n <;> cases e <;> rfl
theorem plain_row (n k : Nat) (r : Nat → Ent) : (rowD k r).map (plainD n) = rowD k r := by
  unfold rowD
  rw [List.map_map]
  refine List.map_congr_left fun j _ => ?_
  exact plain_ent n _
theorem plain_mat (k : Nat) (M : Mat) : plainD 2 (matT k M) = matT k M := by
  show PyData.tuple ((matTs k M).map (plainD 1)) = PyData.tuple (matTs k M)
  congr 1
  unfold matTs
  rw [List.map_map]
  refine List.map_congr_left fun j _ => ?_
  show PyData.tuple ((rowD k (M j)).map (plainD 0)) = _
  rw [plain_row]
theorem ok_tand {f : Addr} {fd : FuncData} {fF fI CN : Addr} {fdF fdI : FuncData} (F : Fun K "__and__" "Table.__and__" sTAnd f fd) (T : Tx mg) (tc : TC K C p) (gC : mg "Table" = some (.ref C)) (xc : XC K mg "NoTable" CN)
    (G : FnOk P w K mg base CX0 1 fF fdF ["self", "other"] (spT2 K C fun _ _ _ z => z = .non)) (bF : Binds K fdF ["self", "other"] []) (mF : Meth K C "check_fit" fF)
    (GI : FnOk P w K mg base CX0 5 fI fdI ["self", "rows"] (spTI K C)) (bI : Binds K fdI ["self", "rows"] []) (M : Mk K C fI)
    (oL : Own P w K mg base CX0 2 "lesser" ["one", "other"] spLesser) (oW : Own P w K mg base CX0 1 "without_stays" ["rows"] (spD K wsF)) (oC : Own P w K mg base CX0 4 "closed_table" ["rows"] (spD K ctF)) :
    FnOk P w K mg base (L2.CX P w) 7 f fd ["self", "other"] (spTA K C CN) := by
  refine F.okX scTA (fun vs H Q E h => ?_) (fun cdv A outer s H vs Q E hr h => ?_)
  · obtain ⟨B, v1, v2, k, T1, T2, _, rfl, _⟩ := h
    rfl
  · obtain ⟨B, v1, v2, k, T1, T2, eb, rfl, h0, hk, hT1, hT2, h1, h2, r⟩ := h
    have FR := (G.raw bF .nil).mono (show 1 ≤ 6 by decide)
    refine ⟨_, pss_cons (ps_expr (SlX.pe_methSl (pv 0) tc.cls mF FR hr pass0 (pa_cons (pv 1) pa_nil)))
      (pss_cons (ps_set (i := 2) scTA.nd rfl (Or.inl rfl) (pe_own oC hr (by decide) pass0 (pa_cons (pe_own oW hr (by decide) pass0 (pa_cons
          (klc (own := [("row", 3), ("high", 4)]) (g := gTup K 2 (gCons (gName 3) (gCons (gName 4) gNil))) (tt := tYes) scTA.nd (kzip K T (SlX.pe_sl (pv 0)) (SlX.pe_sl (pv 1))) (by kernel_rfl)
            (fun _ _ _ _ _ => ktup K rfl (pgs_cons (pg_name (i := 3) scTA.nd rfl (Or.inl rfl)) (pgs_cons (pg_name (i := 4) scTA.nd rfl (Or.inl rfl)) pgs_nil))) (fun _ _ _ _ _ => pts_nil) (fun _ _ _ _ _ =>
              klc (own := [("entry", 5), ("more", 6)]) (g := gTup K 2 (gCons (gName 5) (gCons (gName 6) gNil))) (tt := tYes) scTA.nd (kzip K T (pv 3) (pv 4)) (by kernel_rfl)
                (fun _ _ _ _ _ => ktup K rfl (pgs_cons (pg_name (i := 5) scTA.nd rfl (Or.inl rfl)) (pgs_cons (pg_name (i := 6) scTA.nd rfl (Or.inl rfl)) pgs_nil))) (fun _ _ _ _ _ => pts_nil)
                (fun _ _ _ _ _ => pe_own oL hr (by decide) pass0 (pa_cons (pv 5) (pa_cons (pv 6) pa_nil))))) pa_nil)) pa_nil)))
      (pss_cons (ps_if (pt_cmpR op_isN (pv 2) pe_non (nomark _)) (pss_one (ps_raise rfl (takes_of rfl rfl rfl rfl) (pmk_own0 PySem.F.excBase_ValueError xc.ex xc.mg xc.kp (raises_own xc.sub xc.ty) (by rfl)))) pss_nil)
      (pss_one (ps_ret (pe_make M GI (hr.mono (by decide)) (by rfl) gC bI .nil pass0 (pa_cons (pv 2) pa_nil)))))), ?_⟩
    have hr1 : EvG (tVar 0) (start nTA [v1, v2]) B (TabAt K C k T1) := eg_var rfl h1 mon_tab
    have hr2 : EvG (tVar 1) (start nTA [v1, v2]) B (TabAt K C k T2) := eg_var rfl h2 mon_tab
    obtain ⟨a1, dx1, vs1, u1, e, s1, g1, d1⟩ := id h1
    subst e
    refine ⟨_, rfl, a1, dx1, vs1, rfl, slt_mono eb s1, v2, rfl, B, .ref a1, v2, k, T1, T2, .non, eb, rfl, hk, h1, h2, rfl, fun H2 e2 => ?_⟩
    have eb2 : Ex B H2 := eb.trans e2
    -- the lesser ones
    have L : EvG (tLc (RZ.iZipA K (tCons (SlX.tSl K (tVar 0) "own_rows") (tCons (SlX.tSl K (tVar 1) "own_rows") tNil))) (gTup K 2 (gCons (gName 3) (gCons (gName 4) gNil))) tYes
        (tLc (RZ.iZipA K (tCons (tVar 3) (tCons (tVar 4) tNil))) (gTup K 2 (gCons (gName 5) (gCons (gName 6) gNil))) tYes (tCall spLesser [] E0 (tCons (tVar 5) (tCons (tVar 6) tNil))) [5, 6]) [3, 4]) (start nTA [.ref a1, v2]) B (Dd K (matL k fun i j => minE (T1 i j) (T2 i j))) := by
      have zi := ei_zip (K := K) (σ := start nTA [.ref a1, v2]) (ds := matTs k T1) (es := matTs k T2) (ega_cons' (eg_rows tc hr1) (ega_cons' (eg_rows tc hr2) ega_nil)) (by rw [matTs_len, matTs_len])
      have L := eg_lc (K := K) (te := tLc (RZ.iZipA K (tCons (tVar 3) (tCons (tVar 4) tNil))) (gTup K 2 (gCons (gName 5) (gCons (gName 6) gNil))) tYes (tCall spLesser [] E0 (tCons (tVar 5) (tCons (tVar 6) tNil))) [5, 6]) (g := gTup K 2 (gCons (gName 3) (gCons (gName 4) gNil))) (vs := [3, 4])
        (fun a => PyData.list (rowD k fun j => minE (T1 a j) (T2 a j))) zi (by rw [matTs_len]; omega) (by
        intro B2 a y H2 H3 Q2 eB2 ha e2 hY rt
        obtain ⟨t, z1, z2, d1, d2, rfl, hT, rfl, g1, g2, p1, p2⟩ := hY
        rw [matTs_len] at ha
        rw [matTs_get _ ha] at g1 g2
        cases g1
        cases g2
        refine lc_pair mon_dd e2 hT rfl ?_ rt
        have zj := ei_zip (K := K) (B := B2) (σ := ((wipe (start nTA [.ref a1, v2]) [3, 4]).set 3 (some z1)).set 4 (some z2)) (ds := rowD k (T1 a)) (es := rowD k (T2 a)) (ega_cons' (eg_d (i := 3) rfl p1) (ega_cons' (eg_d (i := 4) rfl p2) ega_nil)) (by rw [rowD_len, rowD_len])
        have L2 := eg_lc (K := K) (te := tCall spLesser [] E0 (tCons (tVar 5) (tCons (tVar 6) tNil))) (g := gTup K 2 (gCons (gName 5) (gCons (gName 6) gNil))) (vs := [5, 6]) (fun b => eD (minE (T1 a b) (T2 a b))) zj (by rw [rowD_len]; omega) (by
          intro B3 b y2 H4 H5 Q3 eB3 hb e3 hY2 rt2
          obtain ⟨t2, z3, z4, d3, d4, rfl, hT2, rfl, g3, g4, p3, p4⟩ := hY2
          rw [rowD_len] at hb
          rw [rowD_get _ hb] at g3 g4
          cases g3
          cases g4
          exact lc_pair mon_dd e3 hT2 rfl (eg_imm (ev_e2 (a := T1 a b) (b := T2 a b) (ev_entV rfl p3) (ev_entV rfl p4)) (imm_eD _)) rt2)
        rw [rowD_len] at L2
        exact L2)
      rw [matTs_len] at L
      exact L
    refine qg_asg (B := B) (P := Dd K (tabD k (closeT k (mixM T1 T2)))) (eg_call (ega_cons' (eg_call (d := matL k (mixM T1 T2)) (ega_cons' L ega_nil) ⟨k, _, by omega, rfl, rfl⟩) ega_nil) ⟨k, _, by omega, rfl, rfl⟩) eb2 ?_
    intro vr H3 e3 eB3 eC3 hvr
    have r : andQ K C CN k B H Q E (closeT k (mixM T1 T2)) := r
    cases hc : closeT k (mixM T1 T2) with
    | none =>
      rw [hc] at r hvr
      cases dp_non hvr
      exact ⟨_, rfl, rfl, true, rfl, r H3 (e2.trans e3)⟩
    | some W =>
      rw [hc] at r hvr
      obtain ⟨a, xs, rfl, sq, hx⟩ := dp_tup hvr
      refine ⟨_, rfl, rfl, false, rfl, ?_⟩
      have hW : TableM k W := tableM_both hT1 hT2 hc
      have r2 : Ret (TabAt K C k W) (cut B H2 H3) H3 Q := by
        intro v H' e' h
        rw [cut_cut (dm_of e3)] at h
        exact r v H' ((e2.trans e3).trans e') (mon_tab _ _ _ (cut_dm (dm_of e2)) h)
      exact sg_ret (eg_table (d := matT k W) (n := 2) (eg_d rfl hvr) (by decide) (okD_mat k W (by omega)) (plain_mat k W) h0 (by omega) hW) eC3 r2
/-! ### a & b, which may raise -/
/-- Tables a, b: the promise sp of __and__, what is raised wished at the slots -/
def tAndS (C : Addr) (sp : Sp) (E : L2.St → XK) (ta tb : TE) : TE := fun σ H Q => ta σ H fun x H1 => tb σ H1 fun y H2 => ∃ a dx vs b dy ws, x = .ref a ∧ y = .ref b ∧ SlX.Slt H2 a C dx vs ∧ SlX.Slt H2 b C dy ws ∧ sp [x, y] H2 Q (E σ)
theorem pe_andS {X : Cx} {Cp : CXT} {k : Nat} {f : Addr} {fd : FuncData} {ps : List Str} {sp : Sp} {E : L2.St → XK} {a b : Expr} {pos : Pos} (F : FnOk X.prog X.w X.K X.mg X.base Cp k f fd ps sp) (hr : Room k X.A) (hb : Binds X.K fd ps []) (hx : ∀ σ, PassesAt Cp X σ (E σ))
    (hc : PySem.W.selfFirst X.K C = true) (hs : PySem.W.findIn X.K (.ref C) "__and__" = some (some (.ref f))) (hf : PySem.W.isFn X.K (.ref f) = true) (ha : PE X a ta) (hb2 : PE X b tb) : PE X (.BinOp a .BitAnd b pos) (tAndS C sp E ta tb) := by
  refine ⟨fun pins s σ H Q I h => ?_⟩
  refine wpAny_BinOp (binT ha hb2 I h fun v u s2 x y H2 I2 rx ry q => ?_)
  obtain ⟨xa, dx, vs, yb, dy, ws, rfl, rfl, hsa, hsb, q⟩ := q
  cases (show v = Value.ref xa from rx)
  cases (show u = Value.ref yb from ry)
  obtain ⟨sl, od, _, J, _⟩ := SlX.slt_inst I2 hsa
  obtain ⟨sl', od', _, J', _⟩ := SlX.slt_inst I2 hsb
  obtain ⟨m, hF⟩ := I2.fr
  refine PySem.W.binop_K (op := .BitAnd) hF I2.ok.mod.kin J J'.type hc hs hf ?_
  refine wpAny_mono (run_fnS (us := [.ref xa, .ref yb]) (vs := [.ref xa, .ref yb]) F hr hb (hx σ) I2 (.cons rfl (.cons rfl .nil)) q) (fun w s' z => ?_) fun _ _ x => x
  obtain ⟨z', H', I', rz, qz⟩ := z
  exact SlX.cmpback rz ⟨z', H', I', rz, qz⟩
end
end K73
end
section
set_option Elab.async false
set_option linter.all false
set_option maxRecDepth 100000
set_option maxHeartbeats 4000000
namespace K73
open PySem L2 Evl
/-! ### a list that is made, item by item -/
structure Bld (K : PySem.W.Frag) (B H : Hp) (D : Addr) (H' : Hp) (ds : List PD) : Prop where
  free : H D = none
  nob : B D = none
  ex : Ex H H'
  at_ : ∃ vs, H' D = some (.lst vs) ∧ DpAll K (cut B (upd H D (.lst [])) H') vs ds
section
variable {K : PySem.W.Frag} {B H H' H2 : Hp} {D : Addr} {ds : List PD} {d : PD} {y : V}
theorem upd_some {o : HO} : (upd H D o) D ≠ none := by
  rw [upd_same]
  exact fun z => nomatch z
theorem Bld.start (h : H D = none) (eb : Ex B H) : Bld K B H D (upd H D (.lst [])) [] := ⟨h, fresh_back eb h, Ex.new h, [], upd_same, .nil⟩
theorem Bld.keep (b : Bld K B H D H' ds) (e : Ex H' H2) : Bld K B H D H2 ds := by
  obtain ⟨vs, h1, h2⟩ := b.at_
  exact ⟨b.free, b.nob, b.ex.trans e, vs, e D _ h1, dpa_mono (cut_mono e) h2⟩
/-- the base of the turn -/
abbrev bb (B H : Hp) (D : Addr) (H' : Hp) : Hp := cut B (upd H D (.lst [])) H'
theorem Bld.eb (b : Bld K B H D H' ds) (e : Ex B H) : Ex B (bb B H D H') := fun a o h => by
  show cut B _ H' a = some o
  rw [cut_old h]
  exact b.ex a o (e a o h)
theorem Bld.ec : Ex (bb B H D H') H' := cut_ex
theorem Bld.dm (b : Bld K B H D H' ds) : Dm (upd H D (.lst [])) H' := fun a h => by
  obtain ⟨vs, h1, _⟩ := b.at_
  by_cases e : a = D
  · rw [e, h1]
    exact fun z => nomatch z
  · rw [upd_ne e] at h
    exact dm_of b.ex a h
theorem Bld.push (b : Bld K B H D H' ds) (e : Ex H' H2) {vs : List V} (hv : H' D = some (.lst vs)) (hy : Dp K (cut (bb B H D H') H' H2) y d) : Bld K B H D (upd H2 D (.lst (vs ++ [y]))) (ds ++ [d]) := by
  obtain ⟨us, h1, h2⟩ := b.at_
  rw [hv] at h1
  cases h1
  rw [cut_cut b.dm] at hy
  refine ⟨b.free, b.nob, Ex.mut (b.ex.trans e) b.free, _, upd_same, ?_⟩
  rw [cut_upd b.nob upd_some]
  exact dpa_snoc (dpa_mono (cut_mono e) h2) hy
theorem Bld.len (b : Bld K B H D H' ds) : ∃ vs, H' D = some (.lst vs) ∧ vs.length = ds.length := by
  obtain ⟨vs, h1, h2⟩ := b.at_
  exact ⟨vs, h1, dpa_len h2⟩
theorem Bld.done (b : Bld K B H D H' ds) : Dp K (cut B H H') (.ref D) (.list ds) := by
  obtain ⟨vs, h1, h2⟩ := b.at_
  refine .lst (xs := vs) (sq_of ?_) (dpa_mono (fun a o h => ?_) h2)
  · rw [cut_new b.free]
    exact h1
  · unfold cut at h ⊢
    split at h
    · cases h
    · rename_i n
      rw [if_neg fun z => n ⟨z.1, ?_⟩]
      · exact h
      · by_cases e : a = D
        · rw [e]
          exact upd_some
        · rw [upd_ne e]
          exact z.2
variable {σ : L2.St} {te : TE} {P : PV} {En : Ends} {tz : TS}
/-- xs.append(e) -/
theorem sg_app {i : Nat} {vs : List V} (hi : σ[i]? = some (some (.ref D))) (hD : H D = some (.lst vs)) (hz : vs.length < 100000) (h : EvG te σ B P) (e : Ex B H) (k : ∀ y H2, Ex H H2 → P y (cut B H H2) → En.nx σ (upd H2 D (.lst (vs ++ [y])))) :
    tDrop (tBM K "list" rAppend (tVar i) (tCons te tNil)) En σ H := by
  refine ⟨.ref D, hi, Or.inl ⟨rfl, vs, sq_of hD⟩, ?_⟩
  exact h H e _ fun y H2 e2 p => ⟨D, vs, y, rfl, rfl, e2 D _ hD, sz_lt hz, k y H2 e2 p⟩
theorem qg_app {i : Nat} {vs : List V} (hi : σ[i]? = some (some (.ref D))) (hD : H D = some (.lst vs)) (hz : vs.length < 100000) (h : EvG te σ B P) (e : Ex B H) (k : ∀ y H2, Ex H H2 → P y (cut B H H2) → tz En σ (upd H2 D (.lst (vs ++ [y])))) :
    tSeq (tDrop (tBM K "list" rAppend (tVar i) (tCons te tNil))) tz En σ H := sg_app (En := { En with nx := tz En }) hi hD hz h e k
end
/-! ### NETs -/
/-- name, start, end, room, notice -/
abbrev Qu := Str × Str × Str × Int × Int
structure NetM where
  ws : List Str
  qs : List Qu
/-- a step: from, to, cost, the queue, which way -/
abbrev Arc := Str × Str × Int × Str × Str
def quD (q : Qu) : PD := .tuple [.str q.1, .str q.2.1, .str q.2.2.1, .int q.2.2.2.1, .int q.2.2.2.2]
def strsT (xs : List Str) : PD := .tuple (xs.map PyData.str)
def netD (N : NetM) : PD := .tuple [strsT N.ws, .tuple (N.qs.map quD)]
def arcD (a : Arc) : PD := .tuple [.str a.1, .str a.2.1, .int a.2.2.1, .str a.2.2.2.1, .str a.2.2.2.2]
def arcs2 (q : Qu) : List Arc := [(q.2.1, q.2.2.1, q.2.2.2.1, q.1, "along"), (q.2.2.1, q.2.1, 1 - q.2.2.2.2, q.1, "against")]
def arcsM (N : NetM) : List Arc := N.qs.flatMap arcs2
theorem flat_len {α β : Type} (f : α → List β) (m : Nat) : ∀ xs : List α, (∀ x ∈ xs, (f x).length = m) → (xs.flatMap f).length = xs.length * m
  | [], _ => by simp
  | x :: xs, h => by
    rw [List.flatMap_cons, List.length_append, h x List.mem_cons_self, flat_len f m xs fun y hy => h y (List.mem_cons_of_mem _ hy), List.length_cons, Nat.succ_mul]
    omega
theorem flat_take {α β : Type} (f : α → List β) {xs : List α} {i : Nat} {x : α} (h : xs[i]? = some x) : (xs.take (i + 1)).flatMap f = (xs.take i).flatMap f ++ f x := by
  rw [List.take_add_one, h]
  simp
section
variable {P : Program} {w : World} {K : PySem.W.Frag} {mg : Str → Option Value} {base : Heap}
/-- the values of a queue's tuple -/
theorem dpa5 {H : Hp} {vs : List V} {a b c : Str} {x y : Int} (h : DpAll K H vs [.str a, .str b, .str c, .int x, .int y]) : vs = [.str a, .str b, .str c, .int x, .int y] := by
  cases h with
  | cons h1 h => cases h with
    | cons h2 h => cases h with
      | cons h3 h => cases h with
        | cons h4 h => cases h with
          | cons h5 h =>
            cases h
            rw [dp_str h1, dp_str h2, dp_str h3, dp_int h4, dp_int h5]
theorem dpa5a {H : Hp} {vs : List V} {a b : Str} {x : Int} {c d : Str} (h : DpAll K H vs [.str a, .str b, .int x, .str c, .str d]) : vs = [.str a, .str b, .int x, .str c, .str d] := by
  cases h with
  | cons h1 h => cases h with
    | cons h2 h => cases h with
      | cons h3 h => cases h with
        | cons h4 h => cases h with
          | cons h5 h =>
            cases h
            rw [dp_str h1, dp_str h2, dp_int h3, dp_str h4, dp_str h5]
/-! #### arcs -/
abbrev sArcs : Stmt := topS 10
abbrev nArcs : List Str := ["net", "found", "queue", "start", "end", "room", "notice"]
theorem scArcs : FnScope nArcs ["net"] (defScope sArcs) := ⟨rfl, rfl, rfl, by decide +kernel, rfl, by decide +kernel, by decide +kernel⟩
def arcsF (ds : List PD) (d : PD) : Prop := ∃ N : NetM, N.qs.length ≤ 1000 ∧ ds = [netD N] ∧ d = .list ((arcsM N).map arcD)
structure Cns (mg : Str → Option Value) : Prop where
  al : ∃ t, mg "ALONG" = some (.str "along" t)
  ag : ∃ t, mg "AGAINST" = some (.str "against" t)
theorem ok_arcs {f : Addr} {fd : FuncData} (F : Fun K "arcs" "arcs" sArcs f fd) (T : Tx mg) (cn : Cns mg) : FnOk P w K mg base CX0 1 f fd ["net"] (spD K arcsF) := by
  refine F.ok scArcs (sp_len1 fun ds d ⟨N, _, e, _⟩ => by rw [e]; rfl) (fun cdv A outer s H vs Q E hr h => ?_)
  obtain ⟨B, ds, d, eb, ha, ⟨N, hq, rfl, rfl⟩, r⟩ := h
  obtain ⟨t1, cA⟩ := cn.al
  obtain ⟨t2, cG⟩ := cn.ag
  cases ha with
  | cons hv hnil =>
    cases hnil
    rename_i v
    refine ⟨_, pss_cons (ps_set (i := 1) scArcs.nd rfl (Or.inl rfl) (pe_lst pa_nil))
      (pss_cons (ps_for PassesOwn.never rfl (kseq K (kix K (pv 0) pe_int)) (ktup K rfl (pgs_cons (pg_name (i := 2) scArcs.nd rfl (Or.inl rfl)) (pgs_cons (pg_name (i := 3) scArcs.nd rfl (Or.inl rfl)) (pgs_cons (pg_name (i := 4) scArcs.nd rfl (Or.inl rfl)) (pgs_cons (pg_name (i := 5) scArcs.nd rfl (Or.inl rfl)) (pgs_cons (pg_name (i := 6) scArcs.nd rfl (Or.inl rfl)) pgs_nil))))))
        (pss_cons (ps_expr (pe_bm PySem.F.plainAttrs_list PySem.F.slot_list_append PySem.F.type_list_append mt_append (pv 1) (pa_cons (pe_tup (pa_cons (pv 3) (pa_cons (pv 4) (pa_cons (pv 5) (pa_cons (pv 2) (pa_cons (pe_glob (v := .str "along") (by rfl) cA ⟨_, rfl⟩) pa_nil)))))) pa_nil)))
        (pss_one (ps_expr (pe_bm PySem.F.plainAttrs_list PySem.F.slot_list_append PySem.F.type_list_append mt_append (pv 1) (pa_cons (pe_tup (pa_cons (pv 4) (pa_cons (pv 3) (pa_cons (pe_op op_sub pe_int (pv 6)) (pa_cons (pv 2) (pa_cons (pe_glob (v := .str "against") (by rfl) cG ⟨_, rfl⟩) pa_nil)))))) pa_nil))))))
      (pss_one (ps_ret (pv 1)))), ?_⟩
    -- found = []
    refine ⟨Nat.zero_le _, fun D hD => ?_⟩
    have b0 : Bld K B H D (upd H D (.lst [])) [] := Bld.start hD eb
    have hv0 : EvG (tVar 0) (start nArcs [v] |>.set 1 (some (.ref D))) (bb B H D (upd H D (.lst []))) (Dd K (netD N)) := eg_d rfl (dp_mono (b0.eb eb) hv)
    have hit : EvG (tOp (rIx K) (tVar 0) (tC (.int 1))) (start nArcs [v] |>.set 1 (some (.ref D))) (bb B H D (upd H D (.lst []))) (Dd K (.tuple (N.qs.map quD))) := eg_ix (i := 1) hv0 (.inr rfl) ev_c rfl
    have seq := ei_seq (K := K) hit (.inr rfl)
    rw [List.length_map] at seq
    refine qg_for seq Bld.ec (fun H2 i σ' H' => ∃ a2 a3 a4 a5 a6, σ' = [some v, some (.ref D), a2, a3, a4, a5, a6] ∧ Bld K B H D H' (((N.qs.take i).flatMap arcs2).map arcD) ∧ Ex (cut (bb B H D (upd H D (.lst []))) (upd H D (.lst [])) H2) H') ?_ ?_ ?_ ?_
    · exact fun H2 e2 => ⟨none, none, none, none, none, rfl, b0.keep e2, cut_ex⟩
    · rintro H2 i σ' H' e2 ⟨a2, a3, a4, a5, a6, rfl, b, e⟩
      exact e
    · rintro H2 i x σ' H' H'' e2 hi ⟨a2, a3, a4, a5, a6, rfl, b, e⟩ ⟨rfl, dq, hdq, hp⟩
      rw [List.getElem?_map] at hdq
      obtain ⟨q, hq1, hq2⟩ := Option.map_eq_some_iff.mp hdq
      subst hq2
      obtain ⟨a, xs, rfl, sx, hx⟩ := dp_tup hp
      have ex := dpa5 hx
      subst ex
      refine ⟨a, _, rfl, ex_t e sx, rfl, _, _, rfl, _, _, rfl, _, _, rfl, _, _, rfl, _, _, rfl, rfl, ?_⟩
      have hl : ((N.qs.take i).flatMap arcs2).length ≤ 2000 := by
        rw [flat_len arcs2 2 _ fun _ _ => rfl, List.length_take]
        omega
      obtain ⟨vs, hvs, hvl⟩ := b.len
      rw [List.length_map] at hvl
      refine qg_app (i := 1) (B := bb B H D H'') (P := Dd K (arcD (q.2.1, q.2.2.1, q.2.2.2.1, q.1, "along"))) rfl hvs (by omega) (eg_tup (ds := [.str q.2.1, .str q.2.2.1, .int q.2.2.2.1, .str q.1, .str "along"]) (ega_cons' (eg_d rfl (.str _)) (ega_cons' (eg_d rfl (.str _)) (ega_cons' (eg_d rfl (.int _)) (ega_cons' (eg_d rfl (.str _)) (ega_cons' eg_str ega_nil))))) (by show 5 ≤ 100000; decide)) Bld.ec ?_
      intro y H3 e3 hy
      have b2 := b.push e3 hvs hy
      refine sg_app (i := 1) (B := bb B H D (upd H3 D (.lst (vs ++ [y])))) (P := Dd K (arcD (q.2.2.1, q.2.1, 1 - q.2.2.2.2, q.1, "against"))) rfl upd_same (by rw [List.length_append]; show vs.length + 1 < 100000; omega) (eg_tup (ds := [.str q.2.2.1, .str q.2.1, .int (1 - q.2.2.2.2), .str q.1, .str "against"]) (ega_cons' (eg_d rfl (.str _)) (ega_cons' (eg_d rfl (.str _)) (ega_cons' (eg_imm (ev_op ev_c (ev_var rfl) rv_I0) rfl) (ega_cons' (eg_d rfl (.str _)) (ega_cons' eg_str ega_nil))))) (by show 5 ≤ 100000; decide)) Bld.ec ?_
      intro y2 H4 e4 hy2
      have b3 := b2.push e4 upd_same hy2
      refine ⟨_, _, _, _, _, rfl, ?_, ?_⟩
      · rw [flat_take arcs2 hq1, List.map_append]
        have es : (arcs2 q).map arcD = [arcD (q.2.1, q.2.2.1, q.2.2.2.1, q.1, "along")] ++ [arcD (q.2.2.1, q.2.1, 1 - q.2.2.2.2, q.1, "against")] := rfl
        rw [es, ← List.append_assoc]
        exact b3
      · have hn : cut (bb B H D (upd H D (.lst []))) (upd H D (.lst [])) H2 D = none := cut_pos (cut_pos b.nob upd_some) upd_some
        exact Ex.mut ((Ex.mut (e.trans e3) hn).trans e4) hn
    · rintro H2 σ' H' e2 ⟨a2, a3, a4, a5, a6, rfl, b, e⟩
      rw [List.take_length] at b
      exact ⟨_, rfl, r _ H' b.ex b.done⟩
end
end K73
end
section
set_option Elab.async false
set_option linter.all false
set_option maxRecDepth 100000
set_option maxHeartbeats 4000000
namespace K73
open PySem L2 Evl
/-! ### name = {..} on one line, the name a local -/
section
variable {X : Cx}
theorem ps_setDc {i : Nat} {y : Str} {py : Pos} {kx vx tg iter : Expr} {ifs : List Expr} {scope : Scope} {own : List (Str × Nat)} {pos spos : Pos} {wi : TI} {g : TG} {tt : TT} {tk tv : TE} (hc : X.calm = true) (hN : X.N.Nodup) (hy : X.N[i]? = some y) (hyl : X.env.scope.names.lookup y = some .local)
    (hsw : swapsWith (.DictComp kx vx [⟨tg, iter, ifs, 0⟩] scope pos) (some (.Name y py)) spos.line X.env = pure true) (hi : PI X tg iter wi) (ok : BlkOk X.N X.env.scope scope own)
    (hg : ∀ (s : Shared) (H : Hp) (C : Addr) (cl : List (Str × Addr)) (fp : List Addr), PG (X.blk s H scope (compEnvC scope cl C X.env) fp) tg g) (ht : ∀ (s : Shared) (H : Hp) (C : Addr) (cl : List (Str × Addr)) (fp : List Addr), PTs (X.blk s H scope (compEnvC scope cl C X.env) fp) ifs tt)
    (hk : ∀ (s : Shared) (H : Hp) (C : Addr) (cl : List (Str × Addr)) (fp : List Addr), PE (X.blk s H scope (compEnvC scope cl C X.env) fp) kx tk)
    (he : ∀ (s : Shared) (H : Hp) (C : Addr) (cl : List (Str × Addr)) (fp : List Addr), PE (X.blk s H scope (compEnvC scope cl C X.env) fp) vx tv) (hs : ∀ x, foldedSetIterable iter X.env x = pure x := by intro _; rfl) :
    PS X (.Assign [.Name y py] (.DictComp kx vx [⟨tg, iter, ifs, 0⟩] scope pos) spos) (tAsg (tDc wi g tt tk tv (own.map (·.2))) (gName i)) := by
  refine ⟨fun pins s σ H D I h => ?_⟩
  rw [exec_Assign_Name_used _ _ _ _ hsw]
  refine wpAny_bind (wpAny_standAt (wpAny_bind ?_))
  show wpAny _ X.A (do let _ ← comprehension (.DictComp kx vx [⟨tg, iter, ifs, 0⟩] scope pos) scope X.env (firstIterPos [⟨tg, iter, ifs, 0⟩] pos) newDict false (eval iter X.env) (some (assign (.Name y py) X.env))) _ _ s
  have h : tDc wi g tt tk tv (own.map (·.2)) σ H (fun x H1 => gName i x σ H1 D.nx) := h
  refine wpAny_bind (thn (dc_core (Qf := fun _ s' => SP X pins D .next s') hc hN I hi ok hg ht hk he hs h fun L C s' m H' I' q hn f => ?_) fun _ s' hq => wpAny_pure (wpAny_pure hq))
  show wpAny _ _ (assign (.Name y py) X.env (.ref L)) _ _ _
  refine wpAny_assign_Name (store_ok2 (v := V.ref L) I' hN hy (.inl hyl) rfl (fun s2 I2 ⟨a, sb, ha⟩ => ?_) (.inr hyl))
  obtain ⟨f0, f1, f2, f3, f4, f5⟩ := f
  have haC : C ≠ a := by
    rcases ha with z | z
    · rw [z]; exact f1
    · exact fun e => f4 y a z e.symm
  refine ⟨m, hn.sameBut sb haC, fun h3 sb3 => ?_⟩
  exact ⟨_, H', I2.turned (t' := s2.toks) (fun b o hb e => (sb3.2 b hb).trans e) f0 f1 f3 f4 f5, q⟩
theorem swd_true {kx vx : Expr} {gs : List Comprehension} {scope : Scope} {pos py : Pos} {y : Str} {l : Nat} {env : Env} (hk : env.scope.kind = .function) (hy : env.scope.names.lookup y = some .local) (hl : (py.line == pos.line) = true)
    (ha : (scope.names.any fun (n, k) => n == y && (k == .local || k == .cell)) = false) : swapsWith (.DictComp kx vx gs scope pos) (some (.Name y py)) l env = pure true := by
  have ky : env.kindOf y = some .local := hy
  have hb : env.blockKind = .function := by unfold Env.blockKind; rw [hk]; rfl
  unfold swapsWith
  simp only [hb, ky, ha, Expr.pos, hl]
  rfl
end
/-! ### dicts of texts -/
/-- the dict kvs tells F -/
def Tells (kvs : List (Key × V)) (F : Str → Option V) : Prop := ∀ s, valV kvs (Sum.inr s) = F s
section
variable {K : PySem.W.Frag} {B H H' H1 H2 : Hp} {σ : L2.St} {ta tb te tk tv : TE}
theorem Tells.put {kvs : List (Key × V)} {F : Str → Option V} (h : Tells kvs F) (s : Str) (v : V) : Tells (putK kvs (Sum.inr s) v) (fun t => if t = s then some v else F t) := fun t => by
  rw [valV_put, h t]
  show (if (Sum.inr t : Key) = Sum.inr s then some v else F t) = (if t = s then some v else F t)
  by_cases e : t = s
  · rw [if_pos (show (Sum.inr t : Key) = Sum.inr s by rw [e]), if_pos e]
  · rw [if_neg (show ¬ (Sum.inr t : Key) = Sum.inr s from fun z => e (Sum.inr.inj z)), if_neg e]
theorem ev_dget {D : Addr} {kvs : List (Key × V)} {F : Str → Option V} {s : Str} {v : V} (h1 : Ev ta σ B (.ref D)) (h2 : Ev tb σ B (.str s)) (hD : B D = some (.dK kvs)) (hF : Tells kvs F) (hv : F s = some v) : Ev (tDGet ta tb) σ B v := fun H e Q q =>
  h1 H e _ fun H1 e1 => h2 H1 (e.trans e1) _ fun H2 e2 => ⟨D, v, rfl, by
    have g := DGet.k (H := H2) (a := D) (kvs := kvs) (k := Sum.inr s) (((e.trans e1).trans e2) D _ hD)
    rw [hF s, hv] at g
    exact g, q H2 (e1.trans e2)⟩
def EvDi (te : TE) (σ : L2.St) (B : Hp) (F : Str → Option V) (n : Nat) : Prop := ∀ H, Ex B H → ∀ Q : VK, (∀ D H' kvs, H D = none → Ex H H' → H' D = some (.dK kvs) → Tells kvs F → kvs.length ≤ n → Q (.ref D) H') → te σ H Q
/-- what a dict comprehension's turns put -/
def putsF (kw : Nat → Str) (vw : Nat → V) : Nat → Str → Option V
  | 0, _ => none
  | i + 1, s => if s = kw i then some (vw i) else putsF kw vw i s
theorem ed_dc {wi : TI} {g : TG} {vs : List Nat} {n : Nat} {Y : YT} (kw : Nat → Str) (vw : Nat → V) (hi : EvI wi σ B n Y) (hn : n ≤ 1000)
    (hs : ∀ B' i x H1 H2 (R : L2.St → Hp → Prop), Ex B B' → i < n → Ex B' H1 → Y B' i H1 x H2 → (∀ σ2 H3, wipe σ2 vs = wipe σ vs → Ex H1 H3 → Ev tk σ2 B' (.str (kw i)) → Ev tv σ2 B' (vw i) → R σ2 H3) → g x (wipe σ vs) H2 R) :
    EvDi (tDc wi g tYes tk tv vs) σ B (putsF kw vw n) n := fun H e Q r => hi H e _ fun J H2 e2 w D hD => by
  refine ⟨fun i m H' => m = n - i ∧ i ≤ n ∧ Ex H2 H' ∧ ∃ kvs, H' D = some (.dK kvs) ∧ Tells kvs (putsF kw vw i) ∧ kvs.length ≤ i, ⟨n, by simp, Nat.zero_le _, Ex.new hD, [], upd_same, fun s => rfl, Nat.le_refl _⟩, ?_⟩
  rintro i m H' ⟨rfl, hi, e', kvs, hk, ht, hl⟩
  have ec : Ex (cut B H H2) H' := cut_ex.trans e'
  by_cases hlt : i < n
  · refine .inr ⟨w.goes i H' hlt ec, fun H3 => Ex H2 H3 ∧ ∃ kvs, H3 D = some (.dK kvs) ∧ Tells kvs (putsF kw vw (i + 1)) ∧ kvs.length ≤ i + 1, fun H3 ⟨q1, q2⟩ => ⟨n - (i + 1), by omega, rfl, hlt, q1, q2⟩, fun x H3 y => ?_⟩
    refine hs (cut B H H2) i x H' H3 _ (ex_cut e e2) hlt ec (w.yields i H' x H3 hlt ec y) fun σ2 H4 hw e4 k1 k2 => ⟨hw, ?_⟩
    refine lc_yes ?_
    refine k1 H4 (ec.trans e4) _ fun H5 e5 => k2 H5 ((ec.trans e4).trans e5) _ fun H6 e6 => ?_
    have e46 : Ex H' H6 := (e4.trans e5).trans e6
    refine ⟨kvs, Sum.inr (kw i), rfl, e46 D _ hk, sz_lt (by omega), Ex.mut (e'.trans e46) hD, _, upd_same, ht.put _ _, ?_⟩
    have := length_putK kvs (Sum.inr (kw i) : Key) (vw i)
    omega
  · have ei : i = n := by omega
    subst ei
    exact .inl ⟨w.stops H' ec, r D H' kvs (fresh_back e2 hD) (e2.trans e') hk ht hl⟩
end
/-! ### rows that can be written -/
def rowV (n : Nat) (r : Nat → Ent) : List V := (List.range n).map fun j => eV (r j)
theorem rowV_len (n : Nat) (r : Nat → Ent) : (rowV n r).length = n := by simp [rowV]
theorem rowV_get {n j : Nat} (r : Nat → Ent) (h : j < n) : (rowV n r)[j]? = some (eV (r j)) := mr_get _ h
/-- since H0: the rows of M, each in a list of its own -/
structure RowsAt (H0 H' : Hp) (D : Addr) (n : Nat) (ps : Nat → Addr) (M : Mat) : Prop where
  top : H' D = some (.lst ((List.range n).map fun i => V.ref (ps i)))
  row : ∀ i, i < n → H' (ps i) = some (.lst (rowV n (M i)))
  new : H0 D = none
  newr : ∀ i, i < n → H0 (ps i) = none
  ne : ∀ i, i < n → ps i ≠ D
  inj : ∀ i j, i < n → j < n → ps i = ps j → i = j
section
variable {K : PySem.W.Frag} {B H0 H H' H1 H2 : Hp} {D : Addr} {n : Nat} {ps : Nat → Addr} {M : Mat}
theorem RowsAt.keep (r : RowsAt H0 H D n ps M) (e : Ex H H') : RowsAt H0 H' D n ps M := ⟨e _ _ r.top, fun i hi => e _ _ (r.row i hi), r.new, r.newr, r.ne, r.inj⟩
def setM (M : Mat) (i j : Nat) (x : Ent) : Mat := fun a b => if a = i ∧ b = j then x else M a b
theorem rowV_set {n j : Nat} (r : Nat → Ent) (x : Ent) : (rowV n r).set j (eV x) = rowV n (fun b => if b = j then x else r b) := by
  apply List.ext_getElem
  · simp [rowV]
  · intro k h1 h2
    simp only [rowV, List.getElem_set, List.getElem_map, List.getElem_range]
    split
    · rename_i e
      rw [if_pos e.symm]
    · rename_i e
      rw [if_neg (Ne.symm e)]
theorem RowsAt.set (r : RowsAt H0 H D n ps M) {i j : Nat} (hi : i < n) (x : Ent) : RowsAt H0 (upd H (ps i) (.lst ((rowV n (M i)).set j (eV x)))) D n ps (setM M i j x) := by
  refine ⟨?_, fun a ha => ?_, r.new, r.newr, r.ne, r.inj⟩
  · rw [upd_ne (Ne.symm (r.ne i hi))]
    exact r.top
  · by_cases e : a = i
    · subst e
      rw [upd_same, rowV_set]
      congr 2
      unfold rowV setM
      refine List.map_congr_left fun b _ => ?_
      show eV (if b = j then x else M a b) = eV (if a = a ∧ b = j then x else M a b)
      by_cases q : b = j
      · rw [if_pos q, if_pos ⟨rfl, q⟩]
      · rw [if_neg q, if_neg fun z => q z.2]
    · rw [upd_ne (fun z => e (r.inj a i ha hi z)), r.row a ha]
      congr 2
      unfold rowV setM
      refine List.map_congr_left fun b _ => ?_
      show eV (M a b) = eV (if a = i ∧ b = j then x else M a b)
      rw [if_neg fun z => e z.1]
theorem dpa_row {n : Nat} (r : Nat → Ent) : DpAll K H (rowV n r) (rowD n r) := by
  unfold rowV rowD
  generalize List.range n = l
  induction l with
  | nil => exact .nil
  | cons a l ih => exact .cons (dp_ent _) ih
theorem dpa_of {vs : List V} {ds : List PD} (hl : vs.length = ds.length) (h : ∀ (i : Nat) (v : V) (d : PD), vs[i]? = some v → ds[i]? = some d → Dp K H v d) : DpAll K H vs ds := by
  induction vs generalizing ds with
  | nil =>
    cases ds with
    | nil => exact .nil
    | cons d ds => cases hl
  | cons v vs ih =>
    cases ds with
    | nil => cases hl
    | cons d ds => exact .cons (h 0 v d rfl rfl) (ih (by simpa using hl) fun i a b h1 h2 => h (i + 1) a b (by simpa using h1) (by simpa using h2))
theorem RowsAt.data (r : RowsAt H H' D n ps M) : Dp K (cut B H H') (.ref D) (matL n M) := by
  refine .lst (xs := (List.range n).map fun i => V.ref (ps i)) (sq_of (by rw [cut_new r.new]; exact r.top)) (dpa_of (by rw [matDs_len]; simp) fun i v d h1 h2 => ?_)
  have hi : i < n := by
    have := get_lt h2
    rw [matDs_len] at this
    exact this
  rw [mr_get _ hi] at h1
  rw [matDs_get _ hi] at h2
  cases h1
  cases h2
  exact .lst (xs := rowV n (M i)) (sq_of (by rw [cut_new (r.newr i hi)]; exact r.row i hi)) (dpa_row _)
end
end K73
end
section
set_option Elab.async false
set_option linter.all false
set_option maxRecDepth 100000
set_option maxHeartbeats 4000000
namespace K73
open PySem L2 Evl
/-! ### cost_rows -/
/-- where a text stands -/
def ixOf (ws : List Str) (s : Str) : Nat := ws.findIdx (· == s)
theorem ixOf_lt {ws : List Str} {s : Str} (h : s ∈ ws) : ixOf ws s < ws.length := by
  unfold ixOf
  exact List.findIdx_lt_length_of_exists ⟨s, h, by simp⟩
theorem ixOf_get {ws : List Str} {s : Str} (h : s ∈ ws) : ws[ixOf ws s]? = some s := by
  have hl := ixOf_lt h
  have e : (ws[ixOf ws s] == s) = true := List.findIdx_getElem (w := hl)
  rw [List.getElem?_eq_getElem hl]
  exact congrArg some (by simpa using e)
theorem ixOf_at {ws : List Str} (nd : ws.Nodup) {i : Nat} {s : Str} (h : ws[i]? = some s) : ixOf ws s = i := nd_ix nd (ixOf_get (List.mem_of_getElem? h)) h
/-- one step of the table of costs -/
def costS (ws : List Str) (M : Mat) (a : Arc) : Mat := setM M (ixOf ws a.1) (ixOf ws a.2.1) (minE (M (ixOf ws a.1) (ixOf ws a.2.1)) (some a.2.2.1))
def costM (N : NetM) : Mat := (arcsM N).foldl (costS N.ws) fun _ _ => none
/-- places of the workers -/
theorem putsF_ix {ws : List Str} (nd : ws.Nodup) (vw : Nat → V) {s : Str} (h : s ∈ ws) : ∀ n : Nat, n ≤ ws.length → ixOf ws s < n → putsF (fun i => ws.getD i Str.empty) vw n s = some (vw (ixOf ws s))
  | 0, _, h => absurd h (Nat.not_lt_zero _)
  | n + 1, hn, hi => by
    show (if s = ws.getD n Str.empty then some (vw n) else putsF _ vw n s) = _
    have hg : ws[n]? = some (ws.getD n Str.empty) := by
      rw [List.getD_eq_getElem?_getD, List.getElem?_eq_getElem (by omega)]
      rfl
    by_cases e : s = ws.getD n Str.empty
    · rw [if_pos e]
      rw [← e] at hg
      rw [ixOf_at nd hg]
    · rw [if_neg e]
      refine putsF_ix nd vw h n (by omega) ?_
      have : ixOf ws s ≠ n := fun z => e (by
        have q := ixOf_get h
        rw [z, hg] at q
        exact (Option.some.inj q).symm)
      omega
/-- a NET, as far as the walks ask -/
structure NetOk (N : NetM) : Prop where
  nd : N.ws.Nodup
  pos : 0 < N.ws.length
  few : N.ws.length ≤ 60
  fewq : N.qs.length ≤ 60
  ends : ∀ q ∈ N.qs, q.2.1 ∈ N.ws ∧ q.2.2.1 ∈ N.ws
theorem NetOk.arc {N : NetM} (h : NetOk N) {a : Arc} (ha : a ∈ arcsM N) : a.1 ∈ N.ws ∧ a.2.1 ∈ N.ws := by
  obtain ⟨q, hq, hm⟩ := List.mem_flatMap.mp ha
  have e := h.ends q hq
  have hm : a = _ ∨ a ∈ [_] := List.mem_cons.mp hm
  rcases hm with rfl | hm
  · exact e
  · rw [List.mem_singleton.mp hm]
    exact ⟨e.2, e.1⟩
section
variable {B H : Hp} {σ : L2.St} {te : TE} {D : Ends} {tz : TS}
theorem qd_asg {i n : Nat} {F : Str → Option V} (h : EvDi te σ B F n) (e : Ex B H) (k : ∀ D' H' kvs, H D' = none → Ex H H' → H' D' = some (.dK kvs) → Tells kvs F → kvs.length ≤ n → tz D (σ.set i (some (.ref D'))) H') : tSeq (tAsg te (gName i)) tz D σ H := h H e _ k
theorem q_at {i : Nat} (h : te σ H fun v H' => tz D (σ.set i (some v)) H') : tSeq (tAsg te (gName i)) tz D σ H := h
theorem ev_ixR {K : PySem.W.Frag} {ta tb : TE} {a : Addr} {xs : List V} {i : Nat} {v : V} (h : Ev ta σ B (.ref a)) (hi : Ev tb σ B (.int (i : Int))) (ha : SqL K B a xs) (hg : xs[i]? = some v) : Ev (tOp (rIx K) ta tb) σ B v := fun H e Q q =>
  h H e _ fun H1 e1 => hi H1 (e.trans e1) _ fun H2 e2 => .inl ⟨a, xs, i, v, rfl, rfl, ex_l ((e.trans e1).trans e2) ha, atI_nat hg, q H2 (e1.trans e2)⟩
end
section
variable {P : Program} {w : World} {K : PySem.W.Frag} {mg : Str → Option Value} {base : Heap}
abbrev sCr : Stmt := topS 11
abbrev nCr : List Str := ["net", "place", "k", "worker", "rows", "other", "cost", "queue", "way", "row"]
theorem scCr : FnScope nCr ["net"] (defScope sCr) := ⟨rfl, rfl, rfl, by decide +kernel, rfl, by decide +kernel, by decide +kernel⟩
def crF (ds : List PD) (d : PD) : Prop := ∃ N : NetM, NetOk N ∧ ds = [netD N] ∧ d = matL N.ws.length (costM N)
theorem strsT_get {ws : List Str} {i : Nat} {d : PD} (h : (ws.map PyData.str)[i]? = some d) : d = .str (ws.getD i Str.empty) := by
  rw [List.getElem?_map] at h
  obtain ⟨s, h1, h2⟩ := Option.map_eq_some_iff.mp h
  rw [List.getD_eq_getElem?_getD, h1, ← h2]
  rfl
set_option maxHeartbeats 8000000 in
theorem ok_cr {f : Addr} {fd : FuncData} (F : Fun K "cost_rows" "cost_rows" sCr f fd) (T : Tx mg) (oA : Own P w K mg base CX0 1 "arcs" ["net"] (spD K arcsF)) : FnOk P w K mg base CX0 2 f fd ["net"] (spD K crF) := by
  refine F.ok scCr (sp_len1 fun ds d ⟨N, _, e, _⟩ => by rw [e]; rfl) (fun cdv A outer s H vs Q E hr h => ?_)
  obtain ⟨B, ds, d, eb, ha, ⟨N, ok, rfl, rfl⟩, r⟩ := h
  have hu := hu_of hr
  cases ha with
  | cons hv hnil =>
    cases hnil
    rename_i v
    refine ⟨_, pss_cons (ps_setDc (i := 1) (own := [("k", 2), ("worker", 3)]) (g := gTup K 2 (gCons (gName 2) (gCons (gName 3) gNil))) (tt := tYes) rfl scCr.nd rfl rfl (swd_true rfl rfl rfl (by decide +kernel)) (kenum K T (kix K (pv 0) pe_int)) (blkOk_by (by kernel_rfl))
        (fun _ _ _ _ _ => ktup K rfl (pgs_cons (pg_name (i := 2) scCr.nd rfl (Or.inl rfl)) (pgs_cons (pg_name (i := 3) scCr.nd rfl (Or.inl rfl)) pgs_nil))) (fun _ _ _ _ _ => pts_nil) (fun _ _ _ _ _ => pv 3) (fun _ _ _ _ _ => pv 2))
      (pss_cons (ps_setLc (i := 4) (own := [("worker", 3)]) (g := gName 3) (tt := tYes) rfl scCr.nd rfl rfl (sw_true rfl rfl rfl (by decide +kernel)) (kseq K (kix K (pv 0) pe_int)) (blkOk_by (by kernel_rfl))
        (fun _ _ _ _ _ => pg_name (i := 3) scCr.nd rfl (Or.inl rfl)) (fun _ _ _ _ _ => pts_nil) (fun _ _ _ _ _ => pe_op op_rep (pe_lst (pa_cons pe_non pa_nil)) (klen K T (kix K (pv 0) pe_int))))
      (pss_cons (ps_for PassesOwn.never rfl (kseq K (pe_own oA hr (by decide) pass0 (pa_cons (pv 0) pa_nil)))
          (ktup K rfl (pgs_cons (pg_name (i := 3) scCr.nd rfl (Or.inl rfl)) (pgs_cons (pg_name (i := 5) scCr.nd rfl (Or.inl rfl)) (pgs_cons (pg_name (i := 6) scCr.nd rfl (Or.inl rfl)) (pgs_cons (pg_name (i := 7) scCr.nd rfl (Or.inl rfl)) (pgs_cons (pg_name (i := 8) scCr.nd rfl (Or.inl rfl)) pgs_nil))))))
          (pss_cons (ps_set (i := 9) scCr.nd rfl (Or.inl rfl) (kix K (pv 4) (pe_dget hu (pv 1) (pv 3) (fun _ _ => rfl))))
          (pss_one (ps_if (PW.pt (pw_or (pt_cmpR op_isN (kix K (pv 9) (pe_dget hu (pv 1) (pv 5) (fun _ _ => rfl))) pe_non (nomark _)) (pw_or1 (pt_cmpR op_lt (pv 6) (kix K (pv 9) (pe_dget hu (pv 1) (pv 5) (fun _ _ => rfl))) (nomark _)))))
            (pss_one (ps_asg (pv 6) (pg_sub (pv 9) (pe_dget hu (pv 1) (pv 5) (fun _ _ => rfl)) set_list))) pss_nil))))
      (pss_one (ps_ret (pv 4))))), ?_⟩
    have hws : ∀ (σ : L2.St) (B' : Hp), Ex B B' → σ[0]? = some (some v) → EvG (tOp (rIx K) (tVar 0) (tC (.int 0))) σ B' (Dd K (strsT N.ws)) := fun σ B' e h => eg_ix (i := 0) (eg_d h (dp_mono e hv)) (.inr rfl) ev_c rfl
    -- place
    have D1 := ed_dc (tk := tVar 3) (tv := tVar 2) (g := gTup K 2 (gCons (gName 2) (gCons (gName 3) gNil))) (vs := [2, 3]) (fun i => N.ws.getD i Str.empty) (fun i => .int (i : Int)) (ei_enum (K := K) (hws (start nCr [v]) B (Ex.refl B) rfl) (.inr rfl)) (by rw [List.length_map]; have := ok.few; omega) (by
      intro B' i x H1 H2 R eB hi e1 hY k
      obtain ⟨t, z1, z2, d1, d2, rfl, hT, rfl, g1, g2, p1, p2⟩ := hY
      rw [nums_at hi] at g1
      cases g1
      cases dp_int p1
      cases strsT_get g2
      cases dp_str p2
      exact ⟨t, _, rfl, st_of upd_same, rfl, _, _, rfl, _, [], rfl, rfl, k _ _ rfl (Ex.new hT) (ev_var rfl) (ev_var rfl)⟩)
    rw [List.length_map] at D1
    refine qd_asg D1 eb fun Dp1 H1 kvs n1 e1 hk1 ht1 hl1 => ?_
    -- rows
    have eb1 : Ex B H1 := eb.trans e1
    have lenw : ∀ (σ : L2.St) (B' : Hp), Ex B B' → σ[0]? = some (some v) → Ev (tCB (rLenOf K) (tCons (tOp (rIx K) (tVar 0) (tC (.int 0))) tNil)) σ B' (.int (N.ws.length : Int)) := fun σ B' e h => by
      have q := ev_lenD (hws σ B' e h) (.inr rfl)
      rw [List.length_map] at q
      exact q
    have seq := ei_seq (hws ((start nCr [v]).set 1 (some (.ref Dp1))) B (Ex.refl B) rfl) (.inr rfl)
    rw [List.length_map] at seq
    refine q_at (seq H1 eb1 _ fun J H2 e2 wk D hD => ?_)
    have nD : H D = none := fresh_back (e1.trans e2) hD
    refine lc_it wk (fun i H' => Ex H2 H' ∧ ∃ ps : Nat → Addr, H' D = some (.lst ((List.range i).map fun a => V.ref (ps a))) ∧ (∀ a, a < i → H' (ps a) = some (.lst (rowV N.ws.length fun _ => none)) ∧ H2 (ps a) = none ∧ ps a ≠ D) ∧ (∀ a b, a < i → b < i → ps a = ps b → a = b)) ?_ ?_ ?_ ?_
    · exact ⟨Ex.new hD, fun _ => 0, upd_same, fun a h => absurd h (Nat.not_lt_zero a), fun a b h => absurd h (Nat.not_lt_zero a)⟩
    · rintro i H' _ ⟨e', _⟩
      exact cut_ex.trans e'
    · rintro i x H' H'' hlt ⟨e', ps, hp1, hp2, hp3⟩ ⟨rfl, dd, hd1, hd2⟩
      refine ⟨rfl, lc_yes ?_⟩
      have eB' : Ex B H'' := (eb1.trans e2).trans e'
      refine ⟨by show 1 ≤ sizeLine; decide, fun l hl => ?_⟩
      refine lenw _ _ eB' rfl _ (Ex.new hl) _ fun H3 e3 => ?_
      have e13 : Ex H'' H3 := (Ex.new hl).trans e3
      have hlen : ((N.ws.length : Int)).toNat = N.ws.length := Int.toNat_natCast _
      have few := ok.few
      refine ⟨l, (N.ws.length : Int), [.non], rfl, rfl, e3 l _ upd_same, by omega, by omega, by rw [hlen]; show 1 * N.ws.length ≤ sizeLine; rw [Nat.one_mul]; exact sz_of (by omega), fun p hp => ?_⟩
      have nDp : D ≠ p := ne_of_none (e13 D _ hp1) hp
      refine ⟨_, by rw [upd_ne nDp]; exact e13 D _ hp1, by rw [List.length_map, List.length_range]; exact sz_lt (by omega), Ex.mut (((e'.trans e13).trans (Ex.new hp))) hD, put ps i p, ?_, fun a ha => ?_, fun a b ha hb hab => ?_⟩
      · rw [upd_same, List.range_succ, List.map_append]
        congr 2
        congr 1
        · refine List.map_congr_left fun a ha => ?_
          rw [put_ne (Nat.ne_of_lt (List.mem_range.mp ha))]
        · show [V.ref p] = [V.ref (put ps i p i)]
          rw [put_same]
      · have hrow : (List.replicate (N.ws.length : Int).toNat ([.non] : List V)).flatten = rowV N.ws.length fun _ => none := by
          rw [hlen]
          apply List.ext_getElem
          · simp [rowV]
          · intro m h1 h2
            simp [rowV, eV]
        by_cases ea : a = i
        · subst ea
          rw [put_same]
          refine ⟨?_, fresh_back (e'.trans e13) hp, Ne.symm nDp⟩
          rw [upd_ne (Ne.symm nDp), upd_same, hrow]
        · rw [put_ne ea]
          obtain ⟨q1, q2, q3⟩ := hp2 a (by omega)
          refine ⟨?_, q2, q3⟩
          rw [upd_ne q3]
          exact (Ex.new hp) _ _ (e13 _ _ q1)
      · by_cases ea : a = i
        · by_cases eb : b = i
          · rw [ea, eb]
          · rw [ea, put_same, put_ne eb] at hab
            obtain ⟨q1, _, _⟩ := hp2 b (by omega)
            exact absurd hab.symm (ne_of_none (e13 _ _ q1) hp)
        · by_cases eb : b = i
          · rw [eb, put_ne ea, put_same] at hab
            obtain ⟨q1, _, _⟩ := hp2 a (by omega)
            exact absurd hab (ne_of_none (e13 _ _ q1) hp)
          · rw [put_ne ea, put_ne eb] at hab
            exact hp3 a b (by omega) (by omega) hab
    · rintro H3 ⟨e3, ps, hp1, hp2, hp3⟩
      have e13 : Ex H H3 := (e1.trans e2).trans e3
      have rows0 : RowsAt H H3 D N.ws.length ps (fun _ _ => none) := ⟨hp1, fun i hi => (hp2 i hi).1, nD, fun i hi => fresh_back (e1.trans e2) (hp2 i hi).2.1, fun i hi => (hp2 i hi).2.2, hp3⟩
      -- the loop
      have arcs := ei_seq (K := K) (eg_call (E := E0) (F := arcsF) (d := .list ((arcsM N).map arcD)) (ega_cons' (eg_d (i := 0) (σ := ((start nCr [v]).set 1 (some (.ref Dp1))).set 4 (some (.ref D))) (K := K) rfl hv) ega_nil) ⟨N, by have := ok.fewq; omega, rfl, rfl⟩) (.inl rfl)
      rw [List.length_map] at arcs
      have d1 : H3 Dp1 = some (.dK kvs) := (e2.trans e3) _ _ hk1
      refine qg_for arcs (eb.trans e13) (fun H4 i σ' H' => ∃ a2 a3 a5 a6 a7 a8 a9, σ' = [some v, some (.ref Dp1), a2, a3, some (.ref D), a5, a6, a7, a8, a9] ∧ Ex H H' ∧ Ex (cut B H3 H4) H' ∧ H' Dp1 = some (.dK kvs) ∧ RowsAt H H' D N.ws.length ps (((arcsM N).take i).foldl (costS N.ws) fun _ _ => none)) ?_ ?_ ?_ ?_
      · exact fun H4 e4 => ⟨none, none, none, none, none, none, none, rfl, e13.trans e4, cut_ex, e4 _ _ d1, rows0.keep e4⟩
      · rintro H4 i σ' H' e4 ⟨a2, a3, a5, a6, a7, a8, a9, rfl, eH, e, hk, hrows⟩
        exact e
      · rintro H4 i x σ' H' H'' e4 hi ⟨a2, a3, a5, a6, a7, a8, a9, rfl, eH, e, hk, hrows⟩ ⟨rfl, dq, hdq, hp⟩
        rw [List.getElem?_map] at hdq
        obtain ⟨q, hq1, hq2⟩ := Option.map_eq_some_iff.mp hdq
        subst hq2
        obtain ⟨a, xs, rfl, sx, hx⟩ := dp_tup hp
        have ex := dpa5a hx
        subst ex
        refine ⟨a, _, rfl, ex_t e sx, rfl, _, _, rfl, _, _, rfl, _, _, rfl, _, _, rfl, _, _, rfl, rfl, ?_⟩
        have eA := ok.arc (List.mem_of_getElem? hq1)
        have i1 := ixOf_lt eA.1
        have i2 := ixOf_lt eA.2
        have et : ((arcsM N).take (i + 1)).foldl (costS N.ws) (fun _ _ => none) = costS N.ws (((arcsM N).take i).foldl (costS N.ws) fun _ _ => none) q := by
          rw [List.take_add_one, hq1, List.foldl_append]
          rfl
        rw [et]
        generalize ((arcsM N).take i).foldl (costS N.ws) (fun _ _ => none) = M at hrows ⊢
        obtain ⟨u, o, c, qn, wy⟩ := q
        have p1 := putsF_ix ok.nd (fun i => V.int (i : Int)) eA.1 N.ws.length (Nat.le_refl _) i1
        have p2 := putsF_ix ok.nd (fun i => V.int (i : Int)) eA.2 N.ws.length (Nat.le_refl _) i2
        refine q_asg (v := .ref (ps (ixOf N.ws u))) (ev_ixR (ev_var rfl) (ev_dget (ev_var rfl) (ev_var rfl) hk ht1 p1) (sq_of hrows.top) (mr_get _ i1)) fun H6 e6 => ?_
        have hk6 := e6 _ _ hk
        have hr6 := hrows.keep e6
        have hj : ∀ σ : L2.St, σ[1]? = some (some (.ref Dp1)) → σ[5]? = some (some (.str o)) → Ev (tDGet (tVar 1) (tVar 5)) σ H6 (.int (ixOf N.ws o : Int)) := fun σ h1 h2 => ev_dget (ev_var h1) (ev_var h2) hk6 ht1 p2
        have hx : ∀ σ : L2.St, σ[1]? = some (some (.ref Dp1)) → σ[5]? = some (some (.str o)) → σ[9]? = some (some (.ref (ps (ixOf N.ws u)))) → Ev (tOp (rIx K) (tVar 9) (tDGet (tVar 1) (tVar 5))) σ H6 (eV (M (ixOf N.ws u) (ixOf N.ws o))) := fun σ h1 h2 h3 => ev_ixR (ev_var h3) (hj σ h1 h2) (sq_of (hr6.row _ i1)) (rowV_get _ i2)
        refine s_when (b := !leE (M (ixOf N.ws u) (ixOf N.ws o)) (some c)) (fun H7 e7 Q q => ?_) (fun hb H7 e7 => ?_) (fun hb H7 e7 => ?_)
        · refine (show EvT _ _ H6 (nonE (M (ixOf N.ws u) (ixOf N.ws o))) from et_test (ev_isNon (hx _ rfl rfl rfl))) H7 e7 _ fun H8 e8 => ?_
          have hx := hx [some v, some (.ref Dp1), a2, some (.str u), some (.ref D), some (.str o), some (.int c), some (.str qn), some (.str wy), some (.ref (ps (ixOf N.ws u)))] rfl rfl rfl
          cases hm : M (ixOf N.ws u) (ixOf N.ws o) with
          | none =>
            rw [hm] at q
            exact q H8 e8
          | some m =>
            rw [hm] at q hx
            refine (show EvT (tTest (tOp (rI0 fun i j => .bl (decide (i < j))) (tVar 6) (tOp (rIx K) (tVar 9) (tDGet (tVar 1) (tVar 5))))) _ H6 (decide (c < m)) from et_test (ev_op (ev_var rfl) hx rv_I0)) H8 (e7.trans e8) _ fun H9 e9 => ?_
            have : decide (c < m) = !leE (some m) (some c) := by
              show decide (c < m) = !decide (m ≤ c)
              by_cases z : m ≤ c
              · rw [decide_eq_true z, decide_eq_false (by omega)]
                rfl
              · rw [decide_eq_false z, decide_eq_true (by omega)]
                rfl
            rw [this]
            exact q H9 (e8.trans e9)
        · refine s_setL (v := .int c) (j := ixOf N.ws o) ((hr6.keep e7).row _ i1) (ev_var rfl) (ev_var rfl) ((hj _ rfl rfl).mono e7) (by rw [rowV_len]; exact i2) fun H8 e8 => ?_
          have hr8 := (hr6.keep e7).keep e8
          have em : costS N.ws M (u, o, c, qn, wy) = setM M (ixOf N.ws u) (ixOf N.ws o) (some c) := by
            show setM M _ _ (if leE (M (ixOf N.ws u) (ixOf N.ws o)) (some c) = true then _ else _) = _
            rw [if_neg (by rw [Bool.not_eq_true'] at hb; rw [hb]; exact Bool.false_ne_true)]
          rw [em]
          have e68 := (e6.trans e7).trans e8
          have nw : cut B H3 H4 (ps (ixOf N.ws u)) = none := by
            refine cut_pos (fresh_back eb (hrows.newr _ i1)) ?_
            rw [rows0.row _ i1]
            exact fun z => nomatch z
          refine ⟨_, _, _, _, _, _, _, rfl, Ex.mut (eH.trans e68) (hrows.newr _ i1), Ex.mut (e.trans e68) nw, ?_, hr8.set i1 (some c)⟩
          rw [upd_ne]
          · exact e68 _ _ hk
          · intro z
            have q1 := hrows.row _ i1
            rw [← z, hk] at q1
            cases q1
        · have em : costS N.ws M (u, o, c, qn, wy) = M := by
            show setM M _ _ (if leE (M (ixOf N.ws u) (ixOf N.ws o)) (some c) = true then _ else _) = _
            rw [if_pos (by rw [Bool.not_eq_false'] at hb; exact hb)]
            funext a b
            unfold setM
            split
            · rename_i z
              rw [z.1, z.2]
            · rfl
          rw [em]
          have e67 := e6.trans e7
          exact ⟨_, _, _, _, _, _, _, rfl, eH.trans e67, e.trans e67, e67 _ _ hk, hr6.keep e7⟩
      · rintro H4 σ' H' e4 ⟨a2, a3, a5, a6, a7, a8, a9, rfl, eH, e, hk, hrows⟩
        have el : (arcsM N).take (arcsM N).length = arcsM N := List.take_length
        rw [el] at hrows
        exact ⟨_, rfl, r _ H' eH hrows.data⟩
end
end K73
end
section
set_option Elab.async false
set_option linter.all false
set_option maxRecDepth 100000
set_option maxHeartbeats 4000000
namespace K73
open PySem L2 Evl PyProof.Rows
/-! ### plain, once more: its tuples are bare (no dict), so that their methods can be called -/
def Dz (K : PySem.W.Frag) : Nat → PD → PV
  | 0, d => Dd K d
  | n + 1, .tuple ds => fun v H => ∃ a o xs, v = .ref a ∧ H a = some (.frz o (.tup xs)) ∧ o.cls = .type "tuple" ∧ o.dict = none ∧ DpAll K H xs ds ∧ ∀ (i : Nat) (x : V) (e : PD), xs[i]? = some x → ds[i]? = some e → Dz K n e x H
  | _ + 1, d => Dd K d
section
variable {K : PySem.W.Frag} {B H H1 H2 H3 : Hp} {σ : L2.St} {ta tb te : TE} {n : Nat} {d : PD} {v : V}
theorem dz_dp (h : Dz K n d v H) : Dp K H v d := by
  cases n with
  | zero => exact h
  | succ n =>
    cases d with
    | tuple ds =>
      obtain ⟨a, o, xs, rfl, h1, _, _, h2, _⟩ := h
      exact .tup (xs := xs) (.inl (.inr ⟨o, h1⟩)) h2
    | _ => exact h
theorem dz_mono : ∀ (n : Nat) (d : PD), Mon (Dz K n d)
  | 0, d => mon_dd
  | n + 1, d => by
    cases d with
    | tuple ds =>
      rintro v H H' e ⟨a, o, xs, rfl, h2, h3, h4, h1, h5⟩
      exact ⟨a, o, xs, rfl, e _ _ h2, h3, h4, dpa_mono e h1, fun i x d q1 q2 => dz_mono n d x H H' e (h5 i x d q1 q2)⟩
    | _ => exact mon_dd
/-- a list, item by item -/
def LP (K : PySem.W.Frag) (n : Nat) (gd : Nat → PV) : PV := fun v H => ∃ a vs, v = .ref a ∧ SqL K H a vs ∧ vs.length = n ∧ ∀ (i : Nat) (x : V), vs[i]? = some x → gd i x H
theorem eg_lcP {wi : TI} {g : TG} {vs : List Nat} {n : Nat} {Y : YT} (gd : Nat → PV) (hm : ∀ i, Mon (gd i)) (hi : EvI wi σ B n Y) (hn : n ≤ 100000)
    (hs : ∀ B' i x H1 H2 Q, Ex B B' → i < n → Ex B' H1 → Y B' i H1 x H2 → Ret (gd i) B' H1 Q → g x (wipe σ vs) H2 fun σ2 H3 => wipe σ2 vs = wipe σ vs ∧ te σ2 H3 Q) :
    EvG (tLc wi g tYes te vs) σ B (LP K n gd) := fun H e Q r => hi H e _ fun J H2 e2 w D hD => by
  have hB : cut B H H2 D = none := fresh_back cut_ex hD
  have eB : Ex B (cut B H H2) := ex_cut e e2
  have dm0 : Dm H (upd H2 D (.lst [])) := dm_of (e2.trans (Ex.new hD))
  refine lc_it w (fun i H' => Ex H2 H' ∧ ∃ vs, H' D = some (.lst vs) ∧ vs.length = i ∧ ∀ (j : Nat) (x : V), vs[j]? = some x → gd j x (cut (cut B H H2) (upd H2 D (.lst [])) H')) ?_ ?_ ?_ ?_
  · exact ⟨Ex.new hD, [], upd_same, rfl, fun j x h => by simp at h⟩
  · rintro i H' _ ⟨e', _⟩
    exact cut_ex.trans e'
  · rintro i x H' H'' hlt ⟨e', us, hu, hl, hp⟩ y
    have ec : Ex (cut B H H2) H' := cut_ex.trans e'
    have fin : Ret (gd i) (cut B H H2) H' fun y H4 => ∃ acc, H4 D = some (.lst acc) ∧ acc.length < sizeLine ∧ (Ex H2 (upd H4 D (.lst (acc ++ [y]))) ∧ ∃ vs, (upd H4 D (.lst (acc ++ [y]))) D = some (.lst vs) ∧ vs.length = i + 1 ∧ ∀ (j : Nat) (x : V), vs[j]? = some x → gd j x (cut (cut B H H2) (upd H2 D (.lst [])) (upd H4 D (.lst (acc ++ [y]))))) := fun y H4 e4 hy => by
      refine ⟨us, e4 D _ hu, sz_lt (by omega), Ex.mut (e'.trans e4) hD, us ++ [y], upd_same, by rw [List.length_append, hl]; rfl, fun j x hj => ?_⟩
      rw [cut_upd hB (by rw [upd_same]; exact fun z => nomatch z)]
      by_cases hji : j < us.length
      · rw [List.getElem?_append_left hji] at hj
        exact hm j _ _ _ (cut_mono e4) (hp j x hj)
      · rw [List.getElem?_append_right (by omega)] at hj
        have e0 : j - us.length = 0 := by
          have := (List.getElem?_eq_some_iff.mp hj).1
          simp at this
          omega
        rw [e0] at hj
        cases hj
        have : j = i := by omega
        subst this
        refine hm j _ _ _ (cut_dm ?_) hy
        intro a ha
        by_cases ea : a = D
        · rw [ea, hu]
          exact fun z => nomatch z
        · rw [upd_ne ea] at ha
          exact dm_of e' a ha
    exact hs (cut B H H2) i x H' H'' _ eB hlt ec y fin
  · rintro H' ⟨e', us, hu, hl, hp⟩
    refine r (.ref D) H' (e2.trans e') ⟨D, us, rfl, sq_of ?_, hl, fun j x hj => hm j _ _ _ (cut_sub rfl dm0) (hp j x hj)⟩
    rw [cut_new (fresh_back e2 hD)]
    exact hu
/-- tuple(xs), xs a list -/
abbrev rTupZ (K : PySem.W.Frag) : List V → Hp → VK → Prop := fun xs H Q => ∃ p ys, xs = [V.ref p] ∧ SqL K H p ys ∧ ∀ l o, H l = none → o.cls = .type "tuple" → o.dict = none → Q (.ref l) (upd H l (.frz o (.tup ys)))
theorem call_tuple_z {X : Cx} : CallR X (.type "tuple") (rTupZ X.K) := by
  intro pins s σ H xs us Q I r h
  obtain ⟨p, ys, rfl, hq, q⟩ := h
  obtain ⟨u, rfl, rx⟩ := vals1 r
  cases rx
  obtain ⟨its, r', pl, hz⟩ := I.list hq
  have hlen := r'.length
  refine call_tuple_list pl.isList (fun h' kp => ?_) (by simp only [List.size_toArray] <;> omega)
  have I1 : Inv X pins σ H { s with heap := h' } := I.kept (t' := s.toks) kp
  have I2 : Inv X pins σ (upd H h'.objs.size (.frz { cls := .type "tuple", data := .seq its.toArray } (.tup ys))) { s with heap := h'.push { cls := .type "tuple", data := .seq its.toArray } } :=
    I1.laid (t' := s.toks) (fun b o e => Heap.get?_push_of_some _ e) (Nat.le_refl _) (show ObjOk X.prog X.w _ _ _ (.frz { cls := .type "tuple", data := .seq its.toArray } (.tup ys)) from ⟨Heap.get?_push_size _ rfl, hz, its, r', IsTup.new _ _⟩)
  exact ⟨.ref h'.objs.size, _, I2, rfl, q _ _ (I1.hok.fresh (Nat.le_refl _)) rfl rfl⟩
theorem dpa_pw {vs : List V} {ds : List PD} (hl : vs.length = ds.length) (h : ∀ (i : Nat) (v : V) (d : PD), vs[i]? = some v → ds[i]? = some d → Dp K H v d) : DpAll K H vs ds := dpa_of hl h
theorem eg_tupleZ {m : Nat} {ds : List PD} (h : EvG ta σ B (LP K ds.length fun i => Dz K m (ds.getD i .none))) : EvG (tCB (rTupZ K) (tCons ta tNil)) σ B (Dz K (m + 1) (.tuple ds)) := fun H e Q r =>
  h.go e fun v H1 e1 eb ec ⟨a, vs, ev, sq, hl, hp⟩ => ⟨a, vs, by rw [ev], ex_l ec sq, fun l o hl1 h1 h2 => by
    have at_ : ∀ (i : Nat) (x : V) (d : PD), vs[i]? = some x → ds[i]? = some d → Dz K m d x (cut B H (upd H1 l (.frz o (.tup vs)))) := fun i x d q1 q2 => by
      have g : Dz K m (ds.getD i .none) x (cut B H H1) := hp i x q1
      rw [List.getD_eq_getElem?_getD, q2] at g
      exact dz_mono m _ _ _ _ (cut_mono (Ex.new hl1)) g
    have hc : (cut B H (upd H1 l (.frz o (.tup vs)))) l = some (.frz o (.tup vs)) := by
      rw [cut_new (fresh_back e1 hl1)]
      exact upd_same
    refine r (.ref l) _ (new_ex hl1 e1) ⟨l, o, vs, rfl, hc, h1, h2, dpa_of hl fun i x d q1 q2 => dz_dp (at_ i x d q1 q2), at_⟩⟩
/-! a method of a bare tuple -/
def tBMZ (T : String) (r : V → List V → Hp → VK → Prop) (to : TE) (t : TA) : TE := fun σ H Q => to σ H fun x H1 => (∃ p o u, x = .ref p ∧ H1 p = some (.frz o u) ∧ o.cls = .type T ∧ o.dict = none) ∧ t σ H1 fun xs H2 => r x xs H2 Q
theorem pe_bmZ {X : Cx} {o e : Expr} {es : List Expr} {to : TE} {t : TA} {name : Str} {apos cpos : Pos} {T id : String} {r : V → List V → Hp → VK → Prop} (pa : PlainAttrs T) (slot : Slot T name id) (hty : typeOf (.builtin id) = pure (.type "method_descriptor")) (hm : MtR X id r) (ho : PE X o to) (ha : PA X (e :: es) t)
    (hbase : attributeBase o name X.env (eval o X.env) = eval o X.env := by rfl)
    (hfew : ((backTo cpos (starEach (e :: es) X.env)).all (fun x => !x.1) && (backToKw cpos (keywordEach [] X.env)).all (fun x => x.1.isSome)
      && decide ((e :: es).length + ([] : List Keyword).length + (if ([] : List Keyword).isEmpty then 0 else 1) < 30)) = true := by rfl)
    (hline : (apos.endLine == cpos.line) = true := by rfl) (hs : starEach (e :: es) X.env = (false, eval e X.env) :: starEach es X.env := by rfl) (hplain : (backTo cpos (starEach es X.env)).any (·.1) = false := by rfl) :
    PE X (.Call (.Attribute o name apos) (e :: es) [] cpos) (tBMZ T r to t) := by
  refine ⟨fun pins s σ H Q I h => ?_⟩
  refine wpAny_Call_method_late hbase hfew hline rfl (thn (ho.run pins s σ H _ I h) fun v s1 ⟨x, H1, I1, r1, ty, q1⟩ => ?_)
  obtain ⟨p, ob, u, rfl, hp, hc, hd⟩ := ty
  cases (show v = Value.ref p from r1)
  have hob := (I1.hok p _ hp).1
  refine ⟨T, id, pa, slot, hty, ⟨ob, hob, hc⟩, fun a e => ?_, ?_⟩
  · cases e
    exact ⟨ob, hob, hd⟩
  have hA := ha.run cpos pins s1 σ H1 _ I1 q1
  rw [hs] at hA ⊢
  refine Calls.callWith_builtin (by show (false || (backTo cpos (starEach es X.env)).any (·.1)) = false; rw [hplain] <;> rfl) (Calls.evalArgs_plain ?_)
  exact thn hA fun us s2 ⟨vs, H2, I2, r2, q2⟩ => hm pins s2 σ H2 (.ref p) vs _ us Q I2 r1 r2 q2
end
/-! #### plain -/
def spDz (K : PySem.W.Frag) (n : Nat) : Sp := fun vs H Q _ => ∃ B x, Ex B H ∧ DpAll K B vs [x] ∧ okD n x ∧ Ret (Dz K n (plainD n x)) B H Q
section
variable {P : Program} {w : World} {K : PySem.W.Frag} {mg : Str → Option Value} {base : Heap}
theorem spDz_spD (n : Nat) (vs : List V) (H : Hp) (Q : VK) (E : XK) (h : spD K (plF n) vs H Q E) : spDz K n vs H Q E := by
  obtain ⟨B, ds, d, eb, ha, ⟨x, rfl, hx, rfl⟩, r⟩ := h
  exact ⟨B, x, eb, ha, hx, fun v H' e h => r v H' e (dz_dp h)⟩
theorem ega_one {B : Hp} {σ : L2.St} {te : TE} {d : PD} (h : EvG te σ B (Dd K d)) : EvGA (tCons te tNil) σ B (fun vs B' => DpAll K B' vs [d]) := ega_cons' h ega_nil
theorem eg_callZ {B : Hp} {σ : L2.St} {te : TE} {x : PD} {E : XK} {n : Nat} (h : EvG te σ B (Dd K x)) (ok : okD n x) : EvG (tCall (spDz K n) [] E (tCons te tNil)) σ B (Dz K n (plainD n x)) := fun H e Q r =>
  ega_one h H e _ fun vs H1 e1 q => ⟨cut B H H1, x, cut_ex, by rw [List.append_nil]; exact q, ok, r.next (dm_of e1) e1⟩
theorem plainZ_step {f : Addr} {fd : FuncData} (F : Fun K "plain" "plain" sPlain f fd) (T : Tx mg) (n : Nat) (sp : Sp) (o : Own P w K mg base CX0 n "plain" ["matter"] sp) (hsp : ∀ m, n = m + 1 → sp = spDz K m) : FnOk P w K mg base CX0 (n + 1) f fd ["matter"] (spDz K n) := by
    refine F.ok scPlain (fun vs H Q E ⟨B, x, _, a, _⟩ => by rw [dpa_len a]; rfl) (fun cdv A outer s H vs Q E hr h => ?_)
    obtain ⟨B, x, eb, ha, hx, r⟩ := h
    cases ha with
    | cons hv hn =>
      cases hn
      rename_i v
      refine ⟨_, pss_one (ps_ret (pe_ifExp (pt_val (pe_isT2 T (pv 0) T.list boot_list T.tuple boot_tuple'))
        (pe_callTy call_tuple_z (by rfl) T.tuple boot_tuple' (pa_cons (pe_lc (own := [("part", 1)]) (g := gName 1) (tt := tYes) rfl scPlain.nd (pi_seq (pv 0)) (blkOk_by (N := ["matter", "part"]) (sc := defScope sPlain) (by decide +kernel))
          (fun _ _ _ _ _ => pg_name (i := 1) scPlain.nd rfl (Or.inl rfl)) (fun _ _ _ _ _ => pts_nil) (fun _ _ _ _ _ => pe_own o hr (Nat.le_refl _) pass0 (pa_cons (pv 1) pa_nil))) pa_nil)) (pv 0))), ?_⟩
      have hv0 : EvG (tVar 0) (start ["matter", "part"] [v]) B (Dd K x) := eg_d rfl hv
      refine sg_ret (B := B) (P := Dz K n (plainD n x)) ?_ eb r
      have seq : ∀ ds : List PD, isSeq x ds → ∀ m, n = m + 1 → ds.length ≤ 100000 → (∀ y ∈ ds, okD m y) → EvG (tCB (rTupZ K) (tCons (tLc (iSeq K (tVar 0)) (gName 1) tYes (tCall sp [] E0 (tCons (tVar 1) tNil)) [1]) tNil)) (start ["matter", "part"] [v]) B (Dz K (m + 1) (.tuple (ds.map (plainD m)))) := by
        intro ds hd m en hl hy
        refine eg_tupleZ ?_
        rw [List.length_map]
        refine eg_lcP (te := tCall sp [] E0 (tCons (tVar 1) tNil)) (g := gName 1) (vs := [1]) (fun i => Dz K m ((ds.map (plainD m)).getD i .none)) (fun i => dz_mono m _) (ei_seq hv0 hd) hl ?_
        intro B' i y H1 H2 Q eB hi e1 hY rt
        obtain ⟨rfl, d, hd', hp⟩ := hY
        have hg : (ds.map (plainD m)).getD i .none = plainD m d := by rw [List.getD_eq_getElem?_getD, List.getElem?_map, hd'] <;> rfl
        rw [hg] at rt
        refine lc_name (P := Dz K m (plainD m d)) e1 rfl ?_ rt
        rw [hsp m en]
        exact eg_callZ (eg_d rfl hp) (hy d (List.mem_of_getElem? hd'))
      have imm' : (imm x).isSome = true → plainD n x = x → kitB (kindD x) "list" = some false → kitB (kindD x) "tuple" = some false → EvG (tIf (tB (tIs2 K "list" "tuple" (tVar 0))) (tCB (rTupZ K) (tCons (tLc (iSeq K (tVar 0)) (gName 1) tYes (tCall sp [] E0 (tCons (tVar 1) tNil)) [1]) tNil)) (tVar 0)) (start ["matter", "part"] [v]) B (Dz K n (plainD n x)) := fun hi e k1 k2 => by
        rw [e]
        have ez : Dz K n x = Dd K x := by
          cases n with
          | zero => rfl
          | succ n => cases x <;> first | rfl | cases hi
        rw [ez]
        exact eg_if (et_B (ev_isT2 hv0 k1 k2)) (fun z => by cases z) (fun _ => hv0) mon_dd
      cases n with
      | zero =>
        have hi : (imm x).isSome = true := hx
        have kk : kitB (kindD x) "list" = some false ∧ kitB (kindD x) "tuple" = some false := by
          cases x with
          | list _ => cases hi
          | tuple _ => cases hi
          | dict _ => cases hi
          | none => exact ⟨kNL, kNT⟩
          | bool _ => exact ⟨kBL, kBT⟩
          | int _ => exact ⟨kIL, kIT⟩
          | str _ => exact ⟨kSL, kST⟩
        exact imm' hi rfl kk.1 kk.2
      | succ m =>
        cases x with
        | list xs => exact eg_if (et_B (ev_isT2 hv0 (b1 := true) (b2 := false) kLL kLT)) (fun _ => seq xs (.inl rfl) m rfl hx.1 hx.2) (fun z => by cases z) (dz_mono _ _)
        | tuple xs => exact eg_if (et_B (ev_isT2 hv0 (b1 := false) (b2 := true) kTL kTT)) (fun _ => seq xs (.inr rfl) m rfl hx.1 hx.2) (fun z => by cases z) (dz_mono _ _)
        | none => exact imm' rfl rfl kNL kNT
        | bool b => exact imm' rfl rfl kBL kBT
        | int i => exact imm' rfl rfl kIL kIT
        | str z => exact imm' rfl rfl kSL kST
        | dict _ => cases hx
theorem ok_plainZ {f : Addr} {fd : FuncData} (F : Fun K "plain" "plain" sPlain f fd) (T : Tx mg) (hm : mg "plain" = some (.ref f)) (hb : Binds K fd ["matter"] []) : ∀ n : Nat, FnOk P w K mg base CX0 (n + 1) f fd ["matter"] (spDz K n)
  | 0 => plainZ_step F T 0 _ ⟨f, fd, fnok_false, hm, F.kp, hb⟩ fun m e => nomatch e
  | n + 1 => plainZ_step F T (n + 1) _ (own_mk F (ok_plainZ F T hm hb n) hm hb) fun m e => by
    injection e with e
    subst e
    rfl
end
end K73
end
section
set_option Elab.async false
set_option linter.all false
set_option maxRecDepth 100000
set_option maxHeartbeats 4000000
namespace K73
open PySem L2 Evl
/-! ### the graph of a NET -/
def arc3 (a : Arc) : Str × Str × Int := (a.1, a.2.1, a.2.2.1)
abbrev GL (N : NetM) : List (Str × Str × Int) := (arcsM N).map arc3
abbrev GE (N : NetM) : Str → Str → Int → Prop := ArcE (GL N)
theorem ge_iff {N : NetM} {u v : Str} {c : Int} : GE N u v c ↔ ∃ a ∈ arcsM N, a.1 = u ∧ a.2.1 = v ∧ a.2.2.1 = c := by
  constructor
  · intro h
    obtain ⟨a, ha, e⟩ := List.mem_map.mp h
    cases e
    exact ⟨a, ha, rfl, rfl, rfl⟩
  · rintro ⟨a, ha, rfl, rfl, rfl⟩
    exact List.mem_map.mpr ⟨a, ha, rfl⟩
theorem ge_sym {N : NetM} {u v : Str} {c : Int} (h : GE N u v c) : ∃ d, GE N v u d := by
  obtain ⟨a, ha, rfl, rfl, rfl⟩ := ge_iff.mp h
  obtain ⟨q, hq, hm⟩ := List.mem_flatMap.mp ha
  have hm : a = _ ∨ a ∈ [_] := List.mem_cons.mp hm
  rcases hm with rfl | hm
  · exact ⟨_, ge_iff.mpr ⟨(q.2.2.1, q.2.1, 1 - q.2.2.2.2, q.1, "against"), List.mem_flatMap.mpr ⟨q, hq, .tail _ (.head _)⟩, rfl, rfl, rfl⟩⟩
  · rw [List.mem_singleton.mp hm]
    exact ⟨_, ge_iff.mpr ⟨(q.2.1, q.2.2.1, q.2.2.2.1, q.1, "along"), List.mem_flatMap.mpr ⟨q, hq, .head _⟩, rfl, rfl, rfl⟩⟩
theorem NetOk.ge {N : NetM} (h : NetOk N) {u v : Str} {c : Int} (e : GE N u v c) : u ∈ N.ws ∧ v ∈ N.ws := by
  obtain ⟨a, ha, rfl, rfl, rfl⟩ := ge_iff.mp e
  exact h.arc ha
theorem cost_fold (ws : List Str) (L : List Arc) : ∀ M0 : Mat, (∀ a ∈ L, leE (L.foldl (costS ws) M0 (ixOf ws a.1) (ixOf ws a.2.1)) (some a.2.2.1) = true) ∧ (∀ i j, leE (L.foldl (costS ws) M0 i j) (M0 i j) = true) ∧
    ∀ i j c, L.foldl (costS ws) M0 i j = some c → M0 i j = some c ∨ ∃ a ∈ L, ixOf ws a.1 = i ∧ ixOf ws a.2.1 = j ∧ a.2.2.1 = c := by
  induction L with
  | nil => exact fun M0 => ⟨fun a h => absurd h List.not_mem_nil, fun i j => leE_refl _, fun i j c h => .inl h⟩
  | cons b L ih =>
    intro M0
    obtain ⟨h1, h2, h3⟩ := ih (costS ws M0 b)
    have down : ∀ i j, leE (costS ws M0 b i j) (M0 i j) = true := fun i j => by
      unfold costS setM
      split
      · rename_i z
        rw [z.1, z.2]
        exact minE_l _ _
      · exact leE_refl _
    have at_ : leE (costS ws M0 b (ixOf ws b.1) (ixOf ws b.2.1)) (some b.2.2.1) = true := by
      unfold costS setM
      rw [if_pos ⟨rfl, rfl⟩]
      exact minE_r _ _
    refine ⟨fun a ha => ?_, fun i j => leE_trans (h2 i j) (down i j), fun i j c h => ?_⟩
    · rcases List.mem_cons.mp ha with rfl | ha
      · exact leE_trans (h2 _ _) at_
      · exact h1 a ha
    · rcases h3 i j c h with e | ⟨a, ha, e⟩
      · unfold costS setM at e
        split at e
        · rename_i z
          rcases minE_or (M0 (ixOf ws b.1) (ixOf ws b.2.1)) (some b.2.2.1) with q | q
          · rw [q] at e
            rw [z.1, z.2]
            exact .inl e
          · rw [q] at e
            cases e
            exact .inr ⟨b, .head _, z.1.symm, z.2.symm, rfl⟩
        · exact .inl e
      · exact .inr ⟨a, .tail _ ha, e⟩
section
variable {N : NetM}
abbrev wsAt (N : NetM) (i : Nat) : Str := N.ws.getD i Str.empty
theorem ws_ix {s : Str} (h : s ∈ N.ws) : wsAt N (ixOf N.ws s) = s := by
  show N.ws.getD _ _ = s
  rw [List.getD_eq_getElem?_getD, ixOf_get h]
  rfl
theorem cost_down {u v : Str} {c : Int} (ok : NetOk N) (h : GE N u v c) : ∃ d, Edge N.ws.length (costM N) (ixOf N.ws u) (ixOf N.ws v) d ∧ d ≤ c := by
  have hm := ok.ge h
  obtain ⟨a, ha, rfl, rfl, rfl⟩ := ge_iff.mp h
  obtain ⟨d, e, l⟩ := leE_iff.mp ((cost_fold N.ws (arcsM N) fun _ _ => none).1 a ha) _ rfl
  exact ⟨d, ⟨ixOf_lt hm.1, ixOf_lt hm.2, e⟩, l⟩
theorem cost_up {i j : Nat} {c : Int} (ok : NetOk N) (h : Edge N.ws.length (costM N) i j c) : GE N (wsAt N i) (wsAt N j) c := by
  obtain ⟨_, _, e⟩ := h
  rcases (cost_fold N.ws (arcsM N) fun _ _ => none).2.2 i j c e with z | ⟨a, ha, rfl, rfl, rfl⟩
  · cases z
  · have hm := ok.arc ha
    rw [ws_ix hm.1, ws_ix hm.2]
    exact ge_iff.mpr ⟨a, ha, rfl, rfl, rfl⟩
theorem walk_down {u v : Str} {c : Int} (ok : NetOk N) (w : Wk (GE N) u v c) : ∃ d, Wk (Edge N.ws.length (costM N)) (ixOf N.ws u) (ixOf N.ws v) d ∧ d ≤ c := by
  induction w with
  | one e =>
    obtain ⟨d, e, l⟩ := cost_down ok e
    exact ⟨d, .one e, l⟩
  | snoc _ e ih =>
    obtain ⟨d, w, l⟩ := ih
    obtain ⟨d', e, l'⟩ := cost_down ok e
    exact ⟨d + d', .snoc w e, by omega⟩
theorem walk_up {i j : Nat} {c : Int} (ok : NetOk N) (w : Wk (Edge N.ws.length (costM N)) i j c) : Wk (GE N) (wsAt N i) (wsAt N j) c := w.map (wsAt N) fun _ _ _ e => .one (cost_up ok e)
theorem good_iff (ok : NetOk N) : Good (GE N) ↔ Good (Edge N.ws.length (costM N)) := by
  constructor
  · exact fun g i c w => g _ _ (walk_up ok w)
  · intro g u c w
    obtain ⟨d, w, l⟩ := walk_down ok w
    have := g _ _ w
    omega
end
/-- a PART: its NET, its doors -/
structure PartM where
  N : NetM
  ds : List Str
structure PartOk (p : PartM) : Prop where
  net : NetOk p.N
  nd : p.ds.Nodup
  mem : ∀ d ∈ p.ds, d ∈ p.N.ws
  pos : 0 < p.ds.length
def partD (p : PartM) : PD := .tuple [netD p.N, strsT p.ds]
abbrev dsAt (p : PartM) (i : Nat) : Str := p.ds.getD i Str.empty
theorem getD_get {xs : List Str} {i : Nat} (h : i < xs.length) : xs[i]? = some (xs.getD i Str.empty) := by
  rw [List.getD_eq_getElem?_getD, List.getElem?_eq_getElem h]
  rfl
theorem getD_mem {xs : List Str} {i : Nat} (h : i < xs.length) : xs.getD i Str.empty ∈ xs := List.mem_of_getElem? (getD_get h)
theorem nodup_len {a b : List Str} (nd : a.Nodup) (h : ∀ x ∈ a, x ∈ b) : a.length ≤ b.length := length_le_of_nodup a b nd h
theorem PartOk.few {p : PartM} (ok : PartOk p) : p.ds.length ≤ 60 := Nat.le_trans (nodup_len ok.nd ok.mem) ok.net.few
def doorM (p : PartM) (T : Mat) : Mat := fun i j => T (ixOf p.N.ws (dsAt p i)) (ixOf p.N.ws (dsAt p j))
/-- the table of a PART -/
def tabP (p : PartM) : Option Mat := (closeT p.N.ws.length (costM p.N)).map (doorM p)
theorem tabP_tab {p : PartM} (ok : PartOk p) : TabOf (GE p.N) p.ds.length (dsAt p) (tabP p) := by
  have t := closeT_tab (n := p.N.ws.length) (M := costM p.N)
  unfold tabP
  cases e : closeT p.N.ws.length (costM p.N) with
  | none =>
    rw [e] at t
    exact fun g => t ((good_iff ok.net).mp g)
  | some T =>
    rw [e] at t
    have hm : ∀ i, i < p.ds.length → dsAt p i ∈ p.N.ws := fun i hi => ok.mem _ (getD_mem hi)
    refine ⟨(good_iff ok.net).mpr t.good, fun i hi => t.diag _ (ixOf_lt (hm i hi)), fun i j hi hj ne => ?_⟩
    have hi' := hm i hi
    have hj' := hm j hj
    have nij : ixOf p.N.ws (dsAt p i) ≠ ixOf p.N.ws (dsAt p j) := fun z => by
      have q : dsAt p i = dsAt p j := by
        rw [← ws_ix hi', ← ws_ix hj', z]
      have g1 := getD_get hi
      have g2 := getD_get hj
      rw [show p.ds.getD i Str.empty = p.ds.getD j Str.empty from q] at g1
      exact ne (nd_ix ok.nd g1 g2)
    have d := t.dist _ _ (ixOf_lt hi') (ixOf_lt hj') nij
    refine ⟨fun c w => ?_, fun z ez => ?_⟩
    · obtain ⟨c', w', l⟩ := walk_down ok.net w
      obtain ⟨z, ez, lz⟩ := d.1 c' w'
      exact ⟨z, ez, by omega⟩
    · have := walk_up ok.net (d.2 z ez)
      rw [ws_ix hi', ws_ix hj'] at this
      exact this
theorem tabP_table {p : PartM} (ok : PartOk p) {T : Mat} (h : tabP p = some T) : TableM p.ds.length T := by
  have t := tabP_tab ok
  rw [h] at t
  exact tableM_of t fun u v c e => ge_sym e
/-! ### data of a PART, made plain -/
theorem plain_strs (n : Nat) (xs : List Str) : plainD (n + 1) (strsT xs) = strsT xs := by
  show PyData.tuple ((xs.map PyData.str).map (plainD n)) = _
  rw [List.map_map]
  congr 1
  refine List.map_congr_left fun x _ => ?_
  cases n <;> rfl
theorem plain_imm5 (n : Nat) (q : Qu) : plainD (n + 1) (quD q) = quD q := by
  cases n <;> rfl
theorem plain_net (n : Nat) (N : NetM) : plainD (n + 3) (netD N) = netD N := by
  show PyData.tuple [plainD (n + 2) (strsT N.ws), PyData.tuple ((N.qs.map quD).map (plainD (n + 1)))] = _
  rw [plain_strs, List.map_map]
  congr 3
  congr 1
  refine List.map_congr_left fun q _ => ?_
  exact plain_imm5 n q
theorem plain_part (p : PartM) : plainD 4 (partD p) = partD p := by
  show PyData.tuple [plainD 3 (netD p.N), plainD 3 (strsT p.ds)] = _
  rw [plain_net 0, plain_strs]
  rfl
theorem okD_imm {n : Nat} {d : PD} (h : (imm d).isSome = true) : okD n d := by
  cases n with
  | zero => exact h
  | succ n => cases d <;> first | exact h | cases h
theorem okD_strs (n : Nat) (xs : List Str) (h : xs.length ≤ 1000) : okD (n + 1) (strsT xs) := by
  refine ⟨by rw [List.length_map]; omega, fun x hx => ?_⟩
  obtain ⟨s, _, rfl⟩ := List.mem_map.mp hx
  exact okD_imm rfl
theorem okD_qu (n : Nat) (q : Qu) : okD (n + 1) (quD q) := by
  refine ⟨by show 5 ≤ 100000; decide, fun x hx => ?_⟩
  have hx : x ∈ [PyData.str q.1, .str q.2.1, .str q.2.2.1, .int q.2.2.2.1, .int q.2.2.2.2] := hx
  simp only [List.mem_cons, List.not_mem_nil, or_false] at hx
  rcases hx with rfl | rfl | rfl | rfl | rfl <;> exact okD_imm rfl
theorem okD_net (n : Nat) {N : NetM} (ok : NetOk N) : okD (n + 3) (netD N) := by
  refine ⟨by show 2 ≤ 100000; decide, fun x hx => ?_⟩
  have hx : x ∈ [strsT N.ws, .tuple (N.qs.map quD)] := hx
  simp only [List.mem_cons, List.not_mem_nil, or_false] at hx
  rcases hx with rfl | rfl
  · exact okD_strs _ _ (by have := ok.few; omega)
  · refine ⟨by rw [List.length_map]; have := ok.fewq; omega, fun x hx => ?_⟩
    obtain ⟨q, _, rfl⟩ := List.mem_map.mp hx
    exact okD_qu _ q
theorem okD_part {p : PartM} (ok : PartOk p) : okD 4 (partD p) := by
  refine ⟨by show 2 ≤ 100000; decide, fun x hx => ?_⟩
  have hx : x ∈ [netD p.N, strsT p.ds] := hx
  simp only [List.mem_cons, List.not_mem_nil, or_false] at hx
  rcases hx with rfl | rfl
  · exact okD_net 0 ok.net
  · exact okD_strs _ _ (by have := ok.few; omega)
theorem okD_matL (k : Nat) (M : Mat) (hk : k ≤ 1000) : okD 2 (matL k M) := by
  refine ⟨by rw [matDs_len]; omega, fun x hx => ?_⟩
  obtain ⟨j, _, rfl⟩ := List.mem_map.mp hx
  refine ⟨by rw [rowD_len]; omega, fun x hx => ?_⟩
  obtain ⟨i, _, rfl⟩ := List.mem_map.mp hx
  exact okD_imm (by rw [imm_eD]; rfl)
theorem plain_matL (k : Nat) (M : Mat) : plainD 2 (matL k M) = matT k M := by
  show PyData.tuple ((matDs k M).map (plainD 1)) = PyData.tuple (matTs k M)
  congr 1
  unfold matDs matTs
  rw [List.map_map]
  refine List.map_congr_left fun j _ => ?_
  show PyData.tuple ((rowD k (M j)).map (plainD 0)) = _
  rw [plain_row]
section
variable {P : Program} {w : World} {K : PySem.W.Frag} {mg : Str → Option Value} {base : Heap} {C p : Addr}
/-! ### table_of -/
abbrev sTo : Stmt := topS 24
abbrev nTo : List Str := ["part", "net", "doors", "rows", "door", "places", "one", "other"]
theorem scTo : FnScope nTo ["part"] (defScope sTo) := ⟨rfl, rfl, rfl, by decide +kernel, rfl, by decide +kernel, by decide +kernel⟩
def tabQ (K : PySem.W.Frag) (C : Addr) (k : Nat) (B H : Hp) (Q : VK) : Option Mat → Prop
  | some T => Ret (TabAt K C k T) B H Q
  | none => ∀ H', Ex H H' → Q .non H'
def spTO (K : PySem.W.Frag) (C : Addr) : Sp := fun vs H Q _ => ∃ B v p, Ex B H ∧ vs = [v] ∧ PartOk p ∧ Dp K B v (partD p) ∧ tabQ K C p.ds.length B H Q (tabP p)
abbrev rTIx (K : PySem.W.Frag) : V → List V → Hp → VK → Prop := fun x xs H Q => ∃ p, ∃ ys : List Str, ∃ z j, x = .ref p ∧ xs = [.str z] ∧ SqT K H p (ys.map V.str) ∧ ys[j]? = some z ∧ (∀ m, m < j → ys[m]? ≠ some z) ∧ Q (.int (j : Nat)) H
theorem kmt_tix (K : PySem.W.Frag) {X : Cx} (hK : X.K = K := by rfl) : MtR X "tuple.index" (rTIx K) := by
  subst hK
  exact mt_tup_index
theorem ixOf_first {ws : List Str} {s : Str} {m : Nat} (h : m < ixOf ws s) : ws[m]? ≠ some s := fun z => by
  have q := List.not_of_lt_findIdx h
  obtain ⟨hm, e⟩ := List.getElem?_eq_some_iff.mp z
  rw [e] at q
  simp at q
/-- t.index(x) -/
theorem ev_tix {B : Hp} {σ : L2.St} {ta tb : TE} {ws : List Str} {s : Str} {n : Nat} (h : EvG ta σ B (Dz K (n + 1) (strsT ws))) (h2 : Ev tb σ B (.str s)) (hs : s ∈ ws) : Ev (tBMZ "tuple" (rTIx K) ta (tCons tb tNil)) σ B (.int (ixOf ws s : Int)) := fun H e Q q => h.go e fun v H1 e1 eb ec p => by
  obtain ⟨a, o, xs, rfl, h3, h4, h5, hx, _⟩ := p
  have ex := dpa_strs.mp hx
  subst ex
  have sq : SqT K (cut B H H1) a (ws.map V.str) := .inl (.inr ⟨o, h3⟩)
  exact ⟨⟨a, o, _, rfl, ec _ _ h3, h4, h5⟩, h2 H1 (e.trans e1) _ fun H2 e2 => ⟨a, ws, s, ixOf ws s, rfl, rfl, ex_t (ec.trans e2) sq, ixOf_get hs, fun m hm => ixOf_first hm, q H2 (e1.trans e2)⟩⟩
theorem eg_ixZ {B : Hp} {σ : L2.St} {ta tb : TE} {ds : List PD} {e : PD} {n i : Nat} (h : EvG ta σ B (Dz K (n + 1) (.tuple ds))) (hi : Ev tb σ B (.int (i : Int))) (hg : ds[i]? = some e) : EvG (tOp (rIx K) ta tb) σ B (Dz K n e) := fun H eb Q r =>
  h.go eb fun v H1 e1 eb' ec p => hi H1 (eb.trans e1) _ fun H2 e2 => by
    obtain ⟨a, o, xs, rfl, h3, h4, h5, hx, h6⟩ := p
    have st : SqT K (cut B H H1) a xs := .inl (.inr ⟨o, h3⟩)
    have hl : xs.length = ds.length := dpa_len hx
    have hlt : i < ds.length := (List.getElem?_eq_some_iff.mp hg).1
    have hx1 : xs[i]? = some xs[i] := List.getElem?_eq_getElem (by omega)
    exact .inr (.inl ⟨a, xs, i, _, rfl, rfl, ex_t (ec.trans e2) st, atI_nat hx1, r _ H2 (e1.trans e2) (dz_mono n e _ _ _ (cut_mono e2) (h6 i _ e hx1 hg))⟩)
theorem ok_to {f fI : Addr} {fd fdI : FuncData} (F : Fun K "table_of" "table_of" sTo f fd) (T : Tx mg) (tc : TC K C p) (gC : mg "Table" = some (.ref C)) (oP : Own P w K mg base CX0 5 "plain" ["matter"] (spDz K 4))
    (GI : FnOk P w K mg base CX0 5 fI fdI ["self", "rows"] (spTI K C)) (bI : Binds K fdI ["self", "rows"] []) (M : Mk K C fI)
    (oCr : Own P w K mg base CX0 2 "cost_rows" ["net"] (spD K crF)) (oC : Own P w K mg base CX0 4 "closed_table" ["rows"] (spD K ctF)) : FnOk P w K mg base CX0 7 f fd ["part"] (spTO K C) := by
  refine F.ok scTo (fun vs H Q E ⟨B, v, p, _, e, _⟩ => by rw [e]; rfl) (fun cdv A outer s H vs Q E hr h => ?_)
  obtain ⟨B, v, q, eb, rfl, ok, hv, r⟩ := h
  refine ⟨_, pss_cons (ps_asg (pe_own oP hr (by decide) pass0 (pa_cons (pv 0) pa_nil)) (ktup K rfl (pgs_cons (pg_name (i := 1) scTo.nd rfl (Or.inr rfl)) (pgs_cons (pg_name (i := 2) scTo.nd rfl (Or.inl rfl)) pgs_nil))))
    (pss_cons (ps_set (i := 3) scTo.nd rfl (Or.inr rfl) (pe_own oC hr (by decide) pass0 (pa_cons (pe_own oCr hr (by decide) pass0 (pa_cons (pv 1) pa_nil)) pa_nil)))
    (pss_cons (ps_if (pt_cmpR op_isN (pv 3) pe_non (nomark _)) (pss_one (ps_ret pe_non)) pss_nil)
    (pss_cons (ps_set (i := 5) scTo.nd rfl (Or.inr rfl) (klc (own := [("door", 4)]) (g := gName 4) (tt := tYes) scTo.nd (kseq K (pv 2)) (by kernel_rfl) (fun _ _ _ _ _ => pg_name (i := 4) scTo.nd rfl (Or.inl rfl)) (fun _ _ _ _ _ => pts_nil)
      (fun _ _ _ _ _ => pe_bmZ PySem.F.plainAttrs_tuple PySem.F.slot_tuple_index PySem.F.type_tuple_index (kmt_tix K) (kix K (pv 1) pe_int) (pa_cons (pv 4) pa_nil))))
    (pss_one (ps_ret (pe_make M GI (hr.mono (by decide)) (by rfl) gC bI .nil pass0 (pa_cons (klc (own := [("one", 6)]) (g := gName 6) (tt := tYes) scTo.nd (kseq K (pv 5)) (by kernel_rfl) (fun _ _ _ _ _ => pg_name (i := 6) scTo.nd rfl (Or.inr rfl)) (fun _ _ _ _ _ => pts_nil)
      (fun _ _ _ _ _ => klc (own := [("other", 7)]) (g := gName 7) (tt := tYes) scTo.nd (kseq K (pv 5)) (by kernel_rfl) (fun _ _ _ _ _ => pg_name (i := 7) scTo.nd rfl (Or.inl rfl)) (fun _ _ _ _ _ => pts_nil)
        (fun _ _ _ _ _ => kix K (kix K (pv 3) (pv 6)) (pv 7)))) pa_nil))))))), ?_⟩
  -- net, doors = plain(part)
  have P0 := eg_callZ (K := K) (E := E0) (n := 4) (eg_d (i := 0) (σ := start nTo [v]) (B := B) rfl hv) (okD_part ok)
  rw [plain_part] at P0
  refine P0 H eb _ fun vp H1 e1 hp => ?_
  obtain ⟨a, o, xs, rfl, h3, h4, h5, hx, h6⟩ := hp
  have ec1 : Ex (cut B H H1) H1 := cut_ex
  have eb1 : Ex B (cut B H H1) := ex_cut eb e1
  have st : SqT K (cut B H H1) a xs := .inl (.inr ⟨o, h3⟩)
  have hl : xs.length = 2 := dpa_len hx
  obtain ⟨v1, v2, rfl⟩ : ∃ v1 v2, xs = [v1, v2] := by
    match xs, hl with
    | [x, y], _ => exact ⟨x, y, rfl⟩
  have z1 : Dz K 3 (netD q.N) v1 (cut B H H1) := h6 0 v1 _ rfl rfl
  have z2 : Dz K 3 (strsT q.ds) v2 (cut B H H1) := h6 1 v2 _ rfl rfl
  refine ⟨a, _, rfl, ex_t ec1 st, rfl, _, _, rfl, _, [], rfl, rfl, ?_⟩
  have r1 : tabQ K C q.ds.length (cut B H H1) H1 Q (tabP q) := by
    cases et : tabP q with
    | none =>
      rw [et] at r
      exact fun H' e' => r H' (e1.trans e')
    | some T =>
      rw [et] at r
      exact Ret.next r (dm_of e1) e1
  generalize cut B H H1 = B1 at eb1 ec1 z1 z2 r1
  -- rows
  have n60 := ok.net.few
  refine qg_asg (B := B1) (P := Dd K (tabD q.N.ws.length (closeT q.N.ws.length (costM q.N)))) (eg_call (ega_cons' (eg_call (F := crF) (d := matL q.N.ws.length (costM q.N)) (ega_cons' (eg_d rfl (dz_dp z1)) ega_nil) ⟨q.N, ok.net, rfl, rfl⟩) ega_nil) ⟨_, _, by omega, rfl, rfl⟩) ec1 ?_
  intro vr H2 e2 eB2 eC2 hvr
  have ew : tabP q = (closeT q.N.ws.length (costM q.N)).map (doorM q) := rfl
  cases hc : closeT q.N.ws.length (costM q.N) with
  | none =>
    rw [hc] at hvr ew
    rw [ew] at r1
    cases dp_non hvr
    exact ⟨_, rfl, rfl, true, rfl, r1 H2 e2⟩
  | some W =>
    rw [hc] at hvr ew
    have tM := tabP_table ok ew
    rw [ew] at r1
    obtain ⟨ar, xr, rfl, sqr, hxr⟩ := dp_tup hvr
    refine ⟨_, rfl, rfl, false, rfl, ?_⟩
    have r2 : Ret (TabAt K C q.ds.length (doorM q W)) (cut B1 H1 H2) H2 Q := Ret.next r1 (dm_of e2) e2
    have z1 := dz_mono _ _ _ _ _ eB2 z1
    have z2 := dp_mono eB2 (dz_dp z2)
    generalize cut B1 H1 H2 = B2 at eB2 eC2 z1 z2 r2 hvr
    -- places
    have fewd := ok.few
    have L := eg_lc (K := K) (B := B2) (σ := [some v, some v1, some v2, some (.ref ar), none, none, none, none]) (te := tBMZ "tuple" (rTIx K) (tOp (rIx K) (tVar 1) (tC (.int 0))) (tCons (tVar 4) tNil)) (wi := iSeq K (tVar 2)) (g := gName 4) (vs := [4]) (fun i => PyData.int (ixOf q.N.ws (dsAt q i) : Nat)) (ei_seq (eg_d rfl z2) (.inr rfl)) (by rw [List.length_map]; omega) (by
      intro B' i y H3 H4 Q2 eB hi e3 hY rt
      obtain ⟨rfl, d, hd', hp⟩ := hY
      cases strsT_get hd'
      cases dp_str hp
      rw [List.length_map] at hi
      refine lc_name e3 rfl (eg_imm (v := .int (ixOf q.N.ws (dsAt q i) : Nat)) (ev_tix (n := 1) (eg_ixZ (i := 0) (eg_var (i := 1) rfl (dz_mono _ _ _ _ _ eB z1) (dz_mono _ _)) ev_c rfl) (ev_var rfl) (ok.mem _ (getD_mem hi))) rfl) rt)
    rw [List.length_map] at L
    refine qg_asg (B := B2) L eC2 ?_
    intro vp H3 e3 eB3 eC3 hvp
    have r3 : Ret (TabAt K C q.ds.length (doorM q W)) (cut B2 H2 H3) H3 Q := Ret.next r2 (dm_of e3) e3
    have hvr := dp_mono eB3 hvr
    generalize cut B2 H2 H3 = B3 at eB3 eC3 hvp r3 hvr
    have ixl : ∀ i, i < q.ds.length → ixOf q.N.ws (dsAt q i) < q.N.ws.length := fun i hi => ixOf_lt (ok.mem _ (getD_mem hi))
    have plc : ∀ (B' : Hp) i (y : V) (d : PD), ((List.range q.ds.length).map fun i => PyData.int (ixOf q.N.ws (dsAt q i) : Nat))[i]? = some d → Dp K B' y d → i < q.ds.length → y = .int (ixOf q.N.ws (dsAt q i) : Nat) := fun B' i y d h1 h2 hi => by
      rw [mr_get _ hi] at h1
      cases h1
      exact dp_int h2
    have LL := eg_lc (K := K) (B := B3) (σ := [some v, some v1, some v2, some (.ref ar), none, some vp, none, none]) (te := tLc (iSeq K (tVar 5)) (gName 7) tYes (tOp (rIx K) (tOp (rIx K) (tVar 3) (tVar 6)) (tVar 7)) [7]) (wi := iSeq K (tVar 5)) (g := gName 6) (vs := [6]) (fun i => PyData.list (rowD q.ds.length (doorM q W i))) (ei_seq (eg_d rfl hvp) (.inl rfl)) (by rw [List.length_map, List.length_range]; omega) (by
      intro B' i y H4 H5 Q2 eB hi e4 hY rt
      obtain ⟨rfl, d, hd', hp⟩ := hY
      rw [List.length_map, List.length_range] at hi
      cases plc B' i y d hd' hp hi
      refine lc_name e4 rfl ?_ rt
      have L2 := eg_lc (K := K) (B := B') (σ := [some v, some v1, some v2, some (.ref ar), none, some vp, some (.int (ixOf q.N.ws (dsAt q i) : Nat)), none]) (te := tOp (rIx K) (tOp (rIx K) (tVar 3) (tVar 6)) (tVar 7)) (wi := iSeq K (tVar 5)) (g := gName 7) (vs := [7]) (fun j => eD (doorM q W i j)) (ei_seq (eg_d rfl (dp_mono eB hvp)) (.inl rfl)) (by rw [List.length_map, List.length_range]; omega) (by
        intro B'' j y H6 H7 Q3 eB2 hj e6 hY2 rt2
        obtain ⟨rfl, d2, hd2, hp2⟩ := hY2
        rw [List.length_map, List.length_range] at hj
        cases plc B'' j y d2 hd2 hp2 hj
        exact lc_name e6 rfl (eg_imm (ev_ixE (e := doorM q W i j) (eg_ix (eg_d rfl (dp_mono (eB.trans eB2) hvr)) (.inr rfl) (ev_var rfl) (matTs_get _ (ixl i hi))) (.inr rfl) (ev_var rfl) (rowD_get _ (ixl j hj))) (imm_eD _)) rt2)
      rw [List.length_map, List.length_range] at L2
      exact L2)
    rw [List.length_map, List.length_range] at LL
    exact sg_ret (eg_table (d := matL q.ds.length (doorM q W)) (n := 2) LL (by decide) (okD_matL _ _ (by omega)) (plain_matL _ _) ok.pos (by omega) tM) eC3 r3
end
end K73
end
section
set_option Elab.async false
set_option linter.all false
set_option maxRecDepth 100000
set_option maxHeartbeats 4000000
namespace K73
open PySem L2 Evl
/-! ### what is joined, plainly -/
theorem cat_len (a b : Str) : (a ++ b).length = a.length + b.length := by
  show (a.cps ++ b.cps).size = _
  rw [Array.size_append]
  rfl
theorem cat_inj {a u v : Str} (h : a ++ u = a ++ v) : u = v := by
  have e : a.cps ++ u.cps = a.cps ++ v.cps := congrArg Str.cps h
  have e2 := Array.append_right_inj a.cps |>.mp e
  cases u
  cases v
  cases e2
  rfl
def pA : Str := "a."
def pB : Str := "b."
theorem pA_len : pA.length = 2 := by decide +kernel
theorem pB_len : pB.length = 2 := by decide +kernel
theorem ab_ne (u v : Str) : pA ++ u ≠ pB ++ v := fun h => by
  have e : pA.cps ++ u.cps = pB.cps ++ v.cps := congrArg Str.cps h
  have e0 : (pA.cps ++ u.cps)[0]? = (pB.cps ++ v.cps)[0]? := by rw [e]
  rw [Array.getElem?_append_left (show 0 < pA.cps.size by decide +kernel), Array.getElem?_append_left (show 0 < pB.cps.size by decide +kernel)] at e0
  exact absurd e0 (by decide +kernel)
/-- the second part's worker, renamed -/
def nmB (ds gs : List Str) (s : Str) : Str := if s ∈ gs then pA ++ ds.getD (ixOf gs s) Str.empty else pB ++ s
def nm2 (ds gs : List Str) : Bool → Str → Str
  | true, s => pA ++ s
  | false, s => nmB ds gs s
theorem nmB_gate {ds gs : List Str} (nd : gs.Nodup) {i : Nat} (hi : i < gs.length) : nmB ds gs (gs.getD i Str.empty) = pA ++ ds.getD i Str.empty := by
  unfold nmB
  rw [if_pos (getD_mem hi), ixOf_at nd (getD_get hi)]
theorem glue_of {ds gs : List Str} (hd : ds.Nodup) (hg : gs.Nodup) (hl : ds.length = gs.length) : Glue (nm2 ds gs) (fun s i => bif s then ds.getD i Str.empty else gs.getD i Str.empty) (fun i => pA ++ ds.getD i Str.empty) ds.length := by
  have at_ : ∀ u, u ∈ gs → ∃ i, i < ds.length ∧ u = gs.getD i Str.empty ∧ nmB ds gs u = pA ++ ds.getD i Str.empty := fun u hu => by
    have h1 := ixOf_lt hu
    have e : u = gs.getD (ixOf gs u) Str.empty := by
      rw [List.getD_eq_getElem?_getD, ixOf_get hu]
      rfl
    exact ⟨ixOf gs u, by omega, e, by unfold nmB; rw [if_pos hu]⟩
  have one : ∀ i j, i < ds.length → j < ds.length → ds.getD i Str.empty = ds.getD j Str.empty → i = j := fun i j hi hj e => by
    have g1 := getD_get hi
    rw [e] at g1
    exact nd_ix hd g1 (getD_get hj)
  refine ⟨fun s u v h => ?_, fun s i hi => ?_, fun i j hi hj e => one i j hi hj (cat_inj e), fun s u v h => ?_⟩
  · cases s with
    | true => exact cat_inj h
    | false =>
      have h : nmB ds gs u = nmB ds gs v := h
      by_cases hu : u ∈ gs
      · obtain ⟨i, hi, eu, e⟩ := at_ u hu
        by_cases hv : v ∈ gs
        · obtain ⟨j, hj, ev, e'⟩ := at_ v hv
          rw [e, e'] at h
          rw [eu, ev, one i j hi hj (cat_inj h)]
        · rw [e] at h
          unfold nmB at h
          rw [if_neg hv] at h
          exact absurd h (ab_ne _ _)
      · by_cases hv : v ∈ gs
        · obtain ⟨j, hj, ev, e'⟩ := at_ v hv
          rw [e'] at h
          unfold nmB at h
          rw [if_neg hu] at h
          exact absurd h.symm (ab_ne _ _)
        · unfold nmB at h
          rw [if_neg hu, if_neg hv] at h
          exact cat_inj h
  · cases s with
    | true => rfl
    | false => exact nmB_gate hg (by omega)
  · cases s with
    | true =>
      have h : pA ++ u = nmB ds gs v := h
      by_cases hv : v ∈ gs
      · obtain ⟨j, hj, ev, e'⟩ := at_ v hv
        rw [e'] at h
        exact ⟨j, hj, cat_inj h⟩
      · unfold nmB at h
        rw [if_neg hv] at h
        exact absurd h (ab_ne _ _)
    | false =>
      have h : nmB ds gs u = pA ++ v := h
      by_cases hu : u ∈ gs
      · obtain ⟨i, hi, eu, e⟩ := at_ u hu
        exact ⟨i, hi, eu⟩
      · unfold nmB at h
        rw [if_neg hu] at h
        exact absurd h.symm (ab_ne _ _)
/-- the staff and the queues of what is joined -/
def jw (p q : PartM) : List Str := p.N.ws.map (pA ++ ·) ++ (q.N.ws.filter fun s => decide (s ∉ q.ds)).map (nmB p.ds q.ds)
def quA (u : Qu) : Qu := (pA ++ u.1, pA ++ u.2.1, pA ++ u.2.2.1, u.2.2.2.1, u.2.2.2.2)
def quB (ds gs : List Str) (u : Qu) : Qu := (pB ++ u.1, nmB ds gs u.2.1, nmB ds gs u.2.2.1, u.2.2.2.1, u.2.2.2.2)
def jq (p q : PartM) : List Qu := p.N.qs.map quA ++ q.N.qs.map (quB p.ds q.ds)
structure JoinOf (p q : PartM) (N : NetM) : Prop where
  ws : N.ws.Perm (jw p q)
  qs : N.qs.Perm (jq p q)
/-- how big a PART is -/
structure PartSz (p : PartM) (a b L : Nat) : Prop where
  w : p.N.ws.length ≤ a
  q : p.N.qs.length ≤ b
  lw : ∀ s ∈ p.N.ws, s.length ≤ L
  lq : ∀ u ∈ p.N.qs, u.1.length ≤ L
theorem mem_jw {p q : PartM} (hp : PartOk p) (hq : PartOk q) (hl : p.ds.length = q.ds.length) {s : Str} : s ∈ jw p q ↔ (∃ u ∈ p.N.ws, s = pA ++ u) ∨ ∃ u ∈ q.N.ws, s = nmB p.ds q.ds u := by
  unfold jw
  rw [List.mem_append, List.mem_map, List.mem_map]
  constructor
  · rintro (⟨u, hu, rfl⟩ | ⟨u, hu, rfl⟩)
    · exact .inl ⟨u, hu, rfl⟩
    · exact .inr ⟨u, (List.mem_filter.mp hu).1, rfl⟩
  · rintro (⟨u, hu, rfl⟩ | ⟨u, hu, rfl⟩)
    · exact .inl ⟨u, hu, rfl⟩
    · by_cases h : u ∈ q.ds
      · left
        have h1 := ixOf_lt h
        exact ⟨p.ds.getD (ixOf q.ds u) Str.empty, hp.mem _ (getD_mem (by omega)), by unfold nmB; rw [if_pos h]⟩
      · exact .inr ⟨u, List.mem_filter.mpr ⟨hu, by simpa using h⟩, rfl⟩
theorem jq_len (p q : PartM) : (jq p q).length = p.N.qs.length + q.N.qs.length := by
  unfold jq
  rw [List.length_append, List.length_map, List.length_map]
theorem jw_len (p q : PartM) : (jw p q).length ≤ p.N.ws.length + q.N.ws.length := by
  unfold jw
  rw [List.length_append, List.length_map, List.length_map]
  have := List.length_filter_le (fun s => decide (s ∉ q.ds)) q.N.ws
  omega
abbrev jP (p : PartM) (N : NetM) : PartM := ⟨N, p.ds.map (pA ++ ·)⟩
theorem jP_at (p : PartM) (N : NetM) {i : Nat} (hi : i < p.ds.length) : dsAt (jP p N) i = pA ++ p.ds.getD i Str.empty := by
  show (p.ds.map (pA ++ ·)).getD i Str.empty = _
  rw [List.getD_eq_getElem?_getD, List.getElem?_map, getD_get hi]
  rfl
section
variable {p q : PartM} {N : NetM} {a b a' b' L L' : Nat}
theorem arcs_mem {N : NetM} {x : Arc} : x ∈ arcsM N ↔ ∃ u ∈ N.qs, x ∈ arcs2 u := List.mem_flatMap
theorem join_ge (hp : PartOk p) (hq : PartOk q) (hl : p.ds.length = q.ds.length) (h : JoinOf p q N) {x y : Str} {c : Int} : GE N x y c ↔ UniE (fun s => bif s then GE p.N else GE q.N) (nm2 p.ds q.ds) x y c := by
  rw [ge_iff]
  constructor
  · rintro ⟨z, hz, rfl, rfl, rfl⟩
    obtain ⟨u, hu, hz⟩ := arcs_mem.mp hz
    have hu := h.qs.mem_iff.mp hu
    unfold jq at hu
    rcases List.mem_append.mp hu with hu | hu
    · obtain ⟨v, hv, rfl⟩ := List.mem_map.mp hu
      have hz : z = _ ∨ z ∈ [_] := List.mem_cons.mp hz
      rcases hz with rfl | hz
      · exact ⟨true, v.2.1, v.2.2.1, rfl, rfl, ge_iff.mpr ⟨(v.2.1, v.2.2.1, v.2.2.2.1, v.1, "along"), arcs_mem.mpr ⟨v, hv, .head _⟩, rfl, rfl, rfl⟩⟩
      · rw [List.mem_singleton.mp hz]
        exact ⟨true, v.2.2.1, v.2.1, rfl, rfl, ge_iff.mpr ⟨(v.2.2.1, v.2.1, 1 - v.2.2.2.2, v.1, "against"), arcs_mem.mpr ⟨v, hv, .tail _ (.head _)⟩, rfl, rfl, rfl⟩⟩
    · obtain ⟨v, hv, rfl⟩ := List.mem_map.mp hu
      have hz : z = _ ∨ z ∈ [_] := List.mem_cons.mp hz
      rcases hz with rfl | hz
      · exact ⟨false, v.2.1, v.2.2.1, rfl, rfl, ge_iff.mpr ⟨(v.2.1, v.2.2.1, v.2.2.2.1, v.1, "along"), arcs_mem.mpr ⟨v, hv, .head _⟩, rfl, rfl, rfl⟩⟩
      · rw [List.mem_singleton.mp hz]
        exact ⟨false, v.2.2.1, v.2.1, rfl, rfl, ge_iff.mpr ⟨(v.2.2.1, v.2.1, 1 - v.2.2.2.2, v.1, "against"), arcs_mem.mpr ⟨v, hv, .tail _ (.head _)⟩, rfl, rfl, rfl⟩⟩
  · rintro ⟨s, u, v, rfl, rfl, e⟩
    have hin : ∀ w, w ∈ jq p q → w ∈ N.qs := fun w hw => h.qs.mem_iff.mpr hw
    cases s with
    | true =>
      obtain ⟨z, hz, rfl, rfl, rfl⟩ := ge_iff.mp e
      obtain ⟨w, hw, hz⟩ := arcs_mem.mp hz
      have hw := hin _ (List.mem_append.mpr (.inl (List.mem_map.mpr ⟨w, hw, rfl⟩)))
      have hz : z = _ ∨ z ∈ [_] := List.mem_cons.mp hz
      rcases hz with rfl | hz
      · exact ⟨_, arcs_mem.mpr ⟨_, hw, .head _⟩, rfl, rfl, rfl⟩
      · rw [List.mem_singleton.mp hz]
        exact ⟨_, arcs_mem.mpr ⟨_, hw, .tail _ (.head _)⟩, rfl, rfl, rfl⟩
    | false =>
      obtain ⟨z, hz, rfl, rfl, rfl⟩ := ge_iff.mp e
      obtain ⟨w, hw, hz⟩ := arcs_mem.mp hz
      have hw := hin _ (List.mem_append.mpr (.inr (List.mem_map.mpr ⟨w, hw, rfl⟩)))
      have hz : z = _ ∨ z ∈ [_] := List.mem_cons.mp hz
      rcases hz with rfl | hz
      · exact ⟨_, arcs_mem.mpr ⟨_, hw, .head _⟩, rfl, rfl, rfl⟩
      · rw [List.mem_singleton.mp hz]
        exact ⟨_, arcs_mem.mpr ⟨_, hw, .tail _ (.head _)⟩, rfl, rfl, rfl⟩
theorem nmB_len (hp : PartOk p) (hl : p.ds.length = q.ds.length) (zp : PartSz p a b L) {s : Str} (hs : s.length ≤ L') : (nmB p.ds q.ds s).length ≤ max L L' + 2 := by
  unfold nmB
  split
  · rename_i h
    have h1 := ixOf_lt h
    have := zp.lw _ (hp.mem _ (getD_mem (show ixOf q.ds s < p.ds.length by omega)))
    rw [cat_len, pA_len]
    omega
  · rw [cat_len, pB_len]
    omega
theorem join_sz (hp : PartOk p) (hq : PartOk q) (hl : p.ds.length = q.ds.length) (zp : PartSz p a b L) (zq : PartSz q a' b' L') (h : JoinOf p q N) : PartSz (jP p N) (a + a') (b + b') (max L L' + 2) := by
  refine ⟨?_, ?_, fun s hs => ?_, fun u hu => ?_⟩
  · show N.ws.length ≤ _
    rw [h.ws.length_eq]
    have := jw_len p q
    have := zp.w
    have := zq.w
    omega
  · show N.qs.length ≤ _
    rw [h.qs.length_eq, jq_len]
    have := zp.q
    have := zq.q
    omega
  · rcases (mem_jw hp hq hl).mp (h.ws.mem_iff.mp hs) with ⟨u, hu, rfl⟩ | ⟨u, hu, rfl⟩
    · rw [cat_len, pA_len]
      have := zp.lw u hu
      omega
    · exact nmB_len hp hl zp (zq.lw u hu)
  · have hu := h.qs.mem_iff.mp hu
    rcases List.mem_append.mp hu with hu | hu
    · obtain ⟨v, hv, rfl⟩ := List.mem_map.mp hu
      show (pA ++ v.1).length ≤ _
      rw [cat_len, pA_len]
      have := zp.lq v hv
      omega
    · obtain ⟨v, hv, rfl⟩ := List.mem_map.mp hu
      show (pB ++ v.1).length ≤ _
      rw [cat_len, pB_len]
      have := zq.lq v hv
      omega
theorem join_ok (hp : PartOk p) (hq : PartOk q) (hl : p.ds.length = q.ds.length) (zp : PartSz p a b L) (zq : PartSz q a' b' L') (h : JoinOf p q N) (h1 : a + a' ≤ 60) (h2 : b + b' ≤ 60) : PartOk (jP p N) := by
  have sz := join_sz hp hq hl zp zq h
  have g := glue_of hp.nd hq.nd hl
  have mem : ∀ s, s ∈ N.ws ↔ s ∈ jw p q := fun s => h.ws.mem_iff
  have ndj : (jw p q).Nodup := by
    unfold jw
    rw [List.nodup_append]
    refine ⟨?_, ?_, ?_⟩
    · exact List.Pairwise.map _ (fun u v ne e => ne (cat_inj e)) hp.net.nd
    · exact List.Pairwise.map _ (fun u v ne e => ne (g.inj false u v e)) (List.Pairwise.filter _ hq.net.nd)
    · rintro x hx y hy rfl
      obtain ⟨u, _, rfl⟩ := List.mem_map.mp hx
      obtain ⟨v, hv, e⟩ := List.mem_map.mp hy
      have nv : v ∉ q.ds := by simpa using (List.mem_filter.mp hv).2
      unfold nmB at e
      rw [if_neg nv] at e
      exact ab_ne _ _ e.symm
  refine ⟨⟨h.ws.nodup_iff.mpr ndj, ?_, ?_, ?_, ?_⟩, List.Pairwise.map _ (fun u v ne e => ne (cat_inj e)) hp.nd, fun d hd => ?_, ?_⟩
  · have : pA ++ p.ds.getD 0 Str.empty ∈ N.ws := (mem _).mpr ((mem_jw hp hq hl).mpr (.inl ⟨_, hp.mem _ (getD_mem hp.pos), rfl⟩))
    exact List.length_pos_of_mem this
  · have := sz.w
    exact Nat.le_trans this (by omega)
  · have := sz.q
    exact Nat.le_trans this (by omega)
  · intro u hu
    have hu := h.qs.mem_iff.mp hu
    have key : ∀ s, (∃ u ∈ p.N.ws, s = pA ++ u) ∨ (∃ u ∈ q.N.ws, s = nmB p.ds q.ds u) → s ∈ N.ws := fun s hs => (mem s).mpr ((mem_jw hp hq hl).mpr hs)
    rcases List.mem_append.mp hu with hu | hu
    · obtain ⟨v, hv, rfl⟩ := List.mem_map.mp hu
      have e := hp.net.ends v hv
      exact ⟨key _ (.inl ⟨_, e.1, rfl⟩), key _ (.inl ⟨_, e.2, rfl⟩)⟩
    · obtain ⟨v, hv, rfl⟩ := List.mem_map.mp hu
      have e := hq.net.ends v hv
      exact ⟨key _ (.inr ⟨_, e.1, rfl⟩), key _ (.inr ⟨_, e.2, rfl⟩)⟩
  · obtain ⟨u, hu, rfl⟩ := List.mem_map.mp hd
    exact (mem _).mpr ((mem_jw hp hq hl).mpr (.inl ⟨u, hp.mem u hu, rfl⟩))
  · rw [List.length_map]
    exact hp.pos
/-- THE TABLE OF WHAT IS JOINED -/
theorem join_tab (hp : PartOk p) (hq : PartOk q) (hl : p.ds.length = q.ds.length) (zp : PartSz p a b L) (zq : PartSz q a' b' L') (h : JoinOf p q N) (h1 : a + a' ≤ 60) (h2 : b + b' ≤ 60) : EqT p.ds.length (tabP (jP p N)) (bothT p.ds.length (tabP p) (tabP q)) := by
  have ok := join_ok hp hq hl zp zq h h1 h2
  have g := glue_of hp.nd hq.nd hl
  have t1 := tabP_tab ok
  have t2 := joined_tab (E := fun s => bif s then GE p.N else GE q.N) (o := fun s => bif s then tabP p else tabP q) g (fun s => by
    cases s with
    | true => exact tabP_tab hp
    | false =>
      have := tabP_tab hq
      rw [← hl] at this
      exact this)
  have hlen : (jP p N).ds.length = p.ds.length := List.length_map _
  rw [hlen] at t1
  have t3 : TabOf (GE N) p.ds.length (dsAt (jP p N)) (bothT p.ds.length (tabP p) (tabP q)) := by
    have t4 : TabOf (GE N) p.ds.length (fun i => pA ++ p.ds.getD i Str.empty) (bothT p.ds.length (tabP p) (tabP q)) := t2.sim (fun u v c e => ⟨c, .one ((join_ge hp hq hl h).mpr e), Int.le_refl _⟩) (fun u v c e => ⟨c, .one ((join_ge hp hq hl h).mp e), Int.le_refl _⟩)
    cases hb : bothT p.ds.length (tabP p) (tabP q) with
    | none =>
      rw [hb] at t4
      exact t4
    | some W =>
      rw [hb] at t4
      refine ⟨t4.good, t4.diag, fun i j hi hj ne => ?_⟩
      rw [jP_at p N hi, jP_at p N hj]
      exact t4.dist i j hi hj ne
  exact t1.unique t3
end
end K73
end
section
set_option Elab.async false
set_option linter.all false
set_option maxRecDepth 100000
set_option maxHeartbeats 4000000
namespace K73
open PySem L2 Evl PyProof.Rows
/-! ### sorted, of texts and of queues -/
def shQ : Nat → Bool := fun i => decide (i < 3)
def rfV : Value → V
  | .ref a => .ref a
  | _ => .non
theorem rfV_refs : ∀ {xs : List V} {us : List Value}, Vals xs us → (∀ x ∈ xs, ∃ a, x = V.ref a) → xs = us.map rfV ∧ ∀ u ∈ us, ∃ a, u = Value.ref a
  | _, _, .nil, _ => ⟨rfl, fun u hu => absurd hu (by simp)⟩
  | x :: xs, _ :: us, .cons r t, h => by
    obtain ⟨a, e⟩ := h x List.mem_cons_self
    subst e
    cases r
    obtain ⟨h1, h2⟩ := rfV_refs t fun y hy => h y (List.mem_cons_of_mem _ hy)
    refine ⟨by rw [List.map_cons, ← h1] <;> rfl, fun u hu => ?_⟩
    rcases List.mem_cons.mp hu with e | hu
    · exact ⟨a, e⟩
    · exact h2 u hu
theorem rfV_vals : ∀ {us : List Value}, (∀ u ∈ us, ∃ a, u = Value.ref a) → Vals (us.map rfV) us
  | [], _ => .nil
  | u :: us, h => by
    obtain ⟨a, e⟩ := h u List.mem_cons_self
    subst e
    exact .cons (show RelV (.ref a) (.ref a) from rfl) (rfV_vals fun y hy => h y (List.mem_cons_of_mem _ hy))
theorem tupsOf_ex {h : Heap} {sh : Nat → Bool} : ∀ {vs : List Value}, (∀ v ∈ vs, ∃ f, TupOf h sh v f) → ∃ fs, TupsOf h sh vs fs
  | [], _ => ⟨[], .nil⟩
  | v :: vs, h => by
    obtain ⟨f, hf⟩ := h v List.mem_cons_self
    obtain ⟨fs, hfs⟩ := tupsOf_ex (vs := vs) fun y hy => h y (List.mem_cons_of_mem _ hy)
    exact ⟨f :: fs, .cons hf hfs⟩
theorem dpa_mem {K : PySem.W.Frag} {H : Hp} : ∀ {vs : List V} {ds : List PD}, DpAll K H vs ds → ∀ v ∈ vs, ∃ d ∈ ds, Dp K H v d
  | [], _, _, v, h => absurd h List.not_mem_nil
  | x :: vs, _, h, v, hv => by
    cases h with
    | cons h1 h2 =>
      rcases List.mem_cons.mp hv with rfl | hv
      · exact ⟨_, .head _, h1⟩
      · obtain ⟨d, hd, q⟩ := dpa_mem h2 v hv
        exact ⟨d, .tail _ hd, q⟩
def rSortQ (K : PySem.W.Frag) : List V → Hp → VK → Prop := fun vs H Q => ∃ (a : Addr) (xs : List V) (qs : List Qu), vs = [V.ref a] ∧ SqL K H a xs ∧ DpAll K H xs (qs.map quD) ∧ xs.length < 64 ∧ ∀ (ys : List V) (p : Addr), ys.Perm xs → H p = none → Q (.ref p) (upd H p (.lst ys))
theorem cr_sortQ {X : Cx} : CallR X (.builtin "sorted") (rSortQ X.K) := by
  intro pins s σ H vs us Q I r h
  obtain ⟨a, xs, qs, rfl, hs, hd, h64, q⟩ := h
  obtain ⟨its, rv, hl, hz⟩ := I.list hs
  rw [Vals.ref1 r]
  have one : ∀ x ∈ xs, ∃ (t : Addr) (u : Qu), x = .ref t ∧ SqT X.K H t [.str u.1, .str u.2.1, .str u.2.2.1, .int u.2.2.2.1, .int u.2.2.2.2] := fun x hx => by
    obtain ⟨d, hd1, hp⟩ := dpa_mem hd x hx
    obtain ⟨u, _, rfl⟩ := List.mem_map.mp hd1
    obtain ⟨t, ys, rfl, st, hys⟩ := dp_tup hp
    have e := dpa5 hys
    subst e
    exact ⟨t, u, rfl, st⟩
  obtain ⟨e1, e2⟩ := rfV_refs rv fun x m => by
    obtain ⟨t, u, e, _⟩ := one x m
    exact ⟨t, e⟩
  have raw : ∀ v ∈ its, ∃ (t : Addr) (o : Obj) (items : Array Value) (n : Nat) (x1 x2 x3 : Str) (i j : Int) (t1 t2 t3 t4 t5 : Tok), v = .ref t ∧ s.heap.get? t = some o ∧ o.cls = .type "tuple" ∧ o.data = .seq items n ∧ items.toList = [.str x1 t1, .str x2 t2, .str x3 t3, .int i t4, .int j t5] := fun v hv => by
    obtain ⟨t, rfl⟩ := e2 v hv
    have hm : V.ref t ∈ xs := by
      rw [e1]
      exact List.mem_map.mpr ⟨_, hv, rfl⟩
    obtain ⟨t', u, e, ht⟩ := one _ hm
    cases e
    obtain ⟨its', rv', ⟨o, ho, hc, n, hd'⟩, _⟩ := I.tuple ht
    cases rv' with
    | cons r1 rv' => cases rv' with
      | cons r2 rv' => cases rv' with
        | cons r3 rv' => cases rv' with
          | cons r4 rv' => cases rv' with
            | cons r5 rv' =>
              cases rv'
              obtain ⟨t1, rfl⟩ := r1
              obtain ⟨t2, rfl⟩ := r2
              obtain ⟨t3, rfl⟩ := r3
              obtain ⟨t4, rfl⟩ := r4
              obtain ⟨t5, rfl⟩ := r5
              exact ⟨t, o, _, n, u.1, u.2.1, u.2.2.1, u.2.2.2.1, u.2.2.2.2, t1, t2, t3, t4, t5, rfl, ho, hc, hd', rfl⟩
  obtain ⟨fs, hfs⟩ := tupsOf_ex (h := s.heap) (sh := shQ) (vs := its) fun v hv => by
    obtain ⟨t, o, items, n, x1, x2, x3, i, j, t1, t2, t3, t4, t5, rfl, ho, hc, hd', hi⟩ := raw v hv
    refine ⟨.str x1 t1, t, o, items, n, rfl, ho, hc, hd', ?_, (fun z => nomatch z), fun _ => ⟨_, _, rfl⟩⟩
    rw [← Array.getElem?_toList, hi]
    rfl
  refine G.sorted_tups (shape := shQ) hl.isList hfs (fun v hv => ?_) (by rw [← rv.length]; exact Nat.le_trans (Nat.le_of_lt h64) (by decide)) fun st' hp hs' _ => ?_
  · obtain ⟨t, o, items, n, x1, x2, x3, i, j, t1, t2, t3, t4, t5, rfl, ho, hc, hd', hi⟩ := raw v hv
    refine ⟨[.inr x1.cps.toList, .inr x2.cps.toList, .inr x3.cps.toList, .inl i, .inl j], ?_⟩
    unfold G.tupKeyC
    have e1 : G.isTupObj s.heap (.ref t) = true := by simp [G.isTupObj, ho, hc]
    rw [if_pos e1]
    simp only [tupKey, ho, hd', hi]
    rfl
  · generalize ho : (arrOf st').map (·.2) = out
    have hperm : out.toList.Perm its := by
      have q1 := Array.perm_iff_toList_perm.mp hp
      rw [pairsOf_toList] at q1
      have q2 := q1.map Prod.snd
      rw [List.map_snd_zip (by simp)] at q2
      rw [← ho, Array.toList_map]
      exact q2
    obtain ⟨ep, he'⟩ := PyProof.Rows.sortedAll_at s.heap its out
    have h3 : ∀ u ∈ out.toList, ∃ a, u = Value.ref a := fun u hu => e2 u (hperm.mem_iff.mp hu)
    have hp2 : (out.toList.map rfV).Perm xs := by
      rw [e1]
      exact hperm.map rfV
    have hlen : (out.toList.map rfV).length ≤ sizeLine := by
      rw [hp2.length_eq]
      exact hz
    exact ⟨.ref _, upd H (s.heap.objs.size + 1) (.lst (out.toList.map rfV)), I.laid (t' := s.toks) (fun _ _ => PyProof.Rows.sortedAll_old) (Nat.le_succ _) ⟨hlen, out.toList, ep, rfV_vals h3, he'⟩, rfl, q _ _ hp2 (I.hok.fresh (Nat.le_succ _))⟩
/-! ### a new list that may still grow -/
def del (H : Hp) (a : Addr) : Hp := fun b => if b = a then none else H b
section
variable {K : PySem.W.Frag} {B B0 H H1 H2 H3 : Hp} {σ : L2.St} {ta tb te : TE} {a : Addr} {o : HO} {d : PD} {ds es : List PD}
theorem del_ex : Ex (del H a) H := fun b o h => by
  unfold del at h
  split at h
  · cases h
  · exact h
theorem del_mono (e : Ex H H1) : Ex (del H a) (del H1 a) := fun b o h => by
  unfold del at h ⊢
  split at h
  · cases h
  · rename_i n
    rw [if_neg n]
    exact e b o h
theorem del_upd : del (upd H a o) a = del H a := by
  funext b
  unfold del
  split
  · rfl
  · rename_i n
    exact upd_ne n
def NL (K : PySem.W.Frag) (B0 : Hp) (ds : List PD) : PV := fun v H => ∃ a xs, v = .ref a ∧ H a = some (.lst xs) ∧ B0 a = none ∧ DpAll K (del H a) xs ds
theorem mon_nl : Mon (NL K B0 ds) := fun v H H' e h => by
  obtain ⟨a, xs, rfl, h1, h2, h3⟩ := h
  exact ⟨a, xs, rfl, e _ _ h1, h2, dpa_mono (del_mono e) h3⟩
theorem nl_dp {v : V} (h : NL K B0 ds v H) : Dp K H v (.list ds) := by
  obtain ⟨a, xs, rfl, h1, h2, h3⟩ := h
  exact .lst (sq_of h1) (dpa_mono del_ex h3)
theorem eg_nl (h : EvG te σ B (NL K B0 ds)) : EvG te σ B (Dd K (.list ds)) := h.imp fun v B' _ p => nl_dp p
/-- A COMPREHENSION with a test: the i-th turn gives gd i, or nothing -/
theorem eg_lcF {wi : TI} {g : TG} {tt : TT} {vs : List Nat} {n : Nat} {Y : YT} (gd : Nat → Option PD) (hi : EvI wi σ B n Y) (hn : n ≤ 100000)
    (hs : ∀ B' i x H1 H2 (Q : VK) (R : Hp → Prop), Ex B B' → i < n → Ex B' H1 → Y B' i H1 x H2 → (∀ d, gd i = some d → Ret (Dd K d) B' H1 Q) → (gd i = none → ∀ H', Ex H1 H' → R H') → g x (wipe σ vs) H2 fun σ2 H3 => wipe σ2 vs = wipe σ vs ∧ tt σ2 H3 fun b H4 => if b = true then te σ2 H4 Q else R H4) :
    EvG (tLc wi g tt te vs) σ B (NL K B ((List.range n).filterMap gd)) := fun H e Q r => hi H e _ fun J H2 e2 w D hD => by
  have hB : cut B H H2 D = none := fresh_back cut_ex hD
  have hB0 : B D = none := fresh_back (e.trans e2) hD
  have eB : Ex B (cut B H H2) := ex_cut e e2
  have dm0 : Dm H (upd H2 D (.lst [])) := dm_of (e2.trans (Ex.new hD))
  refine lc_it w (fun i H' => Ex H2 H' ∧ ∃ vs, H' D = some (.lst vs) ∧ vs.length ≤ i ∧ DpAll K (cut (cut B H H2) (upd H2 D (.lst [])) H') vs ((List.range i).filterMap gd)) ?_ ?_ ?_ ?_
  · exact ⟨Ex.new hD, [], upd_same, Nat.le_refl _, .nil⟩
  · rintro i H' _ ⟨e', _⟩
    exact cut_ex.trans e'
  · rintro i x H' H'' hlt ⟨e', us, hu, hl, hp⟩ y
    have ec : Ex (cut B H H2) H' := cut_ex.trans e'
    refine hs (cut B H H2) i x H' H'' _ _ eB hlt ec y (fun d hd y H4 e4 hy => ?_) (fun hd H4 e4 => ?_)
    · refine ⟨us, e4 D _ hu, sz_lt (by omega), Ex.mut (e'.trans e4) hD, us ++ [y], upd_same, by rw [List.length_append]; show us.length + 1 ≤ i + 1; omega, ?_⟩
      rw [cut_upd hB (by rw [upd_same]; exact fun z => nomatch z), List.range_succ, List.filterMap_append]
      have es : [i].filterMap gd = [d] := by
        rw [List.filterMap_cons_some hd]
        rfl
      rw [es]
      refine dpa_snoc (dpa_mono (cut_mono e4) hp) (dp_mono (cut_dm ?_) hy)
      intro a ha
      by_cases ea : a = D
      · rw [ea, hu]
        exact fun z => nomatch z
      · rw [upd_ne ea] at ha
        exact dm_of e' a ha
    · refine ⟨e'.trans e4, us, e4 D _ hu, by omega, ?_⟩
      rw [List.range_succ, List.filterMap_append]
      have es : [i].filterMap gd = [] := by
        rw [List.filterMap_cons_none hd]
        rfl
      rw [es, List.append_nil]
      exact dpa_mono (cut_mono e4) hp
  · rintro H' ⟨e', us, hu, hl, hp⟩
    refine r (.ref D) H' (e2.trans e') ⟨D, us, rfl, ?_, hB0, dpa_mono (fun a o h => ?_) hp⟩
    · rw [cut_new (fresh_back e2 hD)]
      exact hu
    · unfold del
      by_cases ea : a = D
      · rw [ea, cut_pos hB (by rw [upd_same]; exact fun z => nomatch z)] at h
        cases h
      · rw [if_neg ea]
        exact cut_sub rfl dm0 _ _ h
/-- xs + ys, of new lists -/
theorem eg_cat (h1 : EvG ta σ B (NL K B ds)) (h2 : ∀ B', Ex B B' → EvG tb σ B' (NL K B' es)) (hl : ds.length + es.length ≤ 100000) : EvG (tOp rCat ta tb) σ B (NL K B (ds ++ es)) := fun H e Q r => h1.go e fun v H1 e1 eb ec p => h2 _ eb H1 ec _ fun u H2 e2 q => by
  rw [cut_cut (dm_of e1)] at q
  obtain ⟨a, xs, rfl, g1, g2, g3⟩ := p
  obtain ⟨b, ys, rfl, k1, k2, k3⟩ := q
  have hl1 := dpa_len g3
  have hl2 := dpa_len k3
  refine ⟨a, b, xs, ys, rfl, rfl, (ec.trans e2) _ _ g1, cut_ex _ _ k1, sz_of (by omega), fun p hp => ?_⟩
  have hH := fresh_back (e1.trans e2) hp
  refine r (.ref p) _ (new_ex hp (e1.trans e2)) ⟨p, xs ++ ys, rfl, by rw [cut_new hH]; exact upd_same, fresh_back (e.trans (e1.trans e2)) hp, ?_⟩
  have mono2 : Ex (cut B H H2) (del (cut B H (upd H2 p (.lst (xs ++ ys)))) p) := fun x o hx => by
    have hx2 : H2 x = some o := cut_ex _ _ hx
    have ne : x ≠ p := ne_of_none hx2 hp
    unfold del
    rw [if_neg ne]
    exact cut_mono (Ex.new hp) _ _ hx
  exact dpa_app (dpa_mono ((del_ex.trans (cut_mono e2)).trans mono2) g3) (dpa_mono (del_ex.trans mono2) k3)
/-- ds in some order -/
def PmL {α : Type} (K : PySem.W.Frag) (f : α → PD) (xs : List α) : PV := fun v H => ∃ ys : List α, ys.Perm xs ∧ Dp K H v (.list (ys.map f))
def PmT {α : Type} (K : PySem.W.Frag) (f : α → PD) (xs : List α) : PV := fun v H => ∃ ys : List α, ys.Perm xs ∧ Dp K H v (.tuple (ys.map f))
theorem eg_tupP {α : Type} {f : α → PD} {xs : List α} (h : EvG ta σ B (PmL K f xs)) : EvG (tCB (rTupOf K) (tCons ta tNil)) σ B (PmT K f xs) := fun H e Q r => h.go e fun v H1 e1 eb ec ⟨ys, hy, p⟩ => by
  obtain ⟨a, xs, rfl, s, q⟩ := dp_lst p
  exact ⟨a, xs, rfl, .inl ⟨ex_l ec s, fun l hl => r (.ref l) _ (new_ex hl e1) ⟨ys, hy, .tup (xs := xs) (st_of (by rw [cut_new (fresh_back e1 hl)]; exact upd_same)) (dpa_mono (cut_mono (Ex.new hl)) q)⟩⟩⟩
theorem eg_sortS {xs : List Str} (h : EvG ta σ B (Dd K (.list (xs.map PyData.str)))) (hl : xs.length < 64) : EvG (tCB (rSortedS K) (tCons ta tNil)) σ B (PmL K PyData.str xs) := fun H e Q r => h.go e fun v H1 e1 eb ec p => by
  obtain ⟨a, ys, rfl, s, q⟩ := dp_lst p
  have ex := dpa_strs.mp q
  subst ex
  exact ⟨a, xs, rfl, ex_l ec s, hl, fun zs l hz _ hp => r (.ref l) _ (new_ex hp e1) ⟨zs, hz, .lst (xs := zs.map V.str) (sq_of (by rw [cut_new (fresh_back e1 hp)]; exact upd_same)) (dpa_strs.mpr rfl)⟩⟩
theorem dpa_perm {α : Type} {f : α → PD} {xs ys : List V} (h : ys.Perm xs) : ∀ {qs : List α}, DpAll K H xs (qs.map f) → ∃ qs' : List α, qs'.Perm qs ∧ DpAll K H ys (qs'.map f) := by
  induction h with
  | nil => exact fun {qs} h => ⟨qs, .refl _, h⟩
  | @cons x l1 l2 hp ih =>
    intro qs h
    cases qs with
    | nil => cases h
    | cons q qs =>
      cases h with
      | cons h1 h2 =>
        obtain ⟨qs', hq, h3⟩ := ih h2
        exact ⟨q :: qs', hq.cons q, .cons h1 h3⟩
  | swap x y l =>
    intro qs h
    cases qs with
    | nil => cases h
    | cons q qs =>
      cases h with
      | cons h1 h2 =>
        cases qs with
        | nil => cases h2
        | cons q2 qs =>
          cases h2 with
          | cons h2 h3 => exact ⟨q2 :: q :: qs, List.Perm.swap q q2 qs, .cons h2 (.cons h1 h3)⟩
  | trans _ _ ih1 ih2 =>
    intro qs h
    obtain ⟨q1, p1, h1⟩ := ih2 h
    obtain ⟨q2, p2, h2⟩ := ih1 h1
    exact ⟨q2, p2.trans p1, h2⟩
theorem eg_sortQ {xs : List Qu} (h : EvG ta σ B (Dd K (.list (xs.map quD)))) (hl : xs.length < 64) : EvG (tCB (rSortQ K) (tCons ta tNil)) σ B (PmL K quD xs) := fun H e Q r => h.go e fun v H1 e1 eb ec p => by
  obtain ⟨a, ys, rfl, s, q⟩ := dp_lst p
  refine ⟨a, ys, xs, rfl, ex_l ec s, dpa_mono ec q, by rw [dpa_len q, List.length_map]; exact hl, fun zs l hz hp => ?_⟩
  obtain ⟨qs', hq, h3⟩ := dpa_perm hz q
  exact r (.ref l) _ (new_ex hp e1) ⟨qs', hq, .lst (xs := zs) (sq_of (by rw [cut_new (fresh_back e1 hp)]; exact upd_same)) (dpa_mono (cut_mono (Ex.new hp)) h3)⟩
/-- texts -/
abbrev rCS : R2 := fun x y H Q => ∃ i j, x = .str i ∧ y = .str j ∧ i.length + j.length ≤ sizeLine ∧ Q (.str (i ++ j)) H
theorem ev_cat {i j : Str} (h1 : Ev ta σ B (.str i)) (h2 : Ev tb σ B (.str j)) (hl : i.length + j.length ≤ 100000) : Ev (tOp rCS ta tb) σ B (.str (i ++ j)) := fun H e Q q => h1 H e _ fun H1 e1 => h2 H1 (e.trans e1) _ fun H2 e2 => ⟨i, j, rfl, rfl, sz_of hl, q H2 (e1.trans e2)⟩
theorem inV_strs (s : Str) (gs : List Str) : inV (.str s) (gs.map V.str) = decide (s ∈ gs) := by
  unfold inV
  rw [List.any_map]
  by_cases h : s ∈ gs
  · rw [decide_eq_true h]
    exact List.any_eq_true.mpr ⟨s, h, show (s == s) = true from beq_self_eq_true s⟩
  · rw [decide_eq_false h]
    refine List.any_eq_false.mpr fun x hx z => h ?_
    have z : (x == s) = true := z
    rw [← eq_of_beq z]
    exact hx
theorem ev_notin {s : Str} {gs : List Str} (h1 : Ev ta σ B (.str s)) (h2 : EvG tb σ B (Dd K (strsT gs))) : Ev (tOp (rIn K true) ta tb) σ B (.bl (!decide (s ∈ gs))) := fun H e Q q => h1 H e _ fun H1 e1 => h2.mono mon_dd e |>.go (Ex.refl H |>.trans e1 |> fun z => z) fun v H2 e2 eb ec p => by
  obtain ⟨a, xs, rfl, st, hx⟩ := dp_tup p
  have ex := dpa_strs.mp hx
  subst ex
  refine ⟨a, _, rfl, .inr (ex_t ec st), rfl, by rw [List.all_map]; exact List.all_eq_true.mpr fun _ _ => rfl, ?_⟩
  show Q (.bl (!inV (.str s) (gs.map V.str))) H2
  rw [inV_strs]
  exact q H2 (e1.trans e2)
end
end K73
end
section
set_option Elab.async false
set_option linter.all false
set_option maxRecDepth 100000
set_option maxHeartbeats 4000000
namespace K73
open PySem L2 Evl PyProof.Rows
section
variable (K : PySem.W.Frag) {X : Cx} {e : Expr} {te : TE} {pos p : Pos}
theorem ksortS (T : Tx X.mg) (ha : PE X e te) (hK : X.K = K := by rfl) (hg : Gl X "sorted" := by rfl) (hs : starEach [e] X.env = (false, eval e X.env) :: starEach [] X.env := by rfl) (hpl : (backTo pos (starEach [] X.env)).any (·.1) = false := by rfl) :
    PE X (.Call (.Name "sorted" p) [e] [] pos) (tCB (rSortedS K) (tCons te tNil)) := by
  subst hK
  exact pe_callB cr_sortedS hg T.sorted boot_sorted (pa_cons ha pa_nil hs) (by decide) (by decide) hs hpl
theorem ksortQ (T : Tx X.mg) (ha : PE X e te) (hK : X.K = K := by rfl) (hg : Gl X "sorted" := by rfl) (hs : starEach [e] X.env = (false, eval e X.env) :: starEach [] X.env := by rfl) (hpl : (backTo pos (starEach [] X.env)).any (·.1) = false := by rfl) :
    PE X (.Call (.Name "sorted" p) [e] [] pos) (tCB (rSortQ K) (tCons te tNil)) := by
  subst hK
  exact pe_callB cr_sortQ hg T.sorted boot_sorted (pa_cons ha pa_nil hs) (by decide) (by decide) hs hpl
end
section
variable {P : Program} {w : World} {K : PySem.W.Frag} {mg : Str → Option Value} {base : Heap}
/-! ### check_doors -/
abbrev sCd : Stmt := topS 25
theorem scCd : FnScope ["part", "other"] ["part", "other"] (defScope sCd) := ⟨rfl, rfl, rfl, by decide +kernel, rfl, by decide +kernel, by decide +kernel⟩
def cdF (ds : List PD) (d : PD) : Prop := ∃ p q : PartM, p.ds.length = q.ds.length ∧ ds = [partD p, partD q] ∧ d = .none
theorem ok_cd {f : Addr} {fd : FuncData} (F : Fun K "check_doors" "check_doors" sCd f fd) (T : Tx mg) : FnOk P w K mg base CX0 1 f fd ["part", "other"] (spD K cdF) := by
  refine F.ok scCd (sp_len1 fun ds d ⟨p, q, _, e, _⟩ => by rw [e]; rfl) (fun cdv A outer s H vs Q E hr h => ?_)
  obtain ⟨B, ds, d, eb, ha, ⟨p, q, hl, rfl, rfl⟩, r⟩ := h
  cases ha with
  | cons h1 ha => cases ha with
    | cons h2 ha =>
      cases ha
      rename_i v1 v2
      refine ⟨_, pss_one (ps_if (pt_cmpR op_ne (klen K T (kix K (pv 0) pe_int)) (klen K T (kix K (pv 1) pe_int)) (nomark _)) (pss_one ps_never) pss_nil), ?_⟩
      have l1 := ev_lenD (K := K) (σ := start ["part", "other"] [v1, v2]) (B := B) (eg_ix (i := 1) (eg_d (i := 0) rfl h1) (.inr rfl) ev_c rfl) (.inr rfl)
      have l2 := ev_lenD (K := K) (σ := start ["part", "other"] [v1, v2]) (B := B) (eg_ix (i := 1) (eg_d (i := 1) rfl h2) (.inr rfl) ev_c rfl) (.inr rfl)
      rw [List.length_map] at l1 l2
      rw [← hl] at l2
      have c := et_test (ev_op l1 l2 (rv_ne rfl))
      rw [show decide (V.int (p.ds.length : Int) = V.int (p.ds.length : Int)) = true from decide_eq_true rfl] at c
      exact s_when (c.mono eb) (fun z => by cases z) fun _ H1 e1 => r .non H1 e1 .non
/-! ### joined -/
abbrev sJo : Stmt := topS 26
abbrev nJo : List Str := ["part", "other", "workers", "queues", "doors", "others", "links", "gates", "names", "worker", "door", "gate", "staff", "found", "name", "start", "end", "room", "notice"]
theorem scJo : FnScope nJo ["part", "other"] (defScope sJo) := ⟨rfl, rfl, rfl, by decide +kernel, rfl, by decide +kernel, by decide +kernel⟩
def spJo (K : PySem.W.Frag) : Sp := fun vs H Q _ => ∃ B v1 v2 p q a b L a' b' L', Ex B H ∧ vs = [v1, v2] ∧ PartOk p ∧ PartOk q ∧ p.ds.length = q.ds.length ∧ PartSz p a b L ∧ PartSz q a' b' L' ∧ a + a' ≤ 60 ∧ b + b' ≤ 60 ∧ L ≤ 1000 ∧ L' ≤ 1000 ∧ Dp K B v1 (partD p) ∧ Dp K B v2 (partD q) ∧
  ∀ N, JoinOf p q N → Ret (Dd K (netD N)) B H Q
/-- (a, b), c = a PART -/
theorem q_part {B H : Hp} {σ : L2.St} {te : TE} {tz : TS} {D : Ends} {p : PartM} {i j k : Nat} (h : EvG te σ B (Dd K (partD p))) (e : Ex B H)
    (kk : ∀ v1 v2 v3 H1, Ex H H1 → Ex B (cut B H H1) → Ex (cut B H H1) H1 → Dp K (cut B H H1) v1 (strsT p.N.ws) → Dp K (cut B H H1) v2 (.tuple (p.N.qs.map quD)) → Dp K (cut B H H1) v3 (strsT p.ds) → tz D (((σ.set i (some v1)).set j (some v2)).set k (some v3)) H1) :
    tSeq (tAsg te (gTup K 2 (gCons (gTup K 2 (gCons (gName i) (gCons (gName j) gNil))) (gCons (gName k) gNil)))) tz D σ H := h.go e fun v H1 e1 eb ec hp => by
  obtain ⟨a, xs, rfl, st, hx⟩ := dp_tup hp
  cases hx with
  | cons h1 hx => cases hx with
    | cons h3 hx =>
      cases hx
      obtain ⟨a2, ys, rfl, st2, hy⟩ := dp_tup h1
      cases hy with
      | cons h1 hy => cases hy with
        | cons h2 hy =>
          cases hy
          exact ⟨a, _, rfl, ex_t ec st, rfl, _, _, rfl, ⟨a2, _, rfl, ex_t ec st2, rfl, _, _, rfl, _, [], rfl, rfl, _, [], rfl, rfl, kk _ _ _ H1 e1 eb ec h1 h2 h3⟩⟩
def ovF (kw : Nat → Str) (vw : Nat → V) (F : Str → Option V) : Nat → Str → Option V
  | 0 => F
  | n + 1 => fun s => if s = kw n then some (vw n) else ovF kw vw F n s
theorem ovF_in {gs : List Str} (nd : gs.Nodup) (vw : Nat → V) (F : Str → Option V) {s : Str} (h : s ∈ gs) : ∀ n : Nat, n ≤ gs.length → ixOf gs s < n → ovF (fun i => gs.getD i Str.empty) vw F n s = some (vw (ixOf gs s))
  | 0, _, h => absurd h (Nat.not_lt_zero _)
  | n + 1, hn, hi => by
    show (if s = gs.getD n Str.empty then some (vw n) else ovF _ vw F n s) = _
    have hg := getD_get (show n < gs.length by omega)
    by_cases e : s = gs.getD n Str.empty
    · rw [if_pos e]
      rw [← e] at hg
      rw [ixOf_at nd hg]
    · rw [if_neg e]
      refine ovF_in nd vw F h n (by omega) ?_
      have : ixOf gs s ≠ n := fun z => e (by
        have q := ixOf_get h
        rw [z, hg] at q
        exact (Option.some.inj q).symm)
      omega
theorem ovF_out {gs : List Str} (vw : Nat → V) (F : Str → Option V) {s : Str} (h : s ∉ gs) : ∀ n : Nat, n ≤ gs.length → ovF (fun i => gs.getD i Str.empty) vw F n s = F s
  | 0, _ => rfl
  | n + 1, hn => by
    show (if s = gs.getD n Str.empty then some (vw n) else ovF _ vw F n s) = _
    rw [if_neg fun z => h (by rw [z]; exact getD_mem (by omega))]
    exact ovF_out vw F h n (by omega)
theorem fm_map {α : Type} {β : Type} (f : α → β) (xs : List α) (dflt : α) : (List.range xs.length).filterMap (fun i => some (f (xs.getD i dflt))) = xs.map f := by
  rw [← map_range f xs dflt]
  exact List.filterMap_eq_map (f := fun i => f (xs.getD i dflt)) ▸ rfl
theorem fm_filter {α : Type} {β : Type} (c : α → Bool) (f : α → β) (xs : List α) (dflt : α) : (List.range xs.length).filterMap (fun i => if c (xs.getD i dflt) = true then some (f (xs.getD i dflt)) else none) = (xs.filter c).map f := by
  have e : xs = (List.range xs.length).map fun i => xs.getD i dflt := by
    have := map_range (fun x => x) xs dflt
    rw [List.map_id'] at this
    exact this.symm
  have g : ∀ l : List α, l.filterMap (fun x => if c x = true then some (f x) else none) = (l.filter c).map f := fun l => by
    induction l with
    | nil => rfl
    | cons x l ih =>
      by_cases h : c x = true
      · rw [List.filterMap_cons_some (b := f x) (by rw [if_pos h]), List.filter_cons_of_pos h, List.map_cons, ih]
      · rw [List.filterMap_cons_none (by rw [if_neg h]), List.filter_cons_of_neg h, ih]
  rw [← g xs]
  conv => rhs; rw [e, List.filterMap_map]
  rfl
end
end K73
end
section
set_option Elab.async false
set_option linter.all false
set_option maxRecDepth 100000
set_option maxHeartbeats 8000000
namespace K73
open PySem L2 Evl PyProof.Rows
theorem kptni (K : PySem.W.Frag) {X : Cx} {a b : Expr} {ta tb : TE} {pos : Pos} (ha : PE X a ta) (hb : PE X b tb) (hK : X.K = K := by rfl) (hm : behindInMarks .NotIn b = false := by rfl) : PT X (.Compare a [.NotIn] [b] pos) (tTest (tOp (rIn K true) ta tb)) := by
  subst hK
  exact pt_cmpR op_notIn_seq ha hb hm
section
variable {P : Program} {w : World} {K : PySem.W.Frag} {mg : Str → Option Value} {base : Heap}
abbrev gQu : TG := gTup K 5 (gCons (gName 14) (gCons (gName 15) (gCons (gName 16) (gCons (gName 17) (gCons (gName 18) gNil)))))
theorem eg_qu {B : Hp} {σ : L2.St} {t1 t2 t3 t4 t5 : TE} {u : Qu} (h1 : Ev t1 σ B (.str u.1)) (h2 : Ev t2 σ B (.str u.2.1)) (h3 : Ev t3 σ B (.str u.2.2.1)) (h4 : Ev t4 σ B (.int u.2.2.2.1)) (h5 : Ev t5 σ B (.int u.2.2.2.2)) : EvG (tTup (tCons t1 (tCons t2 (tCons t3 (tCons t4 (tCons t5 tNil)))))) σ B (Dd K (quD u)) :=
  eg_tup (ds := [.str u.1, .str u.2.1, .str u.2.2.1, .int u.2.2.2.1, .int u.2.2.2.2]) (ega_cons' (eg_imm h1 rfl) (ega_cons' (eg_imm h2 rfl) (ega_cons' (eg_imm h3 rfl) (ega_cons' (eg_imm h4 rfl) (ega_cons' (eg_imm h5 rfl) ega_nil))))) (by show 5 ≤ 100000; decide)
/-- the turn's target a queue's five names -/
theorem lc_qu {B' H1 : Hp} {σ : L2.St} {x : V} {u : Qu} {R : L2.St → Hp → Prop} (e : Ex B' H1) (hp : Dp K B' x (quD u)) (k : R (((((σ.set 14 (some (.str u.1))).set 15 (some (.str u.2.1))).set 16 (some (.str u.2.2.1))).set 17 (some (.int u.2.2.2.1))).set 18 (some (.int u.2.2.2.2))) H1) : gTup K 5 (gCons (gName 14) (gCons (gName 15) (gCons (gName 16) (gCons (gName 17) (gCons (gName 18) gNil))))) x σ H1 R := by
  obtain ⟨a, xs, rfl, sx, hx⟩ := dp_tup hp
  have ex := dpa5 hx
  subst ex
  exact ⟨a, _, rfl, ex_t e sx, rfl, _, _, rfl, _, _, rfl, _, _, rfl, _, _, rfl, _, _, rfl, rfl, k⟩
theorem ok_jo {f : Addr} {fd : FuncData} (F : Fun K "joined" "joined" sJo f fd) (T : Tx mg) (oP : Own P w K mg base CX0 5 "plain" ["matter"] (spDz K 4)) (oCd : Own P w K mg base CX0 1 "check_doors" ["part", "other"] (spD K cdF)) :
    FnOk P w K mg base CX0 6 f fd ["part", "other"] (spJo K) := by
  refine F.ok scJo (fun vs H Q E ⟨B, v1, v2, p, q, a, b, L, a', b', L', _, e, _⟩ => by rw [e]; rfl) (fun cdv A outer s H vs Q E hr h => ?_)
  obtain ⟨B, v1, v2, p, q, a, b, L, a', b', L', eb, rfl, hp, hq, hl, zp, zq, hab, hab', hL, hL', d1, d2, r⟩ := h
  have hu := hu_of hr
  have five : ∀ (X : Cx) (hX : X.K = K), True := fun _ _ => trivial
  refine ⟨_, pss_cons (ps_expr (pe_own oCd hr (by decide) pass0 (pa_cons (pv 0) (pa_cons (pv 1) pa_nil))))
    (pss_cons (ps_asg (pe_own oP hr (by decide) pass0 (pa_cons (pv 0) pa_nil)) (ktup K rfl (pgs_cons (ktup K rfl (pgs_cons (pg_name (i := 2) scJo.nd rfl (Or.inl rfl)) (pgs_cons (pg_name (i := 3) scJo.nd rfl (Or.inl rfl)) pgs_nil))) (pgs_cons (pg_name (i := 4) scJo.nd rfl (Or.inl rfl)) pgs_nil))))
    (pss_cons (ps_asg (pe_own oP hr (by decide) pass0 (pa_cons (pv 1) pa_nil)) (ktup K rfl (pgs_cons (ktup K rfl (pgs_cons (pg_name (i := 5) scJo.nd rfl (Or.inl rfl)) (pgs_cons (pg_name (i := 6) scJo.nd rfl (Or.inl rfl)) pgs_nil))) (pgs_cons (pg_name (i := 7) scJo.nd rfl (Or.inr rfl)) pgs_nil))))
    (pss_cons (ps_set (i := 8) scJo.nd rfl (Or.inr rfl) (pe_dc (own := [("worker", 9)]) (g := gName 9) (tt := tYes) rfl scJo.nd (kseq K (pv 5)) (blkOk_by (by kernel_rfl)) (fun _ _ _ _ _ => pg_name (i := 9) scJo.nd rfl (Or.inl rfl)) (fun _ _ _ _ _ => pts_nil) (fun _ _ _ _ _ => pv 9) (fun _ _ _ _ _ => pe_op op_add_str pe_str (pv 9))))
    (pss_cons (ps_for PassesOwn.never rfl (kzip K T (pv 4) (pv 7)) (ktup K rfl (pgs_cons (pg_name (i := 10) scJo.nd rfl (Or.inl rfl)) (pgs_cons (pg_name (i := 11) scJo.nd rfl (Or.inl rfl)) pgs_nil)))
      (pss_one (ps_asg (pe_op op_add_str pe_str (pv 10)) (pg_sub (pv 8) (pv 11) (set_dict hu)))))
    (pss_cons (ps_set (i := 12) scJo.nd rfl (Or.inl rfl) (pe_op op_cat
      (klc (own := [("worker", 9)]) (g := gName 9) (tt := tYes) scJo.nd (kseq K (pv 2)) (by kernel_rfl) (fun _ _ _ _ _ => pg_name (i := 9) scJo.nd rfl (Or.inl rfl)) (fun _ _ _ _ _ => pts_nil) (fun _ _ _ _ _ => pe_op op_add_str pe_str (pv 9)))
      (klc (own := [("worker", 9)]) (g := gName 9) scJo.nd (kseq K (pv 5)) (by kernel_rfl) (fun _ _ _ _ _ => pg_name (i := 9) scJo.nd rfl (Or.inl rfl)) (fun _ _ _ _ _ => pts_one (kptni K (pv 9) (pv 7))) (fun _ _ _ _ _ => pe_dget hu (pv 8) (pv 9) (fun _ _ => rfl)))))
    (pss_cons (ps_setLc (i := 13) (own := [("name", 14), ("start", 15), ("end", 16), ("room", 17), ("notice", 18)]) (g := gTup K 5 (gCons (gName 14) (gCons (gName 15) (gCons (gName 16) (gCons (gName 17) (gCons (gName 18) gNil)))))) (tt := tYes) rfl scJo.nd rfl rfl (sw_true rfl rfl rfl (by decide +kernel)) (kseq K (pv 3)) (blkOk_by (by kernel_rfl))
        (fun _ _ _ _ _ => ktup K rfl (pgs_cons (pg_name (i := 14) scJo.nd rfl (Or.inl rfl)) (pgs_cons (pg_name (i := 15) scJo.nd rfl (Or.inl rfl)) (pgs_cons (pg_name (i := 16) scJo.nd rfl (Or.inl rfl)) (pgs_cons (pg_name (i := 17) scJo.nd rfl (Or.inl rfl)) (pgs_cons (pg_name (i := 18) scJo.nd rfl (Or.inl rfl)) pgs_nil)))))) (fun _ _ _ _ _ => pts_nil)
        (fun _ _ _ _ _ => pe_tup (pa_cons (pe_op op_add_str pe_str (pv 14)) (pa_cons (pe_op op_add_str pe_str (pv 15)) (pa_cons (pe_op op_add_str pe_str (pv 16)) (pa_cons (pv 17) (pa_cons (pv 18) pa_nil)))))))
    (pss_cons (ps_aug (i := 13) scJo.nd rfl (Or.inl rfl) (klc (own := [("name", 14), ("start", 15), ("end", 16), ("room", 17), ("notice", 18)]) (g := gTup K 5 (gCons (gName 14) (gCons (gName 15) (gCons (gName 16) (gCons (gName 17) (gCons (gName 18) gNil)))))) (tt := tYes) scJo.nd (kseq K (pv 6)) (by kernel_rfl)
        (fun _ _ _ _ _ => ktup K rfl (pgs_cons (pg_name (i := 14) scJo.nd rfl (Or.inl rfl)) (pgs_cons (pg_name (i := 15) scJo.nd rfl (Or.inl rfl)) (pgs_cons (pg_name (i := 16) scJo.nd rfl (Or.inl rfl)) (pgs_cons (pg_name (i := 17) scJo.nd rfl (Or.inl rfl)) (pgs_cons (pg_name (i := 18) scJo.nd rfl (Or.inl rfl)) pgs_nil)))))) (fun _ _ _ _ _ => pts_nil)
        (fun _ _ _ _ _ => pe_tup (pa_cons (pe_op op_add_str pe_str (pv 14)) (pa_cons (pe_dget hu (pv 8) (pv 15) (fun _ _ => rfl)) (pa_cons (pe_dget hu (pv 8) (pv 16) (fun _ _ => rfl)) (pa_cons (pv 17) (pa_cons (pv 18) pa_nil))))))) iop_ext)
    (pss_one (ps_ret (pe_tup (pa_cons (ktupleOf K T (ksortS K T (pv 12))) (pa_cons (ktupleOf K T (ksortQ K T (pv 13))) pa_nil)))))))))))), ?_⟩
  have zw := zp.w
  have zw' := zq.w
  have zq1 := zp.q
  have zq2 := zq.q
  have C1 : Ev (tCall (spD K cdF) [] E0 (tCons (tVar 0) (tCons (tVar 1) tNil))) (start nJo [v1, v2]) B .non := ev_imm (eg_call (d := .none) (ega_cons' (eg_d rfl d1) (ega_cons' (eg_d rfl d2) ega_nil)) ⟨p, q, hl, rfl, rfl⟩) rfl
  refine q_drop (C1.mono eb) fun H1 e1 => ?_
  have r : ∀ N, JoinOf p q N → Ret (Dd K (netD N)) (cut B H H1) H1 Q := fun N hN => (r N hN).next (dm_of e1) e1
  have eB1 : Ex B (cut B H H1) := ex_cut eb e1
  have d1 := dp_mono eB1 d1
  have d2 := dp_mono eB1 d2
  have eC1 : Ex (cut B H H1) H1 := cut_ex
  generalize cut B H H1 = B1 at r d1 d2 eC1
  -- plain(part)
  have P1 := eg_callZ (K := K) (E := E0) (n := 4) (eg_d (i := 0) (σ := start nJo [v1, v2]) (B := B1) rfl d1) (okD_part hp)
  rw [plain_part] at P1
  refine q_part (P1.imp fun v B' _ h => dz_dp h) eC1 ?_
  intro w1 w2 w3 H2 e2 eB2 eC2 m1 m2 m3
  have r : ∀ N, JoinOf p q N → Ret (Dd K (netD N)) (cut B1 H1 H2) H2 Q := fun N hN => (r N hN).next (dm_of e2) e2
  have d2 := dp_mono eB2 d2
  generalize cut B1 H1 H2 = B2 at r d2 eC2 m1 m2 m3
  have P2 := eg_callZ (K := K) (E := E0) (n := 4) (eg_d (i := 1) (σ := (((start nJo [v1, v2]).set 2 (some w1)).set 3 (some w2)).set 4 (some w3)) (B := B2) rfl d2) (okD_part hq)
  rw [plain_part] at P2
  refine q_part (P2.imp fun v B' _ h => dz_dp h) eC2 ?_
  intro x1 x2 x3 H3 e3 eB3 eC3 n1 n2 n3
  have r : ∀ N, JoinOf p q N → Ret (Dd K (netD N)) (cut B2 H2 H3) H3 Q := fun N hN => (r N hN).next (dm_of e3) e3
  have m1 := dp_mono eB3 m1
  have m2 := dp_mono eB3 m2
  have m3 := dp_mono eB3 m3
  generalize cut B2 H2 H3 = B3 at r eC3 m1 m2 m3 n1 n2 n3
  -- names
  have lB : ∀ s ∈ q.N.ws, pB.length + s.length ≤ 100000 := fun s hs => by
    have := zq.lw s hs
    rw [pB_len]
    omega
  have D1 := ed_dc (B := B3) (σ := [some v1, some v2, some w1, some w2, some w3, some x1, some x2, some x3, none, none, none, none, none, none, none, none, none, none, none]) (tk := tVar 9) (tv := tOp rCS (tC (.str pB)) (tVar 9)) (g := gName 9) (vs := [9]) (fun i => q.N.ws.getD i Str.empty) (fun i => .str (pB ++ q.N.ws.getD i Str.empty)) (ei_seq (K := K) (eg_d (i := 5) rfl n1) (.inr rfl)) (by rw [List.length_map]; omega) (by
    intro B' i x H1 H2 R eB hi e1 hY k
    obtain ⟨rfl, d, hd', hp'⟩ := hY
    rw [List.length_map] at hi
    cases strsT_get hd'
    cases dp_str hp'
    exact k _ _ rfl (Ex.refl _) (ev_var rfl) (ev_cat ev_c (ev_var rfl) (lB _ (getD_mem hi))))
  rw [List.length_map] at D1
  refine qd_asg D1 eC3 fun Dn H4 kvs nD e4 hk ht hl4 => ?_
  have hk0 := hk
  -- the doors
  have zi := ei_zip (K := K) (B := B3) (σ := [some v1, some v2, some w1, some w2, some w3, some x1, some x2, some x3, some (.ref Dn), none, none, none, none, none, none, none, none, none, none]) (ds := p.ds.map PyData.str) (es := q.ds.map PyData.str) (ega_cons' (eg_d (i := 4) rfl m3) (ega_cons' (eg_d (i := 7) rfl n3) ega_nil)) (by rw [List.length_map, List.length_map, hl])
  rw [List.length_map] at zi
  have fd := hp.few
  have nB3 : B3 Dn = none := fresh_back eC3 nD
  refine qg_for zi (eC3.trans e4) (fun H2 i σ' H' => ∃ a10 a11, σ' = [some v1, some v2, some w1, some w2, some w3, some x1, some x2, some x3, some (.ref Dn), none, a10, a11, none, none, none, none, none, none, none] ∧ Ex H3 H' ∧ Ex (cut B3 H4 H2) H' ∧ ∃ kvs, H' Dn = some (.dK kvs) ∧ Tells kvs (ovF (fun i => q.ds.getD i Str.empty) (fun i => .str (pA ++ p.ds.getD i Str.empty)) (putsF (fun i => q.N.ws.getD i Str.empty) (fun i => .str (pB ++ q.N.ws.getD i Str.empty)) q.N.ws.length) i) ∧ kvs.length ≤ q.N.ws.length + i) ?_ ?_ ?_ ?_
  · exact fun H2 e2 => ⟨none, none, rfl, e4.trans e2, cut_ex, kvs, e2 _ _ hk, ht, hl4⟩
  · rintro H2 i σ' H' e2 ⟨a10, a11, rfl, eH, e, _⟩
    exact e
  · rintro H2 i x σ' H' H'' e2 hi ⟨a10, a11, rfl, eH, e, kvs, hk, ht, hl4⟩ ⟨t, z1, z2, dd1, dd2, rfl, hT, rfl, g1, g2, p1, p2⟩
    cases strsT_get g1
    cases strsT_get g2
    cases dp_str p1
    cases dp_str p2
    refine ⟨t, _, rfl, st_of upd_same, rfl, _, _, rfl, _, [], rfl, rfl, ?_⟩
    have lA : pA.length + (p.ds.getD i Str.empty).length ≤ 100000 := by
      have := zp.lw _ (hp.mem _ (getD_mem hi))
      rw [pA_len]
      omega
    refine ev_cat (B := upd H' t (.tup [.str (p.ds.getD i Str.empty), .str (q.ds.getD i Str.empty)])) ev_c (ev_var rfl) lA _ (Ex.refl _) _ fun H6 e6 => ?_
    have e06 : Ex H' H6 := (Ex.new hT).trans e6
    refine ⟨_, rfl, _, rfl, Dn, _, rfl, DPut.k (k := Sum.inr (q.ds.getD i Str.empty)) (e06 _ _ hk) (sz_lt (by omega)), _, _, rfl, Ex.mut (eH.trans e06) nD, Ex.mut (e.trans e06) (cut_pos nB3 (by rw [(hk0 : H4 Dn = some (.dK _))]; exact fun z => nomatch z)), _, upd_same, ht.put _ _, ?_⟩
    have := length_putK kvs (Sum.inr (q.ds.getD i Str.empty) : Key) (V.str (pA ++ p.ds.getD i Str.empty))
    omega
  rintro H4' σ' H5 e4' ⟨a10, a11, rfl, e35, _, kvs5, hk5, ht5, hl5⟩
  have r : ∀ N, JoinOf p q N → Ret (Dd K (netD N)) (cut B3 H3 H5) H5 Q := fun N hN => (r N hN).next (dm_of e35) e35
  have eB5 : Ex B3 (cut B3 H3 H5) := ex_cut eC3 e35
  have eC5 : Ex (cut B3 H3 H5) H5 := cut_ex
  have hDn : (cut B3 H3 H5) Dn = some (.dK kvs5) := by
    rw [cut_new nD]
    exact hk5
  have m1 := dp_mono eB5 m1
  have m2 := dp_mono eB5 m2
  have n1 := dp_mono eB5 n1
  have n2 := dp_mono eB5 n2
  have n3 := dp_mono eB5 n3
  generalize cut B3 H3 H5 = B5 at r eB5 eC5 hDn m1 m2 n1 n2 n3
  have hF : ∀ s ∈ q.N.ws, ovF (fun i => q.ds.getD i Str.empty) (fun i => .str (pA ++ p.ds.getD i Str.empty)) (putsF (fun i => q.N.ws.getD i Str.empty) (fun i => .str (pB ++ q.N.ws.getD i Str.empty)) q.N.ws.length) p.ds.length s = some (V.str (nmB p.ds q.ds s)) := fun s hs => by
    unfold nmB
    by_cases hg : s ∈ q.ds
    · have hi := ixOf_lt hg
      rw [if_pos hg, ovF_in hq.nd _ _ hg _ (by omega) (by omega)]
    · rw [if_neg hg, ovF_out _ _ hg _ (by omega), putsF_ix hq.net.nd _ hs _ (Nat.le_refl _) (ixOf_lt hs)]
      show some (V.str (pB ++ wsAt q.N (ixOf q.N.ws s))) = _
      rw [ws_ix hs]
  have lA : ∀ s ∈ p.N.ws, pA.length + s.length ≤ 100000 := fun s hs => by
    have := zp.lw s hs
    rw [pA_len]
    omega
  -- the staff
  generalize hσ : [some v1, some v2, some w1, some w2, some w3, some x1, some x2, some x3, some (V.ref Dn), none, a10, a11, none, none, none, none, none, none, none] = σ5
  have s2 : σ5[2]? = some (some w1) := by rw [← hσ]; rfl
  have L1 : EvG (tLc (iSeq K (tVar 2)) (gName 9) tYes (tOp rCS (tC (.str pA)) (tVar 9)) [9]) σ5 B5 (NL K B5 ((p.N.ws.map (pA ++ ·)).map PyData.str)) := by
    have L := eg_lcF (K := K) (B := B5) (σ := σ5) (te := tOp rCS (tC (.str pA)) (tVar 9)) (tt := tYes) (wi := iSeq K (tVar 2)) (g := gName 9) (vs := [9]) (fun i => some (PyData.str (pA ++ p.N.ws.getD i Str.empty))) (ei_seq (eg_d s2 m1) (.inr rfl)) (by rw [List.length_map]; omega) (by
      intro B' i x H1 H2 Q R eB hi e1 hY rQ rR
      obtain ⟨rfl, d, hd', hp'⟩ := hY
      rw [List.length_map] at hi
      cases strsT_get hd'
      cases dp_str hp'
      subst hσ
      refine ⟨rfl, lc_yes ?_⟩
      exact ev_cat (B := B') ev_c (ev_var rfl) (lA _ (getD_mem hi)) _ e1 _ fun H3 e3 => rQ _ rfl _ _ e3 (.str _))
    rw [List.length_map, fm_map (fun s => PyData.str (pA ++ s))] at L
    rw [List.map_map]
    exact L
  have L2 : ∀ B', Ex B5 B' → EvG (tLc (iSeq K (tVar 5)) (gName 9) (tTest (tOp (rIn K true) (tVar 9) (tVar 7))) (tDGet (tVar 8) (tVar 9)) [9]) σ5 B' (NL K B' (((q.N.ws.filter fun s => decide (s ∉ q.ds)).map (nmB p.ds q.ds)).map PyData.str)) := fun B' eB => by
    have s5 : σ5[5]? = some (some x1) := by rw [← hσ]; rfl
    have L := eg_lcF (K := K) (B := B') (σ := σ5) (te := tDGet (tVar 8) (tVar 9)) (tt := tTest (tOp (rIn K true) (tVar 9) (tVar 7))) (wi := iSeq K (tVar 5)) (g := gName 9) (vs := [9]) (fun i => if (decide (q.N.ws.getD i Str.empty ∉ q.ds)) = true then some (PyData.str (nmB p.ds q.ds (q.N.ws.getD i Str.empty))) else none) (ei_seq (eg_d s5 (dp_mono eB n1)) (.inr rfl)) (by rw [List.length_map]; omega) (by
      intro B2 i x H1 H2 Q R eB2 hi e1 hY rQ rR
      obtain ⟨rfl, d, hd', hp'⟩ := hY
      rw [List.length_map] at hi
      cases strsT_get hd'
      cases dp_str hp'
      subst hσ
      refine ⟨rfl, ?_⟩
      have eB' := eB.trans eB2
      have c := et_test (ev_notin (K := K) (σ := [some v1, some v2, some w1, some w2, some w3, some x1, some x2, some x3, some (V.ref Dn), some (.str (q.N.ws.getD i Str.empty)), a10, a11, none, none, none, none, none, none, none]) (B := B2) (ta := tVar 9) (tb := tVar 7) (gs := q.ds) (ev_var rfl) (eg_d rfl (dp_mono eB' n3)))
      refine c _ e1 _ fun H3 e3 => ?_
      by_cases hg : q.N.ws.getD i Str.empty ∈ q.ds
      · rw [decide_eq_true hg]
        show R H3
        exact rR (if_neg (by rw [decide_eq_false (fun z => z hg)]; exact Bool.false_ne_true)) H3 e3
      · rw [decide_eq_false hg]
        show tDGet (tVar 8) (tVar 9) _ H3 Q
        exact ev_dget (B := B2) (ev_var rfl) (ev_var rfl) (eB' _ _ hDn) ht5 (hF _ (getD_mem hi)) _ (e1.trans e3) _ fun H4 e4 => rQ _ (if_pos (decide_eq_true hg)) _ _ (e3.trans e4) (.str _))
    rw [List.length_map, fm_filter (fun s => decide (s ∉ q.ds)) (fun s => PyData.str (nmB p.ds q.ds s))] at L
    rw [List.map_map]
    exact L
  have hjw := jw_len p q
  have ejw : (p.N.ws.map (pA ++ ·)).map PyData.str ++ ((q.N.ws.filter fun s => decide (s ∉ q.ds)).map (nmB p.ds q.ds)).map PyData.str = (jw p q).map PyData.str := by
    rw [← List.map_append]
    rfl
  have L12 := eg_cat L1 L2 (by
    have e := congrArg List.length ejw
    rw [List.length_append] at e
    rw [e, List.length_map]
    omega)
  rw [ejw] at L12
  refine qg_asg (B := B5) L12 eC5 ?_
  intro vst H6 e6 eB6 eC6 hst
  have hst := nl_dp hst
  have r : ∀ N, JoinOf p q N → Ret (Dd K (netD N)) (cut B5 H5 H6) H6 Q := fun N hN => (r N hN).next (dm_of e6) e6
  have m2 := dp_mono eB6 m2
  have n2 := dp_mono eB6 n2
  have hDn := eB6 _ _ hDn
  generalize cut B5 H5 H6 = B6 at r eC6 m2 n2 hst hDn
  subst hσ
  -- found
  have lqA : ∀ u ∈ p.N.qs, pA.length + u.1.length ≤ 100000 := fun u hu => by
    have := zp.lq u hu
    rw [pA_len]
    omega
  have lqB : ∀ u ∈ q.N.qs, pB.length + u.1.length ≤ 100000 := fun u hu => by
    have := zq.lq u hu
    rw [pB_len]
    omega
  have L3 := eg_lcF (K := K) (B := B6) (σ := [some v1, some v2, some w1, some w2, some w3, some x1, some x2, some x3, some (V.ref Dn), none, a10, a11, some vst, none, none, none, none, none, none]) (te := tTup (tCons (tOp rCS (tC (.str pA)) (tVar 14)) (tCons (tOp rCS (tC (.str pA)) (tVar 15)) (tCons (tOp rCS (tC (.str pA)) (tVar 16)) (tCons (tVar 17) (tCons (tVar 18) tNil)))))) (tt := tYes) (wi := iSeq K (tVar 3)) (g := gTup K 5 (gCons (gName 14) (gCons (gName 15) (gCons (gName 16) (gCons (gName 17) (gCons (gName 18) gNil)))))) (vs := [14, 15, 16, 17, 18]) (fun i => some (quD (quA (p.N.qs.getD i (Str.empty, Str.empty, Str.empty, 0, 0))))) (ei_seq (eg_d (i := 3) rfl m2) (.inr rfl)) (by rw [List.length_map]; omega) (by
    intro B' i x H1 H2 Q R eB hi e1 hY rQ rR
    obtain ⟨rfl, d, hd', hp'⟩ := hY
    rw [List.length_map] at hi
    rw [List.getElem?_map] at hd'
    obtain ⟨u, hu1, hu2⟩ := Option.map_eq_some_iff.mp hd'
    subst hu2
    have hu := List.mem_of_getElem? hu1
    have eu : p.N.qs.getD i (Str.empty, Str.empty, Str.empty, 0, 0) = u := by rw [List.getD_eq_getElem?_getD, hu1]; rfl
    rw [eu] at rQ
    have hends := hp.net.ends u hu
    refine lc_qu e1 hp' ⟨rfl, lc_yes ?_⟩
    exact eg_qu (K := K) (u := quA u) (ev_cat ev_c (ev_var rfl) (lqA u hu)) (ev_cat ev_c (ev_var rfl) (lA _ hends.1)) (ev_cat ev_c (ev_var rfl) (lA _ hends.2)) (ev_var rfl) (ev_var rfl) _ e1 _ (rQ _ rfl))
  rw [List.length_map, fm_map (fun u => quD (quA u))] at L3
  refine qg_asg (B := B6) L3 eC6 ?_
  intro vf H7 e7 eB7 eC7 hf
  obtain ⟨af, xs, rfl, g1, g2, g3⟩ := hf
  have hH6 : H6 af = none := by
    cases hz : H6 af with
    | none => rfl
    | some o =>
      rw [cut_pos g2 (by rw [hz]; exact fun z => nomatch z)] at g1
      cases g1
  -- found += ..
  have L4 := eg_lcF (K := K) (B := B6) (σ := [some v1, some v2, some w1, some w2, some w3, some x1, some x2, some x3, some (V.ref Dn), none, a10, a11, some vst, some (.ref af), none, none, none, none, none]) (te := tTup (tCons (tOp rCS (tC (.str pB)) (tVar 14)) (tCons (tDGet (tVar 8) (tVar 15)) (tCons (tDGet (tVar 8) (tVar 16)) (tCons (tVar 17) (tCons (tVar 18) tNil)))))) (tt := tYes) (wi := iSeq K (tVar 6)) (g := gTup K 5 (gCons (gName 14) (gCons (gName 15) (gCons (gName 16) (gCons (gName 17) (gCons (gName 18) gNil)))))) (vs := [14, 15, 16, 17, 18]) (fun i => some (quD (quB p.ds q.ds (q.N.qs.getD i (Str.empty, Str.empty, Str.empty, 0, 0))))) (ei_seq (eg_d (i := 6) rfl n2) (.inr rfl)) (by rw [List.length_map]; omega) (by
    intro B' i x H1 H2 Q R eB hi e1 hY rQ rR
    obtain ⟨rfl, d, hd', hp'⟩ := hY
    rw [List.length_map] at hi
    rw [List.getElem?_map] at hd'
    obtain ⟨u, hu1, hu2⟩ := Option.map_eq_some_iff.mp hd'
    subst hu2
    have hu := List.mem_of_getElem? hu1
    have eu : q.N.qs.getD i (Str.empty, Str.empty, Str.empty, 0, 0) = u := by rw [List.getD_eq_getElem?_getD, hu1]; rfl
    rw [eu] at rQ
    have hends := hq.net.ends u hu
    refine lc_qu e1 hp' ⟨rfl, lc_yes ?_⟩
    exact eg_qu (K := K) (u := quB p.ds q.ds u) (ev_cat ev_c (ev_var rfl) (lqB u hu)) (ev_dget (ev_var rfl) (ev_var rfl) (eB _ _ hDn) ht5 (hF _ hends.1)) (ev_dget (ev_var rfl) (ev_var rfl) (eB _ _ hDn) ht5 (hF _ hends.2)) (ev_var rfl) (ev_var rfl) _ e1 _ (rQ _ rfl))
  rw [List.length_map, fm_map (fun u => quD (quB p.ds q.ds u))] at L4
  refine ⟨.ref af, rfl, ?_⟩
  refine L4 H7 (eC6.trans e7) _ fun u H8 e8 hy => ?_
  obtain ⟨ag, ys, rfl, k1, k2, k3⟩ := hy
  have l1 := dpa_len g3
  have l2 := dpa_len k3
  rw [List.length_map] at l1 l2
  have h7 : H7 af = some (.lst xs) := cut_ex _ _ g1
  have nag : (cut B6 H7 H8) af = none := cut_pos g2 (by rw [h7]; exact fun z => nomatch z)
  refine ⟨af, ag, xs, ys, rfl, rfl, e8 _ _ h7, cut_ex _ _ k1, sz_of (by omega), ?_⟩
  have e68 : Ex H6 (upd H8 af (.lst (xs ++ ys))) := Ex.mut (e7.trans e8) hH6
  have r : ∀ N, JoinOf p q N → Ret (Dd K (netD N)) (cut B6 H6 (upd H8 af (.lst (xs ++ ys)))) (upd H8 af (.lst (xs ++ ys))) Q := fun N hN => (r N hN).next (dm_of e68) e68
  have hst := dp_mono (ex_cut eC6 e68) hst
  have cne : ∀ x, x ≠ af → cut B6 H6 (upd H8 af (.lst (xs ++ ys))) x = cut B6 H6 H8 x := fun x hx => by
    unfold cut
    rw [upd_ne hx]
  have hfo : Dp K (cut B6 H6 (upd H8 af (.lst (xs ++ ys)))) (.ref af) (.list ((jq p q).map quD)) := by
    have ej : (jq p q).map quD = (p.N.qs.map fun u => quD (quA u)) ++ q.N.qs.map fun u => quD (quB p.ds q.ds u) := by
      unfold jq
      rw [List.map_append, List.map_map, List.map_map]
      rfl
    rw [ej]
    refine .lst (xs := xs ++ ys) (sq_of (by rw [cut_new hH6]; exact upd_same)) (dpa_app (dpa_mono (fun x o hx => ?_) g3) (dpa_mono (fun x o hx => ?_) k3))
    · unfold del at hx
      split at hx
      · cases hx
      · rename_i ne
        rw [cne x ne]
        exact cut_mono e8 _ _ hx
    · have hx := del_ex _ _ hx
      have ne : x ≠ af := ne_of_none hx nag
      rw [cne x ne]
      exact cut_dm (dm_of e7) _ _ hx
  have eC8 : Ex (cut B6 H6 (upd H8 af (.lst (xs ++ ys)))) (upd H8 af (.lst (xs ++ ys))) := cut_ex
  generalize upd H8 af (.lst (xs ++ ys)) = H9 at r hst hfo eC8
  generalize cut B6 H6 H9 = B9 at r hst hfo eC8
  -- the return
  have S1 := eg_tupP (eg_sortS (K := K) (B := B9) (σ := [some v1, some v2, some w1, some w2, some w3, some x1, some x2, some x3, some (V.ref Dn), none, a10, a11, some vst, some (.ref af), none, none, none, none, none]) (ta := tVar 12) (xs := jw p q) (eg_d rfl hst) (by omega))
  have S2 : ∀ B', Ex B9 B' → EvG _ _ B' (PmT K quD (jq p q)) := fun B' eB => eg_tupP (eg_sortQ (K := K) (B := B') (σ := [some v1, some v2, some w1, some w2, some w3, some x1, some x2, some x3, some (V.ref Dn), none, a10, a11, some vst, some (.ref af), none, none, none, none, none]) (ta := tVar 13) (xs := jq p q) (eg_d rfl (dp_mono eB hfo)) (by rw [jq_len]; omega))
  refine S1.go eC8 fun v H10 e10 eb10 ec10 ⟨ws, pw, dw⟩ => ?_
  refine (S2 _ eb10).go ec10 fun u H11 e11 eb11 ec11 ⟨qs, pq, dq⟩ => ?_
  rw [cut_cut (dm_of e10)] at dq
  refine ⟨by show 2 ≤ sizeLine; decide, fun l hl => ?_⟩
  have e911 := e10.trans e11
  refine r ⟨ws, qs⟩ ⟨pw, pq⟩ (.ref l) _ (new_ex hl e911) (.tup (xs := [v, u]) (st_of (by rw [cut_new (fresh_back e911 hl)]; exact upd_same)) (.cons (dp_mono ((cut_mono e11).trans (cut_mono (Ex.new hl))) dw) (.cons (dp_mono (cut_mono (Ex.new hl)) dq) .nil)))
end
end K73
end
section
set_option Elab.async false
set_option linter.all false
set_option maxRecDepth 100000
set_option maxHeartbeats 8000000
namespace K73
open PySem L2 Evl PyProof.Rows
/-! ### ring_at -/
abbrev rLenDk : List V → Hp → VK → Prop := fun xs H Q => ∃ (a : Addr) (kvs : List (Key × V)), xs = [.ref a] ∧ H a = some (.dK kvs) ∧ Q (.int kvs.length) H
theorem cr_lenDk {X : Cx} : CallR X (.builtin "len") rLenDk := by
  intro pins s σ H xs us Q I r h
  obtain ⟨a, kvs, rfl, ha, q⟩ := h
  obtain rfl := Vals.ref1 r
  exact d_len I (.inl ha) fun t s' I' => ⟨.int kvs.length, H, I', ⟨_, rfl⟩, q⟩
theorem klenDk {X : Cx} {e : Expr} {te : TE} {pos p : Pos} (T : Tx X.mg) (ha : PE X e te) (hg : Gl X "len" := by rfl) (hs : starEach [e] X.env = (false, eval e X.env) :: starEach [] X.env := by rfl) (hpl : (backTo pos (starEach [] X.env)).any (·.1) = false := by rfl) :
    PE X (.Call (.Name "len" p) [e] [] pos) (tCB rLenDk (tCons te tNil)) := pe_callB cr_lenDk hg T.len PySem.boot_len (pa_cons ha pa_nil hs) (by decide) (by decide) hs hpl
section
variable {P : Program} {w : World} {K : PySem.W.Frag} {mg : Str → Option Value} {base : Heap}
theorem ev_ixU {B : Hp} {σ : L2.St} {ta tb : TE} {a : Addr} {xs : List V} {i : Nat} {v : V} (h : Ev ta σ B (.ref a)) (hi : Ev tb σ B (.int (i : Int))) (ha : SqT K B a xs) (hg : xs[i]? = some v) : Ev (tOp (rIx K) ta tb) σ B v := fun H e Q q =>
  h H e _ fun H1 e1 => hi H1 (e.trans e1) _ fun H2 e2 => .inr (.inl ⟨a, xs, i, v, rfl, rfl, ex_t ((e.trans e1).trans e2) ha, atI_nat hg, q H2 (e1.trans e2)⟩)
abbrev sRa : Stmt := topS 28
abbrev nRa : List Str := ["came", "worker", "at", "turn", "first", "steps"]
theorem scRa : FnScope nRa ["came", "worker"] (defScope sRa) := ⟨rfl, rfl, rfl, by decide +kernel, rfl, by decide +kernel, by decide +kernel⟩
def spRa (K : PySem.W.Frag) : Sp := fun vs H Q _ => ∃ (D : Addr) (u : Str) (kvs : List (Key × V)) (p : Nat → Str) (d : Nat), vs = [.ref D, .str u] ∧ H D = some (.dK kvs) ∧ p 0 = u ∧ (∀ m, ∃ a x, valV kvs (Sum.inr (p m)) = some (.ref a) ∧ SqT K H a [.str (p (m + 1)), x]) ∧
  kvs.length ≤ 90000 ∧ 1 ≤ d ∧ d ≤ 90000 ∧ p (kvs.length + d) = p kvs.length ∧ ∀ l H', Ex H H' → Q (.ref l) H'
theorem ok_ra {f : Addr} {fd : FuncData} (F : Fun K "ring_at" "ring_at" sRa f fd) (T : Tx mg) : FnOk P w K mg base CX0 1 f fd ["came", "worker"] (spRa K) := by
  refine F.ok scRa (fun vs H Q E ⟨D, u, kvs, p, d, e, _⟩ => by rw [e]; rfl) (fun cdv A outer s H vs Q E hr h => ?_)
  obtain ⟨D, u, kvs, p, d, rfl, hD, rfl, hc, hk, hd1, hd2, hp, r⟩ := h
  have hu := hu_of hr
  refine ⟨_, pss_cons (ps_set (i := 2) scRa.nd rfl (Or.inl rfl) (pv 1))
    (pss_cons (ps_for PassesOwn.never rfl (krange T (klenDk T (pv 0))) (pg_name (i := 3) scRa.nd rfl (Or.inl rfl)) (pss_one (ps_set (i := 2) scRa.nd rfl (Or.inl rfl) (kix K (pe_dget hu (pv 0) (pv 2) (fun _ _ => rfl)) pe_int))))
    (pss_cons (ps_par (i := 4) (j := 5) rfl scRa.nd rfl rfl (by decide) rfl rfl (pa_cons (pv 2) (pa_cons (pe_lst (pa_cons (kix K (pe_dget hu (pv 0) (pv 2) (fun _ _ => rfl)) pe_int) pa_nil)) pa_nil)) rfl)
    (pss_cons (ps_set (i := 2) scRa.nd rfl (Or.inl rfl) (kix K (pe_dget hu (pv 0) (pv 2) (fun _ _ => rfl)) pe_int))
    (pss_cons (ps_while PassesOwn.never (pt_cmpR op_ne (pv 2) (pv 4) (nomark _)) (pss_cons (ps_expr (pe_bm PySem.F.plainAttrs_list PySem.F.slot_list_append PySem.F.type_list_append mt_append (pv 5) (pa_cons (kix K (pe_dget hu (pv 0) (pv 2) (fun _ _ => rfl)) pe_int) pa_nil)))
      (pss_one (ps_set (i := 2) scRa.nd rfl (Or.inl rfl) (kix K (pe_dget hu (pv 0) (pv 2) (fun _ _ => rfl)) pe_int)))))
    (pss_one (ps_ret (ktupleOf K T (pv 5)))))))), ?_⟩
  have at0 : ∀ (σ : L2.St) (m : Nat) (H' : Hp), Ex H H' → σ[0]? = some (some (.ref D)) → σ[2]? = some (some (.str (p m))) → Ev (tOp (rIx K) (tDGet (tVar 0) (tVar 2)) (tC (.int 0))) σ H' (.str (p (m + 1))) := fun σ m H' e h0 h2 => by
    obtain ⟨a, x, hv, st⟩ := hc m
    exact ev_ixU (i := 0) (ev_dget (F := fun s => valV kvs (Sum.inr s)) (ev_var h0) (ev_var h2) (e _ _ hD) (fun _ => rfl) hv) ev_c (ex_t e st) rfl
  have at1 : ∀ (σ : L2.St) (m : Nat) (H' : Hp), Ex H H' → σ[0]? = some (some (.ref D)) → σ[2]? = some (some (.str (p m))) → ∃ x, Ev (tOp (rIx K) (tDGet (tVar 0) (tVar 2)) (tC (.int 1))) σ H' x := fun σ m H' e h0 h2 => by
    obtain ⟨a, x, hv, st⟩ := hc m
    exact ⟨x, ev_ixU (i := 1) (ev_dget (F := fun s => valV kvs (Sum.inr s)) (ev_var h0) (ev_var h2) (e _ _ hD) (fun _ => rfl) hv) ev_c (ex_t e st) rfl⟩
  refine q_asg (v := .str (p 0)) (ev_var rfl) fun H1 e1 => ?_
  have ln : Ev (tCB rLenDk (tCons (tVar 0) tNil)) [some (.ref D), some (.str (p 0)), some (.str (p 0)), none, none, none] H1 (.int (kvs.length : Int)) := fun H2 e2 Q q => ⟨.ref D, rfl, D, kvs, rfl, (e1.trans e2) _ _ hD, q H2 (Ex.refl _)⟩
  refine qg_for (B := H1) (ei_range ln (by omega)) (Ex.refl _) (fun H2 i σ' H' => ∃ a3, σ' = [some (.ref D), some (.str (p 0)), some (.str (p i)), a3, none, none] ∧ Ex H2 H') ?_ ?_ ?_ ?_
  · exact fun H2 e2 => ⟨none, rfl, Ex.refl _⟩
  · rintro H2 i σ' H' e2 ⟨a3, rfl, e⟩
    exact cut_ex.trans e
  · rintro H2 i x σ' H' H'' e2 hi ⟨a3, rfl, e⟩ ⟨rfl, rfl⟩
    exact s_asg (at0 _ i _ ((e1.trans e2).trans e) rfl rfl) fun H3 e3 => ⟨_, rfl, e.trans e3⟩
  rintro H2 σ' H3 e2 ⟨a3, rfl, e⟩
  have e3 : Ex H H3 := (e1.trans e2).trans e
  -- first, steps
  obtain ⟨x0, ev1⟩ := at1 [some (.ref D), some (.str (p 0)), some (.str (p kvs.length)), a3, none, none] kvs.length H3 e3 rfl rfl
  refine ⟨_, rfl, ev1 H3 (Ex.refl _) _ fun H4 e4 => ⟨by show 1 ≤ sizeLine; decide, fun l hl => ⟨_, _, rfl, ?_⟩⟩⟩
  have e5 : Ex H (upd H4 l (.lst [x0])) := (e3.trans e4).trans (Ex.new hl)
  have hlH : H l = none := fresh_back (e3.trans e4) hl
  refine q_asg (at0 _ kvs.length _ e5 rfl rfl) fun H6 e6 => ?_
  refine q_while (fun m σ' H' => ∃ j a3 xs, m = d - 1 - j ∧ j ≤ d - 1 ∧ σ' = [some (.ref D), some (.str (p 0)), some (.str (p (kvs.length + 1 + j))), a3, some (.str (p kvs.length)), some (.ref l)] ∧ H' l = some (.lst xs) ∧ xs.length = j + 1 ∧ Ex H H') (d - 1) ⟨0, _, [x0], rfl, Nat.zero_le _, rfl, e6 _ _ upd_same, rfl, e5.trans e6⟩ ?_
  rintro m σ' H' ⟨j, a3, xs, rfl, hj, rfl, hx, hxl, e⟩
  refine ⟨_, et_test (ev_op (ev_var rfl) (ev_var rfl) (rv_ne rfl)), fun hb H7 e7 => ?_, fun hb H7 e7 => ?_⟩
  · have hne : p (kvs.length + 1 + j) ≠ p kvs.length := fun z => by
      rw [z, show decide (V.str (p kvs.length) = V.str (p kvs.length)) = true from decide_eq_true rfl] at hb
      cases hb
    have hjd : j ≠ d - 1 := fun z => hne (by
      rw [show kvs.length + 1 + j = kvs.length + d by omega]
      exact hp)
    refine ⟨_, fun σ2 H2 h => h, ?_⟩
    obtain ⟨x1, ev2⟩ := at1 [some (.ref D), some (.str (p 0)), some (.str (p (kvs.length + 1 + j))), a3, some (.str (p kvs.length)), some (.ref l)] (kvs.length + 1 + j) H7 (e.trans e7) rfl rfl
    refine q_app (l := l) (xs := xs) (e7 _ _ hx) (ev_var rfl) ev2 (by omega) fun H8 e8 => ?_
    have e9 : Ex H (upd H8 l (.lst (xs ++ [x1]))) := Ex.mut ((e.trans e7).trans e8) hlH
    refine s_asg (at0 _ (kvs.length + 1 + j) _ e9 rfl rfl) fun H9 e10 => ?_
    exact ⟨d - 1 - (j + 1), by omega, j + 1, _, xs ++ [x1], rfl, by omega, rfl, e10 _ _ upd_same, by rw [List.length_append]; show xs.length + 1 = _; omega, e9.trans e10⟩
  · refine ⟨.ref l, rfl, l, xs, rfl, .inl ⟨sq_of (e7 _ _ hx), fun l2 hl2 => r l2 _ ?_⟩⟩
    exact new_ex hl2 (e.trans e7)
end
end K73
end
section
set_option Elab.async false
set_option linter.all false
set_option maxRecDepth 100000
set_option maxHeartbeats 8000000
namespace K73
open PySem L2 Evl PyProof.Rows
section
variable {P : Program} {w : World} {K : PySem.W.Frag} {mg : Str → Option Value} {base : Heap}
theorem sqt_upd {H : Hp} {D : Addr} {kv : List (Key × V)} {o : HO} {a : Addr} {xs : List V} (h : H D = some (.dK kv)) (s : SqT K H a xs) : SqT K (upd H D o) a xs := by
  rcases s with s | s
  · refine .inl ?_
    rcases s with s | ⟨ob, s⟩
    · exact .inl (by rw [upd_ne (ne_of s h (fun z => nomatch z))]; exact s)
    · exact .inr ⟨ob, by rw [upd_ne (ne_of s h (fun z => nomatch z))]; exact s⟩
  · exact .inr s
/-- the two dicts of tried -/
structure FI (K : PySem.W.Frag) (N : NetM) (H : Hp) (D2 D4 : Addr) (f : Str → Int) (cm : Str → Option (Str × Int)) (kv kc : List (Key × V)) (b : Nat) : Prop where
  at2 : H D2 = some (.dK kv)
  at4 : H D4 = some (.dK kc)
  num : ∀ s ∈ N.ws, valV kv (Sum.inr s) = some (.int (f s))
  why : ∀ u v c, cm u = some (v, c) → ∃ a x, valV kc (Sum.inr u) = some (.ref a) ∧ SqT K H a [.str v, x]
  l2 : kv.length ≤ b
  l4 : kc.length ≤ b
theorem FI.keep {N : NetM} {H H' : Hp} {D2 D4 : Addr} {f : Str → Int} {cm : Str → Option (Str × Int)} {kv kc : List (Key × V)} {b b' : Nat} (i : FI K N H D2 D4 f cm kv kc b) (e : Ex H H') (hb : b ≤ b') : FI K N H' D2 D4 f cm kv kc b' :=
  ⟨e _ _ i.at2, e _ _ i.at4, i.num, fun u v c h => by
    obtain ⟨a, x, h1, h2⟩ := i.why u v c h
    exact ⟨a, x, h1, ex_t e h2⟩, Nat.le_trans i.l2 hb, Nat.le_trans i.l4 hb⟩
theorem FI.num' {N : NetM} {H : Hp} {D2 D4 : Addr} {f : Str → Int} {cm : Str → Option (Str × Int)} {kv kc : List (Key × V)} {b : Nat} (i : FI K N H D2 D4 f cm kv kc b) {σ : L2.St} {ta tb : TE} {s : Str} (hs : s ∈ N.ws) (h1 : Ev ta σ H (.ref D2)) (h2 : Ev tb σ H (.str s)) : Ev (tDGet ta tb) σ H (.int (f s)) :=
  ev_dget (F := fun s => valV kv (Sum.inr s)) h1 h2 i.at2 (fun _ => rfl) (i.num s hs)
abbrev sTr : Stmt := topS 29
abbrev nTr : List Str := ["net", "parts", "found", "worker", "came", "last", "turn", "other", "cost", "queue", "way", "most"]
theorem scTr : FnScope nTr ["net", "parts"] (defScope sTr) := ⟨rfl, rfl, rfl, by decide +kernel, rfl, by decide +kernel, by decide +kernel⟩
def spTr (K : PySem.W.Frag) : Sp := fun vs H Q _ => ∃ B v N, Ex B H ∧ vs = [v, .int (N.ws.length : Int)] ∧ NetOk N ∧ Dp K B v (netD N) ∧ ∀ a x y H', Ex H H' → H' a = some (.tup [x, y]) → (Good (GE N) → ∃ b, x = .ref b) → (¬ Good (GE N) → x = .non) → Q (.ref a) H'
def lastV : Option Str → V
  | none => .non
  | some u => .str u
def keyS : Key × V → Str
  | (.inr s, _) => s
  | (.inl _, _) => Str.empty
theorem key_mem {kvs : List (Key × V)} {u : Str} {v : V} (h : valV kvs (Sum.inr u) = some v) : u ∈ kvs.map keyS := by
  unfold valV at h
  obtain ⟨p, hp, _⟩ := Option.map_eq_some_iff.mp h
  have hm := List.mem_of_find?_eq_some hp
  have he := of_decide_eq_true (List.find?_some (p := fun kv : Key × V => decide (kv.1 = Sum.inr u)) hp)
  refine List.mem_map.mpr ⟨p, hm, ?_⟩
  obtain ⟨k, v'⟩ := p
  have he : k = Sum.inr u := he
  subst he
  rfl
theorem ok_tr {f : Addr} {fd : FuncData} (F : Fun K "tried" "tried" sTr f fd) (T : Tx mg) (oA : Own P w K mg base CX0 1 "arcs" ["net"] (spD K arcsF)) (oR : Own P w K mg base CX0 1 "ring_at" ["came", "worker"] (spRa K)) : FnOk P w K mg base CX0 2 f fd ["net", "parts"] (spTr K) := by
  refine F.ok scTr (fun vs H Q E ⟨B, v, N, _, e, _⟩ => by rw [e]; rfl) (fun cdv A outer s H vs Q E hr h => ?_)
  obtain ⟨B, v, N, eb, rfl, ok, hv, r⟩ := h
  have hu := hu_of hr
  refine ⟨_, pss_cons (ps_set (i := 2) scTr.nd rfl (Or.inr rfl) (pe_dc (own := [("worker", 3)]) (g := gName 3) (tt := tYes) rfl scTr.nd (kseq K (kix K (pv 0) pe_int)) (blkOk_by (by kernel_rfl)) (fun _ _ _ _ _ => pg_name (i := 3) scTr.nd rfl (Or.inl rfl)) (fun _ _ _ _ _ => pts_nil) (fun _ _ _ _ _ => pv 3) (fun _ _ _ _ _ => pe_int)))
    (pss_cons (ps_set (i := 4) scTr.nd rfl (Or.inl rfl) pe_dnewK)
    (pss_cons (ps_set (i := 5) scTr.nd rfl (Or.inl rfl) pe_non)
    (pss_cons (ps_for PassesOwn.never rfl (krange T (klen K T (kix K (pv 0) pe_int))) (pg_name (i := 6) scTr.nd rfl (Or.inl rfl))
      (pss_cons (ps_set (i := 5) scTr.nd rfl (Or.inl rfl) pe_non)
      (pss_cons (ps_for PassesOwn.never rfl (kseq K (pe_own oA hr (by decide) pass0 (pa_cons (pv 0) pa_nil)))
          (ktup K rfl (pgs_cons (pg_name (i := 3) scTr.nd rfl (Or.inl rfl)) (pgs_cons (pg_name (i := 7) scTr.nd rfl (Or.inl rfl)) (pgs_cons (pg_name (i := 8) scTr.nd rfl (Or.inl rfl)) (pgs_cons (pg_name (i := 9) scTr.nd rfl (Or.inl rfl)) (pgs_cons (pg_name (i := 10) scTr.nd rfl (Or.inl rfl)) pgs_nil))))))
          (pss_cons (ps_set (i := 11) scTr.nd rfl (Or.inl rfl) (pe_op op_sub (pe_op op_add (pe_dget hu (pv 2) (pv 7) (fun _ _ => rfl)) (pe_op op_mul (pv 8) (pv 1))) pe_int))
          (pss_one (ps_if (pt_cmpR op_gt (pe_dget hu (pv 2) (pv 3) (fun _ _ => rfl)) (pv 11) (nomark _))
            (pss_cons (ps_asg (pv 11) (pg_sub (pv 2) (pv 3) (set_dict hu)))
            (pss_cons (ps_asg (pe_tup (pa_cons (pv 7) (pa_cons (pe_tup (pa_cons (pv 9) (pa_cons (pv 10) pa_nil))) pa_nil))) (pg_sub (pv 4) (pv 3) (set_dict hu)))
            (pss_one (ps_set (i := 5) scTr.nd rfl (Or.inl rfl) (pv 3))))) pss_nil))))
      (pss_one (ps_if (pt_cmpR op_isN (pv 5) pe_non (nomark _)) (pss_one (ps_ret (pe_tup (pa_cons (ktupleOf K T (klc (own := [("worker", 3)]) (g := gName 3) (tt := tYes) scTr.nd (kseq K (kix K (pv 0) pe_int)) (by kernel_rfl) (fun _ _ _ _ _ => pg_name (i := 3) scTr.nd rfl (Or.inl rfl)) (fun _ _ _ _ _ => pts_nil) (fun _ _ _ _ _ => pe_dget hu (pv 2) (pv 3) (fun _ _ => rfl)))) (pa_cons pe_non pa_nil))))) pss_nil)))))
    (pss_one (ps_ret (pe_tup (pa_cons pe_non (pa_cons (pe_own oR hr (by decide) pass0 (pa_cons (pv 4) (pa_cons (pv 5) pa_nil))) pa_nil)))))))), ?_⟩
  have few := ok.few
  have fewq := ok.fewq
  have hal : (arcsM N).length = N.qs.length * 2 := flat_len arcs2 2 _ fun _ _ => rfl
  have hgl : (GL N).length = (arcsM N).length := List.length_map _
  -- found
  have D1 := ed_dc (B := B) (σ := [some v, some (.int (N.ws.length : Int)), none, none, none, none, none, none, none, none, none, none]) (tk := tVar 3) (tv := tC (.int 0)) (g := gName 3) (vs := [3]) (fun i => N.ws.getD i Str.empty) (fun i => .int 0) (ei_seq (K := K) (eg_ix (i := 0) (eg_d (i := 0) rfl hv) (.inr rfl) ev_c rfl) (.inr rfl)) (by rw [List.length_map]; omega) (by
    intro B' i x H1 H2 R eB hi e1 hY k
    obtain ⟨rfl, d, hd', hp'⟩ := hY
    cases strsT_get hd'
    cases dp_str hp'
    exact k _ _ rfl (Ex.refl _) (ev_var rfl) ev_c)
  rw [List.length_map] at D1
  refine qd_asg D1 eb fun D2 H1 kv n2 e1 hk ht hl1 => ?_
  -- came
  intro D4 hD4
  have n4 : H D4 = none := fresh_back e1 hD4
  have e2 : Ex H (upd H1 D4 (.dK [])) := new_ex hD4 e1
  have fi0 : FI K N (upd H1 D4 (.dK [])) D2 D4 (fun _ => 0) (fun _ => none) kv [] N.ws.length := ⟨Ex.new hD4 _ _ hk, upd_same, fun s hs => by rw [ht s, putsF_ix ok.nd (fun _ => V.int 0) hs _ (Nat.le_refl _) (ixOf_lt hs)], (fun u v c h => nomatch h), hl1, Nat.zero_le _⟩
  have n24 : D2 ≠ D4 := ne_of_none hk hD4
  have nB2 : B D2 = none := fresh_back eb n2
  have nB4 : B D4 = none := fresh_back eb n4
  generalize upd H1 D4 (.dK []) = H2 at e2 fi0
  refine q_asg (v := .non) ev_c fun H3 e3 => ?_
  have e03 : Ex H H3 := e2.trans e3
  have fi3 := fi0.keep e3 (Nat.le_refl _)
  have lenN : Ev (tCB (rLenOf K) (tCons (tOp (rIx K) (tVar 0) (tC (.int 0))) tNil)) [some v, some (.int (N.ws.length : Int)), some (.ref D2), none, some (.ref D4), some .non, none, none, none, none, none, none] B (.int (N.ws.length : Int)) := by
    have q := ev_lenD (K := K) (B := B) (σ := [some v, some (.int (N.ws.length : Int)), some (.ref D2), none, some (.ref D4), some .non, none, none, none, none, none, none]) (eg_ix (i := 0) (eg_d (i := 0) rfl hv) (.inr rfl) ev_c rfl) (.inr rfl)
    rw [List.length_map] at q
    exact q
  refine qg_for (B := B) (n := N.ws.length) (ei_range lenN (by omega)) (eb.trans e03) (fun H4 i σ' H' => ∃ a3 lv a6 a7 a8 a9 a10 a11 f cm lev t now kv kc, σ' = [some v, some (.int (N.ws.length : Int)), some (.ref D2), a3, some (.ref D4), some lv, a6, a7, a8, a9, a10, a11] ∧ Ex H H' ∧ Ex (cut B H3 H4) H' ∧ FI K N H' D2 D4 f cm kv kc (N.ws.length + 120 * i) ∧
    ((i = 0 ∧ BF (GL N) (N.ws.length : Int) 1 0 none f cm lev t now) ∨ (1 ≤ i ∧ ∃ u, lv = .str u ∧ BF (GL N) (N.ws.length : Int) i (GL N).length (some u) f cm lev t now))) ?_ ?_ ?_ ?_
  · exact fun H4 e4 => ⟨none, .non, none, none, none, none, none, none, _, _, _, _, _, kv, [], rfl, e03.trans e4, cut_ex, fi3.keep e4 (by omega), .inl ⟨rfl, bf_start⟩⟩
  · rintro H4 i σ' H' e4 ⟨a3, lv, a6, a7, a8, a9, a10, a11, f, cm, lev, t, now, kv, kc, rfl, eH, e, _⟩
    exact e
  · rintro H4 i x σ' H' H'' e4 hi ⟨a3, lv, a6, a7, a8, a9, a10, a11, f, cm, lev, t, now, kv, kc, rfl, eH, e, fi, hb⟩ ⟨rfl, rfl⟩
    have b0 : BF (GL N) (N.ws.length : Int) (i + 1) 0 none f cm lev t now := by
      rcases hb with ⟨rfl, b⟩ | ⟨_, u, _, b⟩
      · exact b
      · exact bf_round b
    refine q_asg (v := .non) ev_c fun H5 e5 => ?_
    have fi5 := fi.keep e5 (Nat.le_refl _)
    have eH5 := eH.trans e5
    have eC5 := e.trans e5
    have arcs := ei_seq (K := K) (eg_call (E := E0) (F := arcsF) (d := .list ((arcsM N).map arcD)) (ega_cons' (eg_d (i := 0) (σ := [some v, some (.int (N.ws.length : Int)), some (.ref D2), a3, some (.ref D4), some .non, some (.int (i : Int)), a7, a8, a9, a10, a11]) (K := K) rfl hv) ega_nil) ⟨N, by omega, rfl, rfl⟩) (.inl rfl)
    rw [List.length_map] at arcs
    have n3c : ∀ H', cut B H3 H' D2 = none ∧ cut B H3 H' D4 = none := fun H' => ⟨cut_pos nB2 (by rw [fi3.at2]; exact fun z => nomatch z), cut_pos nB4 (by rw [fi3.at4]; exact fun z => nomatch z)⟩
    have n5c : ∀ H', cut B H5 H' D2 = none ∧ cut B H5 H' D4 = none := fun H' => ⟨cut_pos nB2 (by rw [fi5.at2]; exact fun z => nomatch z), cut_pos nB4 (by rw [fi5.at4]; exact fun z => nomatch z)⟩
    refine qg_for arcs (eb.trans eH5) (fun H6 k σ' H' => ∃ a3 a7 a8 a9 a10 a11 last f cm lev t now kv kc, σ' = [some v, some (.int (N.ws.length : Int)), some (.ref D2), a3, some (.ref D4), some (lastV last), some (.int (i : Int)), a7, a8, a9, a10, a11] ∧ Ex H H' ∧ Ex (cut B H3 H4) H' ∧ Ex (cut B H5 H6) H' ∧ FI K N H' D2 D4 f cm kv kc (N.ws.length + 120 * i + k) ∧ BF (GL N) (N.ws.length : Int) (i + 1) k last f cm lev t now) ?_ ?_ ?_ ?_
    · exact fun H6 e6 => ⟨a3, a7, a8, a9, a10, a11, none, f, cm, lev, t, now, kv, kc, rfl, eH5.trans e6, eC5.trans e6, cut_ex, fi5.keep e6 (by omega), b0⟩
    · rintro H6 k σ' H' e6 ⟨a3, a7, a8, a9, a10, a11, last, f, cm, lev, t, now, kv, kc, rfl, eH', eC', e', _⟩
      exact e'
    · rintro H6 k x σ' H' H'' e6 hk' ⟨a3, a7, a8, a9, a10, a11, last, f, cm, lev, t, now, kv, kc, rfl, eH', eC', e', fi', b⟩ ⟨rfl, dq, hdq, hp⟩
      rw [List.getElem?_map] at hdq
      obtain ⟨q, hq1, hq2⟩ := Option.map_eq_some_iff.mp hdq
      subst hq2
      obtain ⟨a, xs, rfl, sx, hx⟩ := dp_tup hp
      have ex := dpa5a hx
      subst ex
      refine ⟨a, _, rfl, ex_t e' sx, rfl, _, _, rfl, _, _, rfl, _, _, rfl, _, _, rfl, _, _, rfl, rfl, ?_⟩
      have eA := ok.arc (List.mem_of_getElem? hq1)
      have hA : (GL N)[k]? = some (q.1, q.2.1, q.2.2.1) := by
        show ((arcsM N).map arc3)[k]? = _
        rw [List.getElem?_map, hq1]
        rfl
      obtain ⟨u, o, c, qn, wy⟩ := q
      have cm64 : CMul c (N.ws.length : Int) := .inr ⟨by omega, by omega⟩
      refine q_asg (v := .int (f o + c * (N.ws.length : Int) - 1)) (ev_op (ev_op (fi'.num' eA.2 (ev_var rfl) (ev_var rfl)) (ev_op (ev_var rfl) (ev_var rfl) (rv_I cm64)) rv_I0) ev_c rv_I0) fun H7 e7 => ?_
      have fi7 := fi'.keep e7 (Nat.le_refl _)
      refine s_when (et_test (ev_op (fi7.num' eA.1 (ev_var rfl) (ev_var rfl)) (ev_var rfl) rv_I0)) (fun hb H8 e8 => ?_) (fun hb H8 e8 => ?_)
      · have hlt : f o + c * (N.ws.length : Int) - 1 < f u := of_decide_eq_true hb
        have e78 := e7.trans e8
        have fi8 := fi7.keep e8 (Nat.le_refl _)
        -- found[worker] = most
        refine ⟨_, rfl, _, rfl, _, rfl, D2, _, rfl, DPut.k (k := Sum.inr u) fi8.at2 (sz_lt (by have := fi8.l2; omega)), ?_⟩
        have k4 : (upd H8 D2 (.dK (putK kv (Sum.inr u) (.int (f o + c * (N.ws.length : Int) - 1))))) D4 = some (.dK kc) := by
          rw [upd_ne (Ne.symm n24)]
          exact fi8.at4
        -- came[worker] = ..
        refine ⟨.str o, rfl, .str qn, rfl, .str wy, rfl, by show 2 ≤ sizeLine; decide, fun p1 hp1 => ⟨by show 2 ≤ sizeLine; decide, fun p2 hp2 => ?_⟩⟩
        generalize hH9 : upd H8 D2 (.dK (putK kv (Sum.inr u) (.int (f o + c * (N.ws.length : Int) - 1)))) = H9 at k4 hp1 hp2 ⊢
        have e911 : Ex H9 (upd (upd H9 p1 (.tup [.str qn, .str wy])) p2 (.tup [.str o, .ref p1])) := (Ex.new hp1).trans (Ex.new hp2)
        have k2 : H9 D2 = some (.dK (putK kv (Sum.inr u) (.int (f o + c * (N.ws.length : Int) - 1)))) := by
          rw [← hH9]
          exact upd_same
        have hp2' : (upd (upd H9 p1 (.tup [.str qn, .str wy])) p2 (.tup [.str o, .ref p1])) p2 = some (.tup [.str o, .ref p1]) := upd_same
        have eHx : ∀ {G : Hp}, Ex G H8 → G D2 = none → G D4 = none → Ex G (upd (upd (upd H9 p1 (.tup [.str qn, .str wy])) p2 (.tup [.str o, .ref p1])) D4 (.dK (putK kc (Sum.inr u) (.ref p2)))) := fun {G} e g2 g4 => by
          have q : Ex G H9 := by
            rw [← hH9]
            exact Ex.mut e g2
          exact Ex.mut (q.trans e911) g4
        generalize upd (upd H9 p1 (.tup [.str qn, .str wy])) p2 (.tup [.str o, .ref p1]) = H11 at e911 hp2' eHx
        refine ⟨_, rfl, _, rfl, D4, _, rfl, DPut.k (k := Sum.inr u) (e911 _ _ k4) (sz_lt (by have := fi8.l4; omega)), ?_⟩
        refine ⟨_, rfl, ?_⟩
        have ln2 := length_putK kv (Sum.inr u : Key) (V.int (f o + c * (N.ws.length : Int) - 1))
        have ln4 := length_putK kc (Sum.inr u : Key) (V.ref p2)
        have l2 := fi8.l2
        have l4 := fi8.l4
        refine ⟨_, _, _, _, _, _, some u, put f u (f o + c * (N.ws.length : Int) - 1), put cm u (some (o, c)), put lev u (i + 1), put t u (now + 1), now + 1, putK kv (Sum.inr u) (.int (f o + c * (N.ws.length : Int) - 1)), putK kc (Sum.inr u) (.ref p2), rfl, eHx (eH'.trans e78) n2 n4, eHx (eC'.trans e78) (n3c _).1 (n3c _).2, eHx (e'.trans e78) (n5c _).1 (n5c _).2, ⟨?_, upd_same, fun s hs => ?_, fun u' v' c' hc => ?_, by omega, by omega⟩, bf_move b hA hlt (by omega)⟩
        · rw [upd_ne n24]
          exact e911 _ _ k2
        · rw [valV_put]
          by_cases es : s = u
          · rw [if_pos (by rw [es]), es, put_same]
          · rw [if_neg (fun z => es (Sum.inr.inj z)), put_ne es]
            exact fi8.num s hs
        · rw [valV_put]
          by_cases es : u' = u
          · rw [es, put_same] at hc
            cases hc
            exact ⟨p2, .ref p1, if_pos (by rw [es]), sqt_upd (e911 _ _ k4) (st_of hp2')⟩
          · rw [put_ne es] at hc
            obtain ⟨a', x', q1, q2⟩ := fi8.why u' v' c' hc
            refine ⟨a', x', by rw [if_neg (fun z => es (Sum.inr.inj z))]; exact q1, sqt_upd (e911 _ _ k4) (ex_t e911 ?_)⟩
            rw [← hH9]
            exact sqt_upd fi8.at2 q2
      · have hge : f u ≤ f o + c * (N.ws.length : Int) - 1 := by
          have : ¬ (f o + c * (N.ws.length : Int) - 1 < f u) := of_decide_eq_false hb
          omega
        have e78 := e7.trans e8
        exact ⟨_, _, _, _, _, _, last, f, cm, lev, t, now, kv, kc, rfl, eH'.trans e78, eC'.trans e78, e'.trans e78, (fi7.keep e8 (by omega)), bf_stay b hA hge⟩
    rintro H6 σ' H' e6 ⟨a3, a7, a8, a9, a10, a11, last, f, cm, lev, t, now, kv, kc, rfl, eH', eC', e', fi', b⟩
    rw [← hgl] at b
    have fi'' := fi'.keep (b' := N.ws.length + 120 * (i + 1)) (Ex.refl _) (by omega)
    cases last with
    | none =>
      have gd : Good (GE N) := bf_good (by have := ok.pos; omega) b
      refine ⟨_, rfl, rfl, true, rfl, ?_⟩
      have eBn : Ex B (cut B H H') := ex_cut eb eH'
      have L := eg_lc (K := K) (B := cut B H H') (σ := [some v, some (.int (N.ws.length : Int)), some (.ref D2), a3, some (.ref D4), some .non, some (.int (i : Int)), a7, a8, a9, a10, a11]) (te := tDGet (tVar 2) (tVar 3)) (wi := iSeq K (tOp (rIx K) (tVar 0) (tC (.int 0)))) (g := gName 3) (vs := [3]) (fun i => PyData.int (f (N.ws.getD i Str.empty))) (ei_seq (eg_ix (i := 0) (eg_d (i := 0) rfl (dp_mono eBn hv)) (.inr rfl) ev_c rfl) (.inr rfl)) (by rw [List.length_map]; omega) (by
        intro B' j x H1 H2 Q eB hj e1 hY rt
        obtain ⟨rfl, d, hd', hp'⟩ := hY
        cases strsT_get hd'
        cases dp_str hp'
        rw [List.length_map] at hj
        have h2 : B' D2 = some (.dK kv) := eB _ _ (by rw [cut_new n2]; exact fi''.at2)
        exact lc_name e1 rfl (eg_imm (ev_dget (F := fun s => valV kv (Sum.inr s)) (ev_var rfl) (ev_var rfl) h2 (fun _ => rfl) (fi''.num _ (getD_mem hj))) rfl) rt)
      refine (eg_tupleOf L (.inl rfl)).go cut_ex fun v1 H7 e7 _ _ hp1 => ?_
      obtain ⟨a1, xs1, rfl, _, _⟩ := dp_tup hp1
      exact ⟨by show 2 ≤ sizeLine; decide, fun l hl => r l _ _ _ (new_ex hl (eH'.trans e7)) upd_same (fun _ => ⟨_, rfl⟩) (fun z => absurd gd z)⟩
    | some u =>
      refine ⟨_, rfl, rfl, false, rfl, ?_⟩
      exact ⟨_, _, _, _, _, _, _, _, f, cm, lev, t, now, kv, kc, rfl, eH', eC', fi'', .inr ⟨by omega, u, rfl, b⟩⟩
  · rintro H4 σ' H' e4 ⟨a3, lv, a6, a7, a8, a9, a10, a11, f, cm, lev, t, now, kv, kc, rfl, eH, e, fi, hb⟩
    have pos := ok.pos
    rcases hb with ⟨h0, _⟩ | ⟨_, u, rfl, b⟩
    · omega
    have hu := b.hit u rfl
    have hw : ∀ a ∈ GL N, a.1 ∈ N.ws ∧ a.2.1 ∈ N.ws := fun a ha => by
      obtain ⟨z, hz, rfl⟩ := List.mem_map.mp ha
      exact ok.arc hz
    have hum : u ∈ N.ws := by
      obtain ⟨v', c', hc⟩ := b.hasc u (by omega)
      exact (hw _ (b.edge _ _ _ hc).1).1
    have bad := bf_bad b hu hw hum
    obtain ⟨d, hd1, hd2, hd3⟩ := bf_ring (ks := kc.map keyS) b hu hw hum fun w' v' c' hc => by
      obtain ⟨a, x, h1, _⟩ := fi.why w' v' c' hc
      exact key_mem h1
    rw [List.length_map] at hd2 hd3
    have l4 := fi.l4
    refine ⟨_, rfl, _, rfl, D4, u, kc, chain cm u, d, rfl, fi.at4, rfl, fun m => ?_, by omega, hd1, by omega, hd3, fun l H5 e5 => ⟨by show 2 ≤ sizeLine; decide, fun l2 hl2 => r l2 _ _ _ (new_ex hl2 (eH.trans e5)) upd_same (fun g => absurd g bad) (fun _ => rfl)⟩⟩
    obtain ⟨c', hc⟩ := bf_ever b hu hw hum m
    exact fi.why _ _ _ hc
end
end K73
end
section
set_option Elab.async false
set_option linter.all false
set_option maxRecDepth 100000
set_option maxHeartbeats 4000000
namespace K73
open PySem L2 Evl PyProof.Rows
section
variable {P : Program} {w : World} {K : PySem.W.Frag} {mg : Str → Option Value} {base : Heap}
abbrev sLi : Stmt := topS 30
abbrev sLa : Stmt := topS 31
abbrev sNh : Stmt := topS 32
theorem scLi : FnScope ["net", "parts"] ["net", "parts"] (defScope sLi) := ⟨rfl, rfl, rfl, by decide +kernel, rfl, by decide +kernel, by decide +kernel⟩
theorem scLa : FnScope ["net"] ["net"] (defScope sLa) := ⟨rfl, rfl, rfl, by decide +kernel, rfl, by decide +kernel, by decide +kernel⟩
theorem scNh : FnScope ["net"] ["net"] (defScope sNh) := ⟨rfl, rfl, rfl, by decide +kernel, rfl, by decide +kernel, by decide +kernel⟩
def spLi (K : PySem.W.Frag) : Sp := fun vs H Q _ => ∃ B v N, Ex B H ∧ vs = [v, .int (N.ws.length : Int)] ∧ NetOk N ∧ Dp K B v (netD N) ∧ ∀ x H', Ex H H' → (Good (GE N) → ∃ b, x = .ref b) → (¬ Good (GE N) → x = .non) → Q x H'
def spLa (K : PySem.W.Frag) : Sp := fun vs H Q _ => ∃ B v N, Ex B H ∧ vs = [v] ∧ NetOk N ∧ Dp K B v (netD N) ∧ ∀ x H', Ex H H' → (Good (GE N) → ∃ b, x = .ref b) → (¬ Good (GE N) → x = .non) → Q x H'
def spNh (K : PySem.W.Frag) : Sp := fun vs H Q _ => ∃ B v N, Ex B H ∧ vs = [v] ∧ NetOk N ∧ Dp K B v (netD N) ∧ ∀ b H', Ex H H' → (b = true ↔ Good (GE N)) → Q (.bl b) H'
theorem ok_li {f : Addr} {fd : FuncData} (F : Fun K "lags_in" "lags_in" sLi f fd) (T : Tx mg) (oT : Own P w K mg base CX0 2 "tried" ["net", "parts"] (spTr K)) : FnOk P w K mg base CX0 3 f fd ["net", "parts"] (spLi K) := by
  refine F.ok scLi (fun vs H Q E ⟨B, v, N, _, e, _⟩ => by rw [e]; rfl) (fun cdv A outer s H vs Q E hr h => ?_)
  obtain ⟨B, v, N, eb, rfl, ok, hv, r⟩ := h
  refine ⟨_, pss_one (ps_ret (kix K (pe_own oT hr (by decide) pass0 (pa_cons (pv 0) (pa_cons (pv 1) pa_nil))) pe_int)), ?_⟩
  exact ⟨_, rfl, _, rfl, B, v, N, eb, rfl, ok, hv, fun a x y H' e ha g b => .inr (.inl ⟨a, [x, y], 0, x, rfl, rfl, st_of ha, rfl, r x H' e g b⟩)⟩
theorem ok_la {f : Addr} {fd : FuncData} (F : Fun K "lags" "lags" sLa f fd) (T : Tx mg) (oT : Own P w K mg base CX0 3 "lags_in" ["net", "parts"] (spLi K)) : FnOk P w K mg base CX0 4 f fd ["net"] (spLa K) := by
  refine F.ok scLa (fun vs H Q E ⟨B, v, N, _, e, _⟩ => by rw [e]; rfl) (fun cdv A outer s H vs Q E hr h => ?_)
  obtain ⟨B, v, N, eb, rfl, ok, hv, r⟩ := h
  refine ⟨_, pss_one (ps_ret (pe_own oT hr (by decide) pass0 (pa_cons (pv 0) (pa_cons (klen K T (kix K (pv 0) pe_int)) pa_nil)))), ?_⟩
  have l := ev_lenD (K := K) (B := B) (σ := start ["net"] [v]) (eg_ix (i := 0) (eg_d (i := 0) rfl hv) (.inr rfl) ev_c rfl) (.inr rfl)
  rw [List.length_map] at l
  exact ⟨v, rfl, l H eb _ fun H1 e1 => ⟨B, v, N, eb.trans e1, rfl, ok, hv, fun x H' e g b => r x H' (e1.trans e) g b⟩⟩
theorem ok_nh {f : Addr} {fd : FuncData} (F : Fun K "never_held" "never_held" sNh f fd) (T : Tx mg) (oT : Own P w K mg base CX0 4 "lags" ["net"] (spLa K)) : FnOk P w K mg base CX0 5 f fd ["net"] (spNh K) := by
  refine F.ok scNh (fun vs H Q E ⟨B, v, N, _, e, _⟩ => by rw [e]; rfl) (fun cdv A outer s H vs Q E hr h => ?_)
  obtain ⟨B, v, N, eb, rfl, ok, hv, r⟩ := h
  refine ⟨_, pss_one (ps_ret (pe_cmpR op_notN (pe_own oT hr (by decide) pass0 (pa_cons (pv 0) pa_nil)) pe_non (nomark _))), ?_⟩
  refine ⟨v, rfl, B, v, N, eb, rfl, ok, hv, fun x H' e g b => ⟨rfl, ?_⟩⟩
  refine r _ H' e ⟨fun z => ?_, fun z => ?_⟩
  · apply Classical.byContradiction
    intro nz
    rw [b nz] at z
    cases z
  · obtain ⟨l, rfl⟩ := g z
    rfl
end
end K73
end
section
set_option Elab.async false
set_option linter.all false
set_option maxRecDepth 100000
set_option maxHeartbeats 4000000
namespace K73
open PySem L2 Evl PyProof.Rows
/-! ### the box of draws: it alone changes -/
def Bx (p : Addr) (H : Hp) (n : Int) : Prop := ∃ a b c : Int, H p = some (.lst [.int a, .int b, .int c]) ∧ 0 ≤ c ∧ c ≤ n
def Xp (p : Addr) (H H' : Hp) : Prop := Ex (del H p) H'
section
variable {K : PySem.W.Frag} {B B' H H1 H2 H3 : Hp} {p : Addr} {n m : Int} {σ : L2.St} {te ta tb : TE} {P : PV} {v : V}
theorem Bx.ne (b : Bx p H n) : H p ≠ none := by
  obtain ⟨a, b, c, h, _⟩ := b
  rw [h]
  exact fun z => nomatch z
theorem Bx.le (b : Bx p H n) (h : n ≤ m) : Bx p H m := by
  obtain ⟨a, b, c, h1, h2, h3⟩ := b
  exact ⟨a, b, c, h1, h2, by omega⟩
theorem Bx.ex (b : Bx p H n) (e : Ex H H1) : Bx p H1 n := by
  obtain ⟨a, b, c, h1, h2, h3⟩ := b
  exact ⟨a, b, c, e _ _ h1, h2, h3⟩
theorem del_ne {a : Addr} (h : a ≠ p) : del H p a = H a := by
  unfold del
  rw [if_neg h]
theorem Xp.at_ (x : Xp p H H1) {a : Addr} {o : HO} (h : a ≠ p) (e : H a = some o) : H1 a = some o := x a o (by rw [del_ne h]; exact e)
theorem xpe (e : Ex H H1) : Xp p H H1 := del_ex.trans e
theorem Xp.refl : Xp p H H := del_ex
theorem Xp.trans (x : Xp p H H1) (y : Xp p H1 H2) : Xp p H H2 := fun a o h => by
  have ne : a ≠ p := fun z => by
    subst z
    unfold del at h
    rw [if_pos rfl] at h
    cases h
  rw [del_ne ne] at h
  exact y.at_ ne (x.at_ ne h)
theorem Xp.set {o : HO} (x : Xp p H H1) : Xp p H (upd H1 p o) := fun a u h => by
  have ne : a ≠ p := fun z => by
    subst z
    unfold del at h
    rw [if_pos rfl] at h
    cases h
  rw [upd_ne ne]
  exact x a u h
theorem xp_ex (e : Ex B H) (hp : B p = none) (x : Xp p H H1) : Ex B H1 := fun a o h => x.at_ (ne_of_none h hp) (e a o h)
theorem xp_cut (e : Ex B H) (hp : B p = none) (x : Xp p H H1) : Ex B (cut B H H1) := fun a o h => by
  rw [cut_old h]
  exact xp_ex e hp x a o h
theorem xp_none (hp : B p = none) (b : Bx p H n) : cut B H H1 p = none := cut_pos hp b.ne
theorem xp_dm (x : Xp p H H1) (h : H1 p ≠ none) : Dm H H1 := fun a ha => by
  by_cases e : a = p
  · rw [e]
    exact h
  · cases q : H a with
    | none => exact absurd q ha
    | some o =>
      rw [x.at_ e q]
      exact fun z => nomatch z
theorem xp_back (x : Xp p H H1) (h : H1 p ≠ none) {l : Addr} (hl : H1 l = none) : H l = none := by
  cases q : H l with
  | none => rfl
  | some o =>
    have ne : l ≠ p := fun z => h (by rw [← z]; exact hl)
    rw [x.at_ ne q] at hl
    cases hl
/-- what is asked for a value that comes with c draws at most -/
def RetX (p : Addr) (c : Int) (P : PV) (B H : Hp) (n : Int) (Q : VK) : Prop := ∀ v H', Xp p H H' → Bx p H' (n + c) → P v (cut B H H') → Q v H'
theorem RetX.next {c d : Int} {Q : VK} (r : RetX p (c + d) P B H n Q) (x : Xp p H H1) (b : Bx p H1 (n + c)) : RetX p d P (cut B H H1) H1 (n + c) Q := fun v H' x' b' h => by
  rw [cut_cut (xp_dm x b.ne)] at h
  exact r v H' (x.trans x') (by rw [← Int.add_assoc]; exact b') h
theorem RetX.le {c d : Int} {Q : VK} (r : RetX p c P B H n Q) (h : d ≤ c) : RetX p d P B H n Q := fun v H' x b q => r v H' x (b.le (by omega)) q
theorem RetX.ret {c : Int} {Q : VK} (r : RetX p c P B H n Q) (h : 0 ≤ c) (b : Bx p H n) : Ret P B H Q := fun v H' e q => r v H' (xpe e) ((b.ex e).le (by omega)) q
/-- it comes to P, with c draws at most -/
def EvX (te : TE) (σ : L2.St) (B : Hp) (p : Addr) (c : Int) (P : PV) : Prop := ∀ H n, Ex B H → Bx p H n → n + c ≤ 1000000 → ∀ Q : VK, RetX p c P B H n Q → te σ H Q
theorem EvG.x {c : Int} (h : EvG te σ B P) (hc : 0 ≤ c) : EvX te σ B p c P := fun H n e b _ Q r => h H e Q (r.ret hc b)
/-- run it, go on over the base with what it gave -/
theorem EvX.go {c : Int} {Q : VK} (h : EvX te σ B p c P) (hp : B p = none) (e : Ex B H) (b : Bx p H n) (hn : n + c ≤ 1000000) (k : ∀ v H1, Xp p H H1 → Bx p H1 (n + c) → Ex B (cut B H H1) → Ex (cut B H H1) H1 → cut B H H1 p = none → P v (cut B H H1) → Q v H1) : te σ H Q :=
  h H n e b hn Q fun v H1 x b1 q => k v H1 x b1 (xp_cut e hp x) cut_ex (xp_none hp b) q
variable {D : Ends} {tz : TS}
theorem qx_asg {i : Nat} {c : Int} (h : EvX te σ B p c P) (hp : B p = none) (e : Ex B H) (b : Bx p H n) (hn : n + c ≤ 1000000) (k : ∀ v H1, Xp p H H1 → Bx p H1 (n + c) → Ex B (cut B H H1) → Ex (cut B H H1) H1 → cut B H H1 p = none → P v (cut B H H1) → tz D (σ.set i (some v)) H1) : tSeq (tAsg te (gName i)) tz D σ H := h.go hp e b hn k
/-- an int of [0, m) -/
def InR (m : Int) : PV := fun v _ => ∃ r : Int, v = .int r ∧ 0 ≤ r ∧ r < m
theorem ev_intO {i : Int} (h : Ev te σ B (.int i)) : Ev (tCB (fun xs H Q => (∃ i, xs = [.int i] ∧ Q (.int i) H) ∨ ∃ k, xs = [.bl k] ∧ Q (.int (if k then 1 else 0)) H) (tCons te tNil)) σ B (.int i) := fun H e Q q => h H e _ fun H1 e1 => .inl ⟨i, rfl, q H1 e1⟩
theorem ev_intB {k : Bool} (h : Ev te σ B (.bl k)) : Ev (tCB (fun xs H Q => (∃ i, xs = [.int i] ∧ Q (.int i) H) ∨ ∃ k, xs = [.bl k] ∧ Q (.int (if k then 1 else 0)) H) (tCons te tNil)) σ B (.int (if k then 1 else 0)) := fun H e Q q => h H e _ fun H1 e1 => .inr ⟨k, rfl, q H1 e1⟩
theorem kint {X : Cx} {e : Expr} {te : TE} {pos q : Pos} (T : Tx X.mg) (ha : PE X e te) (hg : Gl X "int" := by rfl) (hs : starEach [e] X.env = (false, eval e X.env) :: starEach [] X.env := by rfl) (hpl : (backTo pos (starEach [] X.env)).any (·.1) = false := by rfl) :
    PE X (.Call (.Name "int" q) [e] [] pos) (tCB (fun xs H Q => (∃ i, xs = [.int i] ∧ Q (.int i) H) ∨ ∃ k, xs = [.bl k] ∧ Q (.int (if k then 1 else 0)) H) (tCons te tNil)) := pe_callTy call_int1 hg T.int (by decide +kernel) (pa_cons ha pa_nil hs) (by decide) (by decide) hs hpl
theorem log_lt {j : Int} (h0 : 0 < j) (h : j < 10 ^ 60) : j.natAbs.log2 < 9000 := by
  have h1 : j.natAbs < 2 ^ 200 := by omega
  have h2 : j.natAbs ≠ 0 := by omega
  have := (Nat.log2_lt h2).mpr h1
  omega
end
section
variable {P : Program} {w : World} {K : PySem.W.Frag} {mg : Str → Option Value} {base : Heap}
/-! ### _law_take -/
abbrev sTk : Stmt := topS 35
abbrev nTk : List Str := ["_law_box_here", "_law_below", "_law_drawn", "_law_once", "_law_far", "_law_twice"]
theorem scTk : FnScope nTk ["_law_box_here", "_law_below"] (defScope sTk) := ⟨rfl, rfl, rfl, by decide +kernel, rfl, by decide +kernel, by decide +kernel⟩
def spTk : Sp := fun vs H Q _ => ∃ (p : Addr) (m n : Int), vs = [.ref p, .int m] ∧ Bx p H n ∧ n + 1 ≤ 1000000 ∧ 0 < m ∧ m < 10 ^ 60 ∧ ∀ r H', 0 ≤ r → r < m → Xp p H H' → Bx p H' (n + 1) → Q (.int r) H'
theorem ok_tk {f : Addr} {fd : FuncData} (F : Fun K "_law_take" "_law_take" sTk f fd) (T : Tx mg) : FnOk P w K mg base CX0 1 f fd ["_law_box_here", "_law_below"] spTk := by
  refine F.ok scTk (fun vs H Q E ⟨p, m, n, e, _⟩ => by rw [e]; rfl) (fun cdv A outer s H vs Q E hr h => ?_)
  obtain ⟨p, m, n, rfl, ⟨a, b, c, hb, c0, cn⟩, hn, hm0, hm, r⟩ := h
  refine ⟨_, pss_cons (ps_if (pt_cmpR op_gt (kix K (pv 0) pe_int) pe_int (nomark _)) (pss_cons (ps_set (i := 2) scTk.nd rfl (Or.inl rfl) (pe_op op_mod (kint T (kix K (pv 0) pe_int)) (pv 1)))
      (pss_cons (ps_asg (pe_op op_fdivW (kix K (pv 0) pe_int) (pv 1)) (pg_sub (pv 0) pe_int set_list)) (pss_one (ps_ret (pv 2))))) pss_nil)
    (pss_cons (ps_asg (pe_op op_add (kix K (pv 0) pe_int) pe_int) (pg_sub (pv 0) pe_int set_list))
    (pss_cons (ps_set (i := 3) scTk.nd rfl (Or.inl rfl) (pe_op op_mod (kint T (pe_op op_mul (pe_op op_add (kix K (pv 0) pe_int) (pe_op op_mul pe_int (kix K (pv 0) pe_int))) (pe_op op_add pe_int (kix K (pv 0) pe_int)))) pe_int))
    (pss_cons (ps_set (i := 4) scTk.nd rfl (Or.inl rfl) (pe_op op_add (pe_op op_mod (kint T (pv 3)) pe_int) pe_int))
    (pss_cons (ps_set (i := 5) scTk.nd rfl (Or.inl rfl) (pe_op op_mod (kint T (pe_op op_mul (pe_op op_add (pe_op op_add (pv 3) (kix K (pv 0) pe_int)) (pe_op op_fdiv (kix K (pv 0) pe_int) pe_int)) (pv 4))) pe_int))
    (pss_one (ps_ret (pe_op op_mod (kint T (pe_op op_fdiv (pe_op op_mod (kint T (pe_op op_add (pe_op op_mul (pv 5) pe_int) (pv 3))) pe_int) pe_int)) (pv 1)))))))), ?_⟩
  have ix : ∀ (σ : L2.St) (H' : Hp) (a b c : Int) (i : Nat) (x : Int), H' p = some (.lst [.int a, .int b, .int c]) → σ[0]? = some (some (.ref p)) → [V.int a, V.int b, V.int c][i]? = some (.int x) → Ev (tOp (rIx K) (tVar 0) (tC (.int (i : Int)))) σ H' (.int x) := fun σ H' a b c i x h0 h1 h2 => ev_ixR (ev_var h1) ev_c (sq_of h0) h2
  refine q_when (et_test (ev_op (ix _ _ a b c 0 a hb rfl rfl) ev_c rv_I0)) (fun ha H1 e1 => ?_) (fun ha H1 e1 => ?_)
  · have hb1 := e1 _ _ hb
    refine q_asg (v := .int (a % m)) (ev_op (ev_intO (ix _ _ a b c 0 a hb1 rfl rfl)) (ev_var rfl) (rv_I (C := fun _ j => 0 < j) hm0)) fun H2 e2 => ?_
    have hb2 := e2 _ _ hb1
    refine q_setL (v := .int (a / m)) (j := 0) hb2 (ev_op (ix _ _ a b c 0 a hb2 rfl rfl) (ev_var rfl) (rv_I (C := CDivW) ⟨hm0, log_lt hm0 hm⟩)) (ev_var rfl) ev_c (by show 0 < 3; decide) fun H3 e3 => ?_
    have e13 := (e1.trans e2).trans e3
    refine s_ret (ev_var rfl) fun H4 e4 => r _ _ (Int.emod_nonneg _ (by omega)) (Int.emod_lt_of_pos _ hm0) ((Xp.set (xpe e13)).trans (xpe e4)) ⟨a / m, b, c, e4 _ _ upd_same, c0, by omega⟩
  · have hb1 := e1 _ _ hb
    refine q_setL (v := .int (c + 1)) (j := 2) hb1 (ev_op (ix _ _ a b c 2 c hb1 rfl rfl) ev_c rv_I0) (ev_var rfl) ev_c (by show 2 < 3; decide) fun H2 e2 => ?_
    have x2 : Xp p H (upd H2 p (.lst [.int a, .int b, .int (c + 1)])) := Xp.set (xpe (e1.trans e2))
    have hb2 : (upd H2 p (.lst [.int a, .int b, .int (c + 1)])) p = some (.lst [.int a, .int b, .int (c + 1)]) := upd_same
    show tSeq _ _ _ _ (upd H2 p (.lst [.int a, .int b, .int (c + 1)]))
    generalize upd H2 p (.lst [.int a, .int b, .int (c + 1)]) = H3 at x2 hb2
    refine q_asg (ev_op (ev_intO (ev_op (ev_op (ix _ _ a b (c + 1) 1 b hb2 rfl rfl) (ev_op ev_c (ix _ _ a b (c + 1) 2 (c + 1) hb2 rfl rfl) (rv_I (C := CMul) (.inl ⟨by omega, by omega⟩))) rv_I0) (ev_op ev_c (ix _ _ a b (c + 1) 2 (c + 1) hb2 rfl rfl) rv_I0) (rv_I (C := CMul) (.inr ⟨by omega, by omega⟩)))) ev_c (rv_I (C := fun _ j => 0 < j) (by decide))) fun H4 e4 => ?_
    have hb4 := e4 _ _ hb2
    generalize (b + 48271 * (c + 1)) * (39373 + (c + 1)) % 2147483647 = once
    refine q_asg (ev_op (ev_op (ev_intO (ev_var rfl)) ev_c (rv_I (C := fun _ j => 0 < j) (by decide))) ev_c rv_I0) fun H5 e5 => ?_
    have hb5 := e5 _ _ hb4
    have far1 : 0 ≤ once % 40009 := Int.emod_nonneg _ (by decide)
    have far2 : once % 40009 < 40009 := Int.emod_lt_of_pos _ (by decide)
    refine q_asg (ev_op (ev_intO (ev_op (ev_op (ev_op (ev_var rfl) (ix _ _ a b (c + 1) 2 (c + 1) hb5 rfl rfl) rv_I0) (ev_op (ix _ _ a b (c + 1) 1 b hb5 rfl rfl) ev_c (rv_I (C := CDiv) ⟨by decide, by decide⟩)) rv_I0) (ev_var rfl) (rv_I (C := CMul) (.inr ⟨by omega, by omega⟩)))) ev_c (rv_I (C := fun _ j => 0 < j) (by decide))) fun H6 e6 => ?_
    have hb6 := e6 _ _ hb5
    refine s_ret (ev_op (ev_intO (ev_op (ev_op (ev_intO (ev_op (ev_op (ev_var rfl) ev_c (rv_I (C := CMul) (.inr ⟨by decide, by decide⟩))) (ev_var rfl) rv_I0)) ev_c (rv_I (C := fun _ j => 0 < j) (by decide))) ev_c (rv_I (C := CDiv) ⟨by decide, by decide⟩))) (ev_var rfl) (rv_I (C := fun _ j => 0 < j) hm0)) fun H7 e7 => ?_
    exact r _ _ (Int.emod_nonneg _ (by omega)) (Int.emod_lt_of_pos _ hm0) (x2.trans (xpe (((e4.trans e5).trans e6).trans e7))) ⟨a, b, c + 1, e7 _ _ hb6, by omega, by omega⟩
/-- take(box, m) -/
theorem ex_take {σ : L2.St} {B : Hp} {p : Addr} {ta tb : TE} {E : XK} {m : Int} (h1 : Ev ta σ B (.ref p)) (h2 : Ev tb σ B (.int m)) (h0 : 0 < m) (hm : m < 10 ^ 60) : EvX (tCall spTk [] E (tCons ta (tCons tb tNil))) σ B p 1 (InR m) := fun H n e b hn Q r =>
  h1 H e _ fun H1 e1 => h2 H1 (e.trans e1) _ fun H2 e2 => ⟨p, m, n, rfl, b.ex (e1.trans e2), hn, h0, hm, fun x H' x0 xm xp bx => r _ H' ((xpe (e1.trans e2)).trans xp) bx ⟨x, rfl, x0, xm⟩⟩
end
end K73
end
section
set_option Elab.async false
set_option linter.all false
set_option maxRecDepth 100000
set_option maxHeartbeats 4000000
namespace K73
open PySem L2 Evl PyProof.Rows
theorem er_perm {α : Type} : ∀ {xs : List α} {j : Nat} {x : α}, xs[j]? = some x → xs.Perm (x :: xs.eraseIdx j)
  | [], _, _, h => by simp at h
  | y :: xs, 0, x, h => by
    have e : y = x := by simpa using h
    subst e
    exact .refl _
  | y :: xs, j + 1, x, h => by
    have ih := er_perm (xs := xs) (j := j) (x := x) (by simpa using h)
    show (y :: xs).Perm (x :: y :: xs.eraseIdx j)
    exact (ih.cons y).trans (List.Perm.swap x y _)
theorem er_map {α β : Type} (f : α → β) : ∀ (xs : List α) (j : Nat), (xs.map f).eraseIdx j = (xs.eraseIdx j).map f
  | [], _ => rfl
  | x :: xs, 0 => rfl
  | x :: xs, j + 1 => by
    show f x :: (xs.map f).eraseIdx j = f x :: (xs.eraseIdx j).map f
    rw [er_map f xs j]
theorem seqIx {i : Int} {n : Nat} (h0 : 0 ≤ i) (h : i < n) : seqIndex? i n = some i.toNat := by
  unfold seqIndex?
  simp only [show ¬ i < 0 by omega, if_false]
  rw [if_pos (by simp [h0, h])]
section
variable {X : Cx} {e e2 : Expr} {te ta tb : TE} {pos q : Pos}
theorem kabs (T : Tx X.mg) (ha : PE X e te) (hg : Gl X "abs" := by rfl) (hs : starEach [e] X.env = (false, eval e X.env) :: starEach [] X.env := by rfl) (hpl : (backTo pos (starEach [] X.env)).any (·.1) = false := by rfl) :
    PE X (.Call (.Name "abs" q) [e] [] pos) (tCB (fun xs H Q => ∃ i, xs = [.int i] ∧ Q (.int (if i < 0 then -i else i)) H) (tCons te tNil)) := pe_callB call_abs hg T.abs (by decide +kernel) (pa_cons ha pa_nil hs) (by decide) (by decide) hs hpl
theorem kmin (T : Tx X.mg) (hc : X.calm = true) (ha : PE X e ta) (hb : PE X e2 tb) (hg : Gl X "min" := by rfl) (hs : starEach [e, e2] X.env = (false, eval e X.env) :: starEach [e2] X.env := by rfl) (hs2 : starEach [e2] X.env = (false, eval e2 X.env) :: starEach [] X.env := by rfl) (hpl : (backTo pos (starEach [e2] X.env)).any (·.1) = false := by rfl) :
    PE X (.Call (.Name "min" q) [e, e2] [] pos) (tCB (fun xs H Q => ∃ i j, xs = [.int i, .int j] ∧ Q (.int (if j < i then j else i)) H) (tCons ta (tCons tb tNil))) := pe_callB (call_min2 hc) hg T.min (by decide +kernel) (pa_cons ha (pa_cons hb pa_nil hs2) hs) (by decide) (by decide) hs hpl
theorem kmax (T : Tx X.mg) (hc : X.calm = true) (ha : PE X e ta) (hb : PE X e2 tb) (hg : Gl X "max" := by rfl) (hs : starEach [e, e2] X.env = (false, eval e X.env) :: starEach [e2] X.env := by rfl) (hs2 : starEach [e2] X.env = (false, eval e2 X.env) :: starEach [] X.env := by rfl) (hpl : (backTo pos (starEach [e2] X.env)).any (·.1) = false := by rfl) :
    PE X (.Call (.Name "max" q) [e, e2] [] pos) (tCB (fun xs H Q => ∃ i j, xs = [.int i, .int j] ∧ Q (.int (if j > i then j else i)) H) (tCons ta (tCons tb tNil))) := pe_callB (call_max2 hc) hg T.max (by decide +kernel) (pa_cons ha (pa_cons hb pa_nil hs2) hs) (by decide) (by decide) hs hpl
end
section
variable {P : Program} {w : World} {K : PySem.W.Frag} {mg : Str → Option Value} {base : Heap}
variable {σ : L2.St} {B H : Hp} {te ta tb : TE}
theorem ev_abs {i : Int} (h : Ev te σ B (.int i)) : Ev (tCB (fun xs H Q => ∃ i, xs = [.int i] ∧ Q (.int (if i < 0 then -i else i)) H) (tCons te tNil)) σ B (.int (if i < 0 then -i else i)) := fun H e Q q => h H e _ fun H1 e1 => ⟨i, rfl, q H1 e1⟩
theorem ev_min {i j : Int} (h : Ev ta σ B (.int i)) (h2 : Ev tb σ B (.int j)) : Ev (tCB (fun xs H Q => ∃ i j, xs = [.int i, .int j] ∧ Q (.int (if j < i then j else i)) H) (tCons ta (tCons tb tNil))) σ B (.int (if j < i then j else i)) := fun H e Q q => h H e _ fun H1 e1 => h2 H1 (e.trans e1) _ fun H2 e2 => ⟨i, j, rfl, q H2 (e1.trans e2)⟩
theorem ev_max {i j : Int} (h : Ev ta σ B (.int i)) (h2 : Ev tb σ B (.int j)) : Ev (tCB (fun xs H Q => ∃ i j, xs = [.int i, .int j] ∧ Q (.int (if j > i then j else i)) H) (tCons ta (tCons tb tNil))) σ B (.int (if j > i then j else i)) := fun H e Q q => h H e _ fun H1 e1 => h2 H1 (e.trans e1) _ fun H2 e2 => ⟨i, j, rfl, q H2 (e1.trans e2)⟩
/-! ### _law_box -/
abbrev sBo : Stmt := topS 34
abbrev nBo : List Str := ["_law_script", "_law_k", "_law_cell"]
theorem scBo : FnScope nBo ["_law_script", "_law_k"] (defScope sBo) := ⟨rfl, rfl, rfl, by decide +kernel, rfl, by decide +kernel, by decide +kernel⟩
def spBo (K : PySem.W.Frag) : Sp := fun vs H Q _ => ∃ (B : Hp) (v : V) (zs : List Int) (k : Nat), vs = [v, .int (k : Int)] ∧ Ex B H ∧ Dp K B v (.list (zs.map PyData.int)) ∧ k < zs.length ∧ k ≤ 1000 ∧ ∀ q H', Ex H H' → H q = none → Bx q H' 0 → Q (.ref q) H'
theorem ok_bo {f : Addr} {fd : FuncData} (F : Fun K "_law_box" "_law_box" sBo f fd) (T : Tx mg) : FnOk P w K mg base CX0 1 f fd ["_law_script", "_law_k"] (spBo K) := by
  refine F.ok scBo (fun vs H Q E ⟨B, v, zs, k, e, _⟩ => by rw [e]; rfl) (fun cdv A outer s H vs Q E hr h => ?_)
  obtain ⟨B, v, zs, k, rfl, eb, hv, hk, hk2, r⟩ := h
  refine ⟨_, pss_cons (ps_set (i := 2) scBo.nd rfl (Or.inl rfl) (pe_ifExp (pt_cmpR op_lt (pv 1) (klen K T (pv 0)) (nomark _)) (kix K (pv 0) (pv 1)) pe_int))
    (pss_one (ps_ret (pe_lst (pa_cons (pe_op op_mul (kabs T (pv 2)) (kint T (pe_cmpR op_ge (kabs T (pv 2)) (pe_op op_pow pe_int pe_int) (nomark _)))) (pa_cons (pe_op op_add (pe_op op_add (pe_op op_mod (kint T (pv 2)) pe_int) (pe_op op_mul pe_int (pv 1))) pe_int) (pa_cons pe_int pa_nil)))))), ?_⟩
  have l := ev_lenD (K := K) (B := B) (σ := start nBo [v, .int (k : Int)]) (eg_d (i := 0) rfl hv) (.inl rfl)
  rw [List.length_map] at l
  have hz : (zs.map PyData.int)[k]? = some (.int zs[k]) := by
    rw [List.getElem?_map, List.getElem?_eq_getElem hk]
    rfl
  have ec : Ev (tIf (tTest (tOp (rI0 fun i j => .bl (decide (i < j))) (tVar 1) (tCB (rLenOf K) (tCons (tVar 0) tNil)))) (tOp (rIx K) (tVar 0) (tVar 1)) (tC (.int 0))) (start nBo [v, .int (k : Int)]) B (.int zs[k]) := by
    refine ev_if (et_test (ev_op (ev_var rfl) l rv_I0)) (fun _ => ev_imm (eg_ix (eg_d rfl hv) (.inl rfl) (ev_var rfl) hz) rfl) (fun h => ?_)
    rw [decide_eq_true (show (k : Int) < (zs.length : Int) by omega)] at h
    cases h
  refine q_asg (ec.mono eb) fun H1 e1 => ?_
  generalize zs[k] = z
  have b01 : ∀ b : Bool, -(2 ^ 64 : Int) < (if b = true then (1 : Int) else 0) ∧ (if b = true then (1 : Int) else 0) < 2 ^ 64 := fun b => by cases b <;> exact ⟨by decide, by decide⟩
  have a1 : Ev (tVar 2) (List.set (start nBo [v, .int (k : Int)]) 2 (some (.int z))) H1 (.int z) := ev_var rfl
  refine ev_op (ev_abs a1) (ev_intB (ev_op (ev_abs a1) (ev_op ev_c ev_c (rv_I (C := CPow) ⟨by decide, by decide, by decide⟩)) rv_I0)) (rv_I (C := CMul) (.inr (b01 _))) _ (Ex.refl _) _ fun H2 e2 => ?_
  have m3 : Ev (tOp (rI CMul fun i j => .int (i * j)) (tC (.int 39373)) (tVar 1)) (List.set (start nBo [v, .int (k : Int)]) 2 (some (.int z))) H1 (.int (39373 * (k : Int))) := ev_op ev_c (ev_var rfl) (rv_I (C := CMul) (.inl ⟨by decide, by decide⟩))
  have m1 : Ev (tOp (rI (fun _ j => 0 < j) fun i j => .int (i % j)) (tCB (fun xs H Q => (∃ i, xs = [.int i] ∧ Q (.int i) H) ∨ ∃ k, xs = [.bl k] ∧ Q (.int (if k then 1 else 0)) H) (tCons (tVar 2) tNil)) (tC (.int 2305843009213693951))) (List.set (start nBo [v, .int (k : Int)]) 2 (some (.int z))) H1 (.int (z % 2305843009213693951)) := ev_op (ev_intO a1) ev_c (rv_I (C := fun _ j => 0 < j) (by decide))
  refine ev_op (H := H1) (ev_op m1 m3 rv_I0) ev_c rv_I0 _ e2 _ fun H3 e3 => ?_
  exact ⟨by show 3 ≤ sizeLine; decide, fun q hq => r q _ (new_ex hq ((e1.trans e2).trans e3)) (fresh_back ((e1.trans e2).trans e3) hq) ⟨_, _, 0, upd_same, Int.le_refl _, Int.le_refl _⟩⟩
/-! ### _law_of -/
abbrev sOf : Stmt := topS 37
theorem scOf : FnScope ["_law_box_here", "_law_some"] ["_law_box_here", "_law_some"] (defScope sOf) := ⟨rfl, rfl, rfl, by decide +kernel, rfl, by decide +kernel, by decide +kernel⟩
def spOf (K : PySem.W.Frag) : Sp := fun vs H Q _ => ∃ (p : Addr) (n : Int) (B : Hp) (v : V) (zs : List Int), vs = [.ref p, v] ∧ Ex B H ∧ B p = none ∧ Dp K B v (.list (zs.map PyData.int)) ∧ zs ≠ [] ∧ zs.length ≤ 1000 ∧ Bx p H n ∧ n + 1 ≤ 1000000 ∧ ∀ z ∈ zs, ∀ H', Xp p H H' → Bx p H' (n + 1) → Q (.int z) H'
theorem ok_of {f : Addr} {fd : FuncData} (F : Fun K "_law_of" "_law_of" sOf f fd) (T : Tx mg) (oT : Own P w K mg base CX0 1 "_law_take" ["_law_box_here", "_law_below"] spTk) : FnOk P w K mg base CX0 2 f fd ["_law_box_here", "_law_some"] (spOf K) := by
  refine F.ok scOf (fun vs H Q E ⟨p, n, B, v, zs, e, _⟩ => by rw [e]; rfl) (fun cdv A outer s H vs Q E hr h => ?_)
  obtain ⟨p, n, B, v, zs, rfl, eb, hp, hv, hz, hl, bx, hn, r⟩ := h
  refine ⟨_, pss_one (ps_ret (kix K (pv 1) (pe_own oT hr (by decide) pass0 (pa_cons (pv 0) (pa_cons (klen K T (pv 1)) pa_nil))))), ?_⟩
  have l := ev_lenD (K := K) (B := B) (σ := start ["_law_box_here", "_law_some"] [.ref p, v]) (eg_d (i := 1) rfl hv) (.inl rfl)
  rw [List.length_map] at l
  have h0 : 0 < zs.length := List.length_pos_iff.mpr hz
  have tk : EvX (tCall spTk [] E0 (tCons (tVar 0) (tCons (tCB (rLenOf K) (tCons (tVar 1) tNil)) tNil))) (start ["_law_box_here", "_law_some"] [.ref p, v]) B p 1 (InR (zs.length : Int)) := ex_take (ev_var rfl) l (by omega) (by omega)
  refine ⟨v, rfl, tk H n eb bx hn _ fun x H1 xp b1 ⟨i, hx, i0, im⟩ => ?_⟩
  subst hx
  obtain ⟨a, xs, rfl, sq, hxs⟩ := dp_lst hv
  have ex := dpa_ints.mp hxs
  subst ex
  obtain ⟨k, rfl⟩ : ∃ k : Nat, i = (k : Int) := ⟨i.toNat, by omega⟩
  have hk : k < zs.length := by omega
  exact .inl ⟨a, _, (k : Int), .int zs[k], rfl, rfl, ex_l (xp_ex eb hp xp) sq, atI_nat (by rw [List.getElem?_map, List.getElem?_eq_getElem hk]; rfl), r _ (List.getElem_mem hk) H1 xp b1⟩
/-! ### _law_pick -/
abbrev sPi : Stmt := topS 38
abbrev nPi : List Str := ["_law_box_here", "_law_pool", "_law_size_so", "_law_rest", "_law_some", "_law_turn"]
theorem scPi : FnScope nPi ["_law_box_here", "_law_pool", "_law_size_so"] (defScope sPi) := ⟨rfl, rfl, rfl, by decide +kernel, rfl, by decide +kernel, by decide +kernel⟩
/-- some of ws, none twice -/
def PickP (K : PySem.W.Frag) (ws : List Str) (k : Int) : PV := fun v H => ∃ ss rs : List Str, (ss ++ rs).Perm ws ∧ (ss.length : Int) = (if (ws.length : Int) < k then (ws.length : Int) else k) ∧ Dp K H v (.list (ss.map PyData.str))
def spPi (K : PySem.W.Frag) : Sp := fun vs H Q _ => ∃ (p : Addr) (n : Int) (B : Hp) (v : V) (d : PD) (ws : List Str) (k : Int), vs = [.ref p, v, .int k] ∧ Ex B H ∧ B p = none ∧ Dp K B v d ∧ isSeq d (ws.map PyData.str) ∧ ws.length ≤ 20 ∧ 0 ≤ k ∧ Bx p H n ∧ n + 20 ≤ 1000000 ∧ RetX p 20 (PickP K ws k) B H n Q
theorem ok_pi {f : Addr} {fd : FuncData} (F : Fun K "_law_pick" "_law_pick" sPi f fd) (T : Tx mg) (oT : Own P w K mg base CX0 1 "_law_take" ["_law_box_here", "_law_below"] spTk) : FnOk P w K mg base CX0 2 f fd ["_law_box_here", "_law_pool", "_law_size_so"] (spPi K) := by
  refine F.ok scPi (fun vs H Q E ⟨p, n, B, v, d, ws, k, e, _⟩ => by rw [e]; rfl) (fun cdv A outer s H vs Q E hr h => ?_)
  obtain ⟨p, n, B, v, d, ws, k, rfl, eb, hp, hv, hd, hl, hk, bx, hn, r⟩ := h
  refine ⟨_, pss_cons (ps_par (i := 3) (j := 4) rfl scPi.nd rfl rfl (by decide) rfl rfl (pa_cons (klist K T (pv 1)) (pa_cons (pe_lst pa_nil) pa_nil)) rfl)
    (pss_cons (ps_for PassesOwn.never rfl (krange T (kmin T rfl (pv 2) (klen K T (pv 3)))) (pg_name (i := 5) scPi.nd rfl (Or.inl rfl))
      (pss_one (ps_expr (pe_bm PySem.F.plainAttrs_list PySem.F.slot_list_append PySem.F.type_list_append mt_append (pv 4) (pa_cons (pe_bm PySem.F.plainAttrs_list PySem.F.slot_list_pop PySem.F.type_list_pop mt_popAt (pv 3) (pa_cons (pe_own oT hr (by decide) pass0 (pa_cons (pv 0) (pa_cons (klen K T (pv 3)) pa_nil))) pa_nil)) pa_nil)))))
    (pss_one (ps_ret (pv 4)))), ?_⟩
  have hsq : ∃ a, v = .ref a ∧ (SqL K H a (ws.map V.str) ∨ SqT K H a (ws.map V.str)) := by
    rcases hd with rfl | rfl
    · obtain ⟨a, xs, rfl, sq, hx⟩ := dp_lst hv
      have ex := dpa_strs.mp hx
      subst ex
      exact ⟨a, rfl, .inl (ex_l eb sq)⟩
    · obtain ⟨a, xs, rfl, sq, hx⟩ := dp_tup hv
      have ex := dpa_strs.mp hx
      subst ex
      exact ⟨a, rfl, .inr (ex_t eb sq)⟩
  obtain ⟨av, rfl, hsq⟩ := hsq
  refine ⟨.ref av, rfl, av, _, rfl, hsq, fun L hL => ⟨by show 0 ≤ sizeLine; decide, fun S hS => ⟨_, _, rfl, ?_⟩⟩⟩
  have e2 : Ex H (upd (upd H L (.lst (ws.map V.str))) S (.lst [])) := new_ex hS (Ex.new hL)
  have nSL : L ≠ S := fun z => by
    rw [← z, upd_same] at hS
    cases hS
  have hS0 : H S = none := fresh_back (Ex.new hL) hS
  have hL2 : (upd (upd H L (.lst (ws.map V.str))) S (.lst [])) L = some (.lst (ws.map V.str)) := by
    rw [upd_ne nSL]
    exact upd_same
  have hS2 : (upd (upd H L (.lst (ws.map V.str))) S (.lst [])) S = some (.lst []) := upd_same
  have npL : p ≠ L := fun z => bx.ne (by rw [z]; exact hL)
  have npS : p ≠ S := fun z => bx.ne (by rw [z]; exact hS0)
  generalize upd (upd H L (.lst (ws.map V.str))) S (.lst []) = H2 at e2 hL2 hS2
  have eb2 : Ex B H2 := eb.trans e2
  have bx2 := bx.ex e2
  have nB : ∀ {x : Addr}, H x = none → B x = none := fun h => fresh_back eb h
  generalize hkk : (if (ws.length : Int) < k then (ws.length : Int) else k) = kk
  have hkk0 : 0 ≤ kk ∧ kk ≤ ws.length ∧ kk ≤ 20 := by
    rw [← hkk]
    split <;> omega
  have mn : Ev (tCB (fun xs H Q => ∃ i j, xs = [V.int i, V.int j] ∧ Q (.int (if j < i then j else i)) H) (tCons (tVar 2) (tCons (tCB (rLenOf K) (tCons (tVar 3) tNil)) tNil))) [some (.ref p), some (.ref av), some (.int k), some (.ref L), some (.ref S), none] H2 (.int kk) := by
    have l : Ev (tCB (rLenOf K) (tCons (tVar 3) tNil)) [some (.ref p), some (.ref av), some (.int k), some (.ref L), some (.ref S), none] H2 (.int (ws.length : Int)) := fun H' e Q q => ⟨.ref L, rfl, L, _, rfl, .inl (sq_of (e _ _ hL2)), by rw [List.length_map]; exact q H' (Ex.refl _)⟩
    have q := ev_min (ta := tVar 2) (i := k) (ev_var rfl) l
    rw [hkk] at q
    exact q
  have mnA : EvA (tCons (tCB (fun xs H Q => ∃ i j, xs = [V.int i, V.int j] ∧ Q (V.int (if j < i then j else i)) H) (tCons (tVar 2) (tCons (tCB (rLenOf K) (tCons (tVar 3) tNil)) tNil))) tNil) [some (.ref p), some (.ref av), some (.int k), some (.ref L), some (.ref S), none] H2 [.int kk] := fun H1 e Q q => mn H1 e _ fun H4 e4 => q H4 e4
  refine q_forR1 (n := kk) mnA (by omega) (fun i σ' H' => ∃ (a5 : Option V) (rs ss : List Str), σ' = [some (V.ref p), some (.ref av), some (.int k), some (.ref L), some (.ref S), a5] ∧ Xp p H H' ∧ Bx p H' (n + i) ∧ H' L = some (.lst (rs.map V.str)) ∧ H' S = some (.lst (ss.map V.str)) ∧ (ss ++ rs).Perm ws ∧ ss.length = i) ?_ ?_ ?_
  · exact fun H3 e3 => ⟨none, ws, [], rfl, xpe (e2.trans e3), (bx2.ex e3).le (by omega), e3 _ _ hL2, e3 _ _ hS2, List.Perm.refl _, rfl⟩
  · rintro i σ' H' hi ⟨a5, rs, ss, rfl, xp, b, h1, h2, hperm, hlen⟩
    have hpl := hperm.length_eq
    rw [List.length_append] at hpl
    have hrs : 0 < rs.length := by omega
    refine ⟨.ref S, rfl, .inl ⟨rfl, _, sq_of h2⟩, .ref L, rfl, .inl ⟨rfl, _, sq_of h1⟩, .ref p, rfl, .ref L, rfl, L, _, rfl, .inl (sq_of h1), p, _, n + i, rfl, b, by omega, by rw [List.length_map]; omega, by rw [List.length_map]; omega, fun r H4 r0 rm xq b4 => ?_⟩
    rw [List.length_map] at rm
    have hL4 := xq.at_ (Ne.symm npL) h1
    have hS4 := xq.at_ (Ne.symm npS) h2
    have hrk : r.toNat < rs.length := by omega
    refine ⟨L, rs.map V.str, r, r.toNat, .str rs[r.toNat], rfl, rfl, hL4, by omega, by omega, seqIx r0 (by rw [List.length_map]; exact rm), by rw [List.getElem?_map, List.getElem?_eq_getElem hrk]; rfl, ?_⟩
    refine ⟨S, ss.map V.str, .str rs[r.toNat], rfl, rfl, by rw [upd_ne (Ne.symm nSL)]; exact hS4, sz_lt (by rw [List.length_map]; omega), ?_⟩
    rw [er_map]
    refine ⟨_, rs.eraseIdx r.toNat, ss ++ [rs[r.toNat]], rfl, ?_, ?_, ?_, ?_, ?_, by rw [List.length_append]; show ss.length + 1 = _; omega⟩
    · intro a o ha
      have nL : a ≠ L := fun z => by
        rw [z, del_ne (Ne.symm npL), hL] at ha
        cases ha
      have nS : a ≠ S := fun z => by
        rw [z, del_ne (Ne.symm npS), hS0] at ha
        cases ha
      rw [upd_ne nS, upd_ne nL]
      exact (xp.trans xq) a o ha
    · obtain ⟨a, b', c, q1, q2, q3⟩ := b4
      exact ⟨a, b', c, by rw [upd_ne npS, upd_ne npL]; exact q1, q2, by omega⟩
    · rw [upd_ne nSL]
      exact upd_same
    · rw [upd_same, List.map_append]
      rfl
    · have ep := er_perm (show rs[r.toNat]? = some rs[r.toNat] from List.getElem?_eq_getElem hrk)
      rw [List.append_assoc]
      exact (ep.symm.append_left ss).trans hperm
  · rintro σ' H' ⟨a5, rs, ss, rfl, xp, b, h1, h2, hperm, hlen⟩
    refine ⟨_, rfl, r _ H' xp (b.le (by omega)) ⟨ss, rs, hperm, by rw [hkk]; omega, .lst (xs := ss.map V.str) (sq_of (by rw [cut_new hS0]; exact h2)) (dpa_strs.mpr rfl)⟩⟩
end
end K73
end
section
set_option Elab.async false
set_option linter.all false
set_option maxRecDepth 100000
set_option maxHeartbeats 4000000
namespace K73
open PySem L2 Evl PyProof.Rows
/-- all but p and D stay -/
def X2 (p D : Addr) (H H' : Hp) : Prop := ∀ x o, x ≠ p → x ≠ D → H x = some o → H' x = some o
section
variable {K : PySem.W.Frag} {B B' H H0 H1 H2 H3 H' : Hp} {p D : Addr} {n m : Int} {σ : L2.St} {te ta tb tt : TE} {P : PV} {v y : V} {ds : List PD} {d : PD}
theorem X2.trans (a : X2 p D H H1) (b : X2 p D H1 H2) : X2 p D H H2 := fun x o h1 h2 h => b x o h1 h2 (a x o h1 h2 h)
theorem X2.refl : X2 p D H H := fun _ _ _ _ h => h
theorem Xp.x2 (a : Xp p H H1) : X2 p D H H1 := fun x o h1 _ h => a.at_ h1 h
/-- a list D that is made while the box at p changes; H0 the heap ahead of it -/
structure Blx (K : PySem.W.Frag) (B H0 : Hp) (D p : Addr) (n : Int) (H' : Hp) (ds : List PD) : Prop where
  free : H0 D = none
  eB : Ex B H0
  nop : B p = none
  pH : H0 p ≠ none
  xp : Xp p H0 H'
  bx : Bx p H' n
  at_ : ∃ vs, H' D = some (.lst vs) ∧ DpAll K (cut B (upd H0 D (.lst [])) H') vs ds
theorem Blx.nob (b : Blx K B H0 D p n H' ds) : B D = none := fresh_back b.eB b.free
theorem Blx.ne (b : Blx K B H0 D p n H' ds) : p ≠ D := fun z => b.pH (by rw [z]; exact b.free)
/-- the base of a turn -/
abbrev bx_ (B H0 : Hp) (D : Addr) (H' : Hp) : Hp := cut B (upd H0 D (.lst [])) H'
theorem Blx.nD (b : Blx K B H0 D p n H' ds) (G : Hp) : bx_ B H0 D G D = none := cut_pos b.nob upd_some
theorem Blx.nP (b : Blx K B H0 D p n H' ds) (G : Hp) : bx_ B H0 D G p = none := cut_pos b.nop (by rw [upd_ne b.ne]; exact b.pH)
theorem Blx.x2 (b : Blx K B H0 D p n H' ds) (x : X2 p D H' H2) : Ex (bx_ B H0 D H') (bx_ B H0 D H2) := fun a o h => by
  have nd : a ≠ D := ne_of_none h (b.nD _)
  have np : a ≠ p := ne_of_none h (b.nP _)
  unfold bx_ cut at h ⊢
  split at h
  · cases h
  · rename_i q
    rw [if_neg q]
    exact x a o np nd h
theorem Blx.start (h : H0 D = none) (e : Ex B H0) (hp : B p = none) (b : Bx p H0 n) : Blx K B H0 D p n (upd H0 D (.lst [])) [] := by
  have ne : p ≠ D := fun z => b.ne (by rw [z]; exact h)
  exact ⟨h, e, hp, b.ne, xpe (Ex.new h), b.ex (Ex.new h), [], upd_same, .nil⟩
theorem Blx.keep (b : Blx K B H0 D p n H' ds) (x : Xp p H' H2) (bx : Bx p H2 m) : Blx K B H0 D p m H2 ds := by
  obtain ⟨vs, h1, h2⟩ := b.at_
  exact ⟨b.free, b.eB, b.nop, b.pH, b.xp.trans x, bx, vs, x.at_ (Ne.symm b.ne) h1, dpa_mono (b.x2 x.x2) h2⟩
theorem Blx.eb (b : Blx K B H0 D p n H' ds) : Ex B (bx_ B H0 D H') := fun a o h => by
  show cut B _ H' a = some o
  rw [cut_old h]
  exact xp_ex b.eB b.nop b.xp a o h
theorem Blx.push (b : Blx K B H0 D p n H' ds) {vs : List V} (hv : H' D = some (.lst vs)) (hy : Dp K (bx_ B H0 D H') y d) : Blx K B H0 D p n (upd H' D (.lst (vs ++ [y]))) (ds ++ [d]) := by
  obtain ⟨us, h1, h2⟩ := b.at_
  rw [hv] at h1
  cases h1
  have x2 : X2 p D H' (upd H' D (.lst (vs ++ [y]))) := fun x o _ h2 h => by
    rw [upd_ne h2]
    exact h
  refine ⟨b.free, b.eB, b.nop, b.pH, fun a o h => ?_, ?_, _, upd_same, dpa_mono (b.x2 x2) (dpa_snoc h2 hy)⟩
  · have nd : a ≠ D := fun z => by
      rw [z, del_ne (Ne.symm b.ne), b.free] at h
      cases h
    rw [upd_ne nd]
    exact b.xp a o h
  · obtain ⟨a, b', c, q1, q2, q3⟩ := b.bx
    exact ⟨a, b', c, by rw [upd_ne b.ne]; exact q1, q2, q3⟩
theorem Blx.len (b : Blx K B H0 D p n H' ds) : ∃ vs, H' D = some (.lst vs) ∧ vs.length = ds.length := by
  obtain ⟨vs, h1, h2⟩ := b.at_
  exact ⟨vs, h1, dpa_len h2⟩
theorem Blx.sub (b : Blx K B H0 D p n H' ds) (G : Hp) : Ex (bx_ B H0 D G) (cut B H0 G) := fun a o h => by
  unfold bx_ cut at h
  unfold cut
  split at h
  · cases h
  · rename_i q
    rw [if_neg fun z => q ⟨z.1, ?_⟩]
    · exact h
    · by_cases e : a = D
      · rw [e]
        exact upd_some
      · rw [upd_ne e]
        exact z.2
/-- found; tuple(found) -/
theorem Blx.tup (b : Blx K B H0 D p n H' ds) {vs : List V} (hv : H' D = some (.lst vs)) (x : X2 p D H' H2) : DpAll K (cut B H0 H2) vs ds := by
  obtain ⟨us, h1, h2⟩ := b.at_
  rw [hv] at h1
  cases h1
  exact dpa_mono (b.sub _) (dpa_mono (b.x2 x) h2)
/-! ### picks -/
/-- an int with R -/
def ExI (R : Int → Prop) : PV := fun v _ => ∃ k : Int, v = .int k ∧ R k
theorem ev_exI {k : Int} {R : Int → Prop} {c : Int} (h : Ev te σ B (.int k)) (hR : R k) (hc : 0 ≤ c) : EvX te σ B p c (ExI R) := EvG.x (eg_of h fun _ => ⟨k, rfl, hR⟩) hc
theorem ex_takeI {E : XK} {m : Int} (h1 : Ev ta σ B (.ref p)) (h2 : Ev tb σ B (.int m)) (h0 : 0 < m) (hm : m < 10 ^ 60) : EvX (tCall spTk [] E (tCons ta (tCons tb tNil))) σ B p 1 (ExI fun r => 0 ≤ r ∧ r < m) := ex_take h1 h2 h0 hm
theorem ex_addI {i c : Int} {R : Int → Prop} (h1 : Ev ta σ B (.int i)) (h2 : EvX tb σ B p c (ExI R)) (hc : 0 ≤ c) : EvX (tOp (rI0 fun i j => .int (i + j)) ta tb) σ B p c (ExI fun k => ∃ r, R r ∧ k = i + r) := fun H n e b hn Q r =>
  h1 H e _ fun H1 e1 => h2 H1 n (e.trans e1) (b.ex e1) hn _ fun v H2 xp b2 ⟨k, hv, hk⟩ => ⟨i, k, rfl, hv, r _ H2 ((xpe e1).trans xp) b2 ⟨i + k, rfl, k, hk, rfl⟩⟩
theorem ex_pick {E : XK} {ws : List Str} {c : Int} {R : Int → Prop} (h1 : Ev ta σ B (.ref p)) (hp : B p = none) (h2 : EvG tb σ B (Dd K d)) (hd : isSeq d (ws.map PyData.str)) (hl : ws.length ≤ 20) (h3 : ∀ B', Ex B B' → B' p = none → EvX tt σ B' p c (ExI R)) (hR : ∀ k, R k → 0 ≤ k) (hc : 0 ≤ c) :
    EvX (tCall (spPi K) [] E (tCons ta (tCons tb (tCons tt tNil)))) σ B p (c + 20) (fun v H => ∃ k, R k ∧ PickP K ws k v H) := fun H n e b hn Q r => h1 H e _ fun H1 e1 => h2 H1 (e.trans e1) _ fun v H2 e2 q => by
  have b2 := b.ex (e1.trans e2)
  have eb2 : Ex B H2 := e.trans (e1.trans e2)
  have q' : Dp K (cut B H1 H2) v d := q
  have eb' : Ex B (cut B H1 H2) := ex_cut (e.trans e1) e2
  have np : cut B H1 H2 p = none := cut_pos hp (b.ex e1).ne
  refine (h3 _ eb' np).go np cut_ex b2 (by omega) fun u H3 xp b3 eb3 ec3 np3 ⟨k, hu, hk⟩ => ?_
  subst hu
  refine ⟨p, n + c, _, v, d, ws, k, rfl, ec3, np3, dp_mono eb3 q', hd, hl, hR k hk, b3, by omega, fun w H4 xq b4 ⟨ss, rs, s1, s2, s3⟩ => ?_⟩
  have x12 : Xp p H H2 := xpe (e1.trans e2)
  have dm : Dm H H1 := dm_of e1
  refine r w H4 ((x12.trans xp).trans xq) (b4.le (by omega)) ⟨k, hk, ss, rs, s1, s2, dp_mono (fun a o h => ?_) s3⟩
  -- the cuts
  have np2 : ∀ G, cut (cut (cut B H1 H2) H2 H3) H3 G p = none := fun G => cut_pos np3 b3.ne
  unfold cut
  by_cases hB : B a = none ∧ H a ≠ none
  · exfalso
    have h1 : H1 a ≠ none := dm a hB.2
    have e1' : cut B H1 H2 a = none := cut_pos hB.1 h1
    have h2 : H2 a ≠ none := dm_of e2 a h1
    have e2' : cut (cut B H1 H2) H2 H3 a = none := cut_pos e1' h2
    have h3 : H3 a ≠ none := xp_dm xp b3.ne a h2
    rw [cut_pos e2' h3] at h
    cases h
  · rw [if_neg hB]
    exact cut_ex a o h
theorem pick_nd {ws ss rs : List Str} (h : (ss ++ rs).Perm ws) (nd : ws.Nodup) : ss.Nodup ∧ ∀ s ∈ ss, s ∈ ws := by
  have q := h.nodup_iff.mpr nd
  exact ⟨(List.nodup_append.mp q).1, fun s hs => h.mem_iff.mp (List.mem_append.mpr (.inl hs))⟩
theorem cut_mem {xs : List V} {lo hi : Option Int} {x : V} (h : x ∈ cutV xs lo hi) : x ∈ xs := List.mem_of_mem_drop (List.mem_of_mem_take h)
/-- for g in xs[:e], the box changing -/
theorem qx_forS {En : Ends} {tz tu : TS} {g : TG} {tl : TE} {a : Addr} {ms : List Str} {c : Int} {R : Int → Prop} (h1 : Ev tl σ B (.ref a)) (hx : SqL K B a (ms.map V.str)) (h2 : EvX tt σ B p c (ExI R)) (hp : B p = none) (e : Ex B H) (b : Bx p H n) (hn : n + c ≤ 1000000) (hl : ms.length ≤ 1000)
    (Pv : Hp → Nat → L2.St → Hp → Prop) (h0 : ∀ H3, Xp p H H3 → Bx p H3 (n + c) → Pv H3 0 σ H3) (hG : ∀ H3 i σ' H', Xp p H H3 → Pv H3 i σ' H' → X2 p D H3 H') (hD : H D ≠ none)
    (hs : ∀ H3 i s σ' H', Xp p H H3 → i < ms.length → Pv H3 i σ' H' → s ∈ ms → g (.str s) σ' H' fun σ2 H4 => tu { En with nx := Pv H3 (i + 1), ct := Pv H3 (i + 1), bk := tz En } σ2 H4) (hd : ∀ H3 i σ' H', Xp p H H3 → i ≤ ms.length → Pv H3 i σ' H' → tz En σ' H') :
    tSeq (tFor (iSeq K (tSl (rSlL K) tl tNoPart (tPart tt))) g tu) tz En σ H := h1 H e _ fun H1 e1 => by
  dsimp only [tNoPart, tPart]
  refine h2 H1 n (e.trans e1) (b.ex e1) hn _ fun v H2 xp b2 ⟨k, hv, hk⟩ => ⟨k, hv, a, _, rfl, ex_l (xp_ex (e.trans e1) hp xp) hx, fun l hl' => ?_⟩
  generalize hcs : cutV (ms.map V.str) none (some k) = cs
  have hcl : cs.length ≤ ms.length := by
    have := cutV_length (ms.map V.str) none (some k)
    rw [hcs, List.length_map] at this
    exact this
  have hcm : ∀ x ∈ cs, ∃ s ∈ ms, x = .str s := fun x hx => by
    rw [← hcs] at hx
    obtain ⟨s, hs, e⟩ := List.mem_map.mp (cut_mem hx)
    exact ⟨s, hs, e.symm⟩
  have xp3 : Xp p H (upd H2 l (.lst cs)) := ((xpe e1).trans xp).trans (xpe (Ex.new hl'))
  have b3 := b2.ex (Ex.new (o := .lst cs) hl')
  have hl3 : (upd H2 l (.lst cs)) l = some (.lst cs) := upd_same
  have nlp : l ≠ p := fun z => b2.ne (by rw [← z]; exact hl')
  have nlD : l ≠ D := fun z => by
    have hH : H l = none := xp_back ((xpe e1).trans xp) b2.ne hl'
    rw [z] at hH
    exact hD hH
  generalize upd H2 l (.lst cs) = H3 at xp3 b3 hl3
  refine ⟨l, rfl, .inl ⟨⟨cs, sq_of hl3⟩, ?_⟩⟩
  refine for_it (walk_list (xs := cs)) (D := { En with nx := tz En }) (Pv H3) (h0 H3 xp3 b3) (fun i σ' H' _ p' => sq_of (hG H3 i σ' H' xp3 p' l _ nlp nlD hl3)) (fun i x σ' H' H'' hi p' y => ?_) (fun σ' H' p' => hd H3 _ σ' H' xp3 hcl p')
  obtain ⟨rfl, hx'⟩ := y
  obtain ⟨s, hs', rfl⟩ := hcm x (List.mem_of_getElem? hx')
  exact hs H3 i s σ' H'' xp3 (by omega) p' hs'
/-- the NET that is returned -/
def NetP (K : PySem.W.Frag) (R : NetM → Prop) : PV := fun v H => ∃ N, R N ∧ Dp K H v (netD N)
end
end K73
end
section
set_option Elab.async false
set_option linter.all false
set_option maxRecDepth 100000
set_option maxHeartbeats 4000000
namespace K73
open PySem L2 Evl PyProof.Rows
theorem ksl (K : PySem.W.Frag) {X : Cx} (hK : X.K = K := by rfl) : SlR X (rSlL K) := by
  subst hK
  exact sl_list
section
variable {K : PySem.W.Frag} {B B' H H0 H1 H2 H3 H' : Hp} {p D : Addr} {n m : Int} {σ : L2.St} {te ta tb : TE} {tt tu : TT} {P : PV} {v y : V} {ds : List PD} {d : PD} {c c' : Int} {R R' : Int → Prop}
theorem qx_asgI {En : Ends} {tz : TS} {i : Nat} (h : EvX te σ B p c (ExI R)) (e : Ex B H) (b : Bx p H n) (hn : n + c ≤ 1000000) (k : ∀ r H1, R r → Xp p H H1 → Bx p H1 (n + c) → tz En (σ.set i (some (.int r))) H1) : tSeq (tAsg te (gName i)) tz En σ H := h H n e b hn _ fun v H1 x b1 ⟨r, hv, hr⟩ => by
  subst hv
  exact k r H1 hr x b1
theorem EvX.impI (h : EvX te σ B p c (ExI R)) (k : ∀ r, R r → R' r) : EvX te σ B p c (ExI R') := fun H n e b hn Q r => h H n e b hn Q fun v H1 x b1 ⟨z, hv, hz⟩ => r v H1 x b1 ⟨z, hv, k z hz⟩
theorem ex_opI {ro : R2} {j : Int} {g : Int → Int} (h1 : EvX ta σ B p c (ExI R)) (h2 : Ev tb σ B (.int j)) (hr : ∀ r, R r → ∀ H, RV ro (.int r) (.int j) H (.int (g r))) (hc : 0 ≤ c) (hp : B p = none) : EvX (tOp ro ta tb) σ B p c (ExI fun k => ∃ r, R r ∧ k = g r) := fun H n e b hn Q r =>
  h1 H n e b hn _ fun v H1 x b1 ⟨z, hv, hz⟩ => by
    subst hv
    exact h2 H1 (xp_ex e hp x) _ fun H2 e2 => hr z hz H2 H2 (Ex.refl _) Q fun H3 e3 => r _ H3 (x.trans (xpe (e2.trans e3))) (b1.ex (e2.trans e3)) ⟨g z, rfl, z, hz, rfl⟩
theorem ex_intI (h : EvX te σ B p c (ExI R)) : EvX (tCB (fun xs H Q => (∃ i, xs = [.int i] ∧ Q (.int i) H) ∨ ∃ k, xs = [.bl k] ∧ Q (.int (if k then 1 else 0)) H) (tCons te tNil)) σ B p c (ExI R) := fun H n e b hn Q r => h H n e b hn _ fun v H1 x b1 ⟨z, hv, hz⟩ => by
  subst hv
  exact .inl ⟨z, rfl, r _ H1 x b1 ⟨z, rfl, hz⟩⟩
/-- a test with draws -/
def EvTx (tt : TT) (σ : L2.St) (B : Hp) (p : Addr) (c : Int) : Prop := ∀ H n, Ex B H → Bx p H n → n + c ≤ 1000000 → ∀ Q : Bool → Hp → Prop, (∀ b H', Xp p H H' → Bx p H' (n + c) → Q b H') → tt σ H Q
theorem tx_and {a : Bool} (h1 : EvT tt σ B a) (h2 : EvTx tu σ B p c) (hc : 0 ≤ c) : EvTx (tAnd tt tu) σ B p c := fun H n e b hn Q r => h1 H e _ fun H1 e1 => by
  cases a with
  | true =>
    show tu σ H1 Q
    exact h2 H1 n (e.trans e1) (b.ex e1) hn Q fun q H' x b' => r q H' ((xpe e1).trans x) b'
  | false =>
    show Q false H1
    exact r false H1 (xpe e1) ((b.ex e1).le (by omega))
theorem tx_gt {j : Int} (h1 : EvX ta σ B p c (ExI R)) (h2 : Ev tb σ B (.int j)) (hp : B p = none) : EvTx (tTest (tOp (rI0 fun i j => .bl (decide (j < i))) ta tb)) σ B p c := fun H n e b hn Q r => h1 H n e b hn _ fun v H1 x b1 ⟨z, hv, hz⟩ => by
  subst hv
  exact h2 H1 (xp_ex e hp x) _ fun H2 e2 => ⟨z, j, rfl, rfl, _, rfl, r _ H2 (x.trans (xpe e2)) (b1.ex e2)⟩
/-- the box's list of values, made turn by turn -/
def NX (B : Hp) (P : PV) (n : Nat) : PV := fun v H => ∃ a xs, v = .ref a ∧ H a = some (.lst xs) ∧ B a = none ∧ xs.length = n ∧ ∀ x ∈ xs, P x (del H a)
theorem cut_x (hn : B p = none) (hd : H0 p ≠ none) (x : Xp p H' H2) : Ex (cut B H0 H') (cut B H0 H2) := fun a o h => by
  have np : a ≠ p := ne_of_none h (cut_pos hn hd)
  unfold cut at h ⊢
  split at h
  · cases h
  · rename_i q
    rw [if_neg q]
    exact x.at_ np h
theorem ex_lcP {wi : TI} {g : TG} {vs : List Nat} {k : Nat} {Y : YT} (hm : Mon P) (hi : EvI wi σ B k Y) (hk : k ≤ 1000) (hc : 0 ≤ c) (hp : B p = none)
    (hs : ∀ B' i x H1 H2 m Q, Ex B B' → B' p = none → i < k → Ex B' H1 → Bx p H1 m → m + c ≤ 1000000 → Y B' i H1 x H2 → RetX p c P B' H1 m Q → g x (wipe σ vs) H2 fun σ2 H3 => wipe σ2 vs = wipe σ vs ∧ te σ2 H3 Q) :
    EvX (tLc wi g tYes te vs) σ B p (k * c) (NX B P k) := fun H n e b hn Q r => hi H e _ fun J H2 e2 w D hD => by
  have hB : cut B H H2 D = none := fresh_back cut_ex hD
  have hBp : cut B H H2 p = none := cut_pos hp b.ne
  have hB0 : B D = none := fresh_back (e.trans e2) hD
  have eB : Ex B (cut B H H2) := ex_cut e e2
  have dm0 : Dm H (upd H2 D (.lst [])) := dm_of (e2.trans (Ex.new hD))
  have b2 := b.ex e2
  have ne : p ≠ D := fun z => b2.ne (by rw [z]; exact hD)
  have n2p : (upd H2 D (.lst [])) p ≠ none := by
    rw [upd_ne ne]
    exact b2.ne
  refine lc_it w (fun i H' => Xp p H2 H' ∧ Bx p H' (n + i * c) ∧ ∃ vs, H' D = some (.lst vs) ∧ vs.length = i ∧ ∀ x ∈ vs, P x (cut (cut B H H2) (upd H2 D (.lst [])) H')) ?_ ?_ ?_ ?_
  · exact ⟨xpe (Ex.new hD), (b2.ex (Ex.new hD)).le (by omega), [], upd_same, rfl, fun x h => absurd h List.not_mem_nil⟩
  · rintro i H' _ ⟨xp, _⟩
    exact xp_ex cut_ex hBp xp
  · rintro i x H' H'' hlt ⟨xp, bx, us, hu, hl, hpe⟩ yy
    have ec : Ex (cut B H H2) H' := xp_ex cut_ex hBp xp
    have hic : (i : Int) * c + c ≤ k * c := by
      have : ((i : Int) + 1) * c ≤ (k : Int) * c := Int.mul_le_mul_of_nonneg_right (by omega) hc
      rw [Int.add_mul, Int.one_mul] at this
      exact this
    refine hs (cut B H H2) i x H' H'' (n + i * c) _ eB hBp hlt ec bx (by omega) yy fun y H4 x4 b4 hy => ?_
    have hu4 := x4.at_ (Ne.symm ne) hu
    refine ⟨us, hu4, sz_lt (by omega), fun a o ha => ?_, ?_, us ++ [y], upd_same, by rw [List.length_append, hl]; rfl, fun z hz => ?_⟩
    · have nD : a ≠ D := fun z => by
        rw [z, del_ne (Ne.symm ne), hD] at ha
        cases ha
      rw [upd_ne nD]
      exact (xp.trans x4) a o ha
    · obtain ⟨q1, q2, q3, q4, q5, q6⟩ := b4
      refine ⟨q1, q2, q3, by rw [upd_ne ne]; exact q4, q5, ?_⟩
      have : ((i + 1 : Nat) : Int) * c = i * c + c := by
        rw [Int.natCast_add, Int.add_mul]
        omega
      omega
    · rw [cut_upd hB (by rw [upd_same]; exact fun z => nomatch z)]
      rcases List.mem_append.mp hz with hz | hz
      · exact hm z _ _ (cut_x hBp n2p x4) (hpe z hz)
      · rw [List.mem_singleton.mp hz]
        refine hm y _ _ (cut_dm fun a ha => ?_) hy
        by_cases ea : a = D
        · rw [ea, hu]
          exact fun z => nomatch z
        · rw [upd_ne ea] at ha
          exact xp_dm xp bx.ne a ha
  · rintro H' ⟨xp, bx, us, hu, hl, hpe⟩
    refine r (.ref D) H' ((xpe e2).trans xp) bx ⟨D, us, rfl, ?_, hB0, hl, fun x hx => hm x _ _ (fun a o h => ?_) (hpe x hx)⟩
    · rw [cut_new (fresh_back e2 hD)]
      exact hu
    · unfold del
      by_cases ea : a = D
      · rw [ea, cut_pos hB (by rw [upd_same]; exact fun z => nomatch z)] at h
        cases h
      · rw [if_neg ea]
        exact cut_sub rfl dm0 _ _ h
theorem qx_swap {En : Ends} {tz : TS} {i j : Nat} {x y : Int} (h : EvTx tt σ B p c) (e : Ex B H) (b : Bx p H n) (hn : n + c ≤ 1000000) (hi : σ[i]? = some (some (.int x))) (hj : σ[j]? = some (some (.int y))) (hσ : (σ.set i (some (.int x))).set j (some (.int y)) = σ)
    (k : ∀ o t H1, ((o = x ∧ t = y) ∨ (o = y ∧ t = x)) → Xp p H H1 → Bx p H1 (n + c) → tz En ((σ.set i (some (.int o))).set j (some (.int t))) H1) : tSeq (tIfS tt (tPar i j (tCons (tVar j) (tCons (tVar i) tNil))) tNext) tz En σ H := h H n e b hn _ fun q H1 x1 b1 => by
  cases q with
  | true => exact ⟨_, hj, _, hi, _, _, rfl, k y x H1 (.inr ⟨rfl, rfl⟩) x1 b1⟩
  | false =>
    have g := k x y H1 (.inl ⟨rfl, rfl⟩) x1 b1
    rw [hσ] at g
    exact g
theorem ints_of : ∀ {xs : List V}, (∀ x ∈ xs, ∃ k : Int, x = .int k ∧ R k) → ∃ hs : List Int, xs = hs.map V.int ∧ ∀ h ∈ hs, R h
  | [], _ => ⟨[], rfl, fun h hh => absurd hh List.not_mem_nil⟩
  | x :: xs, h => by
    obtain ⟨k, hk, hR⟩ := h x List.mem_cons_self
    obtain ⟨hs, e, hh⟩ := ints_of fun y hy => h y (List.mem_cons_of_mem _ hy)
    refine ⟨k :: hs, by rw [hk, e]; rfl, fun z hz => ?_⟩
    rcases List.mem_cons.mp hz with rfl | hz
    · exact hR
    · exact hh z hz
theorem mon_exI : Mon (ExI R) := fun _ _ _ _ h => h
/-- the NET that is returned -/
theorem sx_ret {En : Ends} {i j : Nat} {vt : V} {tags : List Str} {qs : List Qu} {RN : NetM → Prop} {n0 : Int} (hi : σ[i]? = some (some vt)) (hj : σ[j]? = some (some (.ref D))) (ht : Dp K B vt (.list (tags.map PyData.str))) (hl : tags.length < 64) (b : Blx K B H0 D p n H' (qs.map quD)) (hn : n ≤ n0 + c)
    (r : RetX p c (NetP K RN) B H0 n0 En.rt) (hR : ∀ ws : List Str, ws.Perm tags → RN ⟨ws, qs⟩) :
    tRet (tTup (tCons (tCB (rTupOf K) (tCons (tCB (rSortedS K) (tCons (tVar i) tNil)) tNil)) (tCons (tCB (rTupOf K) (tCons (tVar j) tNil)) tNil))) En σ H' := by
  have S1 := eg_tupP (eg_sortS (K := K) (B := B) (eg_d hi ht) hl)
  have eB' : Ex B H' := xp_ex b.eB b.nop b.xp
  refine S1.go eB' fun v H1 e1 eb ec ⟨ws, pw, dw⟩ => ?_
  obtain ⟨vs, hvs, hlen⟩ := b.len
  refine ⟨.ref D, hj, D, vs, rfl, .inl ⟨sq_of (e1 _ _ hvs), fun l hl => ⟨by show 2 ≤ sizeLine; decide, fun l2 hl2 => ?_⟩⟩⟩
  have l1 : H' l = none := fresh_back e1 hl
  have l20 : H1 l2 = none := fresh_back (Ex.new hl) hl2
  have l21 : H' l2 = none := fresh_back e1 l20
  have h0l : H0 l = none := xp_back b.xp b.bx.ne l1
  have h0l2 : H0 l2 = none := xp_back b.xp b.bx.ne l21
  have ef : Ex H1 (upd (upd H1 l (.tup vs)) l2 (.tup [v, .ref l])) := (Ex.new hl).trans (Ex.new hl2)
  have ef' := e1.trans ef
  refine r _ _ (b.xp.trans (xpe ef')) ((b.bx.ex ef').le hn) ⟨⟨ws, qs⟩, hR ws pw, .tup (xs := [v, .ref l]) (st_of (by rw [cut_new h0l2]; exact upd_same)) (.cons ?_ (.cons ?_ .nil))⟩
  · exact dp_mono ((cut_dm (xp_dm b.xp b.bx.ne)).trans (cut_mono ef)) dw
  · refine .tup (xs := vs) (st_of ?_) (b.tup hvs (xpe ef').x2)
    rw [cut_new h0l]
    have : l ≠ l2 := fun z => by
      rw [← z, upd_same] at hl2
      cases hl2
    rw [upd_ne this]
    exact upd_same
end
end K73
end
section
set_option Elab.async false
set_option linter.all false
set_option maxRecDepth 100000
set_option maxHeartbeats 8000000
namespace K73
open PySem L2 Evl PyProof.Rows
def tags10 : List Str := [("a" : Str), ("b" : Str), ("c.x" : Str), ("d2" : Str), ("k" : Str), ("node" : Str), ("s" : Str), ("t" : Str), ("w.1" : Str), ("z" : Str)]
def marks14 : List Str := [("a" : Str), ("d2" : Str), ("e" : Str), ("f1" : Str), ("in.a" : Str), ("k" : Str), ("m" : Str), ("out" : Str), ("p" : Str), ("q" : Str), ("s" : Str), ("v" : Str), ("x" : Str), ("z" : Str)]
def marks13 : List Str := [("a" : Str), ("d2" : Str), ("e" : Str), ("f1" : Str), ("in.a" : Str), ("k" : Str), ("m" : Str), ("out" : Str), ("p" : Str), ("q" : Str), ("s" : Str), ("x" : Str), ("z" : Str)]
theorem tags10_nd : tags10.Nodup := by decide +kernel
theorem tags10_len : ∀ s ∈ tags10, s.length ≤ 10 := by decide +kernel
theorem marks14_len : ∀ s ∈ marks14, s.length ≤ 10 := by decide +kernel
theorem marks13_len : ∀ s ∈ marks13, s.length ≤ 10 := by decide +kernel
/-- a NET that a law draws -/
structure WebN (N : NetM) : Prop where
  ok : NetOk N
  w : N.ws.length ≤ 10
  q : N.qs.length ≤ 5
  lw : ∀ s ∈ N.ws, s.length ≤ 10
  lq : ∀ u ∈ N.qs, u.1.length ≤ 10
def taS : List Str → TA
  | [] => tNil
  | x :: xs => tCons (tC (.str x)) (taS xs)
section
variable {P : Program} {w : World} {K : PySem.W.Frag} {mg : Str → Option Value} {base : Heap}
theorem ega_strs {σ : L2.St} : ∀ (xs : List Str) {B : Hp}, EvGA (taS xs) σ B (fun vs B' => DpAll K B' vs (xs.map PyData.str))
  | [], _ => ega_nil
  | x :: xs, _ => ega_cons' eg_str (ega_strs xs)
theorem eg_strs {σ : L2.St} {B : Hp} (xs : List Str) (h : xs.length ≤ 100) : EvG (tLst (taS xs)) σ B (Dd K (.list (xs.map PyData.str))) := eg_lst (ega_strs xs) (by rw [List.length_map]; omega)
/-- the sorted picks -/
theorem ex_sortPick {σ : L2.St} {B : Hp} {p : Addr} {te : TE} {ws : List Str} {c : Int} {R : Int → Prop} (h : EvX te σ B p c (fun v H => ∃ k, R k ∧ PickP K ws k v H)) (hp : B p = none) (hl : ws.length < 64) :
    EvX (tCB (rSortedS K) (tCons te tNil)) σ B p c (fun v H => ∃ k, R k ∧ PickP K ws k v H) := fun H n e b hn Q r => h.go hp e b hn fun v H1 xp b1 eb ec np ⟨k, hk, ss, rs, h1, h2, h3⟩ => by
  obtain ⟨a, ys, rfl, s, q⟩ := dp_lst h3
  have ex := dpa_strs.mp q
  subst ex
  have hls : ss.length ≤ ws.length := by
    have := h1.length_eq
    rw [List.length_append] at this
    omega
  refine ⟨a, ss, rfl, ex_l ec s, by omega, fun zs l hz _ hl' => r (.ref l) _ (xp.trans (xpe (Ex.new hl'))) (b1.ex (Ex.new hl')) ⟨k, hk, zs, rs, (hz.append_right rs).trans h1, by rw [hz.length_eq]; exact h2, .lst (xs := zs.map V.str) (sq_of ?_) (dpa_strs.mpr rfl)⟩⟩
  rw [cut_new (xp_back xp b1.ne hl')]
  exact upd_same
/-! ### _law_web -/
abbrev sWeb : Stmt := topS 40
abbrev nWeb : List Str := ["_law_box_here", "_law_size_so", "_law_most", "_law_high_here", "_law_tags_here", "_law_marks", "_law_found", "_law_mark", "_law_one", "_law_two", "_law_space"]
theorem scWeb : FnScope nWeb ["_law_box_here", "_law_size_so", "_law_most", "_law_high_here"] (defScope sWeb) := ⟨rfl, rfl, rfl, by decide +kernel, rfl, by decide +kernel, by decide +kernel⟩
def spWeb (K : PySem.W.Frag) : Sp := fun vs H Q _ => ∃ (p : Addr) (n : Int) (B : Hp) (high : Int), vs = [.ref p, .int 3, .int 5, .int high] ∧ Ex B H ∧ B p = none ∧ Bx p H n ∧ n + 100 ≤ 1000000 ∧ 2 ≤ high ∧ high ≤ 10 ^ 38 ∧ RetX p 100 (NetP K WebN) B H n Q
theorem ok_web {f : Addr} {fd : FuncData} (F : Fun K "_law_web" "_law_web" sWeb f fd) (T : Tx mg) (oT : Own P w K mg base CX0 1 "_law_take" ["_law_box_here", "_law_below"] spTk) (oPk : Own P w K mg base CX0 2 "_law_pick" ["_law_box_here", "_law_pool", "_law_size_so"] (spPi K)) :
    FnOk P w K mg base CX0 3 f fd ["_law_box_here", "_law_size_so", "_law_most", "_law_high_here"] (spWeb K) := by
  refine F.ok scWeb (fun vs H Q E ⟨p, n, B, high, e, _⟩ => by rw [e]; rfl) (fun cdv A outer s H vs Q E hr h => ?_)
  obtain ⟨p, n, B, high, rfl, eb, hp, bx, hn, hh1, hh2, r⟩ := h
  refine ⟨_, pss_cons (ps_set (i := 4) scWeb.nd rfl (Or.inl rfl) (pe_own oPk hr (by decide) pass0 (pa_cons (pv 0) (pa_cons (pe_lst (pa_cons pe_str (pa_cons pe_str (pa_cons pe_str (pa_cons pe_str (pa_cons pe_str (pa_cons pe_str (pa_cons pe_str (pa_cons pe_str (pa_cons pe_str (pa_cons pe_str pa_nil))))))))))) (pa_cons (pe_op op_add pe_int (pe_own oT hr (by decide) pass0 (pa_cons (pv 0) (pa_cons (pe_op op_sub (pv 1) pe_int) pa_nil)))) pa_nil)))))
    (pss_cons (ps_set (i := 5) scWeb.nd rfl (Or.inl rfl) (ksortS K T (pe_own oPk hr (by decide) pass0 (pa_cons (pv 0) (pa_cons (pe_lst (pa_cons pe_str (pa_cons pe_str (pa_cons pe_str (pa_cons pe_str (pa_cons pe_str (pa_cons pe_str (pa_cons pe_str (pa_cons pe_str (pa_cons pe_str (pa_cons pe_str (pa_cons pe_str (pa_cons pe_str (pa_cons pe_str (pa_cons pe_str pa_nil))))))))))))))) (pa_cons (pv 2) pa_nil))))))
    (pss_cons (ps_set (i := 6) scWeb.nd rfl (Or.inl rfl) (pe_lst pa_nil))
    (pss_cons (ps_for PassesOwn.never rfl (kseq K (pe_slice (ksl K) (pv 5) po_none (po_some (pe_op op_add pe_int (pe_own oT hr (by decide) pass0 (pa_cons (pv 0) (pa_cons (pv 2) pa_nil))))))) (pg_name (i := 7) scWeb.nd rfl (Or.inl rfl))
      (pss_cons (ps_set (i := 8) scWeb.nd rfl (Or.inl rfl) (pe_own oT hr (by decide) pass0 (pa_cons (pv 0) (pa_cons (klen K T (pv 4)) pa_nil))))
      (pss_cons (ps_set (i := 9) scWeb.nd rfl (Or.inl rfl) (pe_op op_mod (kint T (pe_op op_add (pe_op op_add (pv 8) pe_int) (pe_own oT hr (by decide) pass0 (pa_cons (pv 0) (pa_cons (pe_op op_sub (klen K T (pv 4)) pe_int) pa_nil))))) (klen K T (pv 4))))
      (pss_cons (ps_if (PW.pt (pw_and (pt_cmpR op_gt (pv 8) (pv 9) (nomark _)) (pw_and1 (pt_cmpR op_gt (pe_own oT hr (by decide) pass0 (pa_cons (pv 0) (pa_cons pe_int pa_nil))) pe_int (nomark _))))) (pss_one (ps_par (i := 8) (j := 9) rfl scWeb.nd rfl rfl (by decide) rfl rfl (pa_cons (pv 9) (pa_cons (pv 8) pa_nil)) rfl)) pss_nil)
      (pss_cons (ps_set (i := 10) scWeb.nd rfl (Or.inl rfl) (pe_op op_add pe_int (pe_own oT hr (by decide) pass0 (pa_cons (pv 0) (pa_cons (pv 3) pa_nil)))))
      (pss_one (ps_expr (pe_bm PySem.F.plainAttrs_list PySem.F.slot_list_append PySem.F.type_list_append mt_append (pv 6) (pa_cons (pe_tup (pa_cons (pv 7) (pa_cons (kix K (pv 4) (pv 8)) (pa_cons (kix K (pv 4) (pv 9)) (pa_cons (pv 10) (pa_cons (pe_op op_add pe_int (pe_own oT hr (by decide) pass0 (pa_cons (pv 0) (pa_cons (pv 10) pa_nil)))) pa_nil)))))) pa_nil)))))))))
    (pss_one (ps_ret (pe_tup (pa_cons (ktupleOf K T (ksortS K T (pv 4))) (pa_cons (ktupleOf K T (pv 6)) pa_nil)))))))), ?_⟩
  -- the tags
  have k1 : ∀ B', Ex B B' → B' p = none → EvX (tOp (rI0 fun i j => .int (i + j)) (tC (.int 2)) (tCall spTk [] E0 (tCons (tVar 0) (tCons (tOp (rI0 fun i j => .int (i - j)) (tVar 1) (tC (.int 1))) tNil)))) (start nWeb [.ref p, .int 3, .int 5, .int high]) B' p 1 (ExI fun k => 2 ≤ k ∧ k ≤ 3) := fun B' _ _ =>
    (ex_addI (R := fun r => 0 ≤ r ∧ r < 3 - 1) ev_c (ex_takeI (ev_var rfl) (ev_op (ev_var rfl) ev_c rv_I0) (by decide) (by decide)) (by decide)).impI fun k ⟨r, h1, h2⟩ => by omega
  have T1 := ex_pick (K := K) (B := B) (σ := start nWeb [.ref p, .int 3, .int 5, .int high]) (E := E0) (ta := tVar 0) (ws := tags10) (ev_var rfl) hp (eg_strs tags10 (by decide)) (.inl rfl) (by decide) k1 (fun k h => by omega) (by decide)
  refine qx_asg T1 hp eb bx (by omega) fun vt H1 x1 b1 eB1 eC1 np1 ⟨k, hk, tags, rs, hperm, hlen, ht⟩ => ?_
  have r1 : RetX p 79 (NetP K WebN) (cut B H H1) H1 (n + (1 + 20)) Q := RetX.next (c := 1 + 20) (d := 79) (r.le (by omega)) x1 b1
  generalize cut B H H1 = B1 at eB1 eC1 np1 ht r1
  have hl10 : tags10.length = 10 := rfl
  obtain ⟨hnd, hmem⟩ := pick_nd hperm tags10_nd
  have htl : (tags.length : Int) = k := by
    rw [hlen, hl10]
    omega
  -- the marks
  have T2 := ex_sortPick (K := K) (ex_pick (K := K) (B := B1) (σ := (start nWeb [.ref p, .int 3, .int 5, .int high]).set 4 (some vt)) (E := E0) (ta := tVar 0) (tt := tVar 2) (ws := marks14) (c := 0) (R := fun k => k = 5) (ev_var rfl) np1 (eg_strs marks14 (by decide)) (.inl rfl) (by decide) (fun B' _ _ => ev_exI (ev_var rfl) rfl (by decide)) (fun k h => by omega) (by decide)) np1 (by decide)
  refine qx_asg T2 np1 eC1 b1 (by omega) fun vm H2 x2 b2 eB2 eC2 np2 ⟨k5, hk5, marks, rs2, hperm2, hlen2, hm⟩ => ?_
  have r2 : RetX p 59 (NetP K WebN) (cut B1 H1 H2) H2 (n + (1 + 20) + (0 + 20)) Q := RetX.next (c := 0 + 20) (d := 59) (r1.le (by omega)) x2 b2
  have ht := dp_mono eB2 ht
  generalize cut B1 H1 H2 = B2 at eB2 eC2 np2 ht hm r2
  have hml : marks.length ≤ 5 := by
    have h14 : marks14.length = 14 := rfl
    rw [h14] at hlen2
    omega
  have hmm : ∀ s ∈ marks, s.length ≤ 10 := fun s hs => marks14_len s (hperm2.mem_iff.mp (List.mem_append.mpr (.inl hs)))
  -- found
  refine ⟨by show 0 ≤ sizeLine; decide, fun D hD => ?_⟩
  have bl0 : Blx K B2 H2 D p _ (upd H2 D (.lst [])) [] := Blx.start hD eC2 np2 b2
  have nB2D := bl0.nob
  obtain ⟨am, xm, rfl, sqm, hxm⟩ := dp_lst hm
  have exm := dpa_strs.mp hxm
  subst exm
  obtain ⟨at_, xt, rfl, sqt, hxt⟩ := dp_lst ht
  have ext := dpa_strs.mp hxt
  subst ext
  have tk5 : EvX (tOp (rI0 fun i j => .int (i + j)) (tC (.int 1)) (tCall spTk [] E0 (tCons (tVar 0) (tCons (tVar 2) tNil)))) [some (.ref p), some (.int 3), some (.int 5), some (.int high), some (.ref at_), some (.ref am), some (.ref D), none, none, none, none] B2 p 1 (ExI fun k => ∃ r, (0 ≤ r ∧ r < 5) ∧ k = 1 + r) := ex_addI ev_c (ex_takeI (ev_var rfl) (ev_var rfl) (by decide) (by decide)) (by decide)
  have b3 := bl0.bx
  refine qx_forS (D := D) (ms := marks) (tl := tVar 5) (a := am) (ev_var rfl) sqm tk5 np2 (xp_ex eC2 np2 bl0.xp) b3 (by omega) (by omega) (fun H3 i σ' H' => ∃ (a7 a8 a9 a10 : Option V) (qs : List Qu), σ' = [some (.ref p), some (.int 3), some (.int 5), some (.int high), some (.ref at_), some (.ref am), some (.ref D), a7, a8, a9, a10] ∧ X2 p D H3 H' ∧ Blx K B2 H2 D p (n + 42 + 5 * i) H' (qs.map quD) ∧ qs.length = i ∧ (∀ u ∈ qs, u.2.1 ∈ tags ∧ u.2.2.1 ∈ tags) ∧ ∀ u ∈ qs, u.1.length ≤ 10) ?_ ?_ ?_ ?_ ?_
  · exact fun H3 xp b => ⟨none, none, none, none, [], rfl, X2.refl, bl0.keep xp (b.le (by omega)), rfl, fun u hu => absurd hu List.not_mem_nil, fun u hu => absurd hu List.not_mem_nil⟩
  · rintro H3 i σ' H' xp ⟨a7, a8, a9, a10, qs, rfl, x, _⟩
    exact x
  · rw [upd_same]
    exact fun z => nomatch z
  · rintro H3 i s σ' H' xp hi ⟨a7, a8, a9, a10, qs, rfl, x, bl, hq1, hq2, hq3⟩ hs
    show tSeq _ _ _ [some (.ref p), some (.int 3), some (.int 5), some (.int high), some (.ref at_), some (.ref am), some (.ref D), some (.str s), a8, a9, a10] H'
    have eT : Ex (bx_ B2 H2 D H') H' := cut_ex
    have npT := bl.nP H'
    have sqT := ex_l bl.eb sqt
    have bx' := bl.bx
    generalize bx_ B2 H2 D H' = BT at eT npT sqT
    have ln : ∀ σ : L2.St, σ[4]? = some (some (.ref at_)) → Ev (tCB (rLenOf K) (tCons (tVar 4) tNil)) σ BT (.int (tags.length : Int)) := fun σ h4 H'' e Q q => ⟨.ref at_, h4, at_, _, rfl, .inl (ex_l e sqT), by rw [List.length_map]; exact q H'' (Ex.refl _)⟩
    have t2 : 2 ≤ (tags.length : Int) ∧ (tags.length : Int) ≤ 3 := by omega
    refine qx_asgI (ex_takeI (ev_var rfl) (ln _ rfl) (by omega) (by omega)) eT bx' (by omega) fun one H4 hone x4 b4 => ?_
    have e4 := xp_ex eT npT x4
    refine qx_asgI (ex_opI (g := fun z => z % (tags.length : Int)) (ex_intI (ex_addI (ev_op (ev_var rfl) ev_c rv_I0) (ex_takeI (m := (tags.length : Int) - 1) (ev_var rfl) (ev_op (ln _ rfl) ev_c rv_I0) (by omega) (by omega)) (by decide))) (ln _ rfl) (fun z _ G => rv_I (C := fun _ j => 0 < j) (by omega)) (by decide) npT) e4 b4 (by omega) fun two H5 htwo x5 b5 => ?_
    obtain ⟨z, _, htwo⟩ := htwo
    have tw : 0 ≤ two ∧ two < tags.length := by
      rw [htwo]
      exact ⟨Int.emod_nonneg _ (by omega), Int.emod_lt_of_pos _ (by omega)⟩
    have e5 := xp_ex e4 npT x5
    refine qx_swap (tx_and (et_test (ev_op (ev_var rfl) (ev_var rfl) rv_I0)) (tx_gt (ex_takeI (m := 8) (ev_var rfl) ev_c (by decide) (by decide)) ev_c npT) (by decide)) e5 b5 (by omega) rfl rfl rfl fun o t H6 hot x6 b6 => ?_
    have ho : (0 ≤ o ∧ o < tags.length) ∧ (0 ≤ t ∧ t < tags.length) := by omega
    show tSeq _ _ _ [some (.ref p), some (.int 3), some (.int 5), some (.int high), some (.ref at_), some (.ref am), some (.ref D), some (.str s), some (.int o), some (.int t), a10] H6
    have e6 := xp_ex e5 npT x6
    refine qx_asgI (ex_addI (i := 1) ev_c (ex_takeI (ev_var rfl) (ev_var rfl) (by omega) (by omega)) (by decide)) e6 b6 (by omega) fun sp H7 hsp x7 b7 => ?_
    obtain ⟨r7, hr7, hsp⟩ := hsp
    have e7 := xp_ex e6 npT x7
    have x47 : Xp p H' H7 := ((x4.trans x5).trans x6).trans x7
    have bl7 := bl.keep x47 b7
    obtain ⟨vs, hvs, hvl⟩ := bl7.len
    have ixt : ∀ (z : Int), 0 ≤ z → z < tags.length → (tags.map V.str)[z.toNat]? = some (.str (tags.getD z.toNat Str.empty)) := fun z h1 h2 => by
      rw [List.getElem?_map, getD_get (show z.toNat < tags.length by omega)]
      rfl
    have em : ∀ (z : Int), 0 ≤ z → ((z.toNat : Nat) : Int) = z := fun z h => by omega
    have io : Ev (tOp (rIx K) (tVar 4) (tVar 8)) [some (.ref p), some (.int 3), some (.int 5), some (.int high), some (.ref at_), some (.ref am), some (.ref D), some (.str s), some (.int o), some (.int t), some (.int sp)] BT (.str (tags.getD o.toNat Str.empty)) := ev_ixR (i := o.toNat) (ev_var rfl) (by rw [em o ho.1.1]; exact ev_var rfl) sqT (ixt o ho.1.1 ho.1.2)
    have it : Ev (tOp (rIx K) (tVar 4) (tVar 9)) [some (.ref p), some (.int 3), some (.int 5), some (.int high), some (.ref at_), some (.ref am), some (.ref D), some (.str s), some (.int o), some (.int t), some (.int sp)] BT (.str (tags.getD t.toNat Str.empty)) := ev_ixR (i := t.toNat) (ev_var rfl) (by rw [em t ho.2.1]; exact ev_var rfl) sqT (ixt t ho.2.1 ho.2.2)
    refine ⟨.ref D, rfl, .inl ⟨rfl, vs, sq_of hvs⟩, .str s, rfl, io H7 e7 _ fun H8 e8 => it H8 (e7.trans e8) _ fun H9 e9 => ⟨.int sp, rfl, ?_⟩⟩
    have e79 := e8.trans e9
    refine ex_addI (B := BT) (i := 1) ev_c (ex_takeI (m := sp) (ev_var rfl) (ev_var rfl) (by omega) (by omega)) (by decide) H9 _ (e7.trans e79) (b7.ex e79) (by omega) _ fun v10 H10 x10 b10 ⟨no, hv, hno⟩ => ?_
    subst hv
    refine ⟨by show 5 ≤ sizeLine; decide, fun q hq => ?_⟩
    have bl10 := bl7.keep ((xpe e79).trans x10) b10
    have bl11 := bl10.keep (xpe (Ex.new hq)) (b10.ex (Ex.new (o := .tup [.str s, .str (tags.getD o.toNat Str.empty), .str (tags.getD t.toNat Str.empty), .int sp, .int no]) hq))
    have hv11 := (Ex.new (o := .tup [.str s, .str (tags.getD o.toNat Str.empty), .str (tags.getD t.toNat Str.empty), .int sp, .int no]) hq) _ _ (x10.at_ (Ne.symm bl.ne) (e79 _ _ hvs))
    have hq11 : (upd H10 q (.tup [.str s, .str (tags.getD o.toNat Str.empty), .str (tags.getD t.toNat Str.empty), .int sp, .int no])) q = some (.tup [.str s, .str (tags.getD o.toNat Str.empty), .str (tags.getD t.toNat Str.empty), .int sp, .int no]) := upd_same
    have nqD : q ≠ D := fun z => by
      have hx := x10.at_ (Ne.symm bl.ne) (e79 _ _ hvs)
      rw [← z, hq] at hx
      cases hx
    have h2q : H2 q = none := xp_back bl10.xp b10.ne hq
    have x3 : X2 p D H3 (upd H10 q (.tup [.str s, .str (tags.getD o.toNat Str.empty), .str (tags.getD t.toNat Str.empty), .int sp, .int no])) := ((x.trans x47.x2).trans ((xpe e79).trans x10).x2).trans (xpe (Ex.new hq)).x2
    generalize upd H10 q (.tup [.str s, .str (tags.getD o.toNat Str.empty), .str (tags.getD t.toNat Str.empty), .int sp, .int no]) = H11 at bl11 hv11 hq11 x3
    refine ⟨D, vs, .ref q, rfl, rfl, hv11, sz_lt (by rw [hvl, List.length_map]; omega), ?_⟩
    have hy : Dp K (bx_ B2 H2 D H11) (.ref q) (quD (s, tags.getD o.toNat Str.empty, tags.getD t.toNat Str.empty, sp, no)) := by
      refine .tup (xs := [.str s, .str (tags.getD o.toNat Str.empty), .str (tags.getD t.toNat Str.empty), .int sp, .int no]) (st_of ?_) (.cons (.str _) (.cons (.str _) (.cons (.str _) (.cons (.int _) (.cons (.int _) .nil)))))
      show cut B2 (upd H2 D (.lst [])) H11 q = _
      rw [cut_new (by rw [upd_ne nqD]; exact h2q)]
      exact hq11
    have bl12 := bl11.push hv11 hy
    refine ⟨_, _, _, _, qs ++ [(s, tags.getD o.toNat Str.empty, tags.getD t.toNat Str.empty, sp, no)], rfl, x3.trans (fun x o _ h2 h => by rw [upd_ne h2]; exact h), ?_, by rw [List.length_append, hq1]; rfl, fun u hu => ?_, fun u hu => ?_⟩
    · rw [List.map_append]
      obtain ⟨f1, f2, f3, f4, f5, f6, f7⟩ := bl12
      exact ⟨f1, f2, f3, f4, f5, f6.le (by omega), f7⟩
    · rcases List.mem_append.mp hu with hu | hu
      · exact hq2 u hu
      · rw [List.mem_singleton.mp hu]
        exact ⟨getD_mem (by omega), getD_mem (by omega)⟩
    · rcases List.mem_append.mp hu with hu | hu
      · exact hq3 u hu
      · rw [List.mem_singleton.mp hu]
        exact hmm s hs
  · rintro H3 i σ' H' xp hi ⟨a7, a8, a9, a10, qs, rfl, x, bl, hq1, hq2, hq3⟩
    refine sx_ret (i := 4) (j := 6) (vt := .ref at_) (tags := tags) (qs := qs) (c := 59) (RN := WebN) rfl rfl ht (by omega) bl (by omega) r2 fun ws hws => ?_
    have hwl := hws.length_eq
    refine ⟨⟨hws.nodup_iff.mpr hnd, by show 0 < ws.length; omega, by show ws.length ≤ 60; omega, by show qs.length ≤ 60; omega, fun u hu => ⟨hws.mem_iff.mpr (hq2 u hu).1, hws.mem_iff.mpr (hq2 u hu).2⟩⟩, by show ws.length ≤ 10; omega, by show qs.length ≤ 5; omega, fun s hs => tags10_len s (hmem s (hws.mem_iff.mp hs)), hq3⟩
end
end K73
end
section
set_option Elab.async false
set_option linter.all false
set_option maxRecDepth 100000
set_option maxHeartbeats 8000000
namespace K73
open PySem L2 Evl PyProof.Rows
section
variable {P : Program} {w : World} {K : PySem.W.Frag} {mg : Str → Option Value} {base : Heap}
theorem tx_of {tt : TT} {σ : L2.St} {B : Hp} {p : Addr} {b : Bool} (h : EvT tt σ B b) : EvTx tt σ B p 0 := fun H n e bx _ Q r => h H e _ fun H1 e1 => r b H1 (xpe e1) ((bx.ex e1).le (by omega))
theorem ega_ints {σ : L2.St} {B : Hp} {i : Int} {ta : TA} {ds : List PD} (h : EvGA ta σ B (fun vs B' => DpAll K B' vs ds)) : EvGA (tCons (tC (.int i)) ta) σ B (fun vs B' => DpAll K B' vs (.int i :: ds)) := ega_cons' eg_int h
theorem q_swap {B H : Hp} {σ : L2.St} {tt : TT} {En : Ends} {tz : TS} {i j : Nat} {x y : Int} {b : Bool} (h : EvT tt σ H b) (hi : σ[i]? = some (some (.int x))) (hj : σ[j]? = some (some (.int y))) (hσ : (σ.set i (some (.int x))).set j (some (.int y)) = σ)
    (k : ∀ o t H1, (b = true → o = y ∧ t = x) → (b = false → o = x ∧ t = y) → Ex H H1 → tz En ((σ.set i (some (.int o))).set j (some (.int t))) H1) : tSeq (tIfS tt (tPar i j (tCons (tVar j) (tCons (tVar i) tNil))) tNext) tz En σ H := h H (Ex.refl _) _ fun H1 e1 => by
  cases b with
  | true => exact ⟨_, hj, _, hi, _, _, rfl, k y x H1 (fun _ => ⟨rfl, rfl⟩) (fun z => nomatch z) e1⟩
  | false =>
    have g := k x y H1 (fun z => nomatch z) (fun _ => ⟨rfl, rfl⟩) e1
    rw [hσ] at g
    exact g
/-- of(box, ints) -/
theorem ex_of {σ : L2.St} {B : Hp} {p : Addr} {ta tb : TE} {E : XK} {zs : List Int} (h1 : Ev ta σ B (.ref p)) (h2 : EvG tb σ B (Dd K (.list (zs.map PyData.int)))) (hp : B p = none) (hz : zs ≠ []) (hl : zs.length ≤ 1000) : EvX (tCall (spOf K) [] E (tCons ta (tCons tb tNil))) σ B p 1 (ExI (· ∈ zs)) := fun H n e b hn Q r =>
  h1 H e _ fun H1 e1 => (h2.go (e.trans e1)) fun v H2 e2 eb2 ec2 hv => by
    have b2 := b.ex (e1.trans e2)
    exact ⟨p, n, _, v, zs, rfl, ec2, cut_pos hp (b.ex e1).ne, hv, hz, hl, b2, hn, fun z hz' H' x b' => r _ H' ((xpe (e1.trans e2)).trans x) b' ⟨z, rfl, hz'⟩⟩
/-! ### _law_calm -/
abbrev sCalm : Stmt := topS 41
abbrev nCalm : List Str := ["_law_box_here", "_law_tags_here", "_law_most", "_law_high_here", "_law_marks", "_law_tall", "_law_tag", "_law_found", "_law_mark", "_law_one", "_law_two", "_law_fall", "_law_space"]
theorem scCalm : FnScope nCalm ["_law_box_here", "_law_tags_here", "_law_most", "_law_high_here"] (defScope sCalm) := ⟨rfl, rfl, rfl, by decide +kernel, rfl, by decide +kernel, by decide +kernel⟩
/-- heights along which no work order can run for ever -/
def HiQ (t : Str → Int) (u : Qu) : Prop := t u.2.1 - t u.2.2.1 < 5 * u.2.2.2.1 ∧ t u.2.2.1 - t u.2.1 < 5 * (1 - u.2.2.2.2)
theorem good_hi {N : NetM} (t : Str → Int) (h : ∀ u ∈ N.qs, HiQ t u) : Good (GE N) := good_of_height 5 (by decide) t fun u v c e => by
  obtain ⟨a, ha, rfl, rfl, rfl⟩ := ge_iff.mp e
  obtain ⟨q, hq, hm⟩ := List.mem_flatMap.mp ha
  have hm : a = _ ∨ a ∈ [_] := List.mem_cons.mp hm
  rcases hm with rfl | hm
  · exact (h q hq).1
  · rw [List.mem_singleton.mp hm]
    exact (h q hq).2
structure CalmN (tags : List Str) (N : NetM) : Prop where
  web : WebN N
  good : Good (GE N)
  perm : N.ws.Perm tags
def spCalm (K : PySem.W.Frag) : Sp := fun vs H Q _ => ∃ (p : Addr) (n : Int) (B : Hp) (v : V) (tags : List Str) (high : Int), vs = [.ref p, v, .int 5, .int high] ∧ Ex B H ∧ B p = none ∧ Dp K B v (.list (tags.map PyData.str)) ∧ tags.Nodup ∧ 2 ≤ tags.length ∧ tags.length ≤ 10 ∧ (∀ s ∈ tags, s.length ≤ 10) ∧ Bx p H n ∧ n + 100 ≤ 1000000 ∧ 2 ≤ high ∧ high ≤ 10 ^ 38 ∧ RetX p 100 (NetP K (CalmN tags)) B H n Q
theorem ok_calm {f : Addr} {fd : FuncData} (F : Fun K "_law_calm" "_law_calm" sCalm f fd) (T : Tx mg) (oT : Own P w K mg base CX0 1 "_law_take" ["_law_box_here", "_law_below"] spTk) (oPk : Own P w K mg base CX0 2 "_law_pick" ["_law_box_here", "_law_pool", "_law_size_so"] (spPi K)) (oOf : Own P w K mg base CX0 2 "_law_of" ["_law_box_here", "_law_some"] (spOf K)) :
    FnOk P w K mg base CX0 3 f fd ["_law_box_here", "_law_tags_here", "_law_most", "_law_high_here"] (spCalm K) := by
  refine F.ok scCalm (fun vs H Q E ⟨p, n, B, v, tags, high, e, _⟩ => by rw [e]; rfl) (fun cdv A outer s H vs Q E hr h => ?_)
  obtain ⟨p, n, B, v, tags, high, rfl, eb, hp, ht, hnd, ht2, ht10, htl, bx, hn, hh1, hh2, r⟩ := h
  refine ⟨_, pss_cons (ps_set (i := 4) scCalm.nd rfl (Or.inl rfl) (ksortS K T (pe_own oPk hr (by decide) pass0 (pa_cons (pv 0) (pa_cons (pe_lst (pa_cons pe_str (pa_cons pe_str (pa_cons pe_str (pa_cons pe_str (pa_cons pe_str (pa_cons pe_str (pa_cons pe_str (pa_cons pe_str (pa_cons pe_str (pa_cons pe_str (pa_cons pe_str (pa_cons pe_str (pa_cons pe_str pa_nil)))))))))))))) (pa_cons (pv 2) pa_nil))))))
    (pss_cons (ps_setLc (i := 5) (own := [("_law_tag", 6)]) (g := gName 6) (tt := tYes) rfl scCalm.nd rfl rfl (sw_true rfl rfl rfl (by decide +kernel)) (kseq K (pv 1)) (blkOk_by (by kernel_rfl)) (fun _ _ _ _ _ => pg_name (i := 6) scCalm.nd rfl (Or.inl rfl)) (fun _ _ _ _ _ => pts_nil)
        (fun _ _ _ _ _ => pe_own oT hr (by decide) pass0 (pa_cons (pv 0) (pa_cons (pe_op op_mul pe_int (pv 3)) pa_nil))))
    (pss_cons (ps_set (i := 7) scCalm.nd rfl (Or.inl rfl) (pe_lst pa_nil))
    (pss_cons (ps_for PassesOwn.never rfl (kseq K (pe_slice (ksl K) (pv 4) po_none (po_some (pe_op op_add pe_int (pe_own oT hr (by decide) pass0 (pa_cons (pv 0) (pa_cons (pv 2) pa_nil))))))) (pg_name (i := 8) scCalm.nd rfl (Or.inl rfl))
      (pss_cons (ps_set (i := 9) scCalm.nd rfl (Or.inl rfl) (pe_own oT hr (by decide) pass0 (pa_cons (pv 0) (pa_cons (klen K T (pv 1)) pa_nil))))
      (pss_cons (ps_set (i := 10) scCalm.nd rfl (Or.inl rfl) (pe_op op_mod (kint T (pe_op op_add (pe_op op_add (pv 9) pe_int) (pe_own oT hr (by decide) pass0 (pa_cons (pv 0) (pa_cons (pe_op op_sub (klen K T (pv 1)) pe_int) pa_nil))))) (klen K T (pv 1))))
      (pss_cons (ps_if (pt_cmpR op_lt (kix K (pv 5) (pv 9)) (kix K (pv 5) (pv 10)) (nomark _)) (pss_one (ps_par (i := 9) (j := 10) rfl scCalm.nd rfl rfl (by decide) rfl rfl (pa_cons (pv 10) (pa_cons (pv 9) pa_nil)) rfl)) pss_nil)
      (pss_cons (ps_set (i := 11) scCalm.nd rfl (Or.inl rfl) (pe_op op_sub (kix K (pv 5) (pv 9)) (kix K (pv 5) (pv 10))))
      (pss_one (ps_if (pt_cmpR op_gt (pv 11) pe_int (nomark _))
        (pss_cons (ps_set (i := 12) scCalm.nd rfl (Or.inl rfl) (pe_op op_add (pe_op op_add (pe_op op_fdiv (pv 11) pe_int) pe_int) (pe_own oOf hr (by decide) pass0 (pa_cons (pv 0) (pa_cons (pe_lst (pa_cons pe_int (pa_cons pe_int (pa_cons pe_int (pa_cons pe_int (pa_cons pe_int pa_nil)))))) pa_nil)))))
        (pss_one (ps_expr (pe_bm PySem.F.plainAttrs_list PySem.F.slot_list_append PySem.F.type_list_append mt_append (pv 7) (pa_cons (pe_tup (pa_cons (pv 8) (pa_cons (kix K (pv 1) (pv 9)) (pa_cons (kix K (pv 1) (pv 10)) (pa_cons (pv 12) (pa_cons (pe_op op_add pe_int (pe_own oT hr (by decide) pass0 (pa_cons (pv 0) (pa_cons (pe_op op_add (pe_op op_fdiv (pe_op op_sub (pv 11) pe_int) pe_int) pe_int) pa_nil)))) pa_nil)))))) pa_nil))))) pss_nil)))))))
    (pss_one (ps_ret (pe_tup (pa_cons (ktupleOf K T (ksortS K T (pv 1))) (pa_cons (ktupleOf K T (pv 7)) pa_nil)))))))), ?_⟩
  -- the marks
  have T2 := ex_sortPick (K := K) (ex_pick (K := K) (B := B) (σ := start nCalm [.ref p, v, .int 5, .int high]) (E := E0) (ta := tVar 0) (tt := tVar 2) (ws := marks13) (c := 0) (R := fun k => k = 5) (ev_var rfl) hp (eg_strs marks13 (by decide)) (.inl rfl) (by decide) (fun B' _ _ => ev_exI (ev_var rfl) rfl (by decide)) (fun k h => by omega) (by decide)) hp (by decide)
  refine qx_asg T2 hp eb bx (by omega) fun vm H1 x1 b1 eB1 eC1 np1 ⟨k5, hk5, marks, rs2, hperm2, hlen2, hm⟩ => ?_
  have r1 : RetX p 80 (NetP K (CalmN tags)) (cut B H H1) H1 (n + (0 + 20)) Q := RetX.next (c := 0 + 20) (d := 80) (r.le (by omega)) x1 b1
  have ht := dp_mono eB1 ht
  generalize cut B H H1 = B1 at eB1 eC1 np1 ht hm r1
  have hml : marks.length ≤ 5 := by
    have h13 : marks13.length = 13 := rfl
    rw [h13] at hlen2
    omega
  have hmm : ∀ s ∈ marks, s.length ≤ 10 := fun s hs => marks13_len s (hperm2.mem_iff.mp (List.mem_append.mpr (.inl hs)))
  -- the heights
  have T3 := ex_lcP (B := B1) (σ := [some (.ref p), some v, some (.int 5), some (.int high), some vm, none, none, none, none, none, none, none, none]) (te := tCall spTk [] E0 (tCons (tVar 0) (tCons (tOp (rI CMul fun i j => .int (i * j)) (tC (.int 5)) (tVar 3)) tNil))) (g := gName 6) (vs := [6]) (c := 1) (mon_exI (R := fun r => 0 ≤ r ∧ r < 5 * high)) (ei_seq (K := K) (tl := tVar 1) (eg_d (i := 1) rfl ht) (.inl rfl)) (by rw [List.length_map]; omega) (by decide) np1 (by
    intro B' i x H1 H2 m Q eB np hi e1 b hm hY rt
    obtain ⟨rfl, d, hd', hp'⟩ := hY
    refine ⟨rfl, ?_⟩
    have tk : EvX (tCall spTk [] E0 (tCons (tVar 0) (tCons (tOp (rI CMul fun i j => .int (i * j)) (tC (.int 5)) (tVar 3)) tNil))) [some (.ref p), some v, some (.int 5), some (.int high), some vm, none, some x, none, none, none, none, none, none] B' p 1 (ExI fun r => 0 ≤ r ∧ r < 5 * high) := ex_takeI (ev_var rfl) (ev_op ev_c (ev_var rfl) (rv_I (C := CMul) (.inl ⟨by decide, by decide⟩))) (by omega) (by omega)
    exact tk _ m e1 b hm Q rt)
  rw [List.length_map] at T3
  refine qx_asg T3 np1 eC1 b1 (by omega) fun vh H2 x2 b2 eB2 eC2 np2 hvh => ?_
  have r2 : RetX p 60 (NetP K (CalmN tags)) (cut B1 H1 H2) H2 (n + (0 + 20) + ((tags.length : Nat) : Int) * 1) Q := RetX.next (c := ((tags.length : Nat) : Int) * 1) (d := 60) (r1.le (by omega)) x2 b2
  have b2 : Bx p H2 (n + 30) := b2.le (by omega)
  have r2 : RetX p 50 (NetP K (CalmN tags)) (cut B1 H1 H2) H2 (n + 30) Q := fun v' H' x' b' q => r2 v' H' x' (b'.le (by omega)) q
  have ht := dp_mono eB2 ht
  have hm := dp_mono eB2 hm
  generalize cut B1 H1 H2 = B2 at eB2 eC2 np2 ht hm hvh r2
  obtain ⟨ah, xh, rfl, hah, _, hxl, hxi⟩ := hvh
  obtain ⟨hs, rfl, hhs⟩ := ints_of hxi
  rw [List.length_map] at hxl
  have sqh : SqL K B2 ah (hs.map V.int) := sq_of hah
  -- found
  refine ⟨by show 0 ≤ sizeLine; decide, fun D hD => ?_⟩
  have bl0 : Blx K B2 H2 D p _ (upd H2 D (.lst [])) [] := Blx.start hD eC2 np2 b2
  obtain ⟨am, xm, rfl, sqm, hxm⟩ := dp_lst hm
  have exm := dpa_strs.mp hxm
  subst exm
  have ht0 := ht
  obtain ⟨at_, xt, rfl, sqt, hxt⟩ := dp_lst ht
  have ext := dpa_strs.mp hxt
  subst ext
  have tk5 : EvX (tOp (rI0 fun i j => .int (i + j)) (tC (.int 1)) (tCall spTk [] E0 (tCons (tVar 0) (tCons (tVar 2) tNil)))) [some (.ref p), some (.ref at_), some (.int 5), some (.int high), some (.ref am), some (.ref ah), none, some (.ref D), none, none, none, none, none] B2 p 1 (ExI fun k => ∃ r, (0 ≤ r ∧ r < 5) ∧ k = 1 + r) := ex_addI ev_c (ex_takeI (ev_var rfl) (ev_var rfl) (by decide) (by decide)) (by decide)
  have b3 := bl0.bx
  refine qx_forS (D := D) (ms := marks) (tl := tVar 4) (a := am) (ev_var rfl) sqm tk5 np2 (xp_ex eC2 np2 bl0.xp) b3 (by omega) (by omega) (fun H3 i σ' H' => ∃ (a6 a8 a9 a10 a11 a12 : Option V) (qs : List Qu), σ' = [some (.ref p), some (.ref at_), some (.int 5), some (.int high), some (.ref am), some (.ref ah), a6, some (.ref D), a8, a9, a10, a11, a12] ∧ X2 p D H3 H' ∧ Blx K B2 H2 D p (n + 31 + 4 * i) H' (qs.map quD) ∧ qs.length ≤ i ∧ (∀ u ∈ qs, u.2.1 ∈ tags ∧ u.2.2.1 ∈ tags) ∧ (∀ u ∈ qs, u.1.length ≤ 10) ∧ ∀ u ∈ qs, HiQ (fun s => hs.getD (ixOf tags s) 0) u) ?_ ?_ ?_ ?_ ?_
  · exact fun H3 xp b => ⟨none, none, none, none, none, none, [], rfl, X2.refl, bl0.keep xp (b.le (by omega)), Nat.le_refl _, fun u hu => absurd hu List.not_mem_nil, fun u hu => absurd hu List.not_mem_nil, fun u hu => absurd hu List.not_mem_nil⟩
  · rintro H3 i σ' H' xp ⟨a6, a8, a9, a10, a11, a12, qs, rfl, x, _⟩
    exact x
  · rw [upd_same]
    exact fun z => nomatch z
  · rintro H3 i s σ' H' xp hi ⟨a6, a8, a9, a10, a11, a12, qs, rfl, x, bl, hq1, hq2, hq3, hq4⟩ hs'
    show tSeq _ _ _ [some (.ref p), some (.ref at_), some (.int 5), some (.int high), some (.ref am), some (.ref ah), a6, some (.ref D), some (.str s), a9, a10, a11, a12] H'
    have eT : Ex (bx_ B2 H2 D H') H' := cut_ex
    have npT := bl.nP H'
    have sqT := ex_l bl.eb sqt
    have sqH := ex_l bl.eb sqh
    have bx' := bl.bx
    generalize bx_ B2 H2 D H' = BT at eT npT sqT sqH
    have ln : ∀ σ : L2.St, σ[1]? = some (some (.ref at_)) → Ev (tCB (rLenOf K) (tCons (tVar 1) tNil)) σ BT (.int (tags.length : Int)) := fun σ h4 H'' e Q q => ⟨.ref at_, h4, at_, _, rfl, .inl (ex_l e sqT), by rw [List.length_map]; exact q H'' (Ex.refl _)⟩
    refine qx_asgI (ex_takeI (ev_var rfl) (ln _ rfl) (by omega) (by omega)) eT bx' (by omega) fun one H4 hone x4 b4 => ?_
    have e4 := xp_ex eT npT x4
    refine qx_asgI (ex_opI (g := fun z => z % (tags.length : Int)) (ex_intI (ex_addI (ev_op (ev_var rfl) ev_c rv_I0) (ex_takeI (m := (tags.length : Int) - 1) (ev_var rfl) (ev_op (ln _ rfl) ev_c rv_I0) (by omega) (by omega)) (by decide))) (ln _ rfl) (fun z _ G => rv_I (C := fun _ j => 0 < j) (by omega)) (by decide) npT) e4 b4 (by omega) fun two H5 htwo x5 b5 => ?_
    obtain ⟨z, _, htwo⟩ := htwo
    have tw : 0 ≤ two ∧ two < tags.length := by
      rw [htwo]
      exact ⟨Int.emod_nonneg _ (by omega), Int.emod_lt_of_pos _ (by omega)⟩
    have e5 := xp_ex e4 npT x5
    have em : ∀ (z : Int), 0 ≤ z → ((z.toNat : Nat) : Int) = z := fun z h => by omega
    have ixh : ∀ (σ : L2.St) (i : Nat) (z : Int), σ[5]? = some (some (.ref ah)) → σ[i]? = some (some (.int z)) → 0 ≤ z → z < tags.length → Ev (tOp (rIx K) (tVar 5) (tVar i)) σ BT (.int (hs.getD z.toNat 0)) := fun σ i z h5 hi h1 h2 => ev_ixR (i := z.toNat) (ev_var h5) (by rw [em z h1]; exact ev_var hi) sqH (by
      rw [List.getElem?_map, List.getD_eq_getElem?_getD, List.getElem?_eq_getElem (show z.toNat < hs.length by omega)]
      rfl)
    have hrange : ∀ z : Int, 0 ≤ z → z < tags.length → 0 ≤ hs.getD z.toNat 0 ∧ hs.getD z.toNat 0 < 5 * high := fun z h1 h2 => by
      rw [List.getD_eq_getElem?_getD, List.getElem?_eq_getElem (show z.toNat < hs.length by omega)]
      exact hhs _ (List.getElem_mem _)
    -- the swap: the higher one first
    refine q_swap (B := BT) ((et_test (ev_op (ixh _ 9 one rfl rfl hone.1 hone.2) (ixh _ 10 two rfl rfl tw.1 tw.2) rv_I0)).mono e5) rfl rfl rfl fun o t H6 hot1 hot2 e56 => ?_
    show tSeq _ _ _ [some (.ref p), some (.ref at_), some (.int 5), some (.int high), some (.ref am), some (.ref ah), a6, some (.ref D), some (.str s), some (.int o), some (.int t), a11, a12] H6
    have hot : (0 ≤ o ∧ o < tags.length) ∧ (0 ≤ t ∧ t < tags.length) ∧ hs.getD t.toNat 0 ≤ hs.getD o.toNat 0 := by
      by_cases hc : hs.getD one.toNat 0 < hs.getD two.toNat 0
      · obtain ⟨rfl, rfl⟩ := hot1 (decide_eq_true hc)
        exact ⟨tw, hone, by omega⟩
      · obtain ⟨rfl, rfl⟩ := hot2 (decide_eq_false hc)
        exact ⟨hone, tw, by omega⟩
    have e6 := e5.trans e56
    have b6 := b5.ex e56
    have ro := hrange o hot.1.1 hot.1.2
    have rt := hrange t hot.2.1.1 hot.2.1.2
    have hfo : (fun s => hs.getD (ixOf tags s) 0) (tags.getD o.toNat Str.empty) = hs.getD o.toNat 0 := by
      show hs.getD (ixOf tags (tags.getD o.toNat Str.empty)) 0 = _
      rw [ixOf_at hnd (getD_get (show o.toNat < tags.length by omega))]
    have hft : (fun s => hs.getD (ixOf tags s) 0) (tags.getD t.toNat Str.empty) = hs.getD t.toNat 0 := by
      show hs.getD (ixOf tags (tags.getD t.toNat Str.empty)) 0 = _
      rw [ixOf_at hnd (getD_get (show t.toNat < tags.length by omega))]
    refine q_asg (v := .int (hs.getD o.toNat 0 - hs.getD t.toNat 0)) ((ev_op (ixh _ 9 o rfl rfl hot.1.1 hot.1.2) (ixh _ 10 t rfl rfl hot.2.1.1 hot.2.1.2) rv_I0).mono e6) fun H7 e67 => ?_
    generalize hfall : hs.getD o.toNat 0 - hs.getD t.toNat 0 = fall
    have e7 := e6.trans e67
    have b7 := b6.ex e67
    have x47 : Xp p H' H7 := ((x4.trans x5).trans (xpe e56)).trans (xpe e67)
    refine s_when (et_test (ev_op (ev_var rfl) ev_c rv_I0)) (fun hb H8 e78 => ?_) (fun hb H8 e78 => ?_)
    · have hf0 : 0 < fall := of_decide_eq_true hb
      have e8 := e7.trans e78
      have b8 := b7.ex e78
      have ofs : EvX (tCall (spOf K) [] E0 (tCons (tVar 0) (tCons (tLst (tCons (tC (.int 0)) (tCons (tC (.int 0)) (tCons (tC (.int 0)) (tCons (tC (.int 1)) (tCons (tC (.int 4)) tNil)))))) tNil))) [some (.ref p), some (.ref at_), some (.int 5), some (.int high), some (.ref am), some (.ref ah), a6, some (.ref D), some (.str s), some (.int o), some (.int t), some (.int fall), a12] BT p 1 (ExI (· ∈ [0, 0, 0, 1, 4])) := ex_of (ev_var rfl) (eg_lst (ega_ints (ega_ints (ega_ints (ega_ints (ega_ints ega_nil))))) (by show 5 ≤ 100000; decide)) npT (by decide) (by decide)
      refine qx_asgI (ex_addI (i := fall / 5 + 1) (ev_op (ev_op (ev_var rfl) ev_c (rv_I (C := CDiv) ⟨by decide, by decide⟩)) ev_c rv_I0) ofs (by decide)) e8 b8 (by omega) fun sp H9 hsp x9 b9 => ?_
      obtain ⟨r9, hr9, hsp⟩ := hsp
      have hr90 : 0 ≤ r9 := by
        simp only [List.mem_cons, List.not_mem_nil, or_false] at hr9
        omega
      have e9 := xp_ex e8 npT x9
      have x49 : Xp p H' H9 := (x47.trans (xpe e78)).trans x9
      have bl9 := bl.keep x49 b9
      obtain ⟨vs, hvs, hvl⟩ := bl9.len
      have ixt : ∀ (σ : L2.St) (i : Nat) (z : Int), σ[1]? = some (some (.ref at_)) → σ[i]? = some (some (.int z)) → 0 ≤ z → z < tags.length → Ev (tOp (rIx K) (tVar 1) (tVar i)) σ BT (.str (tags.getD z.toNat Str.empty)) := fun σ i z h5 hi h1 h2 => ev_ixR (i := z.toNat) (ev_var h5) (by rw [em z h1]; exact ev_var hi) sqT (by
        rw [List.getElem?_map, getD_get (show z.toNat < tags.length by omega)]
        rfl)
      refine ⟨.ref D, rfl, .inl ⟨rfl, vs, sq_of hvs⟩, .str s, rfl, ixt _ 9 o rfl rfl hot.1.1 hot.1.2 H9 e9 _ fun H10 e10 => ixt _ 10 t rfl rfl hot.2.1.1 hot.2.1.2 H10 (e9.trans e10) _ fun H11 e11 => ⟨.int sp, rfl, ?_⟩⟩
      have e911 := e10.trans e11
      have nt : EvX (tOp (rI0 fun i j => .int (i + j)) (tC (.int 1)) (tCall spTk [] E0 (tCons (tVar 0) (tCons (tOp (rI0 fun i j => .int (i + j)) (tOp (rI CDiv fun i j => .int (i / j)) (tOp (rI0 fun i j => .int (i - j)) (tVar 11) (tC (.int 1))) (tC (.int 5))) (tC (.int 1))) tNil)))) [some (.ref p), some (.ref at_), some (.int 5), some (.int high), some (.ref am), some (.ref ah), a6, some (.ref D), some (.str s), some (.int o), some (.int t), some (.int fall), some (.int sp)] BT p 1 (ExI fun k => ∃ r, (0 ≤ r ∧ r < (fall - 1) / 5 + 1) ∧ k = 1 + r) := ex_addI ev_c (ex_takeI (ev_var rfl) (ev_op (ev_op (ev_op (ev_var rfl) ev_c rv_I0) ev_c (rv_I (C := CDiv) ⟨by decide, by decide⟩)) ev_c rv_I0) (by omega) (by omega)) (by decide)
      refine nt H11 _ (e9.trans e911) (b9.ex e911) (by omega) _ fun v12 H12 x12 b12 ⟨no, hv, hno⟩ => ?_
      subst hv
      obtain ⟨rn, hrn, hno⟩ := hno
      refine ⟨by show 5 ≤ sizeLine; decide, fun q hq => ?_⟩
      have bl12 := bl9.keep ((xpe e911).trans x12) b12
      have bl13 := bl12.keep (xpe (Ex.new hq)) (b12.ex (Ex.new (o := .tup [.str s, .str (tags.getD o.toNat Str.empty), .str (tags.getD t.toNat Str.empty), .int sp, .int no]) hq))
      have hx12 := x12.at_ (Ne.symm bl.ne) (e911 _ _ hvs)
      have hv13 := (Ex.new (o := .tup [.str s, .str (tags.getD o.toNat Str.empty), .str (tags.getD t.toNat Str.empty), .int sp, .int no]) hq) _ _ hx12
      have hq13 : (upd H12 q (.tup [.str s, .str (tags.getD o.toNat Str.empty), .str (tags.getD t.toNat Str.empty), .int sp, .int no])) q = some (.tup [.str s, .str (tags.getD o.toNat Str.empty), .str (tags.getD t.toNat Str.empty), .int sp, .int no]) := upd_same
      have nqD : q ≠ D := fun z => by
        rw [← z, hq] at hx12
        cases hx12
      have h2q : H2 q = none := xp_back bl12.xp b12.ne hq
      have x3 : X2 p D H3 (upd H12 q (.tup [.str s, .str (tags.getD o.toNat Str.empty), .str (tags.getD t.toNat Str.empty), .int sp, .int no])) := ((x.trans x49.x2).trans ((xpe e911).trans x12).x2).trans (xpe (Ex.new hq)).x2
      generalize upd H12 q (.tup [.str s, .str (tags.getD o.toNat Str.empty), .str (tags.getD t.toNat Str.empty), .int sp, .int no]) = H13 at bl13 hv13 hq13 x3
      refine ⟨D, vs, .ref q, rfl, rfl, hv13, sz_lt (by rw [hvl, List.length_map]; omega), ?_⟩
      have hy : Dp K (bx_ B2 H2 D H13) (.ref q) (quD (s, tags.getD o.toNat Str.empty, tags.getD t.toNat Str.empty, sp, no)) := by
        refine .tup (xs := [.str s, .str (tags.getD o.toNat Str.empty), .str (tags.getD t.toNat Str.empty), .int sp, .int no]) (st_of ?_) (.cons (.str _) (.cons (.str _) (.cons (.str _) (.cons (.int _) (.cons (.int _) .nil)))))
        show cut B2 (upd H2 D (.lst [])) H13 q = _
        rw [cut_new (by rw [upd_ne nqD]; exact h2q)]
        exact hq13
      have bl14 := bl13.push hv13 hy
      refine ⟨_, _, _, _, _, _, qs ++ [(s, tags.getD o.toNat Str.empty, tags.getD t.toNat Str.empty, sp, no)], rfl, x3.trans (fun x o _ h2 h => by rw [upd_ne h2]; exact h), ?_, by rw [List.length_append]; show qs.length + 1 ≤ _; omega, fun u hu => ?_, fun u hu => ?_, fun u hu => ?_⟩
      · rw [List.map_append]
        obtain ⟨f1, f2, f3, f4, f5, f6, f7⟩ := bl14
        exact ⟨f1, f2, f3, f4, f5, f6.le (by omega), f7⟩
      · rcases List.mem_append.mp hu with hu | hu
        · exact hq2 u hu
        · rw [List.mem_singleton.mp hu]
          exact ⟨getD_mem (by omega), getD_mem (by omega)⟩
      · rcases List.mem_append.mp hu with hu | hu
        · exact hq3 u hu
        · rw [List.mem_singleton.mp hu]
          exact hmm s hs'
      · rcases List.mem_append.mp hu with hu | hu
        · exact hq4 u hu
        · rw [List.mem_singleton.mp hu]
          refine ⟨?_, ?_⟩
          · show (fun s => hs.getD (ixOf tags s) 0) (tags.getD o.toNat Str.empty) - (fun s => hs.getD (ixOf tags s) 0) (tags.getD t.toNat Str.empty) < 5 * sp
            rw [hfo, hft, hfall]
            omega
          · show (fun s => hs.getD (ixOf tags s) 0) (tags.getD t.toNat Str.empty) - (fun s => hs.getD (ixOf tags s) 0) (tags.getD o.toNat Str.empty) < 5 * (1 - no)
            rw [hfo, hft]
            omega
    · have b8 := b7.ex e78
      have x48 := x47.trans (xpe e78)
      exact ⟨_, _, _, _, _, _, qs, rfl, x.trans x48.x2, bl.keep x48 (b8.le (by omega)), by omega, hq2, hq3, hq4⟩
  · rintro H3 i σ' H' xp hi ⟨a6, a8, a9, a10, a11, a12, qs, rfl, x, bl, hq1, hq2, hq3, hq4⟩
    refine sx_ret (i := 1) (j := 7) (vt := .ref at_) (tags := tags) (qs := qs) (c := 50) (RN := CalmN tags) rfl rfl ht0 (by omega) bl (by omega) r2 fun ws hws => ?_
    have hwl := hws.length_eq
    refine ⟨⟨⟨hws.nodup_iff.mpr hnd, by show 0 < ws.length; omega, by show ws.length ≤ 60; omega, by show qs.length ≤ 60; omega, fun u hu => ⟨hws.mem_iff.mpr (hq2 u hu).1, hws.mem_iff.mpr (hq2 u hu).2⟩⟩, by show ws.length ≤ 10; omega, by show qs.length ≤ 5; omega, fun s hs => htl s (hws.mem_iff.mp hs), hq3⟩, good_hi _ hq4, hws⟩
end
end K73
end
section
set_option Elab.async false
set_option linter.all false
set_option maxRecDepth 100000
set_option maxHeartbeats 8000000
namespace K73
open PySem L2 Evl PyProof.Rows
section
variable {P : Program} {w : World} {K : PySem.W.Frag} {mg : Str → Option Value} {base : Heap}
/-! ### _law_tags, _law_high -/
abbrev sTg : Stmt := topS 42
theorem scTg : FnScope ["_law_box_here", "_law_size_so"] ["_law_box_here", "_law_size_so"] (defScope sTg) := ⟨rfl, rfl, rfl, by decide +kernel, rfl, by decide +kernel, by decide +kernel⟩
def spTg (K : PySem.W.Frag) : Sp := fun vs H Q _ => ∃ (p : Addr) (n : Int) (B : Hp) (k : Int), vs = [.ref p, .int k] ∧ Ex B H ∧ B p = none ∧ 0 ≤ k ∧ Bx p H n ∧ n + 20 ≤ 1000000 ∧ RetX p 20 (PickP K tags10 k) B H n Q
theorem ok_tg {f : Addr} {fd : FuncData} (F : Fun K "_law_tags" "_law_tags" sTg f fd) (T : Tx mg) (oPk : Own P w K mg base CX0 2 "_law_pick" ["_law_box_here", "_law_pool", "_law_size_so"] (spPi K)) : FnOk P w K mg base CX0 3 f fd ["_law_box_here", "_law_size_so"] (spTg K) := by
  refine F.ok scTg (fun vs H Q E ⟨p, n, B, k, e, _⟩ => by rw [e]; rfl) (fun cdv A outer s H vs Q E hr h => ?_)
  obtain ⟨p, n, B, k, rfl, eb, hp, hk, bx, hn, r⟩ := h
  refine ⟨_, pss_one (ps_ret (pe_own oPk hr (by decide) pass0 (pa_cons (pv 0) (pa_cons (pe_lst (pa_cons pe_str (pa_cons pe_str (pa_cons pe_str (pa_cons pe_str (pa_cons pe_str (pa_cons pe_str (pa_cons pe_str (pa_cons pe_str (pa_cons pe_str (pa_cons pe_str pa_nil))))))))))) (pa_cons (pv 1) pa_nil))))), ?_⟩
  refine ⟨.ref p, rfl, eg_strs (K := K) (B := B) (σ := start ["_law_box_here", "_law_size_so"] [.ref p, .int k]) tags10 (by decide) H eb _ fun v H1 e1 hv => ⟨.int k, rfl, p, n, cut B H H1, v, _, tags10, k, rfl, cut_ex, cut_pos hp bx.ne, hv, .inl rfl, by decide, hk, bx.ex e1, hn, fun u H2 x b h => ?_⟩⟩
  rw [cut_cut (dm_of e1)] at h
  exact r u H2 ((xpe e1).trans x) b h
abbrev sHi : Stmt := topS 45
theorem scHi : FnScope ["_law_box_here"] ["_law_box_here"] (defScope sHi) := ⟨rfl, rfl, rfl, by decide +kernel, rfl, by decide +kernel, by decide +kernel⟩
def spHi : Sp := fun vs H Q _ => ∃ (p : Addr) (n : Int), vs = [.ref p] ∧ Bx p H n ∧ n + 1 ≤ 1000000 ∧ ∀ z H', 2 ≤ z → z ≤ 10 ^ 38 → Xp p H H' → Bx p H' (n + 1) → Q (.int z) H'
theorem ok_hi {f : Addr} {fd : FuncData} (F : Fun K "_law_high" "_law_high" sHi f fd) (T : Tx mg) (oOf : Own P w K mg base CX0 2 "_law_of" ["_law_box_here", "_law_some"] (spOf K)) : FnOk P w K mg base CX0 3 f fd ["_law_box_here"] spHi := by
  refine F.ok scHi (fun vs H Q E ⟨p, n, e, _⟩ => by rw [e]; rfl) (fun cdv A outer s H vs Q E hr h => ?_)
  obtain ⟨p, n, rfl, bx, hn, r⟩ := h
  refine ⟨_, pss_one (ps_ret (pe_own oOf hr (by decide) pass0 (pa_cons (pv 0) (pa_cons (pe_lst (pa_cons pe_int (pa_cons pe_int (pa_cons pe_int (pa_cons pe_int (pa_cons pe_int (pa_cons (pe_op op_pow pe_int pe_int) (pa_cons (pe_op op_pow pe_int pe_int) pa_nil)))))))) pa_nil)))), ?_⟩
  have pw : ∀ (j : Int) {ta : TA} {ds : List PD}, (0 ≤ j ∧ j ≤ 1000000) → EvGA ta (start ["_law_box_here"] [.ref p]) (fun _ => none) (fun vs B' => DpAll K B' vs ds) → EvGA (tCons (tOp (rI CPow fun i j => .int (i ^ j.toNat)) (tC (.int 10)) (tC (.int j))) ta) (start ["_law_box_here"] [.ref p]) (fun _ => none) (fun vs B' => DpAll K B' vs (.int (10 ^ j.toNat) :: ds)) := fun j ta ds hj h => ega_cons' (eg_imm (ev_op ev_c ev_c (rv_I (C := CPow) ⟨hj.1, hj.2, by decide⟩)) rfl) h
  have g := ex_of (K := K) (B := fun _ => none) (p := p) (ta := tVar 0) (E := E0) (zs := [2, 3, 3, 4, 6, 10 ^ (6 : Int).toNat, 10 ^ (38 : Int).toNat]) (ev_var rfl) (eg_lst (ega_ints (ega_ints (ega_ints (ega_ints (ega_ints (pw 6 (by decide) (pw 38 (by decide) ega_nil))))))) (by show 7 ≤ 100000; decide)) rfl (by decide) (by decide)
  refine g H n (fun a o h => nomatch h) bx hn Q fun v H' x b ⟨z, hv, hz⟩ => ?_
  subst hv
  have hz' : 2 ≤ z ∧ z ≤ 10 ^ 38 := by
    have key : ∀ z ∈ ([2, 3, 3, 4, 6, 10 ^ (6 : Int).toNat, 10 ^ (38 : Int).toNat] : List Int), 2 ≤ z ∧ z ≤ 10 ^ 38 := by decide +kernel
    exact key z hz
  exact r z H' hz'.1 hz'.2 x b
/-! ### PARTs drawn -/
def PartP (K : PySem.W.Frag) (R : PartM → Prop) : PV := fun v H => ∃ q, R q ∧ Dp K H v (partD q)
theorem mon_partP {R : PartM → Prop} : Mon (PartP K R) := fun v H H' e ⟨q, hq, h⟩ => ⟨q, hq, dp_mono e h⟩
structure PortQ (s : Nat) (q : PartM) : Prop where
  ok : PartOk q
  sz : PartSz q 10 5 10
  len : q.ds.length = s
structure CPort (s : Nat) (q : PartM) : Prop where
  port : PortQ s q
  good : Good (GE q.N)
section
variable {B B' H H1 H2 : Hp} {p : Addr} {n m : Int} {σ : L2.St} {te ta tb : TE} {tt tu : TT}
theorem ex_max {i c : Int} {R : Int → Prop} (h1 : Ev ta σ B (.int i)) (h2 : EvX tb σ B p c (ExI R)) : EvX (tCB (fun xs H Q => ∃ i j, xs = [.int i, .int j] ∧ Q (.int (if j > i then j else i)) H) (tCons ta (tCons tb tNil))) σ B p c (ExI fun k => ∃ r, R r ∧ k = if r > i then r else i) := fun H n e b hn Q r =>
  h1 H e _ fun H1 e1 => h2 H1 n (e.trans e1) (b.ex e1) hn _ fun v H2 x b2 ⟨k, hv, hk⟩ => by
    subst hv
    exact ⟨i, k, rfl, r _ H2 ((xpe e1).trans x) b2 ⟨_, rfl, k, hk, rfl⟩⟩
theorem tx_eq {c j : Int} {R : Int → Prop} (h1 : EvX ta σ B p c (ExI R)) (h2 : Ev tb σ B (.int j)) (hp : B p = none) : EvTx (tTest (tOp rEq ta tb)) σ B p c := fun H n e b hn Q r => h1 H n e b hn _ fun v H1 x b1 ⟨z, hv, hz⟩ => by
  subst hv
  exact h2 H1 (xp_ex e hp x) _ fun H2 e2 => ⟨rfl, _, rfl, r _ H2 (x.trans (xpe e2)) (b1.ex e2)⟩
theorem qx_when {c : Int} {En : Ends} {tu tz : TS} (h : EvTx tt σ B p c) (e : Ex B H) (b : Bx p H n) (hn : n + c ≤ 1000000) (h1 : ∀ H1, Xp p H H1 → Bx p H1 (n + c) → tu { En with nx := tz En } σ H1) (h2 : ∀ H1, Xp p H H1 → Bx p H1 (n + c) → tz En σ H1) : tSeq (tIfS tt tu tNext) tz En σ H := h H n e b hn _ fun q H1 x b1 => by
  cases q with
  | true => exact h1 H1 x b1
  | false => exact h2 H1 x b1
/-- tuple(pick(..)) -/
theorem ex_tupPick {ws : List Str} {c : Int} {R : Int → Prop} (h : EvX te σ B p c (fun v H => ∃ k, R k ∧ PickP K ws k v H)) (hp : B p = none) : EvX (tCB (rTupOf K) (tCons te tNil)) σ B p c (fun v H => ∃ k, R k ∧ ∃ ss rs : List Str, (ss ++ rs).Perm ws ∧ (ss.length : Int) = (if (ws.length : Int) < k then (ws.length : Int) else k) ∧ Dp K H v (strsT ss)) := fun H n e b hn Q r => h.go hp e b hn fun v H1 x b1 eb ec np ⟨k, hk, ss, rs, h1, h2, h3⟩ => by
  obtain ⟨a, ys, rfl, s, q⟩ := dp_lst h3
  have ex := dpa_strs.mp q
  subst ex
  refine ⟨a, _, rfl, .inl ⟨ex_l ec s, fun l hl => r (.ref l) _ (x.trans (xpe (Ex.new hl))) (b1.ex (Ex.new hl)) ⟨k, hk, ss, rs, h1, h2, .tup (xs := ss.map V.str) (st_of ?_) (dpa_strs.mpr rfl)⟩⟩⟩
  rw [cut_new (xp_back x b1.ne hl)]
  exact upd_same
theorem xcut2 (x : Xp p H H1) (b1 : H1 p ≠ none) (hp : B p = none) (bp : H p ≠ none) (y : Xp p H1 H2) : Ex (cut B H H1) (cut B H H2) := cut_x hp bp y
theorem xcut3 (x : Xp p H H1) (b1 : H1 p ≠ none) : cut (cut B H H1) H1 H2 = cut B H H2 := cut_cut (xp_dm x b1)
/-- (a NET, doors) -/
theorem ex_pair {R : NetM → Prop} {S : List Str → Prop} {c1 c2 : Int} (h1 : EvX ta σ B p c1 (NetP K R)) (hp : B p = none) (h2 : ∀ B', Ex B B' → B' p = none → EvX tb σ B' p c2 (fun v H => ∃ ss, S ss ∧ Dp K H v (strsT ss))) (hc1 : 0 ≤ c1) (hc2 : 0 ≤ c2) :
    EvX (tTup (tCons ta (tCons tb tNil))) σ B p (c1 + c2) (PartP K fun q => R q.N ∧ S q.ds) := fun H n e b hn Q r => h1.go hp e b (by omega) fun v H1 x1 b1 eb1 ec1 np1 ⟨N, hN, dN⟩ => (h2 _ eb1 np1).go np1 ec1 b1 (by omega) fun u H2 x2 b2 eb2 ec2 np2 ⟨ss, hS, dS⟩ => by
  rw [xcut3 x1 b1.ne] at dS
  refine ⟨by show 2 ≤ sizeLine; decide, fun l hl => ?_⟩
  have x02 : Xp p H H2 := x1.trans x2
  refine r (.ref l) _ (x02.trans (xpe (Ex.new hl))) ((b2.ex (Ex.new hl)).le (by omega)) ⟨⟨N, ss⟩, ⟨hN, hS⟩, .tup (xs := [v, u]) (st_of ?_) (.cons ?_ (.cons ?_ .nil))⟩
  · rw [cut_new (xp_back x02 b2.ne hl)]
    exact upd_same
  · exact dp_mono ((cut_x hp b.ne x2).trans (cut_mono (Ex.new hl))) dN
  · exact dp_mono (cut_mono (Ex.new hl)) dS
theorem EvX.imp {P P' : PV} {c : Int} (h : EvX te σ B p c P) (k : ∀ v H, P v H → P' v H) : EvX te σ B p c P' := fun H n e b hn Q r => h H n e b hn Q fun v H1 x b1 q => r v H1 x b1 (k _ _ q)
theorem EvX.le {P : PV} {c d : Int} (h : EvX te σ B p c P) (hcd : c ≤ d) : EvX te σ B p d P := fun H n e b hn Q r => h H n e b (by omega) Q (r.le hcd)
theorem port_of {N : NetM} {ss : List Str} {s : Nat} (hN : WebN N) (hd : ss.Nodup) (hm : ∀ d ∈ ss, d ∈ N.ws) (hl : ss.length = s) (hs : 1 ≤ s) : PortQ s ⟨N, ss⟩ :=
  ⟨⟨hN.ok, hd, hm, by show 0 < ss.length; omega⟩, ⟨hN.w, hN.q, hN.lw, hN.lq⟩, hl⟩
end
end
end K73
end
section
set_option Elab.async false
set_option linter.all false
set_option maxRecDepth 100000
set_option maxHeartbeats 8000000
namespace K73
open PySem L2 Evl PyProof.Rows
section
variable {P : Program} {w : World} {K : PySem.W.Frag} {mg : Str → Option Value} {base : Heap}
section
variable {B H : Hp} {p : Addr} {n : Int} {σ : L2.St}
abbrev tCalmPart (K : PySem.W.Frag) : TE := tTup (tCons (tCall (spCalm K) [] E0 (tCons (tVar 0) (tCons (tVar 4) (tCons (tVar 2) (tCons (tVar 3) tNil))))) (tCons (tCB (rTupOf K) (tCons (tCall (spPi K) [] E0 (tCons (tVar 0) (tCons (tVar 4) (tCons (tVar 1) tNil)))) tNil)) tNil))
theorem ex_calmPart {vt : V} {tags : List Str} {s : Nat} {high : Int} (h0 : σ[0]? = some (some (.ref p))) (h1 : σ[1]? = some (some (.int (s : Int)))) (h2 : σ[2]? = some (some (.int 5))) (h3 : σ[3]? = some (some (.int high))) (h4 : σ[4]? = some (some vt)) (ht : Dp K B vt (.list (tags.map PyData.str))) (hp : B p = none)
    (hnd : tags.Nodup) (ht2 : 2 ≤ tags.length) (ht10 : tags.length ≤ 10) (htl : ∀ s ∈ tags, s.length ≤ 10) (hh1 : 2 ≤ high) (hh2 : high ≤ 10 ^ 38) (hs : 1 ≤ s) (hst : s ≤ tags.length) : EvX (tCalmPart K) σ B p 120 (PartP K (CPort s)) := by
  have c1 : EvX (tCall (spCalm K) [] E0 (tCons (tVar 0) (tCons (tVar 4) (tCons (tVar 2) (tCons (tVar 3) tNil))))) σ B p 100 (NetP K (CalmN tags)) := fun H n e b hn Q r => ⟨_, h0, _, h4, _, h2, _, h3, p, n, B, vt, tags, high, rfl, e, hp, ht, hnd, ht2, ht10, htl, b, hn, hh1, hh2, r⟩
  have c2 : ∀ B', Ex B B' → B' p = none → EvX (tCB (rTupOf K) (tCons (tCall (spPi K) [] E0 (tCons (tVar 0) (tCons (tVar 4) (tCons (tVar 1) tNil)))) tNil)) σ B' p 20 (fun v H => ∃ ss : List Str, (ss.Nodup ∧ (∀ d ∈ ss, d ∈ tags) ∧ ss.length = s) ∧ Dp K H v (strsT ss)) := fun B' eB np => by
    have q := ex_tupPick (ex_pick (K := K) (B := B') (σ := σ) (E := E0) (ta := tVar 0) (tb := tVar 4) (tt := tVar 1) (ws := tags) (c := 0) (R := fun k => k = (s : Int)) (ev_var h0) np (eg_d h4 (dp_mono eB ht)) (.inl rfl) (by omega) (fun B2 _ _ => ev_exI (ev_var h1) rfl (by decide)) (fun k h => by omega) (by decide)) np
    refine (q.le (d := 20) (by decide)).imp fun v H ⟨k, hk, ss, rs, hperm, hlen, hd⟩ => ?_
    obtain ⟨q1, q2⟩ := pick_nd hperm hnd
    refine ⟨ss, ⟨q1, q2, ?_⟩, hd⟩
    subst hk
    have : (ss.length : Int) = (s : Int) := by
      rw [hlen, if_neg (by omega)]
    omega
  refine (ex_pair c1 hp c2 (by decide) (by decide)).imp fun v H ⟨q, ⟨hN, hd1, hd2, hd3⟩, hd⟩ => ⟨q, ⟨port_of hN.web hd1 (fun d h => hN.perm.mem_iff.mpr (hd2 d h)) hd3 hs, hN.good⟩, hd⟩
/-- tags(box, max(2, size + take(box, 3))) -/
theorem ex_tags {s : Nat} (h0 : σ[0]? = some (some (.ref p))) (h1 : σ[1]? = some (some (.int (s : Int)))) (hp : B p = none) (hs : 1 ≤ s) (hs4 : s ≤ 4) :
    EvX (tCall (spTg K) [] E0 (tCons (tVar 0) (tCons (tCB (fun xs H Q => ∃ i j, xs = [V.int i, V.int j] ∧ Q (.int (if j > i then j else i)) H) (tCons (tC (.int 2)) (tCons (tOp (rI0 fun i j => .int (i + j)) (tVar 1) (tCall spTk [] E0 (tCons (tVar 0) (tCons (tC (.int 3)) tNil)))) tNil))) tNil))) σ B p 21
      (fun v H => ∃ tags : List Str, (tags.Nodup ∧ 2 ≤ tags.length ∧ tags.length ≤ 10 ∧ s ≤ tags.length ∧ ∀ s ∈ tags, s.length ≤ 10) ∧ Dp K H v (.list (tags.map PyData.str))) := fun H n e b hn Q r => by
  have m : EvX (tCB (fun xs H Q => ∃ i j, xs = [V.int i, V.int j] ∧ Q (.int (if j > i then j else i)) H) (tCons (tC (.int 2)) (tCons (tOp (rI0 fun i j => .int (i + j)) (tVar 1) (tCall spTk [] E0 (tCons (tVar 0) (tCons (tC (.int 3)) tNil)))) tNil))) σ B p 1 (ExI fun k => 2 ≤ k ∧ (s : Int) ≤ k ∧ k ≤ 6) := (ex_max ev_c (ex_addI (ev_var h1) (ex_takeI (m := 3) (ev_var h0) ev_c (by decide) (by decide)) (by decide))).impI fun k ⟨r, ⟨z, h1, h2⟩, h3⟩ => by
    split at h3 <;> omega
  refine ⟨_, h0, m.go hp e b (by omega) fun v H1 x1 b1 eb1 ec1 np1 ⟨k, hv, hk⟩ => ?_⟩
  subst hv
  refine ⟨p, n + 1, cut B H H1, k, rfl, ec1, np1, by omega, b1, by omega, fun u H2 x2 b2 ⟨ss, rs, q1, q2, q3⟩ => ?_⟩
  rw [xcut3 x1 b1.ne] at q3
  obtain ⟨n1, n2⟩ := pick_nd q1 tags10_nd
  have h10 : tags10.length = 10 := rfl
  rw [h10] at q2
  have hk2 : (ss.length : Int) = k := by
    rw [q2, if_neg (by omega)]
  exact r u H2 (x1.trans x2) (b2.le (by omega)) ⟨ss, ⟨n1, by omega, by omega, by omega, fun s hs => tags10_len s (n2 s hs)⟩, q3⟩
end
/-! ### _law_port, _law_calm_port -/
def spPort (K : PySem.W.Frag) (R : Nat → PartM → Prop) : Sp := fun vs H Q _ => ∃ (p : Addr) (n : Int) (B : Hp) (s : Nat) (high : Int), vs = [.ref p, .int (s : Int), .int 5, .int high] ∧ Ex B H ∧ B p = none ∧ 1 ≤ s ∧ s ≤ 4 ∧ Bx p H n ∧ n + 400 ≤ 1000000 ∧ 2 ≤ high ∧ high ≤ 10 ^ 38 ∧ RetX p 400 (PartP K (R s)) B H n Q
abbrev sCp : Stmt := topS 44
abbrev nCp : List Str := ["_law_box_here", "_law_size_so", "_law_most", "_law_high_here", "_law_tags_here"]
theorem scCp : FnScope nCp ["_law_box_here", "_law_size_so", "_law_most", "_law_high_here"] (defScope sCp) := ⟨rfl, rfl, rfl, by decide +kernel, rfl, by decide +kernel, by decide +kernel⟩
theorem ok_cp {f : Addr} {fd : FuncData} (F : Fun K "_law_calm_port" "_law_calm_port" sCp f fd) (T : Tx mg) (oT : Own P w K mg base CX0 1 "_law_take" ["_law_box_here", "_law_below"] spTk) (oPk : Own P w K mg base CX0 2 "_law_pick" ["_law_box_here", "_law_pool", "_law_size_so"] (spPi K)) (oTg : Own P w K mg base CX0 3 "_law_tags" ["_law_box_here", "_law_size_so"] (spTg K))
    (oCa : Own P w K mg base CX0 3 "_law_calm" ["_law_box_here", "_law_tags_here", "_law_most", "_law_high_here"] (spCalm K)) : FnOk P w K mg base CX0 4 f fd ["_law_box_here", "_law_size_so", "_law_most", "_law_high_here"] (spPort K CPort) := by
  refine F.ok scCp (fun vs H Q E ⟨p, n, B, s, high, e, _⟩ => by rw [e]; rfl) (fun cdv A outer s H vs Q E hr h => ?_)
  obtain ⟨p, n, B, s, high, rfl, eb, hp, hs, hs4, bx, hn, hh1, hh2, r⟩ := h
  refine ⟨_, pss_cons (ps_set (i := 4) scCp.nd rfl (Or.inl rfl) (pe_own oTg hr (by decide) pass0 (pa_cons (pv 0) (pa_cons (kmax T rfl pe_int (pe_op op_add (pv 1) (pe_own oT hr (by decide) pass0 (pa_cons (pv 0) (pa_cons pe_int pa_nil))))) pa_nil))))
    (pss_one (ps_ret (pe_tup (pa_cons (pe_own oCa hr (by decide) pass0 (pa_cons (pv 0) (pa_cons (pv 4) (pa_cons (pv 2) (pa_cons (pv 3) pa_nil))))) (pa_cons (ktupleOf K T (pe_own oPk hr (by decide) pass0 (pa_cons (pv 0) (pa_cons (pv 4) (pa_cons (pv 1) pa_nil))))) pa_nil))))), ?_⟩
  refine qx_asg (ex_tags (K := K) (s := s) rfl rfl hp hs hs4) hp eb bx (by omega) fun vt H1 x1 b1 eB1 eC1 np1 ⟨tags, ⟨t1, t2, t3, t4, t5⟩, ht⟩ => ?_
  have r1 : RetX p 120 (PartP K (CPort s)) (cut B H H1) H1 (n + 21) Q := RetX.next (c := 21) (d := 120) (r.le (by omega)) x1 b1
  exact ex_calmPart (s := s) rfl rfl rfl rfl rfl ht np1 t1 t2 t3 t5 hh1 hh2 hs t4 H1 _ eC1 b1 (by omega) Q r1
abbrev sPo : Stmt := topS 43
abbrev nPo : List Str := ["_law_box_here", "_law_size_so", "_law_most", "_law_high_here", "_law_tags_here", "_law_web_here"]
theorem scPo : FnScope nPo ["_law_box_here", "_law_size_so", "_law_most", "_law_high_here"] (defScope sPo) := ⟨rfl, rfl, rfl, by decide +kernel, rfl, by decide +kernel, by decide +kernel⟩
theorem ok_po {f : Addr} {fd : FuncData} (F : Fun K "_law_port" "_law_port" sPo f fd) (T : Tx mg) (oT : Own P w K mg base CX0 1 "_law_take" ["_law_box_here", "_law_below"] spTk) (oPk : Own P w K mg base CX0 2 "_law_pick" ["_law_box_here", "_law_pool", "_law_size_so"] (spPi K)) (oTg : Own P w K mg base CX0 3 "_law_tags" ["_law_box_here", "_law_size_so"] (spTg K))
    (oCa : Own P w K mg base CX0 3 "_law_calm" ["_law_box_here", "_law_tags_here", "_law_most", "_law_high_here"] (spCalm K)) (oWe : Own P w K mg base CX0 3 "_law_web" ["_law_box_here", "_law_size_so", "_law_most", "_law_high_here"] (spWeb K)) : FnOk P w K mg base CX0 4 f fd ["_law_box_here", "_law_size_so", "_law_most", "_law_high_here"] (spPort K PortQ) := by
  refine F.ok scPo (fun vs H Q E ⟨p, n, B, s, high, e, _⟩ => by rw [e]; rfl) (fun cdv A outer s H vs Q E hr h => ?_)
  obtain ⟨p, n, B, s, high, rfl, eb, hp, hs, hs4, bx, hn, hh1, hh2, r⟩ := h
  refine ⟨_, pss_cons (ps_set (i := 4) scPo.nd rfl (Or.inl rfl) (pe_own oTg hr (by decide) pass0 (pa_cons (pv 0) (pa_cons (kmax T rfl pe_int (pe_op op_add (pv 1) (pe_own oT hr (by decide) pass0 (pa_cons (pv 0) (pa_cons pe_int pa_nil))))) pa_nil))))
    (pss_cons (ps_if (pt_cmpR op_eq (pe_own oT hr (by decide) pass0 (pa_cons (pv 0) (pa_cons pe_int pa_nil))) pe_int (nomark _))
      (pss_cons (ps_set (i := 5) scPo.nd rfl (Or.inl rfl) (pe_own oWe hr (by decide) pass0 (pa_cons (pv 0) (pa_cons pe_int (pa_cons (pv 2) (pa_cons (pv 3) pa_nil))))))
      (pss_one (ps_if (pt_cmpR op_ge (klen K T (kix K (pv 5) pe_int)) (pv 1) (nomark _)) (pss_one (ps_ret (pe_tup (pa_cons (pv 5) (pa_cons (ktupleOf K T (pe_own oPk hr (by decide) pass0 (pa_cons (pv 0) (pa_cons (kix K (pv 5) pe_int) (pa_cons (pv 1) pa_nil))))) pa_nil))))) pss_nil))) pss_nil)
    (pss_one (ps_ret (pe_tup (pa_cons (pe_own oCa hr (by decide) pass0 (pa_cons (pv 0) (pa_cons (pv 4) (pa_cons (pv 2) (pa_cons (pv 3) pa_nil))))) (pa_cons (ktupleOf K T (pe_own oPk hr (by decide) pass0 (pa_cons (pv 0) (pa_cons (pv 4) (pa_cons (pv 1) pa_nil))))) pa_nil)))))), ?_⟩
  refine qx_asg (ex_tags (K := K) (s := s) rfl rfl hp hs hs4) hp eb bx (by omega) fun vt H1 x1 b1 eB1 eC1 np1 ⟨tags, ⟨t1, t2, t3, t4, t5⟩, ht⟩ => ?_
  have r1 : RetX p 300 (PartP K (PortQ s)) (cut B H H1) H1 (n + 21) Q := RetX.next (c := 21) (d := 300) (r.le (by omega)) x1 b1
  generalize cut B H H1 = B1 at eB1 eC1 np1 ht r1
  -- the calm end, from any later heap
  have fin : ∀ (a5 : Option V) (H2 : Hp) (m : Int), Xp p H1 H2 → Bx p H2 m → n + 21 ≤ m → m ≤ n + 150 → tCalmPart K [some (.ref p), some (.int (s : Int)), some (.int 5), some (.int high), some vt, a5] H2 Q := fun a5 H2 m x b hm1 hm2 => by
    have e2 := xp_ex eC1 np1 x
    refine ex_calmPart (s := s) (high := high) rfl rfl rfl rfl rfl ht np1 t1 t2 t3 t5 hh1 hh2 hs t4 H2 m e2 b (by omega) Q fun u H3 x3 b3 ⟨q, hq, hd⟩ => ?_
    exact r1 u H3 (x.trans x3) (b3.le (by omega)) ⟨q, hq.port, dp_mono (cut_dm (xp_dm x b.ne)) hd⟩
  have tst : EvTx (tTest (tOp rEq (tCall spTk [] E0 (tCons (tVar 0) (tCons (tC (.int 6)) tNil))) (tC (.int 0)))) [some (.ref p), some (.int (s : Int)), some (.int 5), some (.int high), some vt, none] B1 p 1 := tx_eq (ex_takeI (m := 6) (ev_var rfl) ev_c (by decide) (by decide)) ev_c np1
  refine qx_when tst eC1 b1 (by omega) (fun H2 x2 b2 => ?_) (fun H2 x2 b2 => fin none H2 _ x2 b2 (by omega) (by omega))
  have e2 := xp_ex eC1 np1 x2
  have wb : EvX (tCall (spWeb K) [] E0 (tCons (tVar 0) (tCons (tC (.int 3)) (tCons (tVar 2) (tCons (tVar 3) tNil))))) [some (.ref p), some (.int (s : Int)), some (.int 5), some (.int high), some vt, none] B1 p 100 (NetP K WebN) := fun H n e b hn Q r => ⟨_, rfl, _, rfl, _, rfl, p, n, B1, high, rfl, e, np1, b, hn, hh1, hh2, r⟩
  refine qx_asg wb np1 e2 b2 (by omega) fun vw H3 x3 b3 eB3 eC3 np3 ⟨N, hN, dN⟩ => ?_
  have nw : EvG (tOp (rIx K) (tVar 5) (tC (.int 0))) [some (.ref p), some (.int (s : Int)), some (.int 5), some (.int high), some vt, some vw] (cut B1 H2 H3) (Dd K (strsT N.ws)) := eg_ix (i := 0) (eg_d rfl dN) (.inr rfl) ev_c rfl
  have l := ev_lenD nw (.inr rfl)
  rw [List.length_map] at l
  refine s_when (et_test (ev_op (l.mono eC3) (ev_var rfl) rv_I0)) (fun hb H4 e34 => ?_) (fun hb H4 e34 => fin _ H4 _ ((x2.trans x3).trans (xpe e34)) (b3.ex e34) (by omega) (by omega))
  have hle : (s : Int) ≤ (N.ws.length : Int) := of_decide_eq_true hb
  have hwl := hN.w
  have r3 : RetX p 150 (PartP K (PortQ s)) (cut B1 H1 H2) H2 (n + 21 + 1) Q := RetX.next (c := 1) (d := 150) (r1.le (by omega)) x2 b2
  have c1 : EvX (tVar 5) [some (.ref p), some (.int (s : Int)), some (.int 5), some (.int high), some vt, some vw] (cut B1 H2 H3) p 0 (NetP K (· = N)) := (eg_var (P := NetP K (· = N)) rfl ⟨N, rfl, dN⟩ fun v H H' e ⟨N', h1, h2⟩ => ⟨N', h1, dp_mono e h2⟩).x (by decide)
  have c2 : ∀ B', Ex (cut B1 H2 H3) B' → B' p = none → EvX (tCB (rTupOf K) (tCons (tCall (spPi K) [] E0 (tCons (tVar 0) (tCons (tOp (rIx K) (tVar 5) (tC (.int 0))) (tCons (tVar 1) tNil)))) tNil)) [some (.ref p), some (.int (s : Int)), some (.int 5), some (.int high), some vt, some vw] B' p 20 (fun v H => ∃ ss : List Str, (ss.Nodup ∧ (∀ d ∈ ss, d ∈ N.ws) ∧ ss.length = s) ∧ Dp K H v (strsT ss)) := fun B' eB np => by
    have q := ex_tupPick (ex_pick (K := K) (B := B') (E := E0) (ta := tVar 0) (tt := tVar 1) (ws := N.ws) (c := 0) (R := fun k => k = (s : Int)) (ev_var rfl) np (nw.mono mon_dd eB) (.inr rfl) (by omega) (fun B2 _ _ => ev_exI (ev_var rfl) rfl (by decide)) (fun k h => by omega) (by decide)) np
    refine (q.le (d := 20) (by decide)).imp fun v H ⟨k, hk, ss, rs, hperm, hlen, hd⟩ => ?_
    obtain ⟨q1, q2⟩ := pick_nd hperm hN.ok.nd
    refine ⟨ss, ⟨q1, q2, ?_⟩, hd⟩
    subst hk
    have : (ss.length : Int) = (s : Int) := by
      rw [hlen, if_neg (by omega)]
    omega
  refine ex_pair c1 np3 c2 (by decide) (by decide) H4 _ (eC3.trans e34) (b3.ex e34) (by omega) Q fun u H5 x5 b5 ⟨q, ⟨hq, hd1, hd2, hd3⟩, hd⟩ => ?_
  obtain ⟨qN, qd⟩ := q
  have hq : qN = N := hq
  subst hq
  have x25 : Xp p H2 H4 := x3.trans (xpe e34)
  refine r3 u H5 (x25.trans x5) (b5.le (by omega)) ⟨⟨qN, qd⟩, port_of hN hd1 hd2 hd3 hs, dp_mono (fun a o h => ?_) hd⟩
  -- the cuts
  have n2 : ∀ G, cut (cut B1 H2 H3) H4 G p = none := fun G => cut_pos np3 (b3.ex e34).ne
  unfold cut
  by_cases hB : (if B1 a = none ∧ H1 a ≠ none then none else H2 a) = none ∧ H2 a ≠ none
  · exfalso
    have hB1 : B1 a = none := by
      cases hz : B1 a with
      | none => rfl
      | some o' =>
        have := hB.1
        rw [if_neg (fun z => by rw [hz] at z; exact nomatch z.1)] at this
        exact absurd this hB.2
    have h3 : cut B1 H2 H3 a = none := cut_pos hB1 hB.2
    have h4 : H4 a ≠ none := xp_dm x25 (b3.ex e34).ne a hB.2
    rw [cut_pos h3 h4] at h
    cases h
  · rw [if_neg hB]
    exact cut_ex a o h
end
end K73
end
section
set_option Elab.async false
set_option linter.all false
set_option maxRecDepth 100000
set_option maxHeartbeats 8000000
namespace K73
open PySem L2 Evl PyProof.Rows
section
variable {P : Program} {w : World} {K : PySem.W.Frag} {mg : Str → Option Value} {base : Heap}
/-! ### _law_same -/
def okE : Nat → PD → Prop
  | 0, d => ∃ e : Ent, d = eD e
  | n + 1, d => ∃ ds, d = .tuple ds ∧ ds.length ≤ 1000 ∧ ∀ x ∈ ds, okE n x
theorem okE_mat (k : Nat) (M : Mat) (hk : k ≤ 1000) : okE 2 (matT k M) := by
  refine ⟨_, rfl, by rw [matTs_len]; exact hk, fun x hx => ?_⟩
  obtain ⟨j, _, rfl⟩ := List.mem_map.mp hx
  refine ⟨_, rfl, by rw [rowD_len]; exact hk, fun x hx => ?_⟩
  obtain ⟨i, _, rfl⟩ := List.mem_map.mp hx
  exact ⟨_, rfl⟩
def smF (n : Nat) (ds : List PD) (d : PD) : Prop := ∃ x, ds = [x, x] ∧ okE n x ∧ d = .bool true
abbrev sSm : Stmt := topS 39
abbrev nSm : List Str := ["_law_got", "_law_due", "_law_mine", "_law_its"]
theorem scSm : FnScope nSm ["_law_got", "_law_due"] (defScope sSm) := ⟨rfl, rfl, rfl, by decide +kernel, rfl, by decide +kernel, by decide +kernel⟩
theorem kIB : kitB "int" "bool" = some false := by decide +kernel
theorem kIS : kitB "int" "str" = some false := by decide +kernel
theorem kII : kitB "int" "int" = some true := by decide +kernel
theorem kNB : kitB "NoneType" "bool" = some false := by decide +kernel
theorem boot_boolT : bootBuiltins "bool" = some (.type "bool") := by decide +kernel
theorem boot_strT : bootBuiltins "str" = some (.type "str") := by decide +kernel
theorem boot_intT : bootBuiltins "int" = some (.type "int") := by decide +kernel
theorem same_step {f : Addr} {fd : FuncData} (F : Fun K "_law_same" "_law_same" sSm f fd) (T : Tx mg) (n : Nat) (sp : Sp) (o : Own P w K mg base CX0 n "_law_same" ["_law_got", "_law_due"] sp) (hsp : ∀ m, n = m + 1 → sp = spD K (smF m)) : FnOk P w K mg base CX0 (n + 1) f fd ["_law_got", "_law_due"] (spD K (smF n)) := by
  refine F.ok scSm (sp_len1 fun ds d ⟨x, e, _⟩ => by rw [e]; rfl) (fun cdv A outer s H vs Q E hr h => ?_)
  obtain ⟨B, ds, d, eb, ha, ⟨x, rfl, hx, rfl⟩, r⟩ := h
  cases ha with
  | cons h1 ha => cases ha with
    | cons h2 ha =>
      cases ha
      rename_i v1 v2
      refine ⟨_, pss_cons (ps_if (pt_val (pe_isT2 T (pv 1) T.list boot_list T.tuple boot_tuple'))
          (pss_cons (ps_if (PW.pt (pw_or (pt_cmpR op_ne (kisT K T (pv 0) T.list boot_list) (kisT K T (pv 1) T.list boot_list) (nomark _)) (pw_or1 (pt_cmpR op_ne (kisT K T (pv 0) T.tuple boot_tuple') (kisT K T (pv 1) T.tuple boot_tuple') (nomark _))))) (pss_one (ps_ret pe_bl)) pss_nil)
          (pss_one (ps_ret (pe_and (pe_cmpR op_eq (klen K T (pv 0)) (klen K T (pv 1)) (nomark _)) (pe_one (kall K T rfl (klc (own := [("_law_mine", 2), ("_law_its", 3)]) (g := gTup K 2 (gCons (gName 2) (gCons (gName 3) gNil))) (tt := tYes) scSm.nd (kzip K T (pv 0) (pv 1)) (by kernel_rfl)
            (fun _ _ _ _ _ => ktup K rfl (pgs_cons (pg_name (i := 2) scSm.nd rfl (Or.inl rfl)) (pgs_cons (pg_name (i := 3) scSm.nd rfl (Or.inl rfl)) pgs_nil))) (fun _ _ _ _ _ => pts_nil) (fun _ _ _ _ _ => pe_own o hr (Nat.le_refl _) pass0 (pa_cons (pv 2) (pa_cons (pv 3) pa_nil)))))))))) pss_nil)
        (pss_cons (ps_if (PW.pt (pw_or (pt_cmpR op_isN (pv 1) pe_non (nomark _)) (pw_or1 (pt_val (pe_isT2 T (pv 1) T.bool boot_boolT T.str boot_strT)))))
          (pss_one (ps_ret (pe_and (pe_cmpR op_eq (pv 0) (pv 1) (nomark _)) (pe_and (pe_cmpR op_eq (kisT K T (pv 0) T.bool boot_boolT) (kisT K T (pv 1) T.bool boot_boolT) (nomark _)) (pe_one (pe_cmpR op_eq (pe_cmpR op_isN (pv 0) pe_non (nomark _)) (pe_cmpR op_isN (pv 1) pe_non (nomark _)) (nomark _))))))) pss_nil)
        (pss_one (ps_ret (pe_and (kisT K T (pv 0) T.int boot_intT) (pe_and (pe_not (kisT K T (pv 0) T.bool boot_boolT)) (pe_one (pe_cmpR op_eq (pv 0) (pv 1) (nomark _)))))))), ?_⟩
      have g1 : EvG (tVar 0) (start nSm [v1, v2]) B (Dd K x) := eg_d rfl h1
      have g2 : EvG (tVar 1) (start nSm [v1, v2]) B (Dd K x) := eg_d rfl h2
      have bb : ∀ b : Bool, decide (V.bl b = V.bl b) = true := fun b => decide_eq_true rfl
      cases n with
      | zero =>
        obtain ⟨e, rfl⟩ := hx
        have kk : kitB (kindD (eD e)) "list" = some false ∧ kitB (kindD (eD e)) "tuple" = some false := by cases e with | none => exact ⟨kNL, kNT⟩ | some i => exact ⟨kIL, kIT⟩
        refine q_when ((et_B (ev_isT2 g2 kk.1 kk.2)).mono eb) (fun z => by cases z) (fun _ H1 e1 => ?_)
        have eb1 := eb.trans e1
        cases e with
        | none =>
          cases dp_non h1
          cases dp_non h2
          refine ⟨_, rfl, rfl, true, rfl, ?_⟩
          have c := ev_andV (H := B) (σ := start nSm [.non, .non]) (ev_op (ta := tVar 0) (tb := tVar 1) (ev_var rfl) (ev_var rfl) (rv_eq rfl)) fun _ => ev_andV (ev_op (ev_isD g1 kNB) (ev_isD g2 kNB) (rv_eq rfl)) fun _ => ev_op (ev_op (ta := tVar 0) (ev_var rfl) ev_c rv_isN) (ev_op (ta := tVar 1) (ev_var rfl) ev_c rv_isN) (rv_eq rfl)
          rw [bb, bb, show decide ((V.non : V) = V.non) = true from decide_eq_true rfl] at c
          exact sg_ret (B := B) (P := Dd K (.bool true)) (eg_imm c rfl) eb1 (fun v H' e h => r v H' (e1.trans e) (by rw [dp_bl h]; exact .bl true))
        | some i =>
          cases dp_int h1
          cases dp_int h2
          have t2 : EvT (tOr (tTest (tOp rIsN0 (tVar 1) (tC .non))) (tB (tIs2 K "bool" "str" (tVar 1)))) (start nSm [.int i, .int i]) B (false || (false || false)) := et_or (et_test (ev_isNon (e := some i) (ev_var rfl))) fun _ => et_B (ev_isT2 g2 kIB kIS)
          refine q_when (t2.mono eb1) (fun z => by cases z) (fun _ H2 e2 => ?_)
          have c := ev_andV (H := B) (ev_isD g1 kII) fun _ => ev_andV (ev_notV (ev_isD g1 kIB)) fun _ => ev_op (ta := tVar 0) (tb := tVar 1) (ev_var rfl) (ev_var rfl) (rv_eq rfl)
          rw [show decide (V.int i = V.int i) = true from decide_eq_true rfl] at c
          exact sg_ret (B := B) (P := Dd K (.bool true)) (eg_imm c rfl) (eb1.trans e2) (fun v H' e h => r v H' ((e1.trans e2).trans e) (by rw [dp_bl h]; exact .bl true))
      | succ m =>
        obtain ⟨ds, rfl, hl, hy⟩ := hx
        refine q_when ((et_B (ev_isT2 g2 (b1 := false) (b2 := true) kTL kTT)).mono eb) (fun _ H1 e1 => ?_) (fun z => by cases z)
        have eb1 := eb.trans e1
        have t2 := et_or (et_test (ev_op (ev_isD g1 kTL) (ev_isD g2 kTL) (rv_ne rfl))) fun _ => et_test (ev_op (ev_isD g1 kTT) (ev_isD g2 kTT) (rv_ne rfl))
        rw [bb, bb] at t2
        refine q_when (t2.mono eb1) (fun z => by cases z) (fun _ H2 e2 => ?_)
        have l1 := ev_lenD g1 (.inr rfl)
        have l2 := ev_lenD g2 (.inr rfl)
        have zi := ei_zip (K := K) (ega_cons' g1 (ega_cons' g2 ega_nil)) rfl
        have L := eg_lc (K := K) (te := tCall sp [] E0 (tCons (tVar 2) (tCons (tVar 3) tNil))) (g := gTup K 2 (gCons (gName 2) (gCons (gName 3) gNil))) (vs := [2, 3]) (fun _ => PyData.bool true) zi (by omega) (by
          intro B' i y H3 H4 Q2 eB hi e3 hY rt
          obtain ⟨t, z1, z2, d1, d2, rfl, hT, rfl, g1, g2, p1, p2⟩ := hY
          rw [g1] at g2
          cases g2
          rw [hsp m rfl]
          exact lc_pair mon_dd e3 hT rfl (eg_call (F := smF m) (ega_cons' (eg_d rfl p1) (ega_cons' (eg_d rfl p2) ega_nil)) ⟨d1, rfl, hy d1 (List.mem_of_getElem? g1), rfl⟩) rt)
        rw [bool_map] at L
        have A := ev_all L
        rw [all_true (n := ds.length) (f := fun _ => true) fun _ _ => rfl] at A
        have c := ev_andV (ev_op l1 l2 (rv_eq rfl)) fun _ => A
        rw [show decide (V.int (ds.length : Int) = V.int (ds.length : Int)) = true from decide_eq_true rfl] at c
        exact sg_ret (B := B) (P := Dd K (.bool true)) (eg_imm c rfl) (eb1.trans e2) (fun v H' e h => r v H' ((e1.trans e2).trans e) (by rw [dp_bl h]; exact .bl true))
theorem ok_same {f : Addr} {fd : FuncData} (F : Fun K "_law_same" "_law_same" sSm f fd) (T : Tx mg) (hm : mg "_law_same" = some (.ref f)) (hb : Binds K fd ["_law_got", "_law_due"] []) : ∀ n : Nat, FnOk P w K mg base CX0 (n + 1) f fd ["_law_got", "_law_due"] (spD K (smF n))
  | 0 => same_step F T 0 _ ⟨f, fd, fnok_false, hm, F.kp, hb⟩ fun m e => nomatch e
  | n + 1 => same_step F T (n + 1) _ (own_mk F (ok_same F T hm hb n) hm hb) fun m e => by
    injection e with e
    subst e
    rfl
end
end K73
end
section
set_option Elab.async false
set_option linter.all false
set_option maxRecDepth 100000
set_option maxHeartbeats 8000000
namespace K73
open PySem L2 Evl PyProof.Rows
section
variable {P : Program} {w : World} {K : PySem.W.Frag} {mg : Str → Option Value} {base : Heap} {C p : Addr}
/-- a table, or None -/
def OTab (K : PySem.W.Frag) (C : Addr) (k : Nat) : Option Mat → PV
  | none => fun v _ => v = .non
  | some T => TabAt K C k T
theorem mon_otab {k : Nat} : ∀ o, Mon (OTab K C k o)
  | none => fun _ _ _ _ h => h
  | some T => mon_tab
def OTabM (k : Nat) (o : Option Mat) : Prop := ∀ T, o = some T → TableM k T
/-! ### _law_both -/
abbrev sBt : Stmt := topS 46
abbrev nBt : List Str := ["_law_one", "_law_two", "_law_caught", "_law_found", "error"]
theorem scBt : FnScope nBt ["_law_one", "_law_two"] (defScope sBt) := ⟨rfl, rfl, rfl, by decide +kernel, rfl, by decide +kernel, by decide +kernel⟩
def spBt (K : PySem.W.Frag) (C : Addr) : Sp := fun vs H Q _ => ∃ B v1 v2 k o1 o2, Ex B H ∧ vs = [v1, v2] ∧ 0 < k ∧ k ≤ 100 ∧ OTabM k o1 ∧ OTabM k o2 ∧ OTab K C k o1 v1 B ∧ OTab K C k o2 v2 B ∧ Ret (OTab K C k (bothT k o1 o2)) B H Q
theorem ok_bt {f fA CN : Addr} {fd fdA : FuncData} (F : Fun K "_law_both" "_law_both" sBt f fd) (T : Tx mg) (xc : XC K mg "NoTable" CN) (te : PySem.W.exmOne K (.ref CN) (.ref CN) = some true)
    (GA : FnOk P w K mg base (L2.CX P w) 7 fA fdA ["self", "other"] (spTA K C CN)) (bA : Binds K fdA ["self", "other"] []) (hcf : PySem.W.selfFirst K C = true) (hsA : PySem.W.findIn K (.ref C) "__and__" = some (some (.ref fA))) (hfA : PySem.W.isFn K (.ref fA) = true) :
    FnOk P w K mg base CX0 9 f fd ["_law_one", "_law_two"] (spBt K C) := by
  refine F.ok scBt (fun vs H Q E ⟨B, v1, v2, k, o1, o2, _, e, _⟩ => by rw [e]; rfl) (fun cdv A outer s H vs Q E hr h => ?_)
  obtain ⟨B, v1, v2, k, o1, o2, eb, rfl, hk0, hk, m1, m2, h1, h2, r⟩ := h
  have hr7 : Room 7 _ := hr.mono (by decide)
  refine ⟨_, pss_cons (ps_asg (pe_tup (pa_cons pe_non (pa_cons pe_non pa_nil))) (ktup K rfl (pgs_cons (pg_name (i := 2) scBt.nd rfl (Or.inl rfl)) (pgs_cons (pg_name (i := 3) scBt.nd rfl (Or.inl rfl)) pgs_nil))))
    (pss_cons (ps_if (PW.pt (pw_or (pt_cmpR op_isN (pv 0) pe_non (nomark _)) (pw_or1 (pt_cmpR op_isN (pv 1) pe_non (nomark _))))) (pss_one (ps_ret pe_non)) pss_nil)
    (pss_cons (ps_try_as (i := 4) (tb := fun W => tAsg (tAndS C (spTA K C CN) (WE W) (tVar 0) (tVar 1)) (gName 3)) (ts := fun _ _ _ => tAsg (tVar 4) (gName 2)) (Wout := fun _ _ _ _ => False) rfl rfl scBt.nd rfl rfl ⟨rfl, by decide, Or.inl xc.mg⟩ takes0
      (fun W pn xe tk _ => pss_one (ps_set (i := 3) scBt.nd rfl (Or.inl rfl) (by exact (pe_andS GA hr7 bA (fun σ => passAt tk σ) hcf hsA hfA (pv 0) (pv 1)))))
      (fun a oe cls d pn hz hf => pss_one (ps_set (i := 2) scBt.nd rfl (Or.inl rfl) (pv 4))))
    (pss_one (ps_ret (pe_ifExp (pt_cmpR op_notN (pv 2) pe_non (nomark _)) pe_non (pv 3)))))), ?_⟩
  refine ⟨by show 2 ≤ sizeLine; decide, fun l0 hl0 => ⟨l0, _, rfl, st_of upd_same, rfl, _, _, rfl, _, [], rfl, rfl, ?_⟩⟩
  show tSeq _ _ _ [some v1, some v2, some .non, some .non, none] (upd H l0 (.tup [.non, .non]))
  have e0 : Ex H (upd H l0 (.tup [.non, .non])) := Ex.new hl0
  have r : Ret (OTab K C k (bothT k o1 o2)) (cut B H (upd H l0 (.tup [.non, .non]))) (upd H l0 (.tup [.non, .non])) Q := r.next (dm_of e0) e0
  have eB := ex_cut eb e0
  have h1 := mon_otab o1 _ _ _ eB h1
  have h2 := mon_otab o2 _ _ _ eB h2
  have eb : Ex (cut B H (upd H l0 (.tup [.non, .non]))) (upd H l0 (.tup [.non, .non])) := cut_ex
  generalize upd H l0 (.tup [.non, .non]) = H at *
  generalize cut B _ H = B at r eb h1 h2
  cases o1 with
  | none =>
    cases h1
    refine ⟨_, rfl, rfl, true, rfl, ?_⟩
    have r : Ret (OTab K C k none) B H Q := by
      have e : bothT k none o2 = none := by cases o2 <;> rfl
      rw [e] at r
      exact r
    exact r .non H (Ex.refl _) rfl
  | some T1 =>
    have hT1 := h1
    obtain ⟨a1, dx1, vs1, u1, e1, s1, g1, d1⟩ := h1
    subst e1
    cases o2 with
    | none =>
      cases h2
      refine ⟨_, rfl, rfl, false, rfl, ?_⟩
      refine ⟨_, rfl, rfl, true, rfl, ?_⟩
      exact r .non H (Ex.refl _) rfl
    | some T2 =>
      have hT2 := h2
      obtain ⟨a2, dx2, vs2, u2, e2, s2, g2, d2⟩ := h2
      subst e2
      refine ⟨_, rfl, rfl, false, rfl, ?_⟩
      refine ⟨_, rfl, rfl, false, rfl, ?_⟩
      refine ⟨_, rfl, _, rfl, a1, dx1, vs1, a2, dx2, vs2, rfl, rfl, slt_mono eb s1, slt_mono eb s2, B, _, _, k, T1, T2, eb, rfl, hk0, hk, m1 _ rfl, m2 _ rfl, hT1, hT2, ?_⟩
      cases hb : bothT k (some T1) (some T2) with
      | none =>
        rw [hb] at r
        intro H' e'
        refine ⟨true, te, fun _ a ha => ?_, fun z => Bool.noConfusion z⟩
        refine ⟨_, rfl, ?_⟩
        refine ⟨_, rfl, rfl, true, rfl, ?_⟩
        exact r .non H' e' rfl
      | some W =>
        rw [hb] at r
        intro v H' e' hv
        refine ⟨_, rfl, rfl, false, rfl, ?_⟩
        exact ⟨v, rfl, r v H' e' hv⟩
/-! ### _law_as_due -/
abbrev sAd : Stmt := topS 47
abbrev nAd : List Str := ["_law_port_here", "_law_due", "_law_own"]
theorem scAd : FnScope nAd ["_law_port_here", "_law_due"] (defScope sAd) := ⟨rfl, rfl, rfl, by decide +kernel, rfl, by decide +kernel, by decide +kernel⟩
def spAd (K : PySem.W.Frag) (C : Addr) : Sp := fun vs H Q _ => ∃ B v u q o, Ex B H ∧ vs = [v, u] ∧ PartOk q ∧ Dp K B v (partD q) ∧ OTab K C q.ds.length o u B ∧ EqT q.ds.length (tabP q) o ∧ ∀ H', Ex H H' → Q (.bl true) H'
theorem ok_ad {f fE fR : Addr} {fd fdE fdR : FuncData} (F : Fun K "_law_as_due" "_law_as_due" sAd f fd) (T : Tx mg) (tc : TC K C p) (oTO : Own P w K mg base CX0 7 "table_of" ["part"] (spTO K C)) (oNh : Own P w K mg base CX0 5 "never_held" ["net"] (spNh K))
    (oSm : Own P w K mg base CX0 3 "_law_same" ["_law_got", "_law_due"] (spD K (smF 2))) (GE' : FnOk P w K mg base CX0 1 fE fdE ["self", "other"] (spT2 K C fun k T1 T2 z => (∀ i j, i < k → j < k → T1 i j = T2 i j) ∧ z = .bl true)) (bE : Binds K fdE ["self", "other"] [])
    (hsE : PySem.W.findIn K (.ref C) "__eq__" = some (some (.ref fE))) (hfE : PySem.W.isFn K (.ref fE) = true) (GR : FnOk P w K mg base CX0 1 fR fdR ["self"] (spTR K C)) (bR : Binds K fdR ["self"] []) (mR : Meth K C "rows" fR) (nf : PySem.W.notFirst K C (.ref C) = true) :
    FnOk P w K mg base CX0 9 f fd ["_law_port_here", "_law_due"] (spAd K C) := by
  refine F.ok scAd (fun vs H Q E ⟨B, v, u, q, o, _, e, _⟩ => by rw [e]; rfl) (fun cdv A outer s H vs Q E hr h => ?_)
  obtain ⟨B, v, u, q, o, eb, rfl, ok, hv, hu, heq, r⟩ := h
  have FE := (GE'.raw bE .nil).mono (show 1 ≤ 8 by decide)
  have FR := (GR.raw bR .nil).mono (show 1 ≤ 8 by decide)
  refine ⟨_, pss_cons (ps_set (i := 2) scAd.nd rfl (Or.inl rfl) (pe_own oTO hr (by decide) pass0 (pa_cons (pv 0) pa_nil)))
    (pss_cons (ps_if (PW.pt (pw_or (pt_cmpR op_ne (pe_own oNh hr (by decide) pass0 (pa_cons (kix K (pv 0) pe_int) pa_nil)) (pe_cmpR op_notN (pv 1) pe_non (nomark _)) (nomark _)) (pw_or1 (pt_cmpR op_ne (pe_cmpR op_isN (pv 2) pe_non (nomark _)) (pe_cmpR op_isN (pv 1) pe_non (nomark _)) (nomark _))))) (pss_one (ps_ret pe_bl)) pss_nil)
    (pss_one (ps_ret (pe_or (pe_cmpR op_isN (pv 1) pe_non (nomark _)) (pe_one (pe_and (pe_cmpR (SlX.op_own (op := .Eq) (fun _ _ => rfl) hsE hfE FE hr pass0) (pv 2) (pv 1) (nomark _))
      (pe_one (pe_own oSm hr (by decide) pass0 (pa_cons (SlX.pe_methSl0 (pv 2) tc.cls mR FR hr pass0) (pa_cons (SlX.pe_methSl0 (pv 1) tc.cls mR FR hr pass0) pa_nil)))))))))), ?_⟩
  have tt := tabP_tab ok
  have few := ok.few
  -- own
  refine ⟨v, rfl, B, v, q, eb, rfl, ok, hv, ?_⟩
  have neg : ∀ b : Bool, b = true ↔ b = true := fun _ => Iff.rfl
  cases ht : tabP q with
  | none =>
    rw [ht] at tt heq
    cases o with
    | some T => exact heq.elim
    | none =>
      cases hu
      intro H1 e1
      have b0 : ∀ (σ : L2.St) H2 (Q2 : Bool → Hp → Prop), Ex H1 H2 → σ = [some v, some .non, some .non] → (∀ H3, Ex H2 H3 → Q2 false H3) → tTest (tOp rNe (tCall (spNh K) [] E0 (tCons (tOp (rIx K) (tVar 0) (tC (.int 0))) tNil)) (tOp rNotN0 (tVar 1) (tC .non))) σ H2 Q2 := by
        rintro σ H2 Q2 e2 rfl k
        refine (eg_ix (K := K) (B := B) (i := 0) (σ := [some v, some .non, some .non]) (eg_d (i := 0) rfl hv) (.inr rfl) ev_c rfl) H2 ((eb.trans e1).trans e2) _ fun vn H3 e3 hn => ?_
        refine ⟨_, vn, q.N, cut_ex, rfl, ok.net, hn, fun b H4 e4 hb => ?_⟩
        have hbf : b = false := by
          cases b with
          | false => rfl
          | true => exact absurd (hb.mp rfl) tt
        subst hbf
        exact ⟨_, rfl, rfl, rfl, _, rfl, k H4 (e3.trans e4)⟩
      refine b0 _ H1 _ (Ex.refl _) rfl fun H3 e3 => ?_
      refine ⟨_, rfl, rfl, _, rfl, rfl, rfl, false, rfl, ?_⟩
      exact ⟨_, rfl, rfl, true, rfl, r H3 (e1.trans e3)⟩
  | some T1 =>
    rw [ht] at tt heq
    cases o with
    | none => exact heq.elim
    | some T2 =>
      have gd : Good (GE q.N) := tt.good
      intro vo H1 e1 hvo
      have hu1 := mon_tab _ _ _ (ex_cut eb e1) hu
      have hv1 := dp_mono (ex_cut eb e1) hv
      have eC1 : Ex (cut B H H1) H1 := cut_ex
      generalize cut B H H1 = B1 at hvo hu1 hv1 eC1
      have hvo0 := hvo
      have hu0 := hu1
      obtain ⟨a1, dx1, vs1, w1, ea1, s1, g1, d1⟩ := hvo
      obtain ⟨a2, dx2, vs2, w2, ea2, s2, g2, d2⟩ := hu1
      subst ea1
      subst ea2
      have b0 : ∀ (σ : L2.St) H2 (Q2 : Bool → Hp → Prop), Ex H1 H2 → σ = [some v, some (.ref a2), some (.ref a1)] → (∀ H3, Ex H2 H3 → Q2 false H3) → tTest (tOp rNe (tCall (spNh K) [] E0 (tCons (tOp (rIx K) (tVar 0) (tC (.int 0))) tNil)) (tOp rNotN0 (tVar 1) (tC .non))) σ H2 Q2 := by
        rintro σ H2 Q2 e2 rfl k
        refine (eg_ix (K := K) (B := B1) (i := 0) (σ := [some v, some (.ref a2), some (.ref a1)]) (eg_d (i := 0) rfl hv1) (.inr rfl) ev_c rfl) H2 (eC1.trans e2) _ fun vn H3 e3 hn => ?_
        refine ⟨_, vn, q.N, cut_ex, rfl, ok.net, hn, fun b H4 e4 hb => ?_⟩
        have hbt : b = true := hb.mpr gd
        subst hbt
        exact ⟨_, rfl, rfl, rfl, _, rfl, k H4 (e3.trans e4)⟩
      refine b0 _ H1 _ (Ex.refl _) rfl fun H3 e3 => ?_
      refine ⟨_, rfl, rfl, _, rfl, rfl, rfl, false, rfl, ?_⟩
      refine ⟨_, rfl, rfl, false, rfl, ?_⟩
      have e13 := eC1.trans e3
      refine ⟨_, rfl, _, rfl, a1, dx1, vs1, a2, C, dx2, vs2, rfl, rfl, slt_mono e13 s1, slt_mono e13 s2, nf, B1, .ref a1, .ref a2, q.ds.length, T1, T2, .bl true, e13, rfl, by omega, hvo0, hu0, ⟨heq, rfl⟩, fun H4 e4 => ⟨true, rfl, ?_⟩⟩
      -- the rows
      have em : matT q.ds.length T2 = matT q.ds.length T1 := mat_congr fun i j hi hj => (heq i j hi hj).symm
      have r1 : EvG (SlX.tMethSl C (fun vs H Q E => spTR K C (vs ++ []) H Q E) E0 (tVar 2) tNil) [some v, some (.ref a2), some (.ref a1)] B1 (Dd K (matT q.ds.length T1)) := fun H e Q r => ⟨_, rfl, a1, dx1, vs1, rfl, slt_mono e s1, B1, .ref a1, q.ds.length, T1, e, rfl, hvo0, r⟩
      have r2 : EvG (SlX.tMethSl C (fun vs H Q E => spTR K C (vs ++ []) H Q E) E0 (tVar 1) tNil) [some v, some (.ref a2), some (.ref a1)] B1 (Dd K (matT q.ds.length T1)) := fun H e Q r => ⟨_, rfl, a2, dx2, vs2, rfl, slt_mono e s2, B1, .ref a2, q.ds.length, T2, e, rfl, hu0, by rw [em]; exact r⟩
      have c : Ev (tCall (spD K (smF 2)) [] E0 (tCons (SlX.tMethSl C (fun vs H Q E => spTR K C (vs ++ []) H Q E) E0 (tVar 2) tNil) (tCons (SlX.tMethSl C (fun vs H Q E => spTR K C (vs ++ []) H Q E) E0 (tVar 1) tNil) tNil))) [some v, some (.ref a2), some (.ref a1)] B1 (.bl true) := ev_imm (eg_call (d := .bool true) (ega_cons' r1 (ega_cons' r2 ega_nil)) ⟨_, rfl, okE_mat _ _ (by omega), rfl⟩) rfl
      exact c H4 (e13.trans e4) _ fun H5 e5 => r H5 (((e1.trans e3).trans e4).trans e5)
end
end K73
end
section
set_option Elab.async false
set_option linter.all false
set_option maxRecDepth 100000
set_option maxHeartbeats 8000000
namespace K73
open PySem L2 Evl PyProof.Rows
theorem kpsl (K : PySem.W.Frag) {X : Cx} {a b : Expr} {rest : List Expr} {ta tb : TE} {pos : Pos} (ha : PE X a ta) (hb : PE X (.BoolOp .Or (b :: rest) pos) tb) (hK : X.K = K := by rfl) : PE X (.BoolOp .Or (a :: b :: rest) pos) (tOrT K ta tb) := by
  subst hK
  exact pe_orT ha hb
section
variable {P : Program} {w : World} {K : PySem.W.Frag} {mg : Str → Option Value} {base : Heap} {C p : Addr}
/-! ### _law_glued -/
abbrev sGl : Stmt := topS 48
abbrev nGl : List Str := ["_law_one", "_law_two", "_law_gate"]
theorem scGl : FnScope nGl ["_law_one", "_law_two"] (defScope sGl) := ⟨rfl, rfl, rfl, by decide +kernel, rfl, by decide +kernel, by decide +kernel⟩
def spGl (K : PySem.W.Frag) : Sp := fun vs H Q _ => ∃ B v1 v2 p q a b L a' b' L', Ex B H ∧ vs = [v1, v2] ∧ PartOk p ∧ PartOk q ∧ p.ds.length = q.ds.length ∧ PartSz p a b L ∧ PartSz q a' b' L' ∧ a + a' ≤ 60 ∧ b + b' ≤ 60 ∧ L ≤ 1000 ∧ L' ≤ 1000 ∧ Dp K B v1 (partD p) ∧ Dp K B v2 (partD q) ∧
  ∀ N, JoinOf p q N → Ret (Dd K (partD (jP p N))) B H Q
theorem ok_gl {f : Addr} {fd : FuncData} (F : Fun K "_law_glued" "_law_glued" sGl f fd) (T : Tx mg) (oJ : Own P w K mg base CX0 6 "joined" ["part", "other"] (spJo K)) : FnOk P w K mg base CX0 7 f fd ["_law_one", "_law_two"] (spGl K) := by
  refine F.ok scGl (fun vs H Q E ⟨B, v1, v2, p, q, a, b, L, a', b', L', _, e, _⟩ => by rw [e]; rfl) (fun cdv A outer s H vs Q E hr h => ?_)
  obtain ⟨B, v1, v2, p, q, a, b, L, a', b', L', eb, rfl, hp, hq, hl, zp, zq, hab, hab', hL, hL', d1, d2, r⟩ := h
  refine ⟨_, pss_one (ps_ret (pe_tup (pa_cons (pe_own oJ hr (by decide) pass0 (pa_cons (pv 0) (pa_cons (pv 1) pa_nil))) (pa_cons (ktupleOf K T (klc (own := [("_law_gate", 2)]) (g := gName 2) (tt := tYes) scGl.nd (kseq K (kix K (pv 0) pe_int)) (by kernel_rfl) (fun _ _ _ _ _ => pg_name (i := 2) scGl.nd rfl (Or.inl rfl)) (fun _ _ _ _ _ => pts_nil)
    (fun _ _ _ _ _ => pe_op op_add_str pe_str (pv 2)))) pa_nil)))), ?_⟩
  refine ⟨v1, rfl, v2, rfl, B, v1, v2, p, q, a, b, L, a', b', L', eb, rfl, hp, hq, hl, zp, zq, hab, hab', hL, hL', d1, d2, fun N hN vn H1 e1 hn => ?_⟩
  have few := hp.few
  have eB1 : Ex B (cut B H H1) := ex_cut eb e1
  have L1 := eg_lc (K := K) (B := cut B H H1) (σ := start nGl [v1, v2]) (te := tOp rCS (tC (.str pA)) (tVar 2)) (wi := iSeq K (tOp (rIx K) (tVar 0) (tC (.int 1)))) (g := gName 2) (vs := [2]) (fun i => PyData.str (pA ++ p.ds.getD i Str.empty)) (ei_seq (eg_ix (i := 1) (eg_d (i := 0) rfl (dp_mono eB1 d1)) (.inr rfl) ev_c rfl) (.inr rfl)) (by rw [List.length_map]; omega) (by
    intro B' i x H2 H3 Q eB hi e2 hY rt
    obtain ⟨rfl, d, hd', hp'⟩ := hY
    rw [List.length_map] at hi
    cases strsT_get hd'
    cases dp_str hp'
    refine lc_name e2 rfl (eg_imm (ev_cat ev_c (ev_var rfl) ?_) rfl) rt
    have := zp.lw _ (hp.mem _ (getD_mem hi))
    rw [pA_len]
    omega)
  rw [List.length_map] at L1
  have em : (List.range p.ds.length).map (fun i => PyData.str (pA ++ p.ds.getD i Str.empty)) = (p.ds.map (pA ++ ·)).map PyData.str := by
    rw [map_range (fun s => PyData.str (pA ++ s)), List.map_map]
    rfl
  rw [em] at L1
  refine (eg_tupleOf L1 (.inl rfl)).go cut_ex fun u H2 e2 eb2 ec2 hu => ?_
  rw [cut_cut (dm_of e1)] at hu
  refine ⟨by show 2 ≤ sizeLine; decide, fun l hl => ?_⟩
  have e12 := e1.trans e2
  refine r N hN (.ref l) _ (new_ex hl e12) (.tup (xs := [vn, u]) (st_of ?_) (.cons (dp_mono ((cut_mono e2).trans (cut_mono (Ex.new hl))) hn) (.cons (dp_mono (cut_mono (Ex.new hl)) hu) .nil)))
  rw [cut_new (fresh_back e12 hl)]
  exact upd_same
/-! ### _law_cells -/
abbrev sCe : Stmt := topS 36
abbrev nCe : List Str := ["_law_script", "_law_most", "_law_cells_here", "_law_k", "_law_cell", "_law_at_so"]
theorem scCe : FnScope nCe ["_law_script", "_law_most"] (defScope sCe) := ⟨rfl, rfl, rfl, by decide +kernel, rfl, by decide +kernel, by decide +kernel⟩
def spCe (K : PySem.W.Frag) : Sp := fun vs H Q _ => ∃ B v, ∃ zs : List Int, Ex B H ∧ vs = [v, .int 3] ∧ Dp K B v (.list (zs.map PyData.int)) ∧ zs.length ≤ 100000 ∧ ∀ v' H', Ex H H' → (∃ ys : List Int, ys ≠ [] ∧ ys.length ≤ 3 ∧ Dp K (cut B H H') v' (.list (ys.map PyData.int))) → Q v' H'
theorem cutV_ints (zs : List Int) (lo hi : Option Int) : cutV (zs.map V.int) lo hi = (((zs.drop (HT.sIx zs.length 0 lo)).take (HT.sIx zs.length zs.length hi - HT.sIx zs.length 0 lo)).map V.int) := by
  unfold cutV
  rw [List.length_map, List.map_take, List.map_drop]
/-- a slice of ints -/
theorem eg_slI {B : Hp} {σ : L2.St} {ta : TE} {tlo thi : TO} {zs : List Int} {lo hi : Option Int} (h : EvG ta σ B (Dd K (.list (zs.map PyData.int)))) (h1 : ∀ H Q, Q lo H → tlo σ H Q) (h2 : ∀ H Q, Q hi H → thi σ H Q) :
    EvG (tSl (rSlL K) ta tlo thi) σ B (Dd K (.list (((zs.drop (HT.sIx zs.length 0 lo)).take (HT.sIx zs.length zs.length hi - HT.sIx zs.length 0 lo)).map PyData.int))) := fun H e Q r => h.go e fun v H1 e1 eb ec hv => by
  obtain ⟨a, xs, rfl, sq, hx⟩ := dp_lst hv
  have ex := dpa_ints.mp hx
  subst ex
  refine h1 H1 _ (h2 H1 _ ⟨a, _, rfl, ex_l ec sq, fun l hl => ?_⟩)
  rw [cutV_ints]
  refine r (.ref l) _ (new_ex hl e1) (.lst (xs := ((zs.drop (HT.sIx zs.length 0 lo)).take (HT.sIx zs.length zs.length hi - HT.sIx zs.length 0 lo)).map V.int) (sq_of ?_) (dpa_ints.mpr rfl))
  rw [cut_new (fresh_back e1 hl)]
  exact upd_same
theorem ok_ce {f : Addr} {fd : FuncData} (F : Fun K "_law_cells" "_law_cells" sCe f fd) (T : Tx mg) : FnOk P w K mg base CX0 1 f fd ["_law_script", "_law_most"] (spCe K) := by
  refine F.ok scCe (fun vs H Q E ⟨B, v, zs, _, e, _⟩ => by rw [e]; rfl) (fun cdv A outer s H vs Q E hr h => ?_)
  obtain ⟨B, v, zs, eb, rfl, hv, hzl, r⟩ := h
  refine ⟨_, pss_cons (ps_set (i := 2) scCe.nd rfl (Or.inl rfl) (kpsl K (klist K T (pe_slice (ksl K) (pv 0) po_none (po_some (pv 1)))) (pe_one (pe_lst (pa_cons pe_int pa_nil)))))
    (pss_cons (ps_for PassesOwn.never rfl (kenum K T (pe_slice (ksl K) (pv 0) (po_some (pv 1)) (po_some pe_int))) (ktup K rfl (pgs_cons (pg_name (i := 3) scCe.nd rfl (Or.inl rfl)) (pgs_cons (pg_name (i := 4) scCe.nd rfl (Or.inl rfl)) pgs_nil)))
      (pss_cons (ps_set (i := 5) scCe.nd rfl (Or.inl rfl) (pe_op op_mod (kint T (pv 3)) (pv 1)))
      (pss_one (ps_asg (pe_op op_add (kix K (pv 2) (pv 5)) (pe_op op_mul (pv 4) (pe_op op_add (pv 3) pe_int))) (pg_sub (pv 2) (pv 5) set_list)))))
    (pss_one (ps_ret (pv 2)))), ?_⟩
  -- the first cells
  have cells : ∀ Q2 : VK, (∀ L H1 (ys : List Int), H L = none → Ex H H1 → H1 L = some (.lst (ys.map V.int)) → ys ≠ [] → ys.length ≤ 3 → (3 < zs.length → ys.length = 3) → Q2 (.ref L) H1) → tOrT K (tCB (rListOf K) (tCons (tSl (rSlL K) (tVar 0) tNoPart (tPart (tVar 1))) tNil)) (tLst (tCons (tC (.int 0)) tNil)) (start nCe [v, .int 3]) H Q2 := by
    intro Q2 k
    refine (eg_slI (K := K) (B := B) (σ := start nCe [v, .int 3]) (ta := tVar 0) (lo := none) (hi := some 3) (eg_d rfl hv) (fun H Q q => q) (fun H Q q => ⟨_, rfl, 3, rfl, q⟩)) H eb _ fun u H1 e1 hu => ?_
    obtain ⟨a, xs, rfl, sq, hx⟩ := dp_lst hu
    have ex := dpa_ints.mp hx
    subst ex
    generalize hys : ((zs.drop (HT.sIx zs.length 0 none)).take (HT.sIx zs.length zs.length (some 3) - HT.sIx zs.length 0 none)) = ys at sq
    have hyl : ys.length = min 3 zs.length := by
      rw [← hys, HT.sIx_none, show (some (3 : Int)) = some ((3 : Nat) : Int) from rfl, HT.sIx_nat, List.length_take, List.length_drop]
      omega
    refine ⟨a, ys.map V.int, rfl, .inl (ex_l cut_ex sq), fun L hL => ?_⟩
    have hLH : H L = none := fresh_back e1 hL
    refine ⟨!(ys.map V.int).isEmpty, .inl ⟨_, sq_of upd_same, rfl⟩, ?_⟩
    cases ys with
    | nil =>
      show tLst (tCons (tC (.int 0)) tNil) _ (upd H1 L (.lst [])) Q2
      refine ⟨by show 1 ≤ sizeLine; decide, fun L2 hL2 => ?_⟩
      have e2 : Ex H (upd H1 L (.lst [])) := new_ex hL e1
      refine k L2 _ [0] (fresh_back e2 hL2) (new_ex hL2 e2) upd_same (by decide) (by decide) fun h => ?_
      have hyl : 0 = min 3 zs.length := hyl
      omega
    | cons y ys =>
      show Q2 (.ref L) _
      exact k L _ (y :: ys) hLH (new_ex hL e1) upd_same (List.cons_ne_nil _ _) (by rw [hyl]; omega) (fun h => by rw [hyl]; omega)
  refine cells _ fun L H1 ys hL e1 hL1 hne hl3 h3 => ?_
  have nB : B L = none := fresh_back eb hL
  have en := ei_enum (K := K) (B := B) (σ := [some v, some (.int 3), some (.ref L), none, none, none]) (eg_slI (K := K) (B := B) (σ := [some v, some (.int 3), some (.ref L), none, none, none]) (ta := tVar 0) (tlo := tPart (tVar 1)) (thi := tPart (tC (.int 63))) (lo := some 3) (hi := some 63) (eg_d rfl hv) (fun H Q q => ⟨_, rfl, 3, rfl, q⟩) (fun H Q q => ⟨63, rfl, q⟩)) (.inl rfl)
  rw [List.length_map] at en
  generalize hws : ((zs.drop (HT.sIx zs.length 0 (some 3))).take (HT.sIx zs.length zs.length (some 63) - HT.sIx zs.length 0 (some 3))) = ws at en
  have hwl : ws.length ≤ 60 ∧ (0 < ws.length → 3 < zs.length) := by
    rw [← hws, show (some (3 : Int)) = some ((3 : Nat) : Int) from rfl, show (some (63 : Int)) = some ((63 : Nat) : Int) from rfl, HT.sIx_nat, HT.sIx_nat, List.length_take, List.length_drop]
    omega
  refine qg_for en (eb.trans e1) (fun H2 i σ' H' => ∃ (a3 a4 a5 : Option V) (xs : List Int), σ' = [some v, some (.int 3), some (.ref L), a3, a4, a5] ∧ Ex H H' ∧ Ex (cut B H1 H2) H' ∧ H' L = some (.lst (xs.map V.int)) ∧ xs.length = ys.length) ?_ ?_ ?_ ?_
  · exact fun H2 e2 => ⟨none, none, none, ys, rfl, e1.trans e2, cut_ex, e2 _ _ hL1, rfl⟩
  · rintro H2 i σ' H' e2 ⟨a3, a4, a5, xs, rfl, eH, e, _⟩
    exact e
  · rintro H2 i x σ' H' H'' e2 hi ⟨a3, a4, a5, xs, rfl, eH, e, hx, hxl⟩ hY
    obtain ⟨t, z1, z2, dd1, dd2, rfl, hT, rfl, g1, g2, p1, p2⟩ := hY
    rw [nums_at hi] at g1
    cases g1
    cases dp_int p1
    rw [List.getElem?_map, List.getElem?_eq_getElem hi] at g2
    cases g2
    cases dp_int p2
    have hy3 : ys.length = 3 := h3 (hwl.2 (by omega))
    refine ⟨t, _, rfl, st_of upd_same, rfl, _, _, rfl, _, [], rfl, rfl, ?_⟩
    have hx3 := (Ex.new (o := .tup [.int (i : Int), .int ws[i]]) hT) _ _ hx
    have e3 : Ex H (upd H' t (.tup [.int (i : Int), .int ws[i]])) := new_ex hT eH
    have e4 : Ex (cut B H1 H2) (upd H' t (.tup [.int (i : Int), .int ws[i]])) := new_ex hT e
    show tSeq _ _ _ [some v, some (.int 3), some (.ref L), some (.int (i : Int)), some (.int ws[i]), a5] _
    generalize upd H' t (.tup [.int (i : Int), .int ws[i]]) = H3 at hx3 e3 e4
    refine q_asg (v := .int ((i : Int) % 3)) (ev_op (ev_intO (ev_var rfl)) (ev_var rfl) (rv_I (C := fun _ j => 0 < j) (by decide))) fun H4 e34 => ?_
    obtain ⟨j, hj, hj3⟩ : ∃ j : Nat, ((i : Int) % 3) = (j : Int) ∧ j < 3 := ⟨i % 3, by omega, by omega⟩
    rw [hj]
    have hx4 := e34 _ _ hx3
    have hjx : j < xs.length := by omega
    have ix : Ev (tOp (rIx K) (tVar 2) (tVar 5)) [some v, some (.int 3), some (.ref L), some (.int (i : Int)), some (.int ws[i]), some (.int (j : Int))] H4 (.int xs[j]) := ev_ixR (ev_var rfl) (ev_var rfl) (sq_of hx4) (by rw [List.getElem?_map, List.getElem?_eq_getElem hjx]; rfl)
    refine s_setL (v := .int (xs[j] + ws[i] * ((i : Int) + 2))) hx4 (ev_op ix (ev_op (ev_var rfl) (ev_op (ev_var rfl) ev_c rv_I0) (rv_I (C := CMul) (.inr ⟨by omega, by omega⟩))) rv_I0) (ev_var rfl) (ev_var rfl) (by rw [List.length_map]; exact hjx) fun H5 e45 => ?_
    have e35 := e34.trans e45
    refine ⟨_, _, _, xs.set j (xs[j] + ws[i] * ((i : Int) + 2)), rfl, Ex.mut (e3.trans e35) hL, Ex.mut (e4.trans e35) (cut_pos nB (by rw [hL1]; exact fun z => nomatch z)), ?_, by rw [List.length_set]; exact hxl⟩
    rw [upd_same, List.map_set]
  · rintro H2 σ' H' e2 ⟨a3, a4, a5, xs, rfl, eH, e, hx, hxl⟩
    refine ⟨_, rfl, r _ H' eH ⟨xs, ?_, by omega, .lst (xs := xs.map V.int) (sq_of ?_) (dpa_ints.mpr rfl)⟩⟩
    · intro z
      rw [z] at hxl
      exact hne (List.length_eq_zero_iff.mp hxl.symm)
    · rw [cut_new hL]
      exact hx
end
end K73
end
section
set_option Elab.async false
set_option linter.all false
set_option maxRecDepth 100000
set_option maxHeartbeats 8000000
namespace K73
open PySem L2 Evl PyProof.Rows
/-! ### tables, plainly -/
theorem EqT.trans {k : Nat} {a b c : Option Mat} (h : EqT k a b) (h' : EqT k b c) : EqT k a c := by
  cases a <;> cases b <;> cases c <;> first | trivial | exact h.elim | exact h'.elim | exact fun i j hi hj => (h i j hi hj).trans (h' i j hi hj)
theorem EqT.symm {k : Nat} {a b : Option Mat} (h : EqT k a b) : EqT k b a := by
  cases a <;> cases b <;> first | trivial | exact h.elim | exact fun i j hi hj => (h i j hi hj).symm
theorem EqT.refl {k : Nat} (a : Option Mat) : EqT k a a := by
  cases a <;> first | trivial | exact fun _ _ _ _ => rfl
theorem both_congr {k : Nat} {a b : Option Mat} (c : Option Mat) (h : EqT k a b) : EqT k (bothT k a c) (bothT k b c) := by
  cases a with
  | none =>
    cases b with
    | none => exact EqT.refl _
    | some B => exact h.elim
  | some A =>
    cases b with
    | none => exact h.elim
    | some B =>
      cases c with
      | none => exact EqT.refl _
      | some D =>
        refine TabOf.unique ((both_tab (k := k) (A := A) (B := D)).sim (E' := DoorE k B D) ?_ ?_) both_tab
        · rintro i j c ⟨hi, hj, ne, e⟩
          refine ⟨c, .one ⟨hi, hj, ne, ?_⟩, Int.le_refl _⟩
          rw [h i j hi hj] at e
          exact e
        · rintro i j c ⟨hi, hj, ne, e⟩
          refine ⟨c, .one ⟨hi, hj, ne, ?_⟩, Int.le_refl _⟩
          rw [h i j hi hj]
          exact e
theorem otabM_tab {p : PartM} (ok : PartOk p) : OTabM p.ds.length (tabP p) := fun T h => tabP_table ok h
theorem otabM_both {k : Nat} {a b : Option Mat} (ha : OTabM k a) (hb : OTabM k b) : OTabM k (bothT k a b) := fun W h => by
  cases a with
  | none => cases b <;> cases h
  | some A =>
    cases b with
    | none => cases h
    | some B => exact tableM_both (ha A rfl) (hb B rfl) h
section
variable {P : Program} {w : World} {K : PySem.W.Frag} {mg : Str → Option Value} {base : Heap} {C p : Addr}
variable {B B' H : Hp} {σ : L2.St} {te ta tb : TE} {k : Nat} {o o1 o2 : Option Mat}
theorem eg_to {q : PartM} {E : XK} (h : EvG te σ B (Dd K (partD q))) (ok : PartOk q) : EvG (tCall (spTO K C) [] E (tCons te tNil)) σ B (OTab K C q.ds.length (tabP q)) := fun H e Q r => h.go e fun v H1 e1 eb ec hv => by
  refine ⟨_, v, q, ec, rfl, ok, hv, ?_⟩
  cases ht : tabP q with
  | none =>
    rw [ht] at r
    exact fun H' e' => r .non H' (e1.trans e') rfl
  | some T =>
    rw [ht] at r
    exact Ret.next r (dm_of e1) e1
theorem eg_ixP {n : Nat} {gd : Nat → PV} {i : Nat} (h : EvG ta σ B (LP K n gd)) (hm : ∀ i, Mon (gd i)) (hi : Ev tb σ B (.int (i : Int))) (hn : i < n) : EvG (tOp (rIx K) ta tb) σ B (gd i) := fun H e Q r => h.go e fun v H1 e1 eb ec ⟨a, vs, hv, sq, hl, hp⟩ => hi H1 (e.trans e1) _ fun H2 e2 => by
  subst hv
  have hx : vs[i]? = some vs[i] := List.getElem?_eq_getElem (by omega)
  exact .inl ⟨a, vs, i, _, rfl, rfl, ex_l (ec.trans e2) sq, atI_nat hx, r _ H2 (e1.trans e2) (hm i _ _ _ (cut_mono e2) (hp i _ hx))⟩
theorem eg_both {E : XK} (h1 : EvG ta σ B (OTab K C k o1)) (h2 : EvG tb σ B (OTab K C k o2)) (hk0 : 0 < k) (hk : k ≤ 100) (m1 : OTabM k o1) (m2 : OTabM k o2) : EvG (tCall (spBt K C) [] E (tCons ta (tCons tb tNil))) σ B (OTab K C k (bothT k o1 o2)) := fun H e Q r => h1.go e fun v H1 e1 eb ec p1 => (h2.mono (mon_otab o2) eb).go ec fun u H2 e2 eb2 ec2 p2 => by
  rw [cut_cut (dm_of e1)] at eb2 ec2 p2
  exact ⟨_, v, u, k, o1, o2, ec2, rfl, hk0, hk, m1, m2, mon_otab o1 _ _ _ eb2 p1, p2, Ret.next r (dm_of (e1.trans e2)) (e1.trans e2)⟩
def JP (K : PySem.W.Frag) (q q2 : PartM) : PV := fun v H => ∃ N, JoinOf q q2 N ∧ Dp K H v (partD (jP q N))
theorem mon_jp {q q2 : PartM} : Mon (JP K q q2) := fun v H H' e ⟨N, h1, h2⟩ => ⟨N, h1, dp_mono e h2⟩
theorem eg_gl {q q2 : PartM} {a b L a' b' L' : Nat} {E : XK} (h1 : EvG ta σ B (Dd K (partD q))) (h2 : EvG tb σ B (Dd K (partD q2))) (hp : PartOk q) (hq : PartOk q2) (hl : q.ds.length = q2.ds.length) (zp : PartSz q a b L) (zq : PartSz q2 a' b' L') (n1 : a + a' ≤ 60) (n2 : b + b' ≤ 60) (n3 : L ≤ 1000) (n4 : L' ≤ 1000) :
    EvG (tCall (spGl K) [] E (tCons ta (tCons tb tNil))) σ B (JP K q q2) := fun H e Q r => h1.go e fun v H1 e1 eb ec p1 => (h2.mono mon_dd eb).go ec fun u H2 e2 eb2 ec2 p2 => by
  rw [cut_cut (dm_of e1)] at eb2 ec2 p2
  have e12 := e1.trans e2
  refine ⟨_, v, u, q, q2, a, b, L, a', b', L', ec2, rfl, hp, hq, hl, zp, zq, n1, n2, n3, n4, dp_mono eb2 p1, p2, fun N hN x H3 e3 hx => ?_⟩
  rw [cut_cut (dm_of e12)] at hx
  exact r x H3 (e12.trans e3) ⟨N, hN, hx⟩
/-- as_due(a PART, a table) -/
theorem ev_ad {P1 : PV} {E : XK} (h1 : EvG ta σ B P1) (h2 : EvG tb σ B (OTab K C k o)) (hk : ∀ v H, P1 v H → ∃ q, PartOk q ∧ q.ds.length = k ∧ Dp K H v (partD q) ∧ EqT k (tabP q) o) (hm : Mon P1) : Ev (tCall (spAd K C) [] E (tCons ta (tCons tb tNil))) σ B (.bl true) := fun H e Q r => h1.go e fun v H1 e1 eb ec p1 => (h2.mono (mon_otab o) eb).go ec fun u H2 e2 eb2 ec2 p2 => by
  rw [cut_cut (dm_of e1)] at eb2 ec2 p2
  obtain ⟨q, ok, hl, hd, he⟩ := hk v _ (hm _ _ _ eb2 p1)
  subst hl
  exact ⟨_, v, u, q, o, ec2, rfl, ok, hd, p2, he, fun H' e' => r H' ((e1.trans e2).trans e')⟩
theorem ev_within {T1 T2 : Mat} (tc : TC K C p) (h1 : EvG ta σ B (TabAt K C k T1)) (h2 : EvG tb σ B (TabAt K C k T2)) (hk : k ≤ 100) (hle : ∀ i j, i < k → j < k → leE (T1 i j) (T2 i j) = true) :
    Ev (SlX.tMethSl C (fun vs H Q E => spT2 K C (fun k T1 T2 z => (∀ i j, i < k → j < k → leE (T1 i j) (T2 i j) = true) ∧ z = .bl true) (vs ++ []) H Q E) E0 ta (tCons tb tNil)) σ B (.bl true) := fun H e Q r => h1.go e fun v H1 e1 eb ec p1 => by
  have p10 := p1
  obtain ⟨a, dx, vs, u1, rfl, s1, g1, d1⟩ := p1
  refine ⟨a, dx, vs, rfl, slt_mono ec s1, (h2.mono mon_tab eb).go ec fun u H2 e2 eb2 ec2 p2 => ?_⟩
  rw [cut_cut (dm_of e1)] at eb2 ec2 p2
  exact ⟨_, .ref a, u, k, T1, T2, .bl true, ec2, rfl, hk, mon_tab _ _ _ eb2 p10, p2, ⟨hle, rfl⟩, fun H3 e3 => r H3 ((e1.trans e2).trans e3)⟩
theorem otab_non {v : V} (h : OTab K C k o v H) : decide (v = .non) = o.isNone := by
  cases o with
  | none =>
    cases h
    rfl
  | some T =>
    obtain ⟨a, dx, vs, u, rfl, _⟩ := h
    rfl
theorem et_isN (h : EvG te σ B (OTab K C k o)) : EvT (tTest (tOp rIsN0 te (tC .non))) σ B o.isNone := fun H e Q q => h.go e fun v H1 e1 eb ec p => ⟨rfl, _, rfl, by rw [otab_non p]; exact q H1 e1⟩
theorem et_notN (h : EvG te σ B (OTab K C k o)) : EvT (tTest (tOp rNotN0 te (tC .non))) σ B (!o.isNone) := fun H e Q q => h.go e fun v H1 e1 eb ec p => ⟨rfl, _, rfl, by rw [otab_non p]; exact q H1 e1⟩
end
end K73
end
section
set_option Elab.async false
set_option linter.all false
set_option maxRecDepth 100000
set_option maxHeartbeats 8000000
namespace K73
open PySem L2 Evl PyProof.Rows
section
variable {P : Program} {w : World} {K : PySem.W.Frag} {mg : Str → Option Value} {base : Heap} {C p0 : Addr}
/-- what is joined, as due -/
theorem jp_ok {v : V} {H : Hp} {q q2 : PartM} {s a b L a' b' L' : Nat} {o : Option Mat} (h : JP K q q2 v H) (hp : PartOk q) (hq : PartOk q2) (l1 : q.ds.length = s) (l2 : q2.ds.length = s) (zp : PartSz q a b L) (zq : PartSz q2 a' b' L') (n1 : a + a' ≤ 60) (n2 : b + b' ≤ 60) (he : EqT s (bothT s (tabP q) (tabP q2)) o) :
    ∃ q', PartOk q' ∧ q'.ds.length = s ∧ Dp K H v (partD q') ∧ EqT s (tabP q') o := by
  obtain ⟨N, hN, hd⟩ := h
  have hl : q.ds.length = q2.ds.length := l1.trans l2.symm
  have t := join_tab hp hq hl zp zq hN n1 n2
  rw [l1] at t
  exact ⟨jP q N, join_ok hp hq hl zp zq hN n1 n2, (List.length_map _).trans l1, hd, t.trans he⟩
abbrev sRi : Stmt := topS 49
abbrev nRi : List Str := ["_law_box_here", "_law_turn", "_law_size_so", "_law_high_here", "_law_ports", "_law_again", "_law_sums", "_law_own", "_law_due", "_law_pair", "_law_whole", "_law_late"]
theorem scRi : FnScope nRi ["_law_box_here"] (defScope sRi) := ⟨rfl, rfl, rfl, by decide +kernel, rfl, by decide +kernel, by decide +kernel⟩
def spRi : Sp := fun vs H Q _ => ∃ (p : Addr), vs = [.ref p] ∧ Bx p H 0 ∧ ∀ H', Xp p H H' → Q (.bl true) H'
theorem ok_ri {f fW : Addr} {fd fdW : FuncData} (F : Fun K "_law_right" "_law_right" sRi f fd) (T : Tx mg) (tc : TC K C p0) (oT : Own P w K mg base CX0 1 "_law_take" ["_law_box_here", "_law_below"] spTk) (oHi : Own P w K mg base CX0 3 "_law_high" ["_law_box_here"] spHi)
    (oPo : Own P w K mg base CX0 4 "_law_port" ["_law_box_here", "_law_size_so", "_law_most", "_law_high_here"] (spPort K PortQ)) (oCp : Own P w K mg base CX0 4 "_law_calm_port" ["_law_box_here", "_law_size_so", "_law_most", "_law_high_here"] (spPort K CPort))
    (oTO : Own P w K mg base CX0 7 "table_of" ["part"] (spTO K C)) (oBt : Own P w K mg base CX0 9 "_law_both" ["_law_one", "_law_two"] (spBt K C)) (oGl : Own P w K mg base CX0 7 "_law_glued" ["_law_one", "_law_two"] (spGl K)) (oAd : Own P w K mg base CX0 9 "_law_as_due" ["_law_port_here", "_law_due"] (spAd K C))
    (GW : FnOk P w K mg base CX0 2 fW fdW ["self", "other"] (spT2 K C fun k T1 T2 z => (∀ i j, i < k → j < k → leE (T1 i j) (T2 i j) = true) ∧ z = .bl true)) (bW : Binds K fdW ["self", "other"] []) (mW : Meth K C "is_within" fW) :
    FnOk P w K mg base CX0 10 f fd ["_law_box_here"] spRi := by
  refine F.ok scRi (fun vs H Q E ⟨p, e, _⟩ => by rw [e]; rfl) (fun cdv A outer s H vs Q E hr h => ?_)
  obtain ⟨p, rfl, bx, r⟩ := h
  have FW := (GW.raw bW .nil).mono (show 2 ≤ 9 by decide)
  refine ⟨_, pss_cons (ps_for PassesOwn.never rfl (krange T pe_int) (pg_name (i := 1) scRi.nd rfl (Or.inl rfl))
      (pss_cons (ps_asg (pe_tup (pa_cons (pe_op op_add pe_int (pe_own oT hr (by decide) pass0 (pa_cons (pv 0) (pa_cons pe_int pa_nil)))) (pa_cons (pe_own oHi hr (by decide) pass0 (pa_cons (pv 0) pa_nil)) pa_nil))) (ktup K rfl (pgs_cons (pg_name (i := 2) scRi.nd rfl (Or.inr rfl)) (pgs_cons (pg_name (i := 3) scRi.nd rfl (Or.inr rfl)) pgs_nil))))
      (pss_cons (ps_set (i := 4) scRi.nd rfl (Or.inl rfl) (pe_op op_cat (pe_lst (pa_cons (pe_own oPo hr (by decide) pass0 (pa_cons (pv 0) (pa_cons (pv 2) (pa_cons pe_int (pa_cons (pv 3) pa_nil))))) pa_nil))
        (klc (own := [("_law_again", 5)]) (g := gName 5) (tt := tYes) scRi.nd (krange T pe_int) (by kernel_rfl) (fun _ _ _ _ _ => pg_name (i := 5) scRi.nd rfl (Or.inl rfl)) (fun _ _ _ _ _ => pts_nil) (fun _ _ _ _ _ => pe_own oCp hr (by decide) pass0 (pa_cons (pv 0) (pa_cons (pv 2) (pa_cons pe_int (pa_cons (pv 3) pa_nil))))))))
      (pss_cons (ps_setLc (i := 6) (own := [("_law_own", 7)]) (g := gName 7) (tt := tYes) rfl scRi.nd rfl rfl (sw_true rfl rfl rfl (by decide +kernel)) (kseq K (pv 4)) (blkOk_by (by kernel_rfl)) (fun _ _ _ _ _ => pg_name (i := 7) scRi.nd rfl (Or.inl rfl)) (fun _ _ _ _ _ => pts_nil) (fun _ _ _ _ _ => pe_own oTO hr (by decide) pass0 (pa_cons (pv 7) pa_nil)))
      (pss_cons (ps_set (i := 8) scRi.nd rfl (Or.inl rfl) (pe_own oBt hr (by decide) pass0 (pa_cons (kix K (pv 6) pe_int) (pa_cons (kix K (pv 6) pe_int) pa_nil))))
      (pss_cons (ps_set (i := 9) scRi.nd rfl (Or.inl rfl) (pe_own oGl hr (by decide) pass0 (pa_cons (kix K (pv 4) pe_int) (pa_cons (kix K (pv 4) pe_int) pa_nil))))
      (pss_cons (ps_if (PW.pt (pw_or (pt_not (pt_val (pe_own oAd hr (by decide) pass0 (pa_cons (pv 9) (pa_cons (pv 8) pa_nil))))) (pw_or1 (pt_not (pt_val (pe_own oAd hr (by decide) pass0 (pa_cons (pe_own oGl hr (by decide) pass0 (pa_cons (kix K (pv 4) pe_int) (pa_cons (kix K (pv 4) pe_int) pa_nil))) (pa_cons (pv 8) pa_nil)))))))) (pss_one (ps_ret pe_bl)) pss_nil)
      (pss_cons (ps_if (pt_not (pt_val (pe_own oAd hr (by decide) pass0 (pa_cons (pe_own oGl hr (by decide) pass0 (pa_cons (kix K (pv 4) pe_int) (pa_cons (kix K (pv 4) pe_int) pa_nil))) (pa_cons (kix K (pv 6) pe_int) pa_nil))))) (pss_one (ps_ret pe_bl)) pss_nil)
      (pss_cons (ps_if (PW.pt (pw_and (pt_cmpR op_eq (pv 2) pe_int (nomark _)) (pw_and (pt_cmpR op_notN (kix K (pv 6) pe_int) pe_non (nomark _)) (pw_and1 (pt_cmpR op_isN (pv 8) pe_non (nomark _)))))) (pss_one (ps_ret pe_bl)) pss_nil)
      (pss_cons (ps_par (i := 10) (j := 11) rfl scRi.nd rfl rfl (by decide) rfl rfl (pa_cons (pe_own oBt hr (by decide) pass0 (pa_cons (pv 8) (pa_cons (kix K (pv 6) pe_int) pa_nil))) (pa_cons (pe_own oGl hr (by decide) pass0 (pa_cons (kix K (pv 4) pe_int) (pa_cons (kix K (pv 4) pe_int) pa_nil))) pa_nil)) rfl)
      (pss_cons (ps_if (PW.pt (pw_or (pt_not (pt_val (pe_own oAd hr (by decide) pass0 (pa_cons (pe_own oGl hr (by decide) pass0 (pa_cons (pv 9) (pa_cons (kix K (pv 4) pe_int) pa_nil))) (pa_cons (pv 10) pa_nil))))) (pw_or1 (pt_not (pt_val (pe_own oAd hr (by decide) pass0 (pa_cons (pe_own oGl hr (by decide) pass0 (pa_cons (pv 11) (pa_cons (kix K (pv 4) pe_int) pa_nil))) (pa_cons (pv 10) pa_nil)))))))) (pss_one (ps_ret pe_bl)) pss_nil)
      (pss_one (ps_if (PW.pt (pw_and (pt_cmpR op_notN (pv 10) pe_non (nomark _)) (pw_and1 (pt_not (PW.pt (pw_and (pt_val (SlX.pe_methSl (pv 10) tc.cls mW FW hr pass0 (pa_cons (kix K (pv 6) pe_int) pa_nil))) (pw_and1 (pt_val (SlX.pe_methSl (pv 10) tc.cls mW FW hr pass0 (pa_cons (pv 8) pa_nil)))))))))) (pss_one (ps_ret pe_bl)) pss_nil)))))))))))))
    (pss_one (ps_ret pe_bl)), ?_⟩
  have four : EvA (tCons (tC (.int 4)) tNil) (start nRi [.ref p]) H [.int 4] := fun H1 e Q q => q H1 (Ex.refl _)
  refine q_forR1 (j := 1) (n := 4) four (by omega) (fun i σ' H' => ∃ (a1 a2 a3 a4 a5 a6 a7 a8 a9 a10 a11 : Option V), σ' = [some (.ref p), a1, a2, a3, a4, a5, a6, a7, a8, a9, a10, a11] ∧ Xp p H H' ∧ Bx p H' (1250 * (i : Int))) ?_ ?_ ?_
  · exact fun H1 e1 => ⟨none, none, none, none, none, none, none, none, none, none, none, rfl, xpe e1, (bx.ex e1).le (by omega)⟩
  · rintro i σ' H0 hi ⟨a1, a2, a3, a4, a5, a6, a7, a8, a9, a10, a11, rfl, xp0, b0⟩
    show tSeq _ _ _ [some (.ref p), some (.int (i : Int)), a2, a3, a4, a5, a6, a7, a8, a9, a10, a11] H0
    have e00 : Ex (fun _ => none) H0 := fun a o h => nomatch h
    -- the size, the high
    have tk : EvX (tOp (rI0 fun i j => .int (i + j)) (tC (.int 1)) (tCall spTk [] E0 (tCons (tVar 0) (tCons (tC (.int 4)) tNil)))) [some (.ref p), some (.int (i : Int)), a2, a3, a4, a5, a6, a7, a8, a9, a10, a11] (fun _ => none) p 1 (ExI fun k => ∃ r, (0 ≤ r ∧ r < 4) ∧ k = 1 + r) := ex_addI ev_c (ex_takeI (m := 4) (ev_var rfl) ev_c (by decide) (by decide)) (by decide)
    refine tk H0 _ e00 b0 (by omega) _ fun v1 H1 x1 b1 ⟨z, hv, r1, hr1, hz⟩ => ?_
    subst hv
    obtain ⟨s, rfl, hs1, hs4⟩ : ∃ s : Nat, z = (s : Int) ∧ 1 ≤ s ∧ s ≤ 4 := ⟨z.toNat, by omega, by omega, by omega⟩
    refine ⟨_, rfl, p, _, rfl, b1, by omega, fun hg H2 hh1 hh2 x2 b2 => ⟨by show 2 ≤ sizeLine; decide, fun l hl => ⟨l, _, rfl, st_of upd_same, rfl, _, _, rfl, _, [], rfl, rfl, ?_⟩⟩⟩
    show tSeq _ _ _ [some (.ref p), some (.int (i : Int)), some (.int (s : Int)), some (.int hg), a4, a5, a6, a7, a8, a9, a10, a11] (upd H2 l (.tup [.int (s : Int), .int hg]))
    have x03 : Xp p H0 (upd H2 l (.tup [.int (s : Int), .int hg])) := (x1.trans x2).trans (xpe (Ex.new hl))
    have b3 : Bx p (upd H2 l (.tup [.int (s : Int), .int hg])) (1250 * (i : Int) + 1 + 1) := b2.ex (Ex.new hl)
    generalize upd H2 l (.tup [.int (s : Int), .int hg]) = H3 at x03 b3
    have e03 : Ex (fun _ => none) H3 := fun a o h => nomatch h
    -- the ports
    have pc : EvX (tCall (spPort K PortQ) [] E0 (tCons (tVar 0) (tCons (tVar 2) (tCons (tC (.int 5)) (tCons (tVar 3) tNil))))) [some (.ref p), some (.int (i : Int)), some (.int (s : Int)), some (.int hg), a4, a5, a6, a7, a8, a9, a10, a11] (fun _ => none) p 400 (PartP K (PortQ s)) := fun H n e b hn Q r => ⟨_, rfl, _, rfl, _, rfl, p, n, _, s, hg, rfl, e, rfl, hs1, hs4, b, hn, hh1, hh2, r⟩
    refine pc.go rfl e03 b3 (by omega) fun v0 H4 x4 b4 eB4 eC4 np4 ⟨q0, hq0, dq0⟩ => ⟨by show 1 ≤ sizeLine; decide, fun L1 hL1 => ?_⟩
    have e45 : Ex H4 (upd H4 L1 (.lst [v0])) := Ex.new hL1
    have b5 := b4.ex e45
    have h5L : (upd H4 L1 (.lst [v0])) L1 = some (.lst [v0]) := upd_same
    have nL1p : L1 ≠ p := fun z => b4.ne (by rw [← z]; exact hL1)
    generalize upd H4 L1 (.lst [v0]) = H5 at e45 b5 h5L
    have cc := ex_lcP (B := cut (fun _ => none) H3 H4) (p := p) (σ := [some (.ref p), some (.int (i : Int)), some (.int (s : Int)), some (.int hg), a4, a5, a6, a7, a8, a9, a10, a11]) (te := tCall (spPort K CPort) [] E0 (tCons (tVar 0) (tCons (tVar 2) (tCons (tC (.int 5)) (tCons (tVar 3) tNil))))) (wi := iRng1 (tCons (tC (.int 2)) tNil)) (g := gName 5) (vs := [5]) (k := 2) (c := 400) (mon_partP (K := K) (R := CPort s)) (ei_range ev_c (by decide)) (by decide) (by decide) np4 (by
      intro B' j x H1 H2 m Q eB np hi e1 b hm hY rt
      obtain ⟨rfl, rfl⟩ := hY
      exact ⟨rfl, _, rfl, _, rfl, _, rfl, p, m, B', s, hg, rfl, e1, np, hs1, hs4, b, hm, hh1, hh2, rt⟩)
    refine cc.go np4 (eC4.trans e45) b5 (by omega) fun vc H6 x6 b6 eB6 eC6 np6 ⟨a6', xs, hvc, ha6, _, hxl, hall⟩ => ?_
    subst hvc
    obtain ⟨y1, y2, rfl⟩ : ∃ y1 y2, xs = [y1, y2] := by
      match xs, hxl with
      | [y1, y2], _ => exact ⟨y1, y2, rfl⟩
    obtain ⟨q1, hq1, dq1⟩ := hall y1 (.head _)
    obtain ⟨q2, hq2, dq2⟩ := hall y2 (.tail _ (.head _))
    refine ⟨L1, a6', [v0], [y1, y2], rfl, rfl, x6.at_ nL1p h5L, cut_ex _ _ ha6, by show 3 ≤ sizeLine; decide, fun L3 hL3 => ?_⟩
    have e67 : Ex H6 (upd H6 L3 (.lst ([v0] ++ [y1, y2]))) := Ex.new hL3
    have h7L : (upd H6 L3 (.lst ([v0] ++ [y1, y2]))) L3 = some (.lst [v0, y1, y2]) := upd_same
    have x35 : Xp p H3 H5 := x4.trans (xpe e45)
    have x36 : Xp p H3 H6 := x35.trans x6
    have h3L : H3 L3 = none := xp_back x36 b6.ne hL3
    have b7 := b6.ex e67
    show tSeq _ _ _ [some (.ref p), some (.int (i : Int)), some (.int (s : Int)), some (.int hg), some (.ref L3), a5, a6, a7, a8, a9, a10, a11] (upd H6 L3 (.lst ([v0] ++ [y1, y2])))
    generalize upd H6 L3 (.lst ([v0] ++ [y1, y2])) = H7 at e67 h7L b7
    have dp0 : Dp K (cut (fun _ => none) H3 H7) v0 (partD q0) := dp_mono (cut_x rfl b3.ne (((xpe e45).trans x6).trans (xpe e67))) dq0
    have sub : Ex (cut (cut (fun _ => none) H3 H4) H5 H6) (cut (fun _ => none) H3 H7) := (cut_sub rfl (xp_dm x35 b5.ne)).trans (cut_mono e67)
    have dp1 : Dp K (cut (fun _ => none) H3 H7) y1 (partD q1) := dp_mono (del_ex.trans sub) dq1
    have dp2 : Dp K (cut (fun _ => none) H3 H7) y2 (partD q2) := dp_mono (del_ex.trans sub) dq2
    have dports : Dp K (cut (fun _ => none) H3 H7) (.ref L3) (.list [partD q0, partD q1, partD q2]) := .lst (xs := [v0, y1, y2]) (sq_of (by rw [cut_new h3L]; exact h7L)) (.cons dp0 (.cons dp1 (.cons dp2 .nil)))
    have xF : Xp p H H7 := (xp0.trans x03).trans (x36.trans (xpe e67))
    have bF : Bx p H7 (1250 * ((i + 1 : Nat) : Int)) := b7.le (by omega)
    have eF : Ex (cut (fun _ => none) H3 H7) H7 := cut_ex
    generalize cut (fun _ => none) H3 H7 = BF at dports eF
    clear dp0 dp1 dp2 sub dq0 dq1 dq2 hall ha6 eB4 eC4 eB6 eC6 np4 np6 cc pc tk
    -- the tables
    have ok0 := hq0.ok
    have ok1 := hq1.port.ok
    have ok2 := hq2.port.ok
    have z0 := hq0.sz
    have z1 := hq1.port.sz
    have z2 := hq2.port.sz
    have l0 := hq0.len
    have l1 := hq1.port.len
    have l2 := hq2.port.len
    have m0 : OTabM s (tabP q0) := l0 ▸ otabM_tab ok0
    have m1 : OTabM s (tabP q1) := l1 ▸ otabM_tab ok1
    have m2 : OTabM s (tabP q2) := l2 ▸ otabM_tab ok2
    let pp : Nat → PartM := fun j => match j with | 0 => q0 | 1 => q1 | _ => q2
    have okp : ∀ j, PartOk (pp j) := fun j => match j with | 0 => ok0 | 1 => ok1 | _ + 2 => ok2
    have lp : ∀ j, (pp j).ds.length = s := fun j => match j with | 0 => l0 | 1 => l1 | _ + 2 => l2
    have dsp : ∀ j d, [partD q0, partD q1, partD q2][j]? = some d → d = partD (pp j) := fun j d h => by
      match j, h with
      | 0, h => exact (Option.some.inj h).symm
      | 1, h => exact (Option.some.inj h).symm
      | 2, h => exact (Option.some.inj h).symm
      | j + 3, h => simp at h
    refine qg_asg (B := BF) (P := LP K 3 fun j => OTab K C s (tabP (pp j))) (eg_lcP (te := tCall (spTO K C) [] E0 (tCons (tVar 7) tNil)) (g := gName 7) (vs := [7]) _ (fun j => mon_otab _) (ei_seq (K := K) (ds := [partD q0, partD q1, partD q2]) (eg_d (i := 4) rfl dports) (.inl rfl)) (by show 3 ≤ 100000; decide) ?_) eF ?_
    · intro B' j x H1 H2 Q eB hj e1 hY rt
      obtain ⟨rfl, d, hd', hp'⟩ := hY
      cases dsp j d hd'
      have g := eg_to (K := K) (C := C) (B := B') (σ := (wipe [some (.ref p), some (.int (i : Int)), some (.int (s : Int)), some (.int hg), some (.ref L3), a5, a6, a7, a8, a9, a10, a11] [7]).set 7 (some x)) (te := tVar 7) (E := E0) (eg_d (i := 7) rfl hp') (okp j)
      rw [lp j] at g
      exact lc_name e1 rfl g rt
    intro vsum H8 e78 eB8 eC8 hsum
    have dports := dp_mono eB8 dports
    generalize cut BF H7 H8 = B8 at eC8 hsum dports
    have port : ∀ (j : Nat) (σ : L2.St) (B' : Hp), j < 3 → σ[4]? = some (some (.ref L3)) → Ex B8 B' → EvG (tOp (rIx K) (tVar 4) (tC (.int (j : Int)))) σ B' (Dd K (partD (pp j))) := fun j σ B' hj h4 eB => by
      have hd : [partD q0, partD q1, partD q2][j]? = some (partD (pp j)) := by
        match j, hj with
        | 0, _ => rfl
        | 1, _ => rfl
        | 2, _ => rfl
      exact eg_ix (eg_d h4 (dp_mono eB dports)) (.inl rfl) ev_c hd
    have mlp : Mon (LP K 3 fun j => OTab K C s (tabP (pp j))) := fun v H H' e ⟨a, vs, h1, h2, h3, h4⟩ => ⟨a, vs, h1, ex_l e h2, h3, fun j x hx => mon_otab _ _ _ _ e (h4 j x hx)⟩
    have sum : ∀ (j : Nat) (σ : L2.St) (B' : Hp), j < 3 → σ[6]? = some (some vsum) → Ex B8 B' → EvG (tOp (rIx K) (tVar 6) (tC (.int (j : Int)))) σ B' (OTab K C s (tabP (pp j))) := fun j σ B' hj h6 eB => eg_ixP (eg_var h6 (mlp _ _ _ eB hsum) mlp) (fun j => mon_otab _) ev_c hj
    have kk : 0 < s ∧ s ≤ 100 := by omega
    have m01 := otabM_both m0 m1
    have m012 := otabM_both m01 m2
    -- due, pair
    refine qg_asg (B := B8) (P := OTab K C s (bothT s (tabP q0) (tabP q1))) (eg_both (sum 0 _ B8 (by decide) rfl (Ex.refl _)) (sum 1 _ B8 (by decide) rfl (Ex.refl _)) kk.1 kk.2 m0 m1) eC8 ?_
    intro vd H9 e89 eB9 eC9 hdue
    generalize cut B8 H8 H9 = B9 at eB9 eC9 hdue
    refine qg_asg (B := B9) (P := JP K q0 q1) (eg_gl (port 0 _ B9 (by decide) rfl eB9) (port 1 _ B9 (by decide) rfl eB9) ok0 ok1 (l0.trans l1.symm) z0 z1 (by decide) (by decide) (by decide) (by decide)) eC9 ?_
    intro vp H10 e910 eB10 eC10 hjp
    have hdue := mon_otab _ _ _ _ eB10 hdue
    have eB10 := eB9.trans eB10
    generalize cut B9 H9 H10 = B10 at eB10 eC10 hjp hdue
    obtain ⟨N, hN, hpair⟩ := hjp
    have okP := join_ok ok0 ok1 (l0.trans l1.symm) z0 z1 hN (by decide) (by decide)
    have szP := join_sz ok0 ok1 (l0.trans l1.symm) z0 z1 hN
    have tP := join_tab ok0 ok1 (l0.trans l1.symm) z0 z1 hN (by decide) (by decide)
    rw [l0] at tP
    have lP : (jP q0 N).ds.length = s := (List.length_map _).trans l0
    show tSeq _ _ _ [some (.ref p), some (.int (i : Int)), some (.int (s : Int)), some (.int hg), some (.ref L3), a5, some vsum, a7, some vd, some vp, a10, a11] H10
    have gdue : ∀ (σ : L2.St) (B' : Hp), σ[8]? = some (some vd) → Ex B10 B' → EvG (tVar 8) σ B' (OTab K C s (bothT s (tabP q0) (tabP q1))) := fun σ B' h8 eB => eg_var h8 (mon_otab _ _ _ _ eB hdue) (mon_otab _)
    have gpair : ∀ (σ : L2.St) (B' : Hp), σ[9]? = some (some vp) → Ex B10 B' → EvG (tVar 9) σ B' (Dd K (partD (jP q0 N))) := fun σ B' h9 eB => eg_d h9 (dp_mono eB hpair)
    -- as due, both ways
    have A1 := ev_ad (E := E0) (gpair _ B10 rfl (Ex.refl _)) (gdue [some (.ref p), some (.int (i : Int)), some (.int (s : Int)), some (.int hg), some (.ref L3), a5, some vsum, a7, some vd, some vp, a10, a11] B10 rfl (Ex.refl _)) (fun v H h => ⟨jP q0 N, okP, lP, h, tP⟩) mon_dd
    have A2 := ev_ad (E := E0) (eg_gl (E := E0) (port 1 _ B10 (by decide) rfl eB10) (port 0 _ B10 (by decide) rfl eB10) ok1 ok0 (l1.trans l0.symm) z1 z0 (by decide) (by decide) (by decide) (by decide)) (gdue [some (.ref p), some (.int (i : Int)), some (.int (s : Int)), some (.int hg), some (.ref L3), a5, some vsum, a7, some vd, some vp, a10, a11] B10 rfl (Ex.refl _)) (fun v H h => jp_ok h ok1 ok0 l1 l0 z1 z0 (by decide) (by decide) (by
      show EqT s (bothT s (tabP q1) (tabP q0)) _
      rw [both_comm]
      exact EqT.refl _)) mon_jp
    refine q_when ((et_or (et_not (et_B A1)) fun _ => et_not (et_B A2)).mono eC10) (fun z => by cases z) (fun _ H11 e1011 => ?_)
    have A3 := ev_ad (E := E0) (o := tabP q1) (eg_gl (E := E0) (port 1 _ B10 (by decide) rfl eB10) (port 1 _ B10 (by decide) rfl eB10) ok1 ok1 rfl z1 z1 (by decide) (by decide) (by decide) (by decide)) (sum 1 [some (.ref p), some (.int (i : Int)), some (.int (s : Int)), some (.int hg), some (.ref L3), a5, some vsum, a7, some vd, some vp, a10, a11] B10 (by decide) rfl eB10) (fun v H h => jp_ok h ok1 ok1 l1 l1 z1 z1 (by decide) (by decide) (by
      have t := tabP_tab ok1
      rw [l1] at t
      exact both_self t)) mon_jp
    refine q_when ((et_not (et_B A3)).mono (eC10.trans e1011)) (fun z => by cases z) (fun _ H12 e1112 => ?_)
    have e1012 := eC10.trans (e1011.trans e1112)
    -- size 1
    have nn1 : (tabP q1).isNone = false := by
      cases h : tabP q1 with
      | some T1 => rfl
      | none =>
        have t := tabP_tab ok1
        rw [h] at t
        exact absurd hq1.good t
    have t5 : EvT (tAnd (tTest (tOp rEq (tVar 2) (tC (.int 1)))) (tAnd (tTest (tOp rNotN0 (tOp (rIx K) (tVar 6) (tC (.int 0))) (tC .non))) (tTest (tOp rIsN0 (tVar 8) (tC .non))))) [some (.ref p), some (.int (i : Int)), some (.int (s : Int)), some (.int hg), some (.ref L3), a5, some vsum, a7, some vd, some vp, a10, a11] B10 false := by
      have c1 := et_and (et_test (ev_op (ta := tVar 2) (tb := tC (.int 1)) (σ := [some (.ref p), some (.int (i : Int)), some (.int (s : Int)), some (.int hg), some (.ref L3), a5, some vsum, a7, some vd, some vp, a10, a11]) (H := B10) (ev_var rfl) ev_c (rv_eq rfl))) fun _ => et_and (et_notN (sum 0 _ B10 (by decide) rfl eB10)) fun _ => et_isN (gdue [some (.ref p), some (.int (i : Int)), some (.int (s : Int)), some (.int hg), some (.ref L3), a5, some vsum, a7, some vd, some vp, a10, a11] B10 rfl (Ex.refl _))
      have ez : (decide (V.int (s : Int) = V.int 1) && (!(tabP (pp 0)).isNone && (bothT s (tabP q0) (tabP q1)).isNone)) = false := by
        by_cases hs : s = 1
        · subst hs
          show (decide (V.int ((1 : Nat) : Int) = V.int 1) && (!(tabP q0).isNone && (bothT 1 (tabP q0) (tabP q1)).isNone)) = false
          cases hA : tabP q0 with
          | none => rw [Bool.and_eq_false_iff]; exact .inr rfl
          | some A =>
            cases hB : tabP q1 with
            | none =>
              rw [hB] at nn1
              cases nn1
            | some B =>
              cases hW : bothT 1 (some A) (some B) with
              | none => exact absurd hW both_one
              | some W => rw [Bool.and_eq_false_iff]; exact .inr rfl
        · rw [decide_eq_false (fun z => hs (by have := V.int.inj z; omega))]
          rfl
      rw [ez] at c1
      exact c1
    refine q_when (t5.mono e1012) (fun z => by cases z) (fun _ H13 e1213 => ?_)
    have e1013 := e1012.trans e1213
    -- whole, late
    refine (eg_both (E := E0) (gdue _ B10 rfl (Ex.refl _)) (sum 2 _ B10 (by decide) rfl eB10) kk.1 kk.2 m01 m2).go e1013 fun vw H14 e14 eB14 eC14 hw => ?_
    refine (eg_gl (E := E0) (port 1 _ _ (by decide) rfl (eB10.trans eB14)) (port 2 _ _ (by decide) rfl (eB10.trans eB14)) ok1 ok2 (l1.trans l2.symm) z1 z2 (by decide) (by decide) (by decide) (by decide)).go eC14 fun vl H15 e15 eB15 eC15 ⟨N2, hN2, hlate⟩ => ⟨_, _, rfl, ?_⟩
    have hw := mon_otab _ _ _ _ eB15 hw
    have eB15 := eB14.trans eB15
    generalize cut (cut B10 H13 H14) H14 H15 = B15 at eB15 eC15 hw hlate
    have okL := join_ok ok1 ok2 (l1.trans l2.symm) z1 z2 hN2 (by decide) (by decide)
    have szL := join_sz ok1 ok2 (l1.trans l2.symm) z1 z2 hN2
    have tL := join_tab ok1 ok2 (l1.trans l2.symm) z1 z2 hN2 (by decide) (by decide)
    rw [l1] at tL
    have lL : (jP q1 N2).ds.length = s := (List.length_map _).trans l1
    show tSeq _ _ _ [some (.ref p), some (.int (i : Int)), some (.int (s : Int)), some (.int hg), some (.ref L3), a5, some vsum, a7, some vd, some vp, some vw, some vl] H15
    have gw : EvG (tVar 10) [some (.ref p), some (.int (i : Int)), some (.int (s : Int)), some (.int hg), some (.ref L3), a5, some vsum, a7, some vd, some vp, some vw, some vl] B15 (OTab K C s (bothT s (bothT s (tabP q0) (tabP q1)) (tabP q2))) := eg_var rfl hw (mon_otab _)
    have A4 := ev_ad (E := E0) (eg_gl (E := E0) (gpair _ B15 rfl eB15) (port 2 _ B15 (by decide) rfl (eB10.trans eB15)) okP ok2 (lP.trans l2.symm) szP z2 (by decide) (by decide) (by decide) (by decide)) gw (fun v H h => jp_ok h okP ok2 lP l2 szP z2 (by decide) (by decide) (both_congr (tabP q2) tP)) mon_jp
    have A5 := ev_ad (E := E0) (eg_gl (E := E0) (ta := tVar 11) (eg_d rfl hlate) (port 0 _ B15 (by decide) rfl (eB10.trans eB15)) okL ok0 (lL.trans l0.symm) szL z0 (by decide) (by decide) (by decide) (by decide)) gw (fun v H h => jp_ok h okL ok0 lL l0 szL z0 (by decide) (by decide) ((both_congr (tabP q0) tL).trans (both_turn (tabP q0) (tabP q1) (tabP q2)))) mon_jp
    refine q_when ((et_or (et_not (et_B A4)) fun _ => et_not (et_B A5)).mono eC15) (fun z => by cases z) (fun _ H16 e1516 => ?_)
    -- within
    have e716 : Ex H7 H16 := (((e78.trans e89).trans e910).trans ((e1011.trans e1112).trans e1213)).trans ((e14.trans e15).trans e1516)
    have fin : ∀ H17, Ex H16 H17 → ∃ (c1 c2 c3 c4 c5 c6 c7 c8 c9 c10 c11 : Option V), [some (V.ref p), some (V.int (i : Int)), some (V.int (s : Int)), some (V.int hg), some (V.ref L3), a5, some vsum, a7, some vd, some vp, some vw, some vl] = [some (V.ref p), c1, c2, c3, c4, c5, c6, c7, c8, c9, c10, c11] ∧ Xp p H H17 ∧ Bx p H17 (1250 * ((i + 1 : Nat) : Int)) := fun H17 e => ⟨_, _, _, _, _, _, _, _, _, _, _, rfl, xF.trans (xpe (e716.trans e)), bF.ex (e716.trans e)⟩
    have e1516' := eC15.trans e1516
    cases hW : bothT s (bothT s (tabP q0) (tabP q1)) (tabP q2) with
    | none =>
      rw [hW] at gw
      exact s_when (b := (!(none : Option Mat).isNone && false)) ((et_and (et_notN gw) fun h => by cases h).mono e1516') (fun z => by cases z) (fun _ H17 e => fin H17 e)
    | some W =>
      rw [hW] at gw
      cases hD : bothT s (tabP q0) (tabP q1) with
      | none =>
        rw [hD] at hW
        have e : bothT s none (tabP q2) = none := by cases tabP q2 <;> rfl
        rw [e] at hW
        cases hW
      | some D =>
        cases hT : tabP q2 with
        | none =>
          rw [hD, hT] at hW
          cases hW
        | some T2 =>
          rw [hD, hT] at hW
          have mD := m01 D hD
          have mT := m2 T2 hT
          have wi := fun i j hi hj => both_within hW mD.diag mT.diag i j hi hj
          have g2 := sum 2 [some (.ref p), some (.int (i : Int)), some (.int (s : Int)), some (.int hg), some (.ref L3), a5, some vsum, a7, some vd, some vp, some vw, some vl] B15 (by decide) rfl (eB10.trans eB15)
          have g2 : EvG (tOp (rIx K) (tVar 6) (tC (.int ((2 : Nat) : Int)))) [some (.ref p), some (.int (i : Int)), some (.int (s : Int)), some (.int hg), some (.ref L3), a5, some vsum, a7, some vd, some vp, some vw, some vl] B15 (OTab K C s (tabP q2)) := g2
          rw [hT] at g2
          have gd := gdue [some (.ref p), some (.int (i : Int)), some (.int (s : Int)), some (.int hg), some (.ref L3), a5, some vsum, a7, some vd, some vp, some vw, some vl] B15 rfl eB15
          rw [hD] at gd
          have w1 := ev_within tc gw g2 kk.2 (fun i j hi hj => (wi i j hi hj).2)
          have w2 := ev_within tc gw gd kk.2 (fun i j hi hj => (wi i j hi hj).1)
          exact s_when (b := (!(some W).isNone && !(true && true))) ((et_and (et_notN gw) fun _ => et_not (et_and (et_B w1) fun _ => et_B w2)).mono e1516') (fun z => by cases z) (fun _ H17 e => fin H17 e)
  · rintro σ' H' ⟨a1, a2, a3, a4, a5, a6, a7, a8, a9, a10, a11, rfl, xp, b⟩
    exact r H' xp
end
end K73
end
section
set_option Elab.async false
set_option linter.all false
set_option maxRecDepth 100000
set_option maxHeartbeats 8000000
namespace K73
open PySem L2 Evl PyProof.Rows
section
variable {P : Program} {w : World} {K : PySem.W.Frag} {mg : Str → Option Value} {base : Heap} {C p : Addr}
/-! ### law -/
abbrev sLw : Stmt := topS 50
abbrev nLw : List Str := ["_law_script", "_law_cells_here", "_law_k"]
theorem scLw : FnScope nLw ["_law_script"] (defScope sLw) := ⟨rfl, rfl, rfl, by decide +kernel, rfl, by decide +kernel, by decide +kernel⟩
def spLaw (K : PySem.W.Frag) : Sp := fun vs H Q _ => ∃ (a : Addr) (ns : List Int), vs = [.ref a] ∧ SqL K H a (ns.map V.int) ∧ ns.length ≤ 63 ∧ ∀ H', Q (.bl true) H'
theorem ok_law {f : Addr} {fd : FuncData} (F : Fun K "law" "law" sLw f fd) (T : Tx mg) (oCe : Own P w K mg base CX0 1 "_law_cells" ["_law_script", "_law_most"] (spCe K)) (oBo : Own P w K mg base CX0 1 "_law_box" ["_law_script", "_law_k"] (spBo K)) (oRi : Own P w K mg base CX0 10 "_law_right" ["_law_box_here"] spRi) :
    FnOk P w K mg base CX0 11 f fd ["_law_script"] (spLaw K) := by
  refine F.ok scLw (fun vs H Q E ⟨a, ns, e, _⟩ => by rw [e]; rfl) (fun cdv A outer s H vs Q E hr h => ?_)
  obtain ⟨a, ns, rfl, hsq, hl, r⟩ := h
  refine ⟨_, pss_cons (ps_set (i := 1) scLw.nd rfl (Or.inr rfl) (pe_own oCe hr (by decide) pass0 (pa_cons (pv 0) (pa_cons pe_int pa_nil))))
    (pss_one (ps_ret (kall K T rfl (klc (own := [("_law_k", 2)]) (g := gName 2) (tt := tYes) scLw.nd (krange T (klen K T (pv 1))) (by kernel_rfl) (fun _ _ _ _ _ => pg_name (i := 2) scLw.nd rfl (Or.inl rfl)) (fun _ _ _ _ _ => pts_nil)
      (fun _ _ _ _ _ => pe_own oRi hr (by decide) pass0 (pa_cons (pe_own oBo hr (by decide) pass0 (pa_cons (pv 1) (pa_cons (pv 2) pa_nil))) pa_nil)))))), ?_⟩
  refine ⟨.ref a, rfl, H, .ref a, ns, Ex.refl _, rfl, .lst hsq (dpa_ints.mpr rfl), by omega, fun v' H1 e1 ⟨ys, hne, hl3, hd⟩ => ?_⟩
  have eC : Ex (cut H H H1) H1 := cut_ex
  generalize cut H H H1 = B1 at hd eC
  have ln : Ev (tCB (rLenOf K) (tCons (tVar 1) tNil)) [some (.ref a), some v', none] B1 (.int (ys.length : Int)) := by
    have q := ev_lenD (K := K) (B := B1) (σ := [some (.ref a), some v', none]) (eg_d (i := 1) rfl hd) (.inl rfl)
    rw [List.length_map] at q
    exact q
  have L := eg_lc (K := K) (B := B1) (σ := [some (.ref a), some v', none]) (te := tCall spRi [] E0 (tCons (tCall (spBo K) [] E0 (tCons (tVar 1) (tCons (tVar 2) tNil))) tNil)) (wi := iRng1 (tCons (tCB (rLenOf K) (tCons (tVar 1) tNil)) tNil)) (g := gName 2) (vs := [2]) (fun _ => PyData.bool true) (ei_range ln (by omega)) (by omega) (by
    intro B' i x H2 H3 Q eB hi e2 hY rt
    obtain ⟨rfl, rfl⟩ := hY
    refine lc_name e2 rfl (eg_imm (v := .bl true) ?_ rfl) rt
    exact fun H e Q q => ⟨v', rfl, .int (i : Int), rfl, B', v', ys, i, rfl, e, dp_mono eB hd, hi, by omega, fun bq H4 e4 hbq bx => ⟨bq, rfl, bx, fun H5 x5 => q H5 (fun a o h => x5.at_ (ne_of_none h hbq) (e4 a o h))⟩⟩)
  rw [bool_map] at L
  have A := ev_all L
  rw [all_true (n := ys.length) (f := fun _ => true) fun _ _ => rfl] at A
  exact A H1 eC _ fun H2 e2 => r H2
end
/-! ### what the top has written -/
def FnTop (K : PySem.W.Frag) (x : Str) (st : Stmt) : Prop := ∃ f fd, PySem.W.nsIn K mainGlobals x = some (some (.ref f)) ∧ L2.Fun K x x st f fd
theorem fnTop_mk {K : PySem.W.Frag} {x : Str} {st : Stmt} {f : Addr} {oc : Value} {od an : Option Addr} {osl : Array (Option Value)} {kV doc pm cdv ct : Value} (a : PySem.W.nsIn K mainGlobals x = some (some (.ref f)))
    (l : K.lookup f = some ⟨oc, od, .func (PySem.W.fnOf x x (defArgs st) (defBody st) (defScope st) .none kV doc pm an cdv ct), osl⟩) (c : PySem.W.codeIn K cdv x = true) (k : PySem.W.keepIn K (.ref f) = true) : FnTop K x st := ⟨f, _, a, fun_mk l c k⟩
def FnMeth (K : PySem.W.Frag) (C : Addr) (m qual : Str) (st : Stmt) : Prop := ∃ f fd, PySem.W.findIn K (.ref C) m = some (some (.ref f)) ∧ PySem.W.isFn K (.ref f) = true ∧ L2.Fun K m qual st f fd
theorem fnMeth_mk {K : PySem.W.Frag} {C : Addr} {m qual : Str} {st : Stmt} {f : Addr} {oc : Value} {od an : Option Addr} {osl : Array (Option Value)} {kV doc pm cdv ct : Value} (a : PySem.W.findIn K (.ref C) m = some (some (.ref f))) (i : PySem.W.isFn K (.ref f) = true)
    (l : K.lookup f = some ⟨oc, od, .func (PySem.W.fnOf m qual (defArgs st) (defBody st) (defScope st) .none kV doc pm an cdv ct), osl⟩) (c : PySem.W.codeIn K cdv qual = true) (k : PySem.W.keepIn K (.ref f) = true) : FnMeth K C m qual st := ⟨f, _, a, i, fun_mk l c k⟩
structure TabIn (K : PySem.W.Frag) (C p : Addr) : Prop where
  aC : PySem.W.nsIn K mainGlobals "Table" = some (some (.ref C))
  at_ : PySem.W.findIn K (.ref C) "own_rows" = some (some (.ref p))
  get : PySem.W.specialIn K (.ref p) "__get__" = some (some (.builtin "member_descriptor.__get__"))
  tk : PySem.W.takesIn K (.ref p) = some true
  ty : PySem.W.typeIn K (.ref p) = some (.type "member_descriptor")
  ix : PySem.W.slotIn K p C = some 0
  pg : PySem.W.plainGet K C Str.empty = true
  ic : PySem.W.isClsIn K C = true
  po : PySem.W.plainOver K C = true
  sa : PySem.W.findIn K (.ref C) "__setattr__" = some (some (.builtin "object.__setattr__"))
  mks : PySem.W.makesIn K C = true
  kc : PySem.W.keepIn K (.ref C) = true
  sf : PySem.W.selfFirst K C = true
  ca : PySem.W.findIn K (.ref C) "__class__" = some (some (.builtin "object.__class__"))
  cn : PySem.W.specialIn K (.builtin "object.__class__") "__get__" = some (some (.builtin "getset_descriptor.__get__"))
  ct : PySem.W.takesIn K (.builtin "object.__class__") = some true
  cm : PySem.W.mroIn K C (.type "object") = some true
structure ErrIn (K : PySem.W.Frag) (x : Str) (C : Addr) : Prop where
  at_ : PySem.W.nsIn K mainGlobals x = some (some (.ref C))
  ex : PySem.W.excIn K C [.type "ValueError", .type "Exception", .type "BaseException", .type "object"] "ValueError.__new__" = true
  kp : PySem.W.keepIn K (.ref C) = true
  sub : PySem.W.subIn K (.ref C) (.type "BaseException") = some true
  ty : PySem.W.typeIn K (.ref C) = some (.type "type")
  ic : PySem.W.isClsIn K C = true
  ss : PySem.W.subIn K (.ref C) (.ref C) = some true
structure NoIn (K : PySem.W.Frag) : Prop where
  z_isinstance : PySem.W.nsIn K mainGlobals "isinstance" = some none
  z_list : PySem.W.nsIn K mainGlobals "list" = some none
  z_tuple : PySem.W.nsIn K mainGlobals "tuple" = some none
  z_int : PySem.W.nsIn K mainGlobals "int" = some none
  z_bool : PySem.W.nsIn K mainGlobals "bool" = some none
  z_str : PySem.W.nsIn K mainGlobals "str" = some none
  z_len : PySem.W.nsIn K mainGlobals "len" = some none
  z_range : PySem.W.nsIn K mainGlobals "range" = some none
  z_enumerate : PySem.W.nsIn K mainGlobals "enumerate" = some none
  z_zip : PySem.W.nsIn K mainGlobals "zip" = some none
  z_any : PySem.W.nsIn K mainGlobals "any" = some none
  z_all : PySem.W.nsIn K mainGlobals "all" = some none
  z_sorted : PySem.W.nsIn K mainGlobals "sorted" = some none
  z_abs : PySem.W.nsIn K mainGlobals "abs" = some none
  z_min : PySem.W.nsIn K mainGlobals "min" = some none
  z_max : PySem.W.nsIn K mainGlobals "max" = some none
theorem exm_own {K : PySem.W.Frag} {S : Addr} (sb : PySem.W.subIn K (.ref S) (.type "BaseException") = some true) (ic : PySem.W.isClsIn K S = true) (ty : PySem.W.typeIn K (.ref S) = some (.type "type")) (ss : PySem.W.subIn K (.ref S) (.ref S) = some true) : PySem.W.exmOne K (.ref S) (.ref S) = some true := by
  have ic' : (PySem.W.clsIn K S).isSome = true := ic
  simp [PySem.W.exmOne, PySem.W.kitCls, sb, ic', ty, ss]
set_option maxHeartbeats 16000000 in
theorem all_mk {P : Program} {w : World} {K : PySem.W.Frag} {h : Heap} {mg : Str → Option Value} {fa C p CN : Addr} {tA tG : Tok} (X : K.In h) (G : h.Ns mainGlobals mg) (hfa : mg "law" = some (.ref fa))
    (tab : TabIn K C p) (err : ErrIn K "NoTable" CN) (no : NoIn K) (kA : PySem.W.nsIn K mainGlobals "ALONG" = some (some (.str "along" tA))) (kG : PySem.W.nsIn K mainGlobals "AGAINST" = some (some (.str "against" tG)))
    (tMI : FnMeth K C "__init__" "Table.__init__" sTInit)
    (tMR : FnMeth K C "rows" "Table.rows" sTRows)
    (tMF : FnMeth K C "check_fit" "Table.check_fit" sTFit)
    (tMW : FnMeth K C "is_within" "Table.is_within" sTWithin)
    (tME : FnMeth K C "__eq__" "Table.__eq__" sTEq)
    (tMA : FnMeth K C "__and__" "Table.__and__" sTAnd)
    (tplain : FnTop K "plain" sPlain)
    (tis_number : FnTop K "is_number" sIsNum)
    (tarcs : FnTop K "arcs" sArcs)
    (tcost_rows : FnTop K "cost_rows" sCr)
    (tis_entry : FnTop K "is_entry" sIsEnt)
    (tplus : FnTop K "plus" sPlus)
    (tat_most : FnTop K "at_most" sAtMost)
    (tlesser : FnTop K "lesser" sLesser)
    (tleast_sums : FnTop K "least_sums" sLeast)
    (twithout_stays : FnTop K "without_stays" sWs)
    (tclosed_table : FnTop K "closed_table" sCt)
    (tis_square : FnTop K "is_square" sSq)
    (tis_table : FnTop K "is_table" sTb)
    (ttable_of : FnTop K "table_of" sTo)
    (tcheck_doors : FnTop K "check_doors" sCd)
    (tjoined : FnTop K "joined" sJo)
    (tring_at : FnTop K "ring_at" sRa)
    (ttried : FnTop K "tried" sTr)
    (tlags_in : FnTop K "lags_in" sLi)
    (tlags : FnTop K "lags" sLa)
    (tnever_held : FnTop K "never_held" sNh)
    (t_law_box : FnTop K "_law_box" sBo)
    (t_law_take : FnTop K "_law_take" sTk)
    (t_law_cells : FnTop K "_law_cells" sCe)
    (t_law_of : FnTop K "_law_of" sOf)
    (t_law_pick : FnTop K "_law_pick" sPi)
    (t_law_same : FnTop K "_law_same" sSm)
    (t_law_web : FnTop K "_law_web" sWeb)
    (t_law_calm : FnTop K "_law_calm" sCalm)
    (t_law_tags : FnTop K "_law_tags" sTg)
    (t_law_port : FnTop K "_law_port" sPo)
    (t_law_calm_port : FnTop K "_law_calm_port" sCp)
    (t_law_high : FnTop K "_law_high" sHi)
    (t_law_both : FnTop K "_law_both" sBt)
    (t_law_as_due : FnTop K "_law_as_due" sAd)
    (t_law_glued : FnTop K "_law_glued" sGl)
    (t_law_right : FnTop K "_law_right" sRi)
    (tlaw : FnTop K "law" sLw)
    : ∃ fd : FuncData, (∀ (s : Shared) (u : Value), BindsTo s fd ⟨[u], []⟩ [("_law_script", u)]) ∧ ∀ base : Heap, K.In base → base.Ns mainGlobals mg → FnOk P w K mg base CX0 11 fa fd ["_law_script"] (spLaw K) := by
  have T : Tx mg := ⟨PySem.W.mg_none_of X G no.z_isinstance, PySem.W.mg_none_of X G no.z_list, PySem.W.mg_none_of X G no.z_tuple, PySem.W.mg_none_of X G no.z_int, PySem.W.mg_none_of X G no.z_bool, PySem.W.mg_none_of X G no.z_str, PySem.W.mg_none_of X G no.z_len, PySem.W.mg_none_of X G no.z_range, PySem.W.mg_none_of X G no.z_enumerate, PySem.W.mg_none_of X G no.z_zip, PySem.W.mg_none_of X G no.z_any, PySem.W.mg_none_of X G no.z_all, PySem.W.mg_none_of X G no.z_sorted, PySem.W.mg_none_of X G no.z_abs, PySem.W.mg_none_of X G no.z_min, PySem.W.mg_none_of X G no.z_max⟩
  have cn : Cns mg := ⟨⟨_, PySem.W.mg_of X G kA⟩, ⟨_, PySem.W.mg_of X G kG⟩⟩
  have tc : TC K C p := ⟨⟨tab.pg, tab.ic, tab.po, tab.sa⟩, ⟨tab.at_, tab.get, tab.tk, tab.ty, tab.ix, by decide⟩, ⟨tab.ca, tab.cn, tab.ct, tab.cm⟩⟩
  have gC := PySem.W.mg_of X G tab.aC
  have xc : XC K mg "NoTable" CN := ⟨err.ex, PySem.W.mg_of X G err.at_, err.kp, err.sub, err.ty⟩
  have te : PySem.W.exmOne K (.ref CN) (.ref CN) = some true := exm_own err.sub err.ic err.ty err.ss
  have nf : PySem.W.notFirst K C (.ref C) = true := Bool.or_eq_true_iff.mpr (.inl (beq_self_eq_true _))
  obtain ⟨fMI, fdMI, aMI, iMI, FMI⟩ := tMI
  have bMI := FMI.binds (ps := ["self", "rows"]) fun _ _ _ _ _ _ us hl => match us, hl with | [_, _], _ => rfl
  obtain ⟨fMR, fdMR, aMR, iMR, FMR⟩ := tMR
  have bMR := FMR.binds (ps := ["self"]) fun _ _ _ _ _ _ us hl => match us, hl with | [_], _ => rfl
  obtain ⟨fMF, fdMF, aMF, iMF, FMF⟩ := tMF
  have bMF := FMF.binds (ps := ["self", "other"]) fun _ _ _ _ _ _ us hl => match us, hl with | [_, _], _ => rfl
  obtain ⟨fMW, fdMW, aMW, iMW, FMW⟩ := tMW
  have bMW := FMW.binds (ps := ["self", "other"]) fun _ _ _ _ _ _ us hl => match us, hl with | [_, _], _ => rfl
  obtain ⟨fME, fdME, aME, iME, FME⟩ := tME
  have bME := FME.binds (ps := ["self", "other"]) fun _ _ _ _ _ _ us hl => match us, hl with | [_, _], _ => rfl
  obtain ⟨fMA, fdMA, aMA, iMA, FMA⟩ := tMA
  have bMA := FMA.binds (ps := ["self", "other"]) fun _ _ _ _ _ _ us hl => match us, hl with | [_, _], _ => rfl
  obtain ⟨f_plain, d_plain, n_plain, F_plain⟩ := tplain
  have m_plain := PySem.W.mg_of X G n_plain
  have b_plain := F_plain.binds (ps := ["matter"]) fun _ _ _ _ _ _ us hl => match us, hl with | [_], _ => rfl
  obtain ⟨f_is_number, d_is_number, n_is_number, F_is_number⟩ := tis_number
  have m_is_number := PySem.W.mg_of X G n_is_number
  have b_is_number := F_is_number.binds (ps := ["thing"]) fun _ _ _ _ _ _ us hl => match us, hl with | [_], _ => rfl
  obtain ⟨f_arcs, d_arcs, n_arcs, F_arcs⟩ := tarcs
  have m_arcs := PySem.W.mg_of X G n_arcs
  have b_arcs := F_arcs.binds (ps := ["net"]) fun _ _ _ _ _ _ us hl => match us, hl with | [_], _ => rfl
  obtain ⟨f_cost_rows, d_cost_rows, n_cost_rows, F_cost_rows⟩ := tcost_rows
  have m_cost_rows := PySem.W.mg_of X G n_cost_rows
  have b_cost_rows := F_cost_rows.binds (ps := ["net"]) fun _ _ _ _ _ _ us hl => match us, hl with | [_], _ => rfl
  obtain ⟨f_is_entry, d_is_entry, n_is_entry, F_is_entry⟩ := tis_entry
  have m_is_entry := PySem.W.mg_of X G n_is_entry
  have b_is_entry := F_is_entry.binds (ps := ["thing"]) fun _ _ _ _ _ _ us hl => match us, hl with | [_], _ => rfl
  obtain ⟨f_plus, d_plus, n_plus, F_plus⟩ := tplus
  have m_plus := PySem.W.mg_of X G n_plus
  have b_plus := F_plus.binds (ps := ["one", "other"]) fun _ _ _ _ _ _ us hl => match us, hl with | [_, _], _ => rfl
  obtain ⟨f_at_most, d_at_most, n_at_most, F_at_most⟩ := tat_most
  have m_at_most := PySem.W.mg_of X G n_at_most
  have b_at_most := F_at_most.binds (ps := ["one", "other"]) fun _ _ _ _ _ _ us hl => match us, hl with | [_, _], _ => rfl
  obtain ⟨f_lesser, d_lesser, n_lesser, F_lesser⟩ := tlesser
  have m_lesser := PySem.W.mg_of X G n_lesser
  have b_lesser := F_lesser.binds (ps := ["one", "other"]) fun _ _ _ _ _ _ us hl => match us, hl with | [_, _], _ => rfl
  obtain ⟨f_least_sums, d_least_sums, n_least_sums, F_least_sums⟩ := tleast_sums
  have m_least_sums := PySem.W.mg_of X G n_least_sums
  have b_least_sums := F_least_sums.binds (ps := ["rows"]) fun _ _ _ _ _ _ us hl => match us, hl with | [_], _ => rfl
  obtain ⟨f_without_stays, d_without_stays, n_without_stays, F_without_stays⟩ := twithout_stays
  have m_without_stays := PySem.W.mg_of X G n_without_stays
  have b_without_stays := F_without_stays.binds (ps := ["rows"]) fun _ _ _ _ _ _ us hl => match us, hl with | [_], _ => rfl
  obtain ⟨f_closed_table, d_closed_table, n_closed_table, F_closed_table⟩ := tclosed_table
  have m_closed_table := PySem.W.mg_of X G n_closed_table
  have b_closed_table := F_closed_table.binds (ps := ["rows"]) fun _ _ _ _ _ _ us hl => match us, hl with | [_], _ => rfl
  obtain ⟨f_is_square, d_is_square, n_is_square, F_is_square⟩ := tis_square
  have m_is_square := PySem.W.mg_of X G n_is_square
  have b_is_square := F_is_square.binds (ps := ["thing"]) fun _ _ _ _ _ _ us hl => match us, hl with | [_], _ => rfl
  obtain ⟨f_is_table, d_is_table, n_is_table, F_is_table⟩ := tis_table
  have m_is_table := PySem.W.mg_of X G n_is_table
  have b_is_table := F_is_table.binds (ps := ["thing"]) fun _ _ _ _ _ _ us hl => match us, hl with | [_], _ => rfl
  obtain ⟨f_table_of, d_table_of, n_table_of, F_table_of⟩ := ttable_of
  have m_table_of := PySem.W.mg_of X G n_table_of
  have b_table_of := F_table_of.binds (ps := ["part"]) fun _ _ _ _ _ _ us hl => match us, hl with | [_], _ => rfl
  obtain ⟨f_check_doors, d_check_doors, n_check_doors, F_check_doors⟩ := tcheck_doors
  have m_check_doors := PySem.W.mg_of X G n_check_doors
  have b_check_doors := F_check_doors.binds (ps := ["part", "other"]) fun _ _ _ _ _ _ us hl => match us, hl with | [_, _], _ => rfl
  obtain ⟨f_joined, d_joined, n_joined, F_joined⟩ := tjoined
  have m_joined := PySem.W.mg_of X G n_joined
  have b_joined := F_joined.binds (ps := ["part", "other"]) fun _ _ _ _ _ _ us hl => match us, hl with | [_, _], _ => rfl
  obtain ⟨f_ring_at, d_ring_at, n_ring_at, F_ring_at⟩ := tring_at
  have m_ring_at := PySem.W.mg_of X G n_ring_at
  have b_ring_at := F_ring_at.binds (ps := ["came", "worker"]) fun _ _ _ _ _ _ us hl => match us, hl with | [_, _], _ => rfl
  obtain ⟨f_tried, d_tried, n_tried, F_tried⟩ := ttried
  have m_tried := PySem.W.mg_of X G n_tried
  have b_tried := F_tried.binds (ps := ["net", "parts"]) fun _ _ _ _ _ _ us hl => match us, hl with | [_, _], _ => rfl
  obtain ⟨f_lags_in, d_lags_in, n_lags_in, F_lags_in⟩ := tlags_in
  have m_lags_in := PySem.W.mg_of X G n_lags_in
  have b_lags_in := F_lags_in.binds (ps := ["net", "parts"]) fun _ _ _ _ _ _ us hl => match us, hl with | [_, _], _ => rfl
  obtain ⟨f_lags, d_lags, n_lags, F_lags⟩ := tlags
  have m_lags := PySem.W.mg_of X G n_lags
  have b_lags := F_lags.binds (ps := ["net"]) fun _ _ _ _ _ _ us hl => match us, hl with | [_], _ => rfl
  obtain ⟨f_never_held, d_never_held, n_never_held, F_never_held⟩ := tnever_held
  have m_never_held := PySem.W.mg_of X G n_never_held
  have b_never_held := F_never_held.binds (ps := ["net"]) fun _ _ _ _ _ _ us hl => match us, hl with | [_], _ => rfl
  obtain ⟨f__law_box, d__law_box, n__law_box, F__law_box⟩ := t_law_box
  have m__law_box := PySem.W.mg_of X G n__law_box
  have b__law_box := F__law_box.binds (ps := ["_law_script", "_law_k"]) fun _ _ _ _ _ _ us hl => match us, hl with | [_, _], _ => rfl
  obtain ⟨f__law_take, d__law_take, n__law_take, F__law_take⟩ := t_law_take
  have m__law_take := PySem.W.mg_of X G n__law_take
  have b__law_take := F__law_take.binds (ps := ["_law_box_here", "_law_below"]) fun _ _ _ _ _ _ us hl => match us, hl with | [_, _], _ => rfl
  obtain ⟨f__law_cells, d__law_cells, n__law_cells, F__law_cells⟩ := t_law_cells
  have m__law_cells := PySem.W.mg_of X G n__law_cells
  have b__law_cells := F__law_cells.binds (ps := ["_law_script", "_law_most"]) fun _ _ _ _ _ _ us hl => match us, hl with | [_, _], _ => rfl
  obtain ⟨f__law_of, d__law_of, n__law_of, F__law_of⟩ := t_law_of
  have m__law_of := PySem.W.mg_of X G n__law_of
  have b__law_of := F__law_of.binds (ps := ["_law_box_here", "_law_some"]) fun _ _ _ _ _ _ us hl => match us, hl with | [_, _], _ => rfl
  obtain ⟨f__law_pick, d__law_pick, n__law_pick, F__law_pick⟩ := t_law_pick
  have m__law_pick := PySem.W.mg_of X G n__law_pick
  have b__law_pick := F__law_pick.binds (ps := ["_law_box_here", "_law_pool", "_law_size_so"]) fun _ _ _ _ _ _ us hl => match us, hl with | [_, _, _], _ => rfl
  obtain ⟨f__law_same, d__law_same, n__law_same, F__law_same⟩ := t_law_same
  have m__law_same := PySem.W.mg_of X G n__law_same
  have b__law_same := F__law_same.binds (ps := ["_law_got", "_law_due"]) fun _ _ _ _ _ _ us hl => match us, hl with | [_, _], _ => rfl
  obtain ⟨f__law_web, d__law_web, n__law_web, F__law_web⟩ := t_law_web
  have m__law_web := PySem.W.mg_of X G n__law_web
  have b__law_web := F__law_web.binds (ps := ["_law_box_here", "_law_size_so", "_law_most", "_law_high_here"]) fun _ _ _ _ _ _ us hl => match us, hl with | [_, _, _, _], _ => rfl
  obtain ⟨f__law_calm, d__law_calm, n__law_calm, F__law_calm⟩ := t_law_calm
  have m__law_calm := PySem.W.mg_of X G n__law_calm
  have b__law_calm := F__law_calm.binds (ps := ["_law_box_here", "_law_tags_here", "_law_most", "_law_high_here"]) fun _ _ _ _ _ _ us hl => match us, hl with | [_, _, _, _], _ => rfl
  obtain ⟨f__law_tags, d__law_tags, n__law_tags, F__law_tags⟩ := t_law_tags
  have m__law_tags := PySem.W.mg_of X G n__law_tags
  have b__law_tags := F__law_tags.binds (ps := ["_law_box_here", "_law_size_so"]) fun _ _ _ _ _ _ us hl => match us, hl with | [_, _], _ => rfl
  obtain ⟨f__law_port, d__law_port, n__law_port, F__law_port⟩ := t_law_port
  have m__law_port := PySem.W.mg_of X G n__law_port
  have b__law_port := F__law_port.binds (ps := ["_law_box_here", "_law_size_so", "_law_most", "_law_high_here"]) fun _ _ _ _ _ _ us hl => match us, hl with | [_, _, _, _], _ => rfl
  obtain ⟨f__law_calm_port, d__law_calm_port, n__law_calm_port, F__law_calm_port⟩ := t_law_calm_port
  have m__law_calm_port := PySem.W.mg_of X G n__law_calm_port
  have b__law_calm_port := F__law_calm_port.binds (ps := ["_law_box_here", "_law_size_so", "_law_most", "_law_high_here"]) fun _ _ _ _ _ _ us hl => match us, hl with | [_, _, _, _], _ => rfl
  obtain ⟨f__law_high, d__law_high, n__law_high, F__law_high⟩ := t_law_high
  have m__law_high := PySem.W.mg_of X G n__law_high
  have b__law_high := F__law_high.binds (ps := ["_law_box_here"]) fun _ _ _ _ _ _ us hl => match us, hl with | [_], _ => rfl
  obtain ⟨f__law_both, d__law_both, n__law_both, F__law_both⟩ := t_law_both
  have m__law_both := PySem.W.mg_of X G n__law_both
  have b__law_both := F__law_both.binds (ps := ["_law_one", "_law_two"]) fun _ _ _ _ _ _ us hl => match us, hl with | [_, _], _ => rfl
  obtain ⟨f__law_as_due, d__law_as_due, n__law_as_due, F__law_as_due⟩ := t_law_as_due
  have m__law_as_due := PySem.W.mg_of X G n__law_as_due
  have b__law_as_due := F__law_as_due.binds (ps := ["_law_port_here", "_law_due"]) fun _ _ _ _ _ _ us hl => match us, hl with | [_, _], _ => rfl
  obtain ⟨f__law_glued, d__law_glued, n__law_glued, F__law_glued⟩ := t_law_glued
  have m__law_glued := PySem.W.mg_of X G n__law_glued
  have b__law_glued := F__law_glued.binds (ps := ["_law_one", "_law_two"]) fun _ _ _ _ _ _ us hl => match us, hl with | [_, _], _ => rfl
  obtain ⟨f__law_right, d__law_right, n__law_right, F__law_right⟩ := t_law_right
  have m__law_right := PySem.W.mg_of X G n__law_right
  have b__law_right := F__law_right.binds (ps := ["_law_box_here"]) fun _ _ _ _ _ _ us hl => match us, hl with | [_], _ => rfl
  obtain ⟨f_law, d_law, n_law, F_law⟩ := tlaw
  have m_law := PySem.W.mg_of X G n_law
  have b_law := F_law.binds (ps := ["_law_script"]) fun _ _ _ _ _ _ us hl => match us, hl with | [_], _ => rfl
  have e := hfa.symm.trans m_law
  cases e
  obtain ⟨oc, od, kV, doc, pm, an, cdv, ct, osl, hfd, lk, hcd⟩ := F_law.ex
  refine ⟨d_law, fun s u => by subst hfd; exact .of_eq rfl, fun base _ _ => ?_⟩
  have o_plainZ := own_mk (P := P) (w := w) (base := base) F_plain (ok_plainZ F_plain T m_plain b_plain 4) m_plain b_plain
  have o_plain : ∀ n, Own P w K mg base CX0 (n + 1) "plain" ["matter"] (spD K (plF n)) := fun n => own_mk F_plain (ok_plain F_plain T m_plain b_plain n) m_plain b_plain
  have o_is_number := own_mk (P := P) (w := w) (base := base) F_is_number (ok_isNum F_is_number T) m_is_number b_is_number
  have o_is_entry := own_mk (P := P) (w := w) (base := base) F_is_entry (ok_isEnt F_is_entry o_is_number) m_is_entry b_is_entry
  have o_plus := own_mk (P := P) (w := w) (base := base) F_plus (ok_plus F_plus) m_plus b_plus
  have o_at_most := own_mk (P := P) (w := w) (base := base) F_at_most (ok_atMost F_at_most) m_at_most b_at_most
  have o_lesser := own_mk (P := P) (w := w) (base := base) F_lesser (ok_lesser F_lesser o_at_most) m_lesser b_lesser
  have o_least_sums := own_mk (P := P) (w := w) (base := base) F_least_sums (ok_least F_least_sums T o_lesser o_plus) m_least_sums b_least_sums
  have o_without_stays := own_mk (P := P) (w := w) (base := base) F_without_stays (ok_ws F_without_stays T) m_without_stays b_without_stays
  have o_closed_table := own_mk (P := P) (w := w) (base := base) F_closed_table (ok_ct F_closed_table T o_least_sums o_at_most) m_closed_table b_closed_table
  have o_is_square := own_mk (P := P) (w := w) (base := base) F_is_square (ok_sq F_is_square T o_is_entry) m_is_square b_is_square
  have o_is_table := own_mk (P := P) (w := w) (base := base) F_is_table (ok_tb F_is_table T o_is_square o_at_most o_plus) m_is_table b_is_table
  have o_arcs := own_mk (P := P) (w := w) (base := base) F_arcs (ok_arcs F_arcs T cn) m_arcs b_arcs
  have o_cost_rows := own_mk (P := P) (w := w) (base := base) F_cost_rows (ok_cr F_cost_rows T o_arcs) m_cost_rows b_cost_rows
  have GI := ok_tinit (P := P) (w := w) (base := base) FMI tc o_plain o_is_table
  have GR := ok_trows (P := P) (w := w) (mg := mg) (base := base) FMR tc
  have GF := ok_tfit (P := P) (w := w) (base := base) FMF T tc
  have GW := ok_twithin (P := P) (w := w) (base := base) FMW T tc GF bMF ⟨aMF, iMF, FMF.kp⟩ o_at_most
  have GE := ok_teq (P := P) (w := w) (base := base) FME T tc gC
  have M : Mk K C fMI := ⟨tab.mks, aMI, iMI, tab.kc⟩
  have GA := ok_tand (P := P) (w := w) (base := base) FMA T tc gC xc GF bMF ⟨aMF, iMF, FMF.kp⟩ GI bMI M o_lesser o_without_stays o_closed_table
  have o_table_of := own_mk (P := P) (w := w) (base := base) F_table_of (ok_to F_table_of T tc gC o_plainZ GI bMI M o_cost_rows o_closed_table) m_table_of b_table_of
  have o_check_doors := own_mk (P := P) (w := w) (base := base) F_check_doors (ok_cd F_check_doors T) m_check_doors b_check_doors
  have o_joined := own_mk (P := P) (w := w) (base := base) F_joined (ok_jo F_joined T o_plainZ o_check_doors) m_joined b_joined
  have o_ring_at := own_mk (P := P) (w := w) (base := base) F_ring_at (ok_ra F_ring_at T) m_ring_at b_ring_at
  have o_tried := own_mk (P := P) (w := w) (base := base) F_tried (ok_tr F_tried T o_arcs o_ring_at) m_tried b_tried
  have o_lags_in := own_mk (P := P) (w := w) (base := base) F_lags_in (ok_li F_lags_in T o_tried) m_lags_in b_lags_in
  have o_lags := own_mk (P := P) (w := w) (base := base) F_lags (ok_la F_lags T o_lags_in) m_lags b_lags
  have o_never_held := own_mk (P := P) (w := w) (base := base) F_never_held (ok_nh F_never_held T o_lags) m_never_held b_never_held
  have o__law_box := own_mk (P := P) (w := w) (base := base) F__law_box (ok_bo F__law_box T) m__law_box b__law_box
  have o__law_take := own_mk (P := P) (w := w) (base := base) F__law_take (ok_tk F__law_take T) m__law_take b__law_take
  have o__law_cells := own_mk (P := P) (w := w) (base := base) F__law_cells (ok_ce F__law_cells T) m__law_cells b__law_cells
  have o__law_of := own_mk (P := P) (w := w) (base := base) F__law_of (ok_of F__law_of T o__law_take) m__law_of b__law_of
  have o__law_pick := own_mk (P := P) (w := w) (base := base) F__law_pick (ok_pi F__law_pick T o__law_take) m__law_pick b__law_pick
  have o__law_same := own_mk (P := P) (w := w) (base := base) F__law_same (ok_same F__law_same T m__law_same b__law_same 2) m__law_same b__law_same
  have o__law_web := own_mk (P := P) (w := w) (base := base) F__law_web (ok_web F__law_web T o__law_take o__law_pick) m__law_web b__law_web
  have o__law_calm := own_mk (P := P) (w := w) (base := base) F__law_calm (ok_calm F__law_calm T o__law_take o__law_pick o__law_of) m__law_calm b__law_calm
  have o__law_tags := own_mk (P := P) (w := w) (base := base) F__law_tags (ok_tg F__law_tags T o__law_pick) m__law_tags b__law_tags
  have o__law_high := own_mk (P := P) (w := w) (base := base) F__law_high (ok_hi F__law_high T o__law_of) m__law_high b__law_high
  have o__law_port := own_mk (P := P) (w := w) (base := base) F__law_port (ok_po F__law_port T o__law_take o__law_pick o__law_tags o__law_calm o__law_web) m__law_port b__law_port
  have o__law_calm_port := own_mk (P := P) (w := w) (base := base) F__law_calm_port (ok_cp F__law_calm_port T o__law_take o__law_pick o__law_tags o__law_calm) m__law_calm_port b__law_calm_port
  have o__law_both := own_mk (P := P) (w := w) (base := base) F__law_both (ok_bt F__law_both T xc te GA bMA tab.sf aMA iMA) m__law_both b__law_both
  have o__law_as_due := own_mk (P := P) (w := w) (base := base) F__law_as_due (ok_ad F__law_as_due T tc o_table_of o_never_held o__law_same GE bME aME iME GR bMR ⟨aMR, iMR, FMR.kp⟩ nf) m__law_as_due b__law_as_due
  have o__law_glued := own_mk (P := P) (w := w) (base := base) F__law_glued (ok_gl F__law_glued T o_joined) m__law_glued b__law_glued
  have o__law_right := own_mk (P := P) (w := w) (base := base) F__law_right (ok_ri F__law_right T tc o__law_take o__law_high o__law_port o__law_calm_port o_table_of o__law_both o__law_glued o__law_as_due GW bMW ⟨aMW, iMW, FMW.kp⟩) m__law_right b__law_right
  exact ok_law F_law T o__law_cells o__law_box o__law_right
end K73
end
open PySem PySem.W PyProof.Rows
set_option Elab.async false
set_option maxRecDepth 100000
set_option maxHeartbeats 0
open_top hd for PySem.Challenge.rw_joinlags_k73_whole_what_is_joined
set_option Elab.async false
set_option linter.all false
set_option maxRecDepth 100000
open PySem PySem.W PyProof.Rows
set_option maxHeartbeats 0 in
theorem PySem.Challenge.cw_joinlags_k73_whole_what_is_joined_holds : PySem.Challenge.rw_joinlags_k73_whole_what_is_joined.Holds := by
  refine hd ?_
  k_fill
  refine L2.walk_ofK (l := PySem.Challenge.rw_joinlags_k73_whole_what_is_joined) (n := 63) (k := 11) (x := "_law_script") (CX := L2.CX0) (sp := K73.spLaw) rfl (by decide) rfl ⟨rfl, by decide, by decide⟩ (fun w h Y => PySem.W.kIn_of Y) ?F (fun K H a ns hl _ hs => ⟨a, ns, rfl, hs, hl, fun _ => rfl⟩) (fun _ _ _ _ h => h)
  case F =>
    intro w mg fa h KX G hmg
    refine' K73.all_mk KX G hmg ?tab ?err ?no ?kA ?kG ?tMI ?tMR ?tMF ?tMW ?tME ?tMA ?tplain ?tis_number ?tarcs ?tcost_rows ?tis_entry ?tplus ?tat_most ?tlesser ?tleast_sums ?twithout_stays ?tclosed_table ?tis_square ?tis_table ?ttable_of ?tcheck_doors ?tjoined ?tring_at ?ttried ?tlags_in ?tlags ?tnever_held ?t_law_box ?t_law_take ?t_law_cells ?t_law_of ?t_law_pick ?t_law_same ?t_law_web ?t_law_calm ?t_law_tags ?t_law_port ?t_law_calm_port ?t_law_high ?t_law_both ?t_law_as_due ?t_law_glued ?t_law_right ?tlaw
    (case tab => refine' ⟨?a1, ?a2, ?a3, ?a4, ?a5, ?a6, ?a7, ?a8, ?a9, ?a10, ?a11, ?a12, ?a13, ?a14, ?a15, ?a16, ?a17⟩; (case a1 => k_is); (case a2 => k_is); (case a3 => k_is); (case a4 => k_is); (case a5 => k_is); (case a6 => k_is); (case a7 => k_is); (case a8 => k_is); (case a9 => k_is); (case a10 => k_is); (case a11 => k_is); (case a12 => k_is); (case a13 => k_is); (case a14 => k_is); (case a15 => k_is); (case a16 => k_is); (case a17 => k_is))
    (case err => refine' ⟨?e1, ?e2, ?e3, ?e4, ?e5, ?e6, ?e7⟩; (case e1 => k_is); (case e2 => k_exc); (case e3 => k_is); (case e4 => k_is); (case e5 => k_is); (case e6 => k_is); (case e7 => first | rfl | k_is))
    (case no => refine' ⟨?z0, ?z1, ?z2, ?z3, ?z4, ?z5, ?z6, ?z7, ?z8, ?z9, ?z10, ?z11, ?z12, ?z13, ?z14, ?z15⟩; (case z0 => k_is); (case z1 => k_is); (case z2 => k_is); (case z3 => k_is); (case z4 => k_is); (case z5 => k_is); (case z6 => k_is); (case z7 => k_is); (case z8 => k_is); (case z9 => k_is); (case z10 => k_is); (case z11 => k_is); (case z12 => k_is); (case z13 => k_is); (case z14 => k_is); (case z15 => k_is))
    (case kA => k_is); (case kG => k_is)
    (case tMI => refine' K73.fnMeth_mk ?a ?i ?l ?c ?k; (case a => k_is); (case i => k_is); (case l => k_is); (case c => k_is); (case k => k_is))
    (case tMR => refine' K73.fnMeth_mk ?a ?i ?l ?c ?k; (case a => k_is); (case i => k_is); (case l => k_is); (case c => k_is); (case k => k_is))
    (case tMF => refine' K73.fnMeth_mk ?a ?i ?l ?c ?k; (case a => k_is); (case i => k_is); (case l => k_is); (case c => k_is); (case k => k_is))
    (case tMW => refine' K73.fnMeth_mk ?a ?i ?l ?c ?k; (case a => k_is); (case i => k_is); (case l => k_is); (case c => k_is); (case k => k_is))
    (case tME => refine' K73.fnMeth_mk ?a ?i ?l ?c ?k; (case a => k_is); (case i => k_is); (case l => k_is); (case c => k_is); (case k => k_is))
    (case tMA => refine' K73.fnMeth_mk ?a ?i ?l ?c ?k; (case a => k_is); (case i => k_is); (case l => k_is); (case c => k_is); (case k => k_is))
    (case tplain => refine' K73.fnTop_mk ?a ?l ?c ?k; (case a => k_is); (case l => k_is); (case c => k_is); (case k => k_is))
    (case tis_number => refine' K73.fnTop_mk ?a ?l ?c ?k; (case a => k_is); (case l => k_is); (case c => k_is); (case k => k_is))
    (case tarcs => refine' K73.fnTop_mk ?a ?l ?c ?k; (case a => k_is); (case l => k_is); (case c => k_is); (case k => k_is))
    (case tcost_rows => refine' K73.fnTop_mk ?a ?l ?c ?k; (case a => k_is); (case l => k_is); (case c => k_is); (case k => k_is))
    (case tis_entry => refine' K73.fnTop_mk ?a ?l ?c ?k; (case a => k_is); (case l => k_is); (case c => k_is); (case k => k_is))
    (case tplus => refine' K73.fnTop_mk ?a ?l ?c ?k; (case a => k_is); (case l => k_is); (case c => k_is); (case k => k_is))
    (case tat_most => refine' K73.fnTop_mk ?a ?l ?c ?k; (case a => k_is); (case l => k_is); (case c => k_is); (case k => k_is))
    (case tlesser => refine' K73.fnTop_mk ?a ?l ?c ?k; (case a => k_is); (case l => k_is); (case c => k_is); (case k => k_is))
    (case tleast_sums => refine' K73.fnTop_mk ?a ?l ?c ?k; (case a => k_is); (case l => k_is); (case c => k_is); (case k => k_is))
    (case twithout_stays => refine' K73.fnTop_mk ?a ?l ?c ?k; (case a => k_is); (case l => k_is); (case c => k_is); (case k => k_is))
    (case tclosed_table => refine' K73.fnTop_mk ?a ?l ?c ?k; (case a => k_is); (case l => k_is); (case c => k_is); (case k => k_is))
    (case tis_square => refine' K73.fnTop_mk ?a ?l ?c ?k; (case a => k_is); (case l => k_is); (case c => k_is); (case k => k_is))
    (case tis_table => refine' K73.fnTop_mk ?a ?l ?c ?k; (case a => k_is); (case l => k_is); (case c => k_is); (case k => k_is))
    (case ttable_of => refine' K73.fnTop_mk ?a ?l ?c ?k; (case a => k_is); (case l => k_is); (case c => k_is); (case k => k_is))
    (case tcheck_doors => refine' K73.fnTop_mk ?a ?l ?c ?k; (case a => k_is); (case l => k_is); (case c => k_is); (case k => k_is))
    (case tjoined => refine' K73.fnTop_mk ?a ?l ?c ?k; (case a => k_is); (case l => k_is); (case c => k_is); (case k => k_is))
    (case tring_at => refine' K73.fnTop_mk ?a ?l ?c ?k; (case a => k_is); (case l => k_is); (case c => k_is); (case k => k_is))
    (case ttried => refine' K73.fnTop_mk ?a ?l ?c ?k; (case a => k_is); (case l => k_is); (case c => k_is); (case k => k_is))
    (case tlags_in => refine' K73.fnTop_mk ?a ?l ?c ?k; (case a => k_is); (case l => k_is); (case c => k_is); (case k => k_is))
    (case tlags => refine' K73.fnTop_mk ?a ?l ?c ?k; (case a => k_is); (case l => k_is); (case c => k_is); (case k => k_is))
    (case tnever_held => refine' K73.fnTop_mk ?a ?l ?c ?k; (case a => k_is); (case l => k_is); (case c => k_is); (case k => k_is))
    (case t_law_box => refine' K73.fnTop_mk ?a ?l ?c ?k; (case a => k_is); (case l => k_is); (case c => k_is); (case k => k_is))
    (case t_law_take => refine' K73.fnTop_mk ?a ?l ?c ?k; (case a => k_is); (case l => k_is); (case c => k_is); (case k => k_is))
    (case t_law_cells => refine' K73.fnTop_mk ?a ?l ?c ?k; (case a => k_is); (case l => k_is); (case c => k_is); (case k => k_is))
    (case t_law_of => refine' K73.fnTop_mk ?a ?l ?c ?k; (case a => k_is); (case l => k_is); (case c => k_is); (case k => k_is))
    (case t_law_pick => refine' K73.fnTop_mk ?a ?l ?c ?k; (case a => k_is); (case l => k_is); (case c => k_is); (case k => k_is))
    (case t_law_same => refine' K73.fnTop_mk ?a ?l ?c ?k; (case a => k_is); (case l => k_is); (case c => k_is); (case k => k_is))
    (case t_law_web => refine' K73.fnTop_mk ?a ?l ?c ?k; (case a => k_is); (case l => k_is); (case c => k_is); (case k => k_is))
    (case t_law_calm => refine' K73.fnTop_mk ?a ?l ?c ?k; (case a => k_is); (case l => k_is); (case c => k_is); (case k => k_is))
    (case t_law_tags => refine' K73.fnTop_mk ?a ?l ?c ?k; (case a => k_is); (case l => k_is); (case c => k_is); (case k => k_is))
    (case t_law_port => refine' K73.fnTop_mk ?a ?l ?c ?k; (case a => k_is); (case l => k_is); (case c => k_is); (case k => k_is))
    (case t_law_calm_port => refine' K73.fnTop_mk ?a ?l ?c ?k; (case a => k_is); (case l => k_is); (case c => k_is); (case k => k_is))
    (case t_law_high => refine' K73.fnTop_mk ?a ?l ?c ?k; (case a => k_is); (case l => k_is); (case c => k_is); (case k => k_is))
    (case t_law_both => refine' K73.fnTop_mk ?a ?l ?c ?k; (case a => k_is); (case l => k_is); (case c => k_is); (case k => k_is))
    (case t_law_as_due => refine' K73.fnTop_mk ?a ?l ?c ?k; (case a => k_is); (case l => k_is); (case c => k_is); (case k => k_is))
    (case t_law_glued => refine' K73.fnTop_mk ?a ?l ?c ?k; (case a => k_is); (case l => k_is); (case c => k_is); (case k => k_is))
    (case t_law_right => refine' K73.fnTop_mk ?a ?l ?c ?k; (case a => k_is); (case l => k_is); (case c => k_is); (case k => k_is))
    (case tlaw => refine' K73.fnTop_mk ?a ?l ?c ?k; (case a => k_is); (case l => k_is); (case c => k_is); (case k => k_is))
