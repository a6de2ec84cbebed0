import PyProof.Rows.All
import Wide.All
import OpenK.AllK
import Wide.FinOn
import Open.SpecLaws
import KE.OsGo
import HandS.ForSpec
import HandS.Dict
import HandS.Comp
import HandS.Iter
import HandS.Deep
import HandS.Conv
import HandS.Flow
import HandS.TupAny
import HandS.SortRule
import HandS.SortInts
import HandS.WordsDict
import KE.KeyNested
import KE.KDictList
import HandS.Walk
import HandS.WideBits
import PyGq03
import PySem.Challenge.RW_whatmustbe_s01_answers
set_option Elab.async false
set_option linter.all false
set_option maxRecDepth 100000
set_option maxHeartbeats 4000000

namespace Wm
open Gq03
/-! ### what is reached by single steps -/
inductive Reach {A : Type} (f : A → List A) (x : A) : A → Prop
  | refl : Reach f x x
  | step {y z : A} : Reach f x y → z ∈ f y → Reach f x z
theorem Reach.trans {A : Type} {f : A → List A} {x y z : A} (h : Reach f x y) (k : Reach f y z) : Reach f x z := by
  induction k with
  | refl => exact h
  | step _ m ih => exact .step ih m
theorem Reach.mono {A : Type} {f g : A → List A} (k : ∀ x y, y ∈ f x → Reach g x y) {x y : A} (h : Reach f x y) : Reach g x y := by
  induction h with
  | refl => exact .refl
  | step _ m ih => exact ih.trans (k _ _ m)
theorem Reach.inv {A : Type} {f : A → List A} {p : A → Prop} (k : ∀ x y, p x → y ∈ f x → p y) {x y : A} (h : Reach f x y) (hx : p x) : p y := by
  induction h with
  | refl => exact hx
  | step _ m ih => exact k _ _ ih m
/-- a list that is closed, all of it reached -/
theorem reach_of_closed {A : Type} {f : A → List A} {l : List A} {x : A} (hx : x ∈ l) (hr : ∀ y ∈ l, Reach f x y) (hc : ∀ y ∈ l, ∀ z ∈ f y, z ∈ l) (y : A) : y ∈ l ↔ Reach f x y :=
  ⟨hr y, fun h => h.inv (p := fun y => y ∈ l) (fun a b ha hb => hc a ha b hb) hx⟩
/-- one item put behind, if it is new -/
def put1 {A : Type} [DecidableEq A] (m : List A) (y : A) : List A := if m.contains y = true then m else m ++ [y]
theorem mem_put1 {A : Type} [DecidableEq A] {m : List A} {y z : A} : z ∈ put1 m y ↔ z ∈ m ∨ z = y := by
  unfold put1
  by_cases h : m.contains y = true
  · rw [if_pos h]
    have hm : y ∈ m := List.contains_iff_mem.mp h
    constructor
    · exact .inl
    · rintro (h | rfl)
      · exact h
      · exact hm
  · rw [if_neg h, List.mem_append, List.mem_singleton]
theorem mem_puts {A : Type} [DecidableEq A] : ∀ (l m : List A) {z : A}, z ∈ l.foldl put1 m ↔ z ∈ m ∨ z ∈ l
  | [], m, z => by simp
  | y :: l, m, z => by
    rw [List.foldl_cons, mem_puts l, mem_put1, List.mem_cons, or_assoc]
theorem put1_nodup {A : Type} [DecidableEq A] {m : List A} {y : A} (h : m.Nodup) : (put1 m y).Nodup := by
  unfold put1
  by_cases c : m.contains y = true
  · rw [if_pos c]; exact h
  · rw [if_neg c, List.nodup_append]
    refine ⟨h, by simp, fun a ha b hb => ?_⟩
    rw [List.mem_singleton] at hb
    subst hb
    intro e
    subst e
    exact c (List.contains_iff_mem.mpr ha)
theorem puts_nodup {A : Type} [DecidableEq A] : ∀ (l : List A) {m : List A}, m.Nodup → (l.foldl put1 m).Nodup
  | [], _, h => h
  | y :: l, m, h => by
    rw [List.foldl_cons]
    exact puts_nodup l (put1_nodup h)
theorem put1_len {A : Type} [DecidableEq A] (m : List A) (y : A) : m.length ≤ (put1 m y).length := by
  unfold put1
  split
  · exact Nat.le_refl _
  · rw [List.length_append]; omega
theorem puts_len {A : Type} [DecidableEq A] : ∀ (l m : List A), m.length ≤ (l.foldl put1 m).length
  | [], m => Nat.le_refl _
  | y :: l, m => by
    rw [List.foldl_cons]
    exact Nat.le_trans (put1_len m y) (puts_len l _)
/-- nothing was put: all stood there -/
theorem puts_same {A : Type} [DecidableEq A] : ∀ (l m : List A), (l.foldl put1 m).length = m.length → ∀ y ∈ l, y ∈ m
  | [], _, _, y, hy => by simp at hy
  | x :: l, m, h, y, hy => by
    rw [List.foldl_cons] at h
    have h1 := put1_len m x
    have h2 := puts_len l (put1 m x)
    have hx : x ∈ m := by
      have e : (put1 m x).length = m.length := by omega
      unfold put1 at e
      by_cases c : m.contains x = true
      · exact List.contains_iff_mem.mp c
      · rw [if_neg c, List.length_append, List.length_singleton] at e
        omega
    have hp : put1 m x = m := by
      unfold put1
      rw [if_pos (List.contains_iff_mem.mpr hx)]
    rcases List.mem_cons.mp hy with rfl | hy
    · exact hx
    · rw [hp] at h
      exact puts_same l m h y hy
/-! ### the specification's spread -/
def wave {A : Type} [DecidableEq A] (f : A → List A) (l m : List A) : List A := l.foldl (fun m x => (f x).foldl put1 m) m
theorem mem_wave {A : Type} [DecidableEq A] (f : A → List A) : ∀ (l m : List A) {z : A}, z ∈ wave f l m ↔ z ∈ m ∨ ∃ x ∈ l, z ∈ f x
  | [], m, z => by simp [wave]
  | y :: l, m, z => by
    show z ∈ wave f l ((f y).foldl put1 m) ↔ _
    rw [mem_wave f l, mem_puts]
    simp [or_assoc]
theorem wave_len {A : Type} [DecidableEq A] (f : A → List A) : ∀ (l m : List A), m.length ≤ (wave f l m).length
  | [], m => Nat.le_refl _
  | y :: l, m => Nat.le_trans (puts_len (f y) m) (wave_len f l _)
theorem wave_same {A : Type} [DecidableEq A] (f : A → List A) : ∀ (l m : List A), (wave f l m).length = m.length → ∀ x ∈ l, ∀ y ∈ f x, y ∈ m
  | [], _, _, x, hx, _, _ => by simp at hx
  | a :: l, m, h, x, hx, y, hy => by
    have h0 : (wave f l ((f a).foldl put1 m)).length = m.length := h
    have h1 := puts_len (f a) m
    have h2 := wave_len f l ((f a).foldl put1 m)
    have e1 : ((f a).foldl put1 m).length = m.length := by omega
    have hs := puts_same (f a) m e1
    rcases List.mem_cons.mp hx with rfl | hx
    · exact hs y hy
    · have := wave_same f l ((f a).foldl put1 m) (by omega) x hx y hy
      rw [mem_puts] at this
      rcases this with q | q
      · exact q
      · exact hs y q
theorem spread_succ {A : Type} [DecidableEq A] (f : A → List A) (n : Nat) (l : List A) : spread f (n + 1) l = if (wave f l l).length = l.length then l else spread f n (wave f l l) := rfl
/-- how many of U are not there yet -/
def lack {A : Type} [DecidableEq A] (U l : List A) : Nat := (U.filter fun u => !l.contains u).length
theorem lack_le {A : Type} [DecidableEq A] {U l m : List A} (h : ∀ x ∈ l, x ∈ m) : lack U m ≤ lack U l := by
  unfold lack
  induction U with
  | nil => simp
  | cons u U ih =>
    by_cases hm : u ∈ m
    · rw [List.filter_cons_of_neg (by simp [hm])]
      by_cases hl : u ∈ l
      · rw [List.filter_cons_of_neg (by simp [hl])]; exact ih
      · rw [List.filter_cons_of_pos (by simp [hl]), List.length_cons]; omega
    · have hl : u ∉ l := fun q => hm (h u q)
      rw [List.filter_cons_of_pos (by simp [hm]), List.filter_cons_of_pos (by simp [hl]), List.length_cons, List.length_cons]
      omega
theorem lack_lt {A : Type} [DecidableEq A] {U l m : List A} (h : ∀ x ∈ l, x ∈ m) {y : A} (hU : y ∈ U) (hl : y ∉ l) (hm : y ∈ m) : lack U m < lack U l := by
  induction U with
  | nil => simp at hU
  | cons u U ih =>
    by_cases e : u = y
    · subst e
      have h1 := lack_le (U := U) h
      unfold lack at h1 ⊢
      rw [List.filter_cons_of_neg (by simp [hm]), List.filter_cons_of_pos (by simp [hl]), List.length_cons]
      omega
    · have hU' : y ∈ U := by
        rcases List.mem_cons.mp hU with q | q
        · exact absurd q.symm e
        · exact q
      have h2 := ih hU'
      unfold lack at h2 ⊢
      by_cases hmu : u ∈ m
      · rw [List.filter_cons_of_neg (by simp [hmu])]
        by_cases hlu : u ∈ l
        · rw [List.filter_cons_of_neg (by simp [hlu])]; exact h2
        · rw [List.filter_cons_of_pos (by simp [hlu]), List.length_cons]; omega
      · have hlu : u ∉ l := fun q => hmu (h u q)
        rw [List.filter_cons_of_pos (by simp [hmu]), List.filter_cons_of_pos (by simp [hlu]), List.length_cons, List.length_cons]
        omega
theorem lack_zero {A : Type} [DecidableEq A] {U l : List A} (h : lack U l = 0) {u : A} (hu : u ∈ U) : u ∈ l := by
  unfold lack at h
  have e := List.length_eq_zero_iff.mp h
  have q := List.filter_eq_nil_iff.mp e u hu
  have q2 : l.contains u = true := by simpa using q
  exact List.contains_iff_mem.mp q2
theorem lack_len {A : Type} [DecidableEq A] (U l : List A) : lack U l ≤ U.length := List.length_filter_le _ _
theorem spread_props {A : Type} [DecidableEq A] {f : A → List A} {U : List A} (hU : ∀ x ∈ U, ∀ y ∈ f x, y ∈ U) : ∀ (n : Nat) (l : List A), (∀ x ∈ l, x ∈ U) → lack U l ≤ n →
    (∀ x ∈ l, x ∈ spread f n l) ∧ (∀ y ∈ spread f n l, ∃ x ∈ l, Reach f x y) ∧ ∀ y ∈ spread f n l, ∀ z ∈ f y, z ∈ spread f n l
  | 0, l, hl, hn => ⟨fun _ h => h, fun y h => ⟨y, h, .refl⟩, fun y hy z hz => lack_zero (l := l) (by omega) (hU y (hl y hy) z hz)⟩
  | n + 1, l, hl, hn => by
    rw [spread_succ]
    by_cases c : (wave f l l).length = l.length
    · rw [if_pos c]
      exact ⟨fun _ h => h, fun y h => ⟨y, h, .refl⟩, fun y hy z hz => wave_same f l l c y hy z hz⟩
    · rw [if_neg c]
      have hsub : ∀ x ∈ l, x ∈ wave f l l := fun x hx => (mem_wave f l l).mpr (.inl hx)
      have hin : ∀ x ∈ wave f l l, x ∈ U := fun x hx => by
        rcases (mem_wave f l l).mp hx with q | ⟨y, hy, q⟩
        · exact hl x q
        · exact hU y (hl y hy) x q
      have hlt : lack U (wave f l l) < lack U l := by
        -- some item is new
        have : ∃ y ∈ wave f l l, y ∉ l := Classical.byContradiction fun q => by
          have all : ∀ y ∈ wave f l l, y ∈ l := fun y hy => Classical.byContradiction fun z => q ⟨y, hy, z⟩
          apply c
          -- then nothing was put
          have stay : ∀ (k m : List A), (∀ x ∈ k, ∀ y ∈ f x, y ∈ m) → wave f k m = m := by
            intro k
            induction k with
            | nil => intro m _; rfl
            | cons a k ih =>
              intro m hm
              have e : (f a).foldl put1 m = m := by
                have : ∀ (p : List A), (∀ y ∈ p, y ∈ m) → p.foldl put1 m = m := by
                  intro p
                  induction p with
                  | nil => intro _; rfl
                  | cons b p ihp =>
                    intro hp
                    have e1 : put1 m b = m := by
                      unfold put1
                      rw [if_pos (List.contains_iff_mem.mpr (hp b List.mem_cons_self))]
                    rw [List.foldl_cons, e1]
                    exact ihp fun y hy => hp y (List.mem_cons_of_mem _ hy)
                exact this _ fun y hy => hm a List.mem_cons_self y hy
              show wave f k ((f a).foldl put1 m) = m
              rw [e]
              exact ih m fun x hx y hy => hm x (List.mem_cons_of_mem _ hx) y hy
          rw [stay l l fun x hx y hy => all y ((mem_wave f l l).mpr (.inr ⟨x, hx, hy⟩))]
        obtain ⟨y, hy, hn⟩ := this
        exact lack_lt hsub (hin y hy) hn hy
      obtain ⟨i1, i2, i3⟩ := spread_props hU n (wave f l l) hin (by omega)
      refine ⟨fun x hx => i1 x (hsub x hx), fun y hy => ?_, i3⟩
      obtain ⟨x, hx, r⟩ := i2 y hy
      rcases (mem_wave f l l).mp hx with q | ⟨a, ha, q⟩
      · exact ⟨x, q, r⟩
      · exact ⟨a, ha, (Reach.step .refl q).trans r⟩
theorem mem_spread {A : Type} [DecidableEq A] {f : A → List A} {U : List A} (hU : ∀ x ∈ U, ∀ y ∈ f x, y ∈ U) {n : Nat} {l : List A} (hl : ∀ x ∈ l, x ∈ U) (hn : U.length ≤ n) (y : A) :
    y ∈ spread f n l ↔ ∃ x ∈ l, Reach f x y := by
  obtain ⟨h1, h2, h3⟩ := spread_props hU n l hl (Nat.le_trans (lack_len U l) hn)
  refine ⟨h2 y, fun ⟨x, hx, r⟩ => r.inv (p := fun y => y ∈ spread f n l) (fun a b ha hb => h3 a ha b hb) (h1 x hx)⟩
theorem nodup_len {A : Type} [DecidableEq A] : ∀ {l U : List A}, l.Nodup → (∀ x ∈ l, x ∈ U) → l.length ≤ U.length
  | [], _, _, _ => Nat.zero_le _
  | x :: l, U, hn, hs => by
    rw [List.nodup_cons] at hn
    have h1 : l.length ≤ (U.erase x).length := nodup_len hn.2 fun y hy => by
      have ne : y ≠ x := fun e => hn.1 (e ▸ hy)
      exact (List.mem_erase_of_ne ne).mpr (hs y (List.mem_cons_of_mem _ hy))
    have hx : x ∈ U := hs x List.mem_cons_self
    have h2 := List.length_erase_of_mem hx
    have h3 : 0 < U.length := List.length_pos_of_mem hx
    show l.length + 1 ≤ U.length
    omega
end Wm

namespace Wm
open Gq03
/-! ### directions -/
theorem turned_even {r : Nat} (h : r % 2 = 0) : turned r = r + 1 := if_pos h
theorem turned_odd {r : Nat} (h : ¬ r % 2 = 0) : turned r = r - 1 := if_neg h
theorem turned_turned (r : Nat) : turned (turned r) = r := by
  by_cases h : r % 2 = 0
  · rw [turned_even h, turned_odd (r := r + 1) (by omega)]; exact Nat.add_sub_cancel r 1
  · rw [turned_odd h, turned_even (r := r - 1) (by omega)]; exact Nat.sub_add_cancel (by omega)
theorem turned_mem {r : Nat} (h : r ∈ roles) : turned r ∈ roles := by
  simp only [roles, List.mem_cons, List.not_mem_nil, or_false] at h ⊢
  unfold turned
  rcases h with rfl | rfl | rfl | rfl | rfl | rfl | rfl | rfl <;> decide
theorem turned_eq {a r : Nat} : turned a = r ↔ a = turned r :=
  ⟨fun h => by rw [← h, turned_turned], fun h => by rw [h, turned_turned]⟩
/-- what a rule may speak of -/
def okRule : Rule → Prop
  | .sub b c => b ∈ basics ∧ c ∈ basics
  | .role r s => r ∈ roles ∧ s ∈ roles
  | .never b c => b ∈ basics ∧ c ∈ basics
  | .neverRole r s => r ∈ roles ∧ s ∈ roles
def okFact : Fact → Prop
  | .kind x k => x ∈ nodes ∧ (.kind k) ∈ basics
  | .edge x a y => x ∈ nodes ∧ 2 * a ∈ roles ∧ 2 * a + 1 ∈ roles ∧ y ∈ nodes
def okRules (rs : List Rule) : Prop := ∀ x ∈ rs, okRule x
def okFacts (fs : List Fact) : Prop := ∀ x ∈ fs, okFact x
theorem has_mem {r : Nat} : Basic.has r ∈ basics ↔ r ∈ roles := by simp [basics]
theorem mem_onRole {rs : List Rule} {r s : Nat} : s ∈ onRole rs r ↔ ∃ a b, Rule.role a b ∈ rs ∧ ((a = r ∧ s = b) ∨ (turned a = r ∧ s = turned b)) := by
  unfold onRole
  rw [List.mem_flatMap]
  constructor
  · rintro ⟨x, hx, h⟩
    cases x with
    | role a b =>
      simp only [List.mem_append] at h
      refine ⟨a, b, hx, ?_⟩
      rcases h with h | h
      · split at h
        · exact .inl ⟨‹_›, by simpa using h⟩
        · simp at h
      · split at h
        · exact .inr ⟨‹_›, by simpa using h⟩
        · simp at h
    | sub _ _ => simp at h
    | never _ _ => simp at h
    | neverRole _ _ => simp at h
  · rintro ⟨a, b, hx, h⟩
    refine ⟨_, hx, ?_⟩
    rcases h with ⟨h1, h2⟩ | ⟨h1, h2⟩ <;> simp [h1, h2]
theorem onRole_roles {rs : List Rule} (h : okRules rs) : ∀ x ∈ roles, ∀ y ∈ onRole rs x, y ∈ roles := fun x _ y hy => by
  obtain ⟨a, b, hm, q⟩ := mem_onRole.mp hy
  have k := h _ hm
  rcases q with ⟨_, rfl⟩ | ⟨_, rfl⟩
  · exact k.2
  · exact turned_mem k.2
theorem mem_upRole {rs : List Rule} (h : okRules rs) {r : Nat} (hr : r ∈ roles) (s : Nat) : s ∈ upRole rs r ↔ Reach (onRole rs) r s := by
  have := mem_spread (f := onRole rs) (U := roles) (onRole_roles h) (n := 8) (l := [r]) (fun x hx => by rw [List.mem_singleton] at hx; rw [hx]; exact hr) (by decide) s
  unfold upRole
  rw [this]
  simp
theorem upRole_roles {rs : List Rule} (h : okRules rs) {r : Nat} (hr : r ∈ roles) {s : Nat} (hs : s ∈ upRole rs r) : s ∈ roles :=
  ((mem_upRole h hr s).mp hs).inv (p := fun r => r ∈ roles) (fun x y hx hy => onRole_roles h x hx y hy) hr
theorem onRole_turned {rs : List Rule} {r s : Nat} (h : s ∈ onRole rs r) : turned s ∈ onRole rs (turned r) := by
  obtain ⟨a, b, hm, q⟩ := mem_onRole.mp h
  refine mem_onRole.mpr ⟨a, b, hm, ?_⟩
  rcases q with ⟨e1, e2⟩ | ⟨e1, e2⟩
  · exact .inr ⟨by rw [e1], by rw [e2]⟩
  · refine .inl ⟨by rw [← e1, turned_turned], by rw [e2, turned_turned]⟩
theorem reach_turned {rs : List Rule} {r s : Nat} (h : Reach (onRole rs) r s) : Reach (onRole rs) (turned r) (turned s) := by
  induction h with
  | refl => exact .refl
  | step _ m ih => exact .step ih (onRole_turned m)
theorem upRole_turned {rs : List Rule} (h : okRules rs) {r : Nat} (hr : r ∈ roles) (s : Nat) : s ∈ upRole rs (turned r) ↔ turned s ∈ upRole rs r := by
  rw [mem_upRole h (turned_mem hr), mem_upRole h hr]
  constructor
  · intro q
    have := reach_turned q
    rwa [turned_turned] at this
  · intro q
    have := reach_turned q
    rwa [turned_turned] at this
/-! ### basic ones -/
/-- what rules sub say -/
def subsOf (rs : List Rule) (b : Basic) : List Basic := rs.flatMap fun x => match x with
  | .sub a c => if a = b then [c] else []
  | _ => []
/-- what follows by one rule -/
def nextB (rs : List Rule) (b : Basic) : List Basic := subsOf rs b ++ match b with
    | .has r => (onRole rs r).map fun s => .has s
    | .kind _ => []
theorem onBasic_eq (rs : List Rule) (b : Basic) : onBasic rs b = subsOf rs b ++ match b with
    | .has r => (upRole rs r).map fun s => .has s
    | .kind _ => [] := rfl
theorem mem_subs {rs : List Rule} {b c : Basic} : c ∈ subsOf rs b ↔ Rule.sub b c ∈ rs := by
  unfold subsOf
  rw [List.mem_flatMap]
  constructor
  · rintro ⟨x, hx, h⟩
    cases x with
    | sub a d =>
      simp only at h
      split at h
      · rename_i e
        rw [List.mem_singleton] at h
        subst e h
        exact hx
      · simp at h
    | role _ _ => simp at h
    | never _ _ => simp at h
    | neverRole _ _ => simp at h
  · intro h
    exact ⟨_, h, by simp⟩
theorem mem_nextB {rs : List Rule} {b c : Basic} : c ∈ nextB rs b ↔ Rule.sub b c ∈ rs ∨ ∃ r s, b = .has r ∧ c = .has s ∧ s ∈ onRole rs r := by
  unfold nextB
  rw [List.mem_append, mem_subs]
  cases b with
  | kind k => simp
  | has r =>
    simp only [List.mem_map, Basic.has.injEq]
    constructor
    · rintro (h | ⟨s, hs, rfl⟩)
      · exact .inl h
      · exact .inr ⟨r, s, rfl, rfl, hs⟩
    · rintro (h | ⟨r', s, rfl, rfl, hs⟩)
      · exact .inl h
      · exact .inr ⟨s, hs, rfl⟩
theorem mem_onBasic {rs : List Rule} {b c : Basic} : c ∈ onBasic rs b ↔ Rule.sub b c ∈ rs ∨ ∃ r s, b = .has r ∧ c = .has s ∧ s ∈ upRole rs r := by
  rw [onBasic_eq, List.mem_append, mem_subs]
  cases b with
  | kind k => simp
  | has r =>
    simp only [List.mem_map, Basic.has.injEq]
    constructor
    · rintro (h | ⟨s, hs, rfl⟩)
      · exact .inl h
      · exact .inr ⟨r, s, rfl, rfl, hs⟩
    · rintro (h | ⟨r', s, rfl, rfl, hs⟩)
      · exact .inl h
      · exact .inr ⟨s, hs, rfl⟩
theorem nextB_basics {rs : List Rule} (h : okRules rs) : ∀ x ∈ basics, ∀ y ∈ nextB rs x, y ∈ basics := fun x hx y hy => by
  rcases mem_nextB.mp hy with q | ⟨r, s, rfl, rfl, q⟩
  · exact (h _ q).2
  · exact has_mem.mpr (onRole_roles h r (has_mem.mp hx) s q)
theorem onBasic_basics {rs : List Rule} (h : okRules rs) : ∀ x ∈ basics, ∀ y ∈ onBasic rs x, y ∈ basics := fun x hx y hy => by
  rcases mem_onBasic.mp hy with q | ⟨r, s, rfl, rfl, q⟩
  · exact (h _ q).2
  · exact has_mem.mpr (upRole_roles h (has_mem.mp hx) q)
theorem reach_has {rs : List Rule} {r s : Nat} (h : Reach (onRole rs) r s) : Reach (nextB rs) (.has r) (.has s) := by
  induction h with
  | refl => exact .refl
  | step _ m ih => exact .step ih (mem_nextB.mpr (.inr ⟨_, _, rfl, rfl, m⟩))
/-- the specification's steps, the program's: the same is reached -/
theorem reach_basic {rs : List Rule} (h : okRules rs) {b : Basic} (hb : b ∈ basics) (c : Basic) : Reach (onBasic rs) b c ↔ Reach (nextB rs) b c := by
  constructor
  · intro q
    induction q with
    | refl => exact .refl
    | step p m ih =>
      rcases mem_onBasic.mp m with q | ⟨r, s, rfl, rfl, q⟩
      · exact .step ih (mem_nextB.mpr (.inl q))
      · have hy := p.inv (p := fun x => x ∈ basics) (fun x y hx hy => onBasic_basics h x hx y hy) hb
        exact ih.trans (reach_has ((mem_upRole h (has_mem.mp hy) s).mp q))
  · intro q
    induction q with
    | refl => exact .refl
    | step p m ih =>
      rcases mem_nextB.mp m with q | ⟨r, s, rfl, rfl, q⟩
      · exact .step ih (mem_onBasic.mpr (.inl q))
      · have hy := p.inv (p := fun x => x ∈ basics) (fun x y hx hy => nextB_basics h x hx y hy) hb
        refine .step ih (mem_onBasic.mpr (.inr ⟨r, s, rfl, rfl, (mem_upRole h (has_mem.mp hy) s).mpr (.step .refl q)⟩))
theorem mem_up {rs : List Rule} (h : okRules rs) {l : List Basic} (hl : ∀ x ∈ l, x ∈ basics) (c : Basic) : c ∈ up rs l ↔ ∃ b ∈ l, Reach (nextB rs) b c := by
  have := mem_spread (f := onBasic rs) (U := basics) (onBasic_basics h) (n := 14) (l := l) hl (by decide) c
  unfold up
  rw [this]
  constructor
  · rintro ⟨b, hb, q⟩
    exact ⟨b, hb, (reach_basic h (hl b hb) c).mp q⟩
  · rintro ⟨b, hb, q⟩
    exact ⟨b, hb, (reach_basic h (hl b hb) c).mpr q⟩
theorem mem_up1 {rs : List Rule} (h : okRules rs) {b : Basic} (hb : b ∈ basics) (c : Basic) : c ∈ up rs [b] ↔ Reach (nextB rs) b c := by
  rw [mem_up h (fun x hx => by rw [List.mem_singleton] at hx; rw [hx]; exact hb)]
  simp
theorem reach_basics {rs : List Rule} (h : okRules rs) {b : Basic} (hb : b ∈ basics) {c : Basic} (r : Reach (nextB rs) b c) : c ∈ basics :=
  r.inv (p := fun x => x ∈ basics) (fun x y hx hy => nextB_basics h x hx y hy) hb
theorem up_basics {rs : List Rule} (h : okRules rs) {l : List Basic} (hl : ∀ x ∈ l, x ∈ basics) {c : Basic} (hc : c ∈ up rs l) : c ∈ basics := by
  obtain ⟨b, hb, r⟩ := (mem_up h hl c).mp hc
  exact reach_basics h (hl b hb) r
theorem mem_up_one {rs : List Rule} (h : okRules rs) {l : List Basic} (hl : ∀ x ∈ l, x ∈ basics) (c : Basic) : c ∈ up rs l ↔ ∃ b ∈ l, c ∈ up rs [b] := by
  rw [mem_up h hl]
  constructor
  · rintro ⟨b, hb, q⟩
    exact ⟨b, hb, (mem_up1 h (hl b hb) c).mpr q⟩
  · rintro ⟨b, hb, q⟩
    exact ⟨b, hb, (mem_up1 h (hl b hb) c).mp q⟩
theorem up_trans {rs : List Rule} (h : okRules rs) {b c d : Basic} (hb : b ∈ basics) (hc : c ∈ up rs [b]) (hd : d ∈ up rs [c]) : d ∈ up rs [b] := by
  have h1 := (mem_up1 h hb c).mp hc
  have hcb := reach_basics h hb h1
  exact (mem_up1 h hb d).mpr (h1.trans ((mem_up1 h hcb d).mp hd))
theorem up_self {rs : List Rule} (h : okRules rs) {b : Basic} (hb : b ∈ basics) : b ∈ up rs [b] := (mem_up1 h hb b).mpr .refl
theorem up_has {rs : List Rule} (h : okRules rs) {r s : Nat} (hr : r ∈ roles) (hs : s ∈ upRole rs r) : Basic.has s ∈ up rs [.has r] :=
  (mem_up1 h (has_mem.mpr hr) _).mpr (reach_has ((mem_upRole h hr s).mp hs))
/-! ### what is forbidden hangs on what is there alone -/
theorem neverBoth_iff {rs : List Rule} {l : List Basic} : neverBoth rs l = true ↔ ∃ b c, Rule.never b c ∈ rs ∧ b ∈ l ∧ c ∈ l := by
  unfold neverBoth
  rw [List.any_eq_true]
  constructor
  · rintro ⟨x, hx, h⟩
    cases x with
    | never b c => exact ⟨b, c, hx, by simpa using h⟩
    | sub _ _ => simp at h
    | role _ _ => simp at h
    | neverRole _ _ => simp at h
  · rintro ⟨b, c, hx, h⟩
    exact ⟨_, hx, by simpa using h⟩
/-- the program's test of directions -/
def roleForb (rs : List Rule) (l : List Nat) : Bool := rs.any fun x => match x with
  | .neverRole r s => l.contains r && l.contains s
  | _ => false
theorem roleForb_iff {rs : List Rule} {l : List Nat} : roleForb rs l = true ↔ ∃ b c, Rule.neverRole b c ∈ rs ∧ b ∈ l ∧ c ∈ l := by
  unfold roleForb
  rw [List.any_eq_true]
  constructor
  · rintro ⟨x, hx, h⟩
    cases x with
    | neverRole b c => exact ⟨b, c, hx, by simpa using h⟩
    | sub _ _ => simp at h
    | role _ _ => simp at h
    | never _ _ => simp at h
  · rintro ⟨b, c, hx, h⟩
    exact ⟨_, hx, by simpa using h⟩
theorem neverRoles_iff {rs : List Rule} {l : List Nat} : neverRoles rs l = true ↔ ∃ b c, Rule.neverRole b c ∈ rs ∧ ((b ∈ l ∧ c ∈ l) ∨ (turned b ∈ l ∧ turned c ∈ l)) := by
  unfold neverRoles
  rw [List.any_eq_true]
  constructor
  · rintro ⟨x, hx, h⟩
    cases x with
    | neverRole b c => exact ⟨b, c, hx, by simpa using h⟩
    | sub _ _ => simp at h
    | role _ _ => simp at h
    | never _ _ => simp at h
  · rintro ⟨b, c, hx, h⟩
    exact ⟨_, hx, by simpa using h⟩
theorem mem_turnedMap {l : List Nat} {r : Nat} : r ∈ l.map turned ↔ turned r ∈ l := by
  rw [List.mem_map]
  constructor
  · rintro ⟨a, ha, rfl⟩
    rw [turned_turned]; exact ha
  · intro h
    exact ⟨_, h, turned_turned r⟩
theorem neverRoles_eq {rs : List Rule} {l : List Nat} : neverRoles rs l = (roleForb rs l || roleForb rs (l.map turned)) := by
  rw [Bool.eq_iff_iff, Bool.or_eq_true, neverRoles_iff, roleForb_iff, roleForb_iff]
  constructor
  · rintro ⟨b, c, hm, h | h⟩
    · exact .inl ⟨b, c, hm, h⟩
    · exact .inr ⟨b, c, hm, mem_turnedMap.mpr h.1, mem_turnedMap.mpr h.2⟩
  · rintro (⟨b, c, hm, h⟩ | ⟨b, c, hm, h⟩)
    · exact ⟨b, c, hm, .inl h⟩
    · exact ⟨b, c, hm, .inr ⟨mem_turnedMap.mp h.1, mem_turnedMap.mp h.2⟩⟩
theorem neverBoth_congr {rs : List Rule} {l m : List Basic} (h : ∀ b, b ∈ l ↔ b ∈ m) : neverBoth rs l = neverBoth rs m := by
  rw [Bool.eq_iff_iff, neverBoth_iff, neverBoth_iff]
  simp only [h]
theorem roleForb_congr {rs : List Rule} {l m : List Nat} (h : ∀ b, b ∈ l ↔ b ∈ m) : roleForb rs l = roleForb rs m := by
  rw [Bool.eq_iff_iff, roleForb_iff, roleForb_iff]
  simp only [h]
theorem neverRoles_congr {rs : List Rule} {l m : List Nat} (h : ∀ b, b ∈ l ↔ b ∈ m) : neverRoles rs l = neverRoles rs m := by
  rw [Bool.eq_iff_iff, neverRoles_iff, neverRoles_iff]
  simp only [h]
theorem neverRoles_mono {rs : List Rule} {l m : List Nat} (h : ∀ b ∈ l, b ∈ m) (q : neverRoles rs l = true) : neverRoles rs m = true := by
  obtain ⟨b, c, hm, q⟩ := neverRoles_iff.mp q
  refine neverRoles_iff.mpr ⟨b, c, hm, ?_⟩
  rcases q with q | q
  · exact .inl ⟨h _ q.1, h _ q.2⟩
  · exact .inr ⟨h _ q.1, h _ q.2⟩
theorem neverBoth_mono {rs : List Rule} {l m : List Basic} (h : ∀ b ∈ l, b ∈ m) (q : neverBoth rs l = true) : neverBoth rs m = true := by
  obtain ⟨b, c, hm, q⟩ := neverBoth_iff.mp q
  exact neverBoth_iff.mpr ⟨b, c, hm, h _ q.1, h _ q.2⟩
end Wm

namespace Wm
open Gq03
/-! ### bad ones: the specification's -/
def badBy (rs : List Rule) (u : List Basic) (b : Basic) : Bool := u.contains b || (neverBoth rs (up rs [b]) || (up rs [b]).any fun c => u.contains c || match c with
    | .has r => badRole rs u r
    | .kind _ => false)
theorem badFrom_succ (rs : List Rule) (n : Nat) (u : List Basic) : badFrom rs (n + 1) u = badFrom rs n (basics.filter (badBy rs u)) := rfl
theorem badRole_iff {rs : List Rule} {u : List Basic} {r : Nat} : badRole rs u r = true ↔ neverRoles rs (upRole rs r) = true ∨ Basic.has r ∈ u ∨ Basic.has (turned r) ∈ u := by
  unfold badRole
  rw [Bool.or_eq_true, Bool.or_eq_true, List.contains_iff_mem, List.contains_iff_mem]
theorem badBy_iff {rs : List Rule} {u : List Basic} {b : Basic} : badBy rs u b = true ↔ b ∈ u ∨ neverBoth rs (up rs [b]) = true ∨ (∃ c ∈ up rs [b], c ∈ u) ∨ ∃ r, Basic.has r ∈ up rs [b] ∧ badRole rs u r = true := by
  unfold badBy
  rw [Bool.or_eq_true, Bool.or_eq_true, List.contains_iff_mem, List.any_eq_true]
  constructor
  · rintro (h | h | ⟨c, hc, h⟩)
    · exact .inl h
    · exact .inr (.inl h)
    · rw [Bool.or_eq_true, List.contains_iff_mem] at h
      rcases h with h | h
      · exact .inr (.inr (.inl ⟨c, hc, h⟩))
      · cases c with
        | kind k => simp at h
        | has r => exact .inr (.inr (.inr ⟨r, hc, h⟩))
  · rintro (h | h | ⟨c, hc, h⟩ | ⟨r, hc, h⟩)
    · exact .inl h
    · exact .inr (.inl h)
    · exact .inr (.inr ⟨c, hc, by rw [Bool.or_eq_true, List.contains_iff_mem]; exact .inl h⟩)
    · exact .inr (.inr ⟨_, hc, by rw [Bool.or_eq_true]; exact .inr h⟩)
theorem badRole_mono {rs : List Rule} {u v : List Basic} (h : ∀ b ∈ u, b ∈ v) {r : Nat} (q : badRole rs u r = true) : badRole rs v r = true := by
  rw [badRole_iff] at q ⊢
  rcases q with q | q | q
  · exact .inl q
  · exact .inr (.inl (h _ q))
  · exact .inr (.inr (h _ q))
theorem badBy_mono {rs : List Rule} {u v : List Basic} (h : ∀ b ∈ u, b ∈ v) {b : Basic} (q : badBy rs u b = true) : badBy rs v b = true := by
  rw [badBy_iff] at q ⊢
  rcases q with q | q | ⟨c, hc, q⟩ | ⟨r, hc, q⟩
  · exact .inl (h _ q)
  · exact .inr (.inl q)
  · exact .inr (.inr (.inl ⟨c, hc, h _ q⟩))
  · exact .inr (.inr (.inr ⟨r, hc, badRole_mono h q⟩))
theorem badBy_congr {rs : List Rule} {u v : List Basic} (h : ∀ b, b ∈ u ↔ b ∈ v) : badBy rs u = badBy rs v := by
  funext b
  rw [Bool.eq_iff_iff]
  exact ⟨badBy_mono fun b hb => (h b).mp hb, badBy_mono fun b hb => (h b).mpr hb⟩
theorem badFrom_fix {rs : List Rule} {u : List Basic} (h : basics.filter (badBy rs u) = u) : ∀ n, badFrom rs n u = u
  | 0 => rfl
  | n + 1 => by rw [badFrom_succ, h]; exact badFrom_fix h n
theorem badFrom_closed {rs : List Rule} : ∀ (n : Nat) (u : List Basic), (∀ b ∈ u, b ∈ basics) → lack basics u < n → basics.filter (badBy rs (badFrom rs n u)) = badFrom rs n u
  | 0, _, _, h => by omega
  | n + 1, u, hu, h => by
    rw [badFrom_succ]
    have sub : ∀ b ∈ u, b ∈ basics.filter (badBy rs u) := fun b hb => List.mem_filter.mpr ⟨hu b hb, badBy_iff.mpr (.inl hb)⟩
    by_cases c : ∀ b ∈ basics.filter (badBy rs u), b ∈ u
    · have e : badBy rs (basics.filter (badBy rs u)) = badBy rs u := badBy_congr fun b => ⟨c b, sub b⟩
      have fx : basics.filter (badBy rs (basics.filter (badBy rs u))) = basics.filter (badBy rs u) := by rw [e]
      rw [badFrom_fix fx]
      exact fx
    · have ⟨y, hy, hn⟩ : ∃ y ∈ basics.filter (badBy rs u), y ∉ u := Classical.byContradiction fun q => c fun b hb => Classical.byContradiction fun z => q ⟨b, hb, z⟩
      have lt := lack_lt (U := basics) sub (List.mem_filter.mp hy).1 hn hy
      exact badFrom_closed n _ (fun b hb => (List.mem_filter.mp hb).1) (by omega)
theorem badFrom_least {rs : List Rule} {S : List Basic} (h : ∀ b ∈ basics, badBy rs S b = true → b ∈ S) : ∀ (n : Nat) (u : List Basic), (∀ b ∈ u, b ∈ S) → ∀ b ∈ badFrom rs n u, b ∈ S
  | 0, _, hu => hu
  | n + 1, u, hu => by
    rw [badFrom_succ]
    exact badFrom_least h n _ fun b hb => h b (List.mem_filter.mp hb).1 (badBy_mono hu (List.mem_filter.mp hb).2)
theorem bad_fix (rs : List Rule) : basics.filter (badBy rs (bad rs)) = bad rs :=
  badFrom_closed 15 [] (fun _ h => by simp at h) (by show lack basics [] < 15; decide)
theorem mem_bad {rs : List Rule} {b : Basic} : b ∈ bad rs ↔ b ∈ basics ∧ badBy rs (bad rs) b = true := by
  conv => lhs; rw [← bad_fix rs]
  exact List.mem_filter
theorem bad_least {rs : List Rule} {S : List Basic} (h : ∀ b ∈ basics, badBy rs S b = true → b ∈ S) : ∀ b ∈ bad rs, b ∈ S := badFrom_least h 15 [] fun _ h => by simp at h
theorem bad_basics {rs : List Rule} {b : Basic} (h : b ∈ bad rs) : b ∈ basics := (mem_bad.mp h).1
theorem bad_up {rs : List Rule} {b c : Basic} (hb : b ∈ basics) (hc : c ∈ up rs [b]) (h : c ∈ bad rs) : b ∈ bad rs :=
  mem_bad.mpr ⟨hb, badBy_iff.mpr (.inr (.inr (.inl ⟨c, hc, h⟩)))⟩
theorem bad_never {rs : List Rule} {b : Basic} (hb : b ∈ basics) (h : neverBoth rs (up rs [b]) = true) : b ∈ bad rs :=
  mem_bad.mpr ⟨hb, badBy_iff.mpr (.inr (.inl h))⟩
theorem bad_role {rs : List Rule} {b : Basic} {r : Nat} (hb : b ∈ basics) (hr : Basic.has r ∈ up rs [b]) (h : badRole rs (bad rs) r = true) : b ∈ bad rs :=
  mem_bad.mpr ⟨hb, badBy_iff.mpr (.inr (.inr (.inr ⟨r, hr, h⟩)))⟩
theorem badRole_up {rs : List Rule} (h : okRules rs) {r s : Nat} (hr : r ∈ roles) (hs : s ∈ upRole rs r) (q : badRole rs (bad rs) s = true) : badRole rs (bad rs) r = true := by
  have hsr := upRole_roles h hr hs
  rw [badRole_iff] at q ⊢
  rcases q with q | q | q
  · refine .inl (neverRoles_mono (fun b hb => ?_) q)
    exact (mem_upRole h hr b).mpr (((mem_upRole h hr s).mp hs).trans ((mem_upRole h hsr b).mp hb))
  · exact .inr (.inl (bad_up (has_mem.mpr hr) (up_has h hr hs) q))
  · refine .inr (.inr (bad_up (has_mem.mpr (turned_mem hr)) (up_has h (turned_mem hr) ?_) q))
    rw [upRole_turned h hr, turned_turned]
    exact hs
theorem badRole_turned {rs : List Rule} (h : okRules rs) {r : Nat} (hr : r ∈ roles) (q : badRole rs (bad rs) r = true) : badRole rs (bad rs) (turned r) = true := by
  rw [badRole_iff] at q ⊢
  rcases q with q | q | q
  · refine .inl ?_
    obtain ⟨b, c, hm, q⟩ := neverRoles_iff.mp q
    refine neverRoles_iff.mpr ⟨b, c, hm, ?_⟩
    rw [upRole_turned h hr, upRole_turned h hr, upRole_turned h hr, upRole_turned h hr, turned_turned, turned_turned]
    exact q.symm
  · exact .inr (.inr (by rw [turned_turned]; exact q))
  · exact .inr (.inl q)
/-! ### what the program keeps of rules -/
structure Kept where
  dirs : Nat → List Nat
  bas : Basic → List Basic
structure Ups (rs : List Rule) (k : Kept) : Prop where
  ok : okRules rs
  dN : ∀ r ∈ roles, (k.dirs r).Nodup
  dM : ∀ r ∈ roles, ∀ s, s ∈ k.dirs r ↔ s ∈ upRole rs r
  bN : ∀ b ∈ basics, (k.bas b).Nodup
  bM : ∀ b ∈ basics, ∀ c, c ∈ k.bas b ↔ c ∈ up rs [b]
theorem Ups.dlen {rs : List Rule} {k : Kept} (U : Ups rs k) {r : Nat} (hr : r ∈ roles) : (k.dirs r).length ≤ 8 :=
  nodup_len (U := roles) (U.dN r hr) fun s hs => upRole_roles U.ok hr ((U.dM r hr s).mp hs)
theorem Ups.dmem {rs : List Rule} {k : Kept} (U : Ups rs k) {r s : Nat} (hr : r ∈ roles) (hs : s ∈ k.dirs r) : s ∈ roles := upRole_roles U.ok hr ((U.dM r hr s).mp hs)
theorem Ups.bmem {rs : List Rule} {k : Kept} (U : Ups rs k) {b c : Basic} (hb : b ∈ basics) (hc : c ∈ k.bas b) : c ∈ basics :=
  up_basics U.ok (l := [b]) (fun x hx => by rw [List.mem_singleton] at hx; rw [hx]; exact hb) ((U.bM b hb c).mp hc)
theorem Ups.blen {rs : List Rule} {k : Kept} (U : Ups rs k) {b : Basic} (hb : b ∈ basics) : (k.bas b).length ≤ 14 :=
  nodup_len (U := basics) (U.bN b hb) fun _ hc => U.bmem hb hc
/-- is_bad -/
def isBad (rs : List Rule) (k : Kept) (B : List Basic) (D : List Nat) (b : Basic) : Bool := neverBoth rs (k.bas b) || (k.bas b).any fun c => B.contains c || match c with
    | .has r => D.contains r
    | .kind _ => false
/-- is_bad_direction -/
def isBadDir (rs : List Rule) (k : Kept) (B : List Basic) (r : Nat) : Bool := (B.contains (.has r) || B.contains (.has (turned r))) || (roleForb rs (k.dirs r) || roleForb rs (k.dirs (turned r)))
/-- the bad ones found so far are bad -/
structure Sound (rs : List Rule) (B : List Basic) (D : List Nat) : Prop where
  bN : B.Nodup
  bS : ∀ b ∈ B, b ∈ bad rs
  dN : D.Nodup
  dR : ∀ r ∈ D, r ∈ roles
  dS : ∀ r ∈ D, badRole rs (bad rs) r = true
/-- all are found -/
structure Full (rs : List Rule) (B : List Basic) (D : List Nat) : Prop where
  bN : B.Nodup
  bM : ∀ b, b ∈ B ↔ b ∈ bad rs
  dN : D.Nodup
  dM : ∀ r, r ∈ D ↔ r ∈ roles ∧ badRole rs (bad rs) r = true
theorem Sound.nil (rs : List Rule) : Sound rs [] [] := ⟨List.nodup_nil, by simp, List.nodup_nil, by simp, by simp⟩
theorem isBad_iff {rs : List Rule} {k : Kept} {B : List Basic} {D : List Nat} {b : Basic} : isBad rs k B D b = true ↔ neverBoth rs (k.bas b) = true ∨ (∃ c ∈ k.bas b, c ∈ B) ∨ ∃ r, Basic.has r ∈ k.bas b ∧ r ∈ D := by
  unfold isBad
  rw [Bool.or_eq_true, List.any_eq_true]
  constructor
  · rintro (h | ⟨c, hc, h⟩)
    · exact .inl h
    · rw [Bool.or_eq_true, List.contains_iff_mem] at h
      rcases h with h | h
      · exact .inr (.inl ⟨c, hc, h⟩)
      · cases c with
        | kind k => simp at h
        | has r => exact .inr (.inr ⟨r, hc, List.contains_iff_mem.mp h⟩)
  · rintro (h | ⟨c, hc, h⟩ | ⟨r, hc, h⟩)
    · exact .inl h
    · exact .inr ⟨c, hc, by rw [Bool.or_eq_true, List.contains_iff_mem]; exact .inl h⟩
    · exact .inr ⟨_, hc, by rw [Bool.or_eq_true]; exact .inr (List.contains_iff_mem.mpr h)⟩
theorem isBadDir_iff {rs : List Rule} {k : Kept} {B : List Basic} {r : Nat} (U : Ups rs k) (hr : r ∈ roles) : isBadDir rs k B r = badRole rs B r := by
  have e1 : roleForb rs (k.dirs r) = roleForb rs (upRole rs r) := roleForb_congr (U.dM r hr)
  have e2 : roleForb rs (k.dirs (turned r)) = roleForb rs ((upRole rs r).map turned) := roleForb_congr fun s => by
    rw [U.dM _ (turned_mem hr), upRole_turned U.ok hr, mem_turnedMap]
  unfold isBadDir badRole
  rw [e1, e2, ← neverRoles_eq, Bool.or_comm]
theorem isBad_sound {rs : List Rule} {k : Kept} {B : List Basic} {D : List Nat} (U : Ups rs k) (S : Sound rs B D) {b : Basic} (hb : b ∈ basics) (h : isBad rs k B D b = true) : b ∈ bad rs := by
  rcases isBad_iff.mp h with h | ⟨c, hc, h⟩ | ⟨r, hc, h⟩
  · exact bad_never hb (by rw [← neverBoth_congr (U.bM b hb)]; exact h)
  · exact bad_up hb ((U.bM b hb c).mp hc) (S.bS c h)
  · exact bad_role hb ((U.bM b hb _).mp hc) (S.dS r h)
theorem isBadDir_sound {rs : List Rule} {k : Kept} {B : List Basic} {D : List Nat} (U : Ups rs k) (S : Sound rs B D) {r : Nat} (hr : r ∈ roles) (h : isBadDir rs k B r = true) : badRole rs (bad rs) r = true := by
  rw [isBadDir_iff U hr] at h
  exact badRole_mono S.bS h
/-- one round of add_bad -/
def newB (rs : List Rule) (k : Kept) (B : List Basic) (D : List Nat) : List Basic := basics.filter fun b => !B.contains b && isBad rs k B D b
def newD (rs : List Rule) (k : Kept) (B : List Basic) (D : List Nat) : List Nat := roles.filter fun r => !D.contains r && isBadDir rs k B r
theorem mem_newB {rs : List Rule} {k : Kept} {B : List Basic} {D : List Nat} {b : Basic} : b ∈ newB rs k B D ↔ b ∈ basics ∧ b ∉ B ∧ isBad rs k B D b = true := by
  unfold newB
  rw [List.mem_filter, Bool.and_eq_true]
  simp
theorem mem_newD {rs : List Rule} {k : Kept} {B : List Basic} {D : List Nat} {b : Nat} : b ∈ newD rs k B D ↔ b ∈ roles ∧ b ∉ D ∧ isBadDir rs k B b = true := by
  unfold newD
  rw [List.mem_filter, Bool.and_eq_true]
  simp
theorem basics_nodup : basics.Nodup := by decide
theorem roles_nodup : roles.Nodup := by decide
theorem nodes_nodup : nodes.Nodup := by decide
theorem Sound.turn {rs : List Rule} {k : Kept} {B : List Basic} {D : List Nat} (U : Ups rs k) (S : Sound rs B D) : Sound rs (B ++ newB rs k B D) (D ++ newD rs k B D) := by
  refine ⟨List.nodup_append.mpr ⟨S.bN, basics_nodup.filter _, fun a ha b hb e => (mem_newB.mp hb).2.1 (e ▸ ha)⟩, fun b hb => ?_, List.nodup_append.mpr ⟨S.dN, roles_nodup.filter _, fun a ha b hb e => (mem_newD.mp hb).2.1 (e ▸ ha)⟩, fun r hr => ?_, fun r hr => ?_⟩
  · rcases List.mem_append.mp hb with h | h
    · exact S.bS b h
    · obtain ⟨h1, _, h2⟩ := mem_newB.mp h
      exact isBad_sound U S h1 h2
  · rcases List.mem_append.mp hr with h | h
    · exact S.dR r h
    · exact (mem_newD.mp h).1
  · rcases List.mem_append.mp hr with h | h
    · exact S.dS r h
    · obtain ⟨h1, _, h2⟩ := mem_newD.mp h
      exact isBadDir_sound U S h1 h2
theorem Sound.full {rs : List Rule} {k : Kept} {B : List Basic} {D : List Nat} (U : Ups rs k) (S : Sound rs B D) (hB : newB rs k B D = []) (hD : newD rs k B D = []) : Full rs B D := by
  have cB : ∀ b ∈ basics, isBad rs k B D b = true → b ∈ B := fun b hb h => Classical.byContradiction fun z => by
    have := mem_newB.mpr ⟨hb, z, h⟩
    rw [hB] at this
    simp at this
  have cD : ∀ b ∈ roles, isBadDir rs k B b = true → b ∈ D := fun b hb h => Classical.byContradiction fun z => by
    have := mem_newD.mpr ⟨hb, z, h⟩
    rw [hD] at this
    simp at this
  have all : ∀ b ∈ bad rs, b ∈ B := bad_least fun b hb h => by
    rcases badBy_iff.mp h with h | h | ⟨c, hc, h⟩ | ⟨r, hc, h⟩
    · exact h
    · exact cB b hb (isBad_iff.mpr (.inl (by rw [neverBoth_congr (U.bM b hb)]; exact h)))
    · exact cB b hb (isBad_iff.mpr (.inr (.inl ⟨c, (U.bM b hb c).mpr hc, h⟩)))
    · have hk := (U.bM b hb _).mpr hc
      have hr : r ∈ roles := has_mem.mp (U.bmem hb hk)
      exact cB b hb (isBad_iff.mpr (.inr (.inr ⟨r, hk, cD r hr (by rw [isBadDir_iff U hr]; exact h)⟩)))
  have bM : ∀ b, b ∈ B ↔ b ∈ bad rs := fun b => ⟨S.bS b, all b⟩
  refine ⟨S.bN, bM, S.dN, fun r => ⟨fun h => ⟨S.dR r h, S.dS r h⟩, fun ⟨h1, h2⟩ => cD r h1 ?_⟩⟩
  rw [isBadDir_iff U h1]
  exact badRole_mono all h2
/-- how much is still to be found -/
theorem turn_lt {rs : List Rule} {k : Kept} {B : List Basic} {D : List Nat} (h : ¬ (newB rs k B D = [] ∧ newD rs k B D = [])) :
    lack basics (B ++ newB rs k B D) + lack roles (D ++ newD rs k B D) < lack basics B + lack roles D := by
  have s1 : ∀ x ∈ B, x ∈ B ++ newB rs k B D := fun x hx => List.mem_append.mpr (.inl hx)
  have s2 : ∀ x ∈ D, x ∈ D ++ newD rs k B D := fun x hx => List.mem_append.mpr (.inl hx)
  have l1 := lack_le (U := basics) s1
  have l2 := lack_le (U := roles) s2
  by_cases c : newB rs k B D = []
  · have c2 : newD rs k B D ≠ [] := fun q => h ⟨c, q⟩
    obtain ⟨y, hy⟩ := List.exists_mem_of_ne_nil _ c2
    obtain ⟨h1, h2, _⟩ := mem_newD.mp hy
    have := lack_lt (U := roles) s2 h1 h2 (List.mem_append.mpr (.inr hy))
    omega
  · obtain ⟨y, hy⟩ := List.exists_mem_of_ne_nil _ c
    obtain ⟨h1, h2, _⟩ := mem_newB.mp hy
    have := lack_lt (U := basics) s1 h1 h2 (List.mem_append.mpr (.inr hy))
    omega
end Wm

namespace Wm
open Gq03
/-! ### what is told -/
def tb (x : Nat) (f : Fact) : List Basic := match f with
  | .kind y k => if y = x then [.kind k] else []
  | .edge y a z => (if y = x then [.has (2 * a)] else []) ++ (if z = x then [.has (2 * a + 1)] else [])
def td (x y : Nat) (f : Fact) : List Nat := match f with
  | .kind _ _ => []
  | .edge z a w => (if z = x ∧ w = y then [2 * a] else []) ++ (if z = y ∧ w = x then [2 * a + 1] else [])
theorem toldOf_eq (fs : List Fact) (x : Nat) : toldOf fs x = fs.flatMap (tb x) := rfl
theorem tb_len (x : Nat) (f : Fact) : (tb x f).length ≤ 2 := by
  cases f with
  | kind y k => unfold tb; simp only; split <;> simp
  | edge y a z => unfold tb; simp only; split <;> split <;> simp
theorem td_len (x y : Nat) (f : Fact) : (td x y f).length ≤ 2 := by
  cases f with
  | kind y k => simp [td]
  | edge z a w => unfold td; simp only; split <;> split <;> simp
theorem tb_basics {x : Nat} {f : Fact} (h : okFact f) {b : Basic} (hb : b ∈ tb x f) : b ∈ basics := by
  cases f with
  | kind y k =>
    simp only [tb] at hb
    split at hb
    · rw [List.mem_singleton] at hb; rw [hb]; exact h.2
    · simp at hb
  | edge y a z =>
    simp only [tb, List.mem_append] at hb
    rcases hb with hb | hb
    · split at hb
      · rw [List.mem_singleton] at hb; rw [hb]; exact has_mem.mpr h.2.1
      · simp at hb
    · split at hb
      · rw [List.mem_singleton] at hb; rw [hb]; exact has_mem.mpr h.2.2.1
      · simp at hb
theorem td_roles {x y : Nat} {f : Fact} (h : okFact f) {r : Nat} (hr : r ∈ td x y f) : r ∈ roles := by
  cases f with
  | kind y k => simp [td] at hr
  | edge z a w =>
    simp only [td, List.mem_append] at hr
    rcases hr with hb | hb
    · split at hb
      · rw [List.mem_singleton] at hb; rw [hb]; exact h.2.1
      · simp at hb
    · split at hb
      · rw [List.mem_singleton] at hb; rw [hb]; exact h.2.2.1
      · simp at hb
theorem toldOf_basics {fs : List Fact} (h : okFacts fs) (x : Nat) : ∀ b ∈ toldOf fs x, b ∈ basics := fun b hb => by
  rw [toldOf_eq, List.mem_flatMap] at hb
  obtain ⟨f, hf, hb⟩ := hb
  exact tb_basics (h f hf) hb
theorem mem_typeOf {d : Desk} (hr : okRules d.rules) (hf : okFacts d.facts) (x : Nat) (c : Basic) : c ∈ typeOf d x ↔ ∃ f ∈ d.facts, ∃ b ∈ tb x f, c ∈ up d.rules [b] := by
  unfold typeOf
  rw [mem_up_one hr (toldOf_basics hf x)]
  constructor
  · rintro ⟨b, hb, q⟩
    rw [toldOf_eq, List.mem_flatMap] at hb
    obtain ⟨f, hf, hb⟩ := hb
    exact ⟨f, hf, b, hb, q⟩
  · rintro ⟨f, hf, b, hb, q⟩
    exact ⟨b, List.mem_flatMap.mpr ⟨f, hf, hb⟩, q⟩
theorem mem_between {d : Desk} {x y s : Nat} : s ∈ between d x y ↔ ∃ f ∈ d.facts, ∃ r ∈ td x y f, s ∈ upRole d.rules r := by
  unfold between
  rw [List.mem_flatMap]
  constructor
  · rintro ⟨f, hf, h⟩
    refine ⟨f, hf, ?_⟩
    cases f with
    | kind _ _ => simp at h
    | edge z a w =>
      simp only [List.mem_append] at h
      simp only [td, List.mem_append]
      rcases h with h | h
      · split at h
        · rename_i c
          exact ⟨2 * a, .inl (by rw [if_pos c]; simp), h⟩
        · simp at h
      · split at h
        · rename_i c
          exact ⟨2 * a + 1, .inr (by rw [if_pos c]; simp), h⟩
        · simp at h
  · rintro ⟨f, hf, r, hr, h⟩
    refine ⟨f, hf, ?_⟩
    cases f with
    | kind _ _ => simp [td] at hr
    | edge z a w =>
      simp only [td, List.mem_append] at hr
      simp only [List.mem_append]
      rcases hr with hr | hr
      · split at hr
        · rename_i c
          rw [List.mem_singleton] at hr
          subst hr
          exact .inl (by rw [if_pos c]; exact h)
        · simp at hr
      · split at hr
        · rename_i c
          rw [List.mem_singleton] at hr
          subst hr
          exact .inr (by rw [if_pos c]; exact h)
        · simp at hr
theorem between_roles {d : Desk} (hr : okRules d.rules) (hf : okFacts d.facts) {x y s : Nat} (h : s ∈ between d x y) : s ∈ roles := by
  obtain ⟨f, hf', r, hr', h⟩ := mem_between.mp h
  exact upRole_roles hr (td_roles (hf f hf') hr') h
/-! ### lists that grow by what is new -/
def ext {A B : Type} [DecidableEq B] (g : A → List B) (m : List B) (b : A) : List B := m ++ (g b).filter fun o => !m.contains o
theorem mem_ext {A B : Type} [DecidableEq B] {g : A → List B} {m : List B} {b : A} {o : B} : o ∈ ext g m b ↔ o ∈ m ∨ o ∈ g b := by
  unfold ext
  rw [List.mem_append, List.mem_filter]
  constructor
  · rintro (h | h)
    · exact .inl h
    · exact .inr h.1
  · rintro (h | h)
    · exact .inl h
    · by_cases c : o ∈ m
      · exact .inl c
      · exact .inr ⟨h, by simp [c]⟩
theorem ext_nodup {A B : Type} [DecidableEq B] {g : A → List B} {m : List B} {b : A} (hm : m.Nodup) (hg : (g b).Nodup) : (ext g m b).Nodup := by
  unfold ext
  refine List.nodup_append.mpr ⟨hm, hg.filter _, fun a ha c hc e => ?_⟩
  have := (List.mem_filter.mp hc).2
  subst e
  simp [ha] at this
theorem mem_exts {A B : Type} [DecidableEq B] {g : A → List B} : ∀ (l : List A) (m : List B) {o : B}, o ∈ l.foldl (ext g) m ↔ o ∈ m ∨ ∃ b ∈ l, o ∈ g b
  | [], m, o => by simp
  | b :: l, m, o => by
    rw [List.foldl_cons, mem_exts l, mem_ext]
    simp [or_assoc]
theorem exts_nodup {A B : Type} [DecidableEq B] {g : A → List B} : ∀ (l : List A) (m : List B), m.Nodup → (∀ b ∈ l, (g b).Nodup) → (l.foldl (ext g) m).Nodup
  | [], _, h, _ => h
  | b :: l, m, h, hg => by
    rw [List.foldl_cons]
    exact exts_nodup l _ (ext_nodup h (hg b List.mem_cons_self)) fun c hc => hg c (List.mem_cons_of_mem _ hc)
def exts2 {F A B : Type} [DecidableEq B] (t : F → List A) (g : A → List B) (fs : List F) (m : List B) : List B := fs.foldl (fun m f => (t f).foldl (ext g) m) m
theorem mem_exts2 {F A B : Type} [DecidableEq B] {t : F → List A} {g : A → List B} : ∀ (fs : List F) (m : List B) {o : B}, o ∈ exts2 t g fs m ↔ o ∈ m ∨ ∃ f ∈ fs, ∃ b ∈ t f, o ∈ g b
  | [], m, o => by simp [exts2]
  | f :: fs, m, o => by
    show o ∈ exts2 t g fs ((t f).foldl (ext g) m) ↔ _
    rw [mem_exts2 fs, mem_exts]
    simp [or_assoc]
theorem exts2_nodup {F A B : Type} [DecidableEq B] {t : F → List A} {g : A → List B} : ∀ (fs : List F) (m : List B), m.Nodup → (∀ f ∈ fs, ∀ b ∈ t f, (g b).Nodup) → (exts2 t g fs m).Nodup
  | [], _, h, _ => h
  | f :: fs, m, h, hg => by
    show (exts2 t g fs ((t f).foldl (ext g) m)).Nodup
    exact exts2_nodup fs _ (exts_nodup _ _ h fun b hb => hg f List.mem_cons_self b hb) fun f' hf' => hg f' (List.mem_cons_of_mem _ hf')
/-- all_of -/
def allOf (k : Kept) (fs : List Fact) (x : Nat) : List Basic := exts2 (tb x) k.bas fs []
/-- edges_of, ahead of sorted -/
def rawEdges (k : Kept) (fs : List Fact) (x y : Nat) : List Nat := exts2 (td x y) k.dirs fs []
/-- edges_of -/
def edgeL (d : Desk) (x y : Nat) : List Nat := roles.filter fun r => (between d x y).contains r
section
variable {rs : List Rule} {fs : List Fact} {k : Kept} {B : List Basic} {D : List Nat}
theorem mem_allOf (U : Ups rs k) (hf : okFacts fs) (x : Nat) (c : Basic) : c ∈ allOf k fs x ↔ c ∈ typeOf ⟨fs, rs⟩ x := by
  unfold allOf
  rw [mem_exts2, mem_typeOf (d := ⟨fs, rs⟩) U.ok hf]
  constructor
  · rintro (h | ⟨f, hf', b, hb, h⟩)
    · simp at h
    · exact ⟨f, hf', b, hb, (U.bM b (tb_basics (hf f hf') hb) c).mp h⟩
  · rintro ⟨f, hf', b, hb, h⟩
    exact .inr ⟨f, hf', b, hb, (U.bM b (tb_basics (hf f hf') hb) c).mpr h⟩
theorem allOf_nodup (U : Ups rs k) (hf : okFacts fs) (x : Nat) : (allOf k fs x).Nodup :=
  exts2_nodup fs [] List.nodup_nil fun f hf' b hb => U.bN b (tb_basics (hf f hf') hb)
theorem typeOf_basics (hr : okRules rs) (hf : okFacts fs) {x : Nat} {c : Basic} (h : c ∈ typeOf ⟨fs, rs⟩ x) : c ∈ basics := by
  obtain ⟨f, hf', b, hb, q⟩ := (mem_typeOf (d := ⟨fs, rs⟩) hr hf x c).mp h
  exact up_basics hr (l := [b]) (fun y hy => by rw [List.mem_singleton] at hy; rw [hy]; exact tb_basics (hf f hf') hb) q
theorem allOf_basics (U : Ups rs k) (hf : okFacts fs) {x : Nat} {c : Basic} (h : c ∈ allOf k fs x) : c ∈ basics := typeOf_basics U.ok hf ((mem_allOf U hf x c).mp h)
theorem allOf_len (U : Ups rs k) (hf : okFacts fs) (x : Nat) : (allOf k fs x).length ≤ 14 := nodup_len (U := basics) (allOf_nodup U hf x) fun _ h => allOf_basics U hf h
theorem mem_rawEdges (U : Ups rs k) (hf : okFacts fs) (x y : Nat) (s : Nat) : s ∈ rawEdges k fs x y ↔ s ∈ between ⟨fs, rs⟩ x y := by
  unfold rawEdges
  rw [mem_exts2, mem_between]
  constructor
  · rintro (h | ⟨f, hf', b, hb, h⟩)
    · simp at h
    · exact ⟨f, hf', b, hb, (U.dM b (td_roles (hf f hf') hb) s).mp h⟩
  · rintro ⟨f, hf', b, hb, h⟩
    exact .inr ⟨f, hf', b, hb, (U.dM b (td_roles (hf f hf') hb) s).mpr h⟩
theorem rawEdges_nodup (U : Ups rs k) (hf : okFacts fs) (x y : Nat) : (rawEdges k fs x y).Nodup :=
  exts2_nodup fs [] List.nodup_nil fun f hf' b hb => U.dN b (td_roles (hf f hf') hb)
theorem mem_edgeL (hr : okRules rs) (hf : okFacts fs) (x y : Nat) (s : Nat) : s ∈ edgeL ⟨fs, rs⟩ x y ↔ s ∈ between ⟨fs, rs⟩ x y := by
  unfold edgeL
  rw [List.mem_filter, List.contains_iff_mem]
  exact ⟨fun h => h.2, fun h => ⟨between_roles (d := ⟨fs, rs⟩) hr hf h, h⟩⟩
theorem edgeL_nodup (d : Desk) (x y : Nat) : (edgeL d x y).Nodup := roles_nodup.filter _
theorem edgeL_perm (U : Ups rs k) (hf : okFacts fs) (x y : Nat) : (rawEdges k fs x y).Perm (edgeL ⟨fs, rs⟩ x y) :=
  (List.perm_ext_iff_of_nodup (rawEdges_nodup U hf x y) (edgeL_nodup _ x y)).mpr fun s => by rw [mem_rawEdges U hf, mem_edgeL U.ok hf]
theorem rawEdges_len (U : Ups rs k) (hf : okFacts fs) (x y : Nat) : (rawEdges k fs x y).length ≤ 8 :=
  nodup_len (U := roles) (rawEdges_nodup U hf x y) fun _ h => between_roles (d := ⟨fs, rs⟩) U.ok hf ((mem_rawEdges U hf x y _).mp h)
/-! ### wrong ones -/
/-- is_wrong_being -/
def wrongBeing (rs : List Rule) (B l : List Basic) : Bool := neverBoth rs l || !(l.filter fun b => B.contains b).isEmpty
/-- are_wrong_edges -/
def wrongEdges (rs : List Rule) (D l : List Nat) : Bool := !(l.filter fun r => D.contains r).isEmpty || (roleForb rs l || roleForb rs (l.map turned))
theorem filter_some {A : Type} {p : A → Bool} {l : List A} : (!(l.filter p).isEmpty) = l.any p := by
  induction l with
  | nil => rfl
  | cons a l ih =>
    by_cases h : p a = true
    · rw [List.filter_cons_of_pos h, List.any_cons, h]; rfl
    · rw [List.filter_cons_of_neg h, ih, List.any_cons]
      have : p a = false := by simpa using h
      rw [this, Bool.false_or]
theorem wrongBeing_eq (F : Full rs B D) (l : List Basic) : wrongBeing rs B l = (neverBoth rs l || l.any fun b => (bad rs).contains b) := by
  unfold wrongBeing
  rw [filter_some]
  have : (fun b => B.contains b) = fun b => (bad rs).contains b := by
    funext b
    rw [Bool.eq_iff_iff, List.contains_iff_mem, List.contains_iff_mem]
    exact F.bM b
  rw [this]
theorem wrongEdges_eq (F : Full rs B D) {l : List Nat} (hl : ∀ r ∈ l, r ∈ roles) : wrongEdges rs D l = (neverRoles rs l || l.any fun r => badRole rs (bad rs) r) := by
  unfold wrongEdges
  rw [filter_some, ← neverRoles_eq, Bool.or_comm]
  have : (l.any fun r => D.contains r) = l.any fun r => badRole rs (bad rs) r := by
    rw [Bool.eq_iff_iff, List.any_eq_true, List.any_eq_true]
    constructor
    · rintro ⟨r, hr, h⟩
      exact ⟨r, hr, ((F.dM r).mp (List.contains_iff_mem.mp h)).2⟩
    · rintro ⟨r, hr, h⟩
      exact ⟨r, hr, List.contains_iff_mem.mpr ((F.dM r).mpr ⟨hl r hr, h⟩)⟩
  rw [this]
/-- is_wrong -/
def isWrong (rs : List Rule) (k : Kept) (B : List Basic) (D : List Nat) (fs : List Fact) (x : Nat) : Bool :=
  wrongBeing rs B (allOf k fs x) || nodes.any fun y => wrongEdges rs D (edgeL ⟨fs, rs⟩ x y)
theorem any_congr_mem {A : Type} {p : A → Bool} {l m : List A} (h : ∀ a, a ∈ l ↔ a ∈ m) : l.any p = m.any p := by
  rw [Bool.eq_iff_iff, List.any_eq_true, List.any_eq_true]
  simp only [h]
theorem isWrong_eq (U : Ups rs k) (F : Full rs B D) (hf : okFacts fs) (x : Nat) : isWrong rs k B D fs x = !fineBy (bad rs) ⟨fs, rs⟩ x := by
  have e1 : wrongBeing rs B (allOf k fs x) = (neverBoth rs (typeOf ⟨fs, rs⟩ x) || (typeOf ⟨fs, rs⟩ x).any fun b => (bad rs).contains b) := by
    rw [wrongBeing_eq F, neverBoth_congr (mem_allOf U hf x), any_congr_mem (mem_allOf U hf x)]
  have e2 : ∀ y, wrongEdges rs D (edgeL ⟨fs, rs⟩ x y) = (neverRoles rs (between ⟨fs, rs⟩ x y) || (between ⟨fs, rs⟩ x y).any fun r => badRole rs (bad rs) r) := fun y => by
    rw [wrongEdges_eq F (l := edgeL ⟨fs, rs⟩ x y) (fun r hr => (List.mem_filter.mp hr).1), neverRoles_congr (mem_edgeL U.ok hf x y), any_congr_mem (mem_edgeL U.ok hf x y)]
  unfold isWrong
  rw [e1]
  simp only [e2]
  unfold fineBy
  simp only [Bool.not_and, Bool.not_not, List.not_all_eq_any_not, Bool.or_assoc]
/-- wrong_nodes -/
def wrongL (d : Desk) : List Nat := nodes.filter fun x => !fineBy (bad d.rules) d x
theorem wrongL_eq (U : Ups rs k) (F : Full rs B D) (hf : okFacts fs) : nodes.filter (isWrong rs k B D fs) = wrongL ⟨fs, rs⟩ := by
  unfold wrongL
  congr 1
  funext x
  exact isWrong_eq U F hf x
theorem sound_eq (d : Desk) : (!sound d) = !(wrongL d).isEmpty := by
  unfold wrongL sound
  rw [filter_some, List.not_all_eq_any_not]
theorem wrongL_len (d : Desk) : (wrongL d).length ≤ 8 := Nat.le_trans (List.length_filter_le _ _) (Nat.le_refl 8)
/-- the program's refusals of truth -/
theorem certain_eq (U : Ups rs k) (hf : okFacts fs) (x : Nat) (b : Basic) : isCertain ⟨fs, rs⟩ x b = (!(wrongL ⟨fs, rs⟩).isEmpty || (allOf k fs x).contains b) := by
  unfold isCertain
  rw [sound_eq]
  congr 1
  rw [Bool.eq_iff_iff, List.contains_iff_mem, List.contains_iff_mem]
  exact (mem_allOf U hf x b).symm
theorem edges_eq (x y : Nat) : (roles.filter fun r => edgeCertain ⟨fs, rs⟩ x y r) = if (wrongL ⟨fs, rs⟩).isEmpty = true then edgeL ⟨fs, rs⟩ x y else roles := by
  unfold edgeCertain
  rw [sound_eq]
  by_cases c : (wrongL ⟨fs, rs⟩).isEmpty = true
  · rw [if_pos c, c]
    rfl
  · rw [if_neg c]
    have : (wrongL ⟨fs, rs⟩).isEmpty = false := by simpa using c
    rw [this]
    simp only [Bool.not_false, Bool.true_or]
    decide
end
end Wm

namespace Wm
open Gq03
/-! ### clashes -/
/-- the two things told can't be together -/
def bump (rs : List Rule) (f g : Fact) : Bool := !(wrongL ⟨[f, g], rs⟩).isEmpty
theorem bump_eq (d : Desk) (f g : Fact) : nodes.all (fineBy (bad d.rules) { d with facts := [f, g] }) = !bump d.rules f g := by
  show nodes.all (fineBy (bad d.rules) ⟨[f, g], d.rules⟩) = _
  unfold bump wrongL
  rw [filter_some, List.all_eq_not_any_not]
/-- the pairs with a first place one, in order -/
def pairsOf (rs : List Rule) (fs : List Fact) (i : Nat) : List (Nat × Nat) :=
  ((List.range' i (fs.length - i)).filter fun j => match fs[i]?, fs[j]? with
    | some f, some g => bump rs f g
    | _, _ => false).map fun j => (i, j)
def clashL (rs : List Rule) (fs : List Fact) : List (Nat × Nat) := (List.range fs.length).flatMap (pairsOf rs fs)
theorem mem_pairsOf {rs : List Rule} {fs : List Fact} {i : Nat} {p : Nat × Nat} : p ∈ pairsOf rs fs i ↔ p.1 = i ∧ p.1 ≤ p.2 ∧ ∃ f g, fs[p.1]? = some f ∧ fs[p.2]? = some g ∧ bump rs f g = true := by
  unfold pairsOf
  rw [List.mem_map]
  constructor
  · rintro ⟨j, hj, rfl⟩
    rw [List.mem_filter, List.mem_range'_1] at hj
    refine ⟨rfl, hj.1.1, ?_⟩
    have h := hj.2
    cases e1 : fs[i]? with
    | none => rw [e1] at h; simp at h
    | some f =>
      cases e2 : fs[j]? with
      | none => rw [e1, e2] at h; simp at h
      | some g =>
        rw [e1, e2] at h
        exact ⟨f, g, rfl, rfl, h⟩
  · rintro ⟨h1, h2, f, g, e1, e2, h3⟩
    refine ⟨p.2, ?_, by rw [← h1]⟩
    rw [List.mem_filter, List.mem_range'_1]
    have hlt := (List.getElem?_eq_some_iff.mp e2).1
    have hlt1 := (List.getElem?_eq_some_iff.mp e1).1
    refine ⟨⟨by omega, by omega⟩, ?_⟩
    rw [← h1, e1, e2]
    exact h3
theorem mem_clashL {rs : List Rule} {fs : List Fact} {p : Nat × Nat} : p ∈ clashL rs fs ↔ p.1 ≤ p.2 ∧ ∃ f g, fs[p.1]? = some f ∧ fs[p.2]? = some g ∧ bump rs f g = true := by
  unfold clashL
  rw [List.mem_flatMap]
  constructor
  · rintro ⟨i, _, h⟩
    exact (mem_pairsOf.mp h).2
  · intro h
    refine ⟨p.1, ?_, mem_pairsOf.mpr ⟨rfl, h⟩⟩
    obtain ⟨_, f, g, e1, _⟩ := h
    exact List.mem_range.mpr (List.getElem?_eq_some_iff.mp e1).1
theorem mem_zip_range {A : Type} {l : List A} {i : Nat} {a : A} : (i, a) ∈ (List.range l.length).zip l ↔ l[i]? = some a := by
  rw [List.mem_iff_getElem?]
  constructor
  · rintro ⟨n, h⟩
    rw [List.getElem?_zip_eq_some] at h
    obtain ⟨h1, h2⟩ := h
    have : n = i := by
      rw [List.getElem?_range (List.getElem?_eq_some_iff.mp h2).1] at h1
      exact Option.some.inj h1
    rw [← this]; exact h2
  · intro h
    refine ⟨i, List.getElem?_zip_eq_some.mpr ⟨?_, h⟩⟩
    exact List.getElem?_range (List.getElem?_eq_some_iff.mp h).1
theorem mem_clashes {d : Desk} {p : Nat × Nat} : p ∈ clashes d ↔ p ∈ clashL d.rules d.facts := by
  rw [mem_clashL]
  unfold clashes
  simp only
  rw [List.mem_flatMap]
  constructor
  · rintro ⟨a, ha, h⟩
    rw [List.mem_filterMap] at h
    obtain ⟨b, hb, h⟩ := h
    split at h
    · rename_i c
      obtain rfl := Option.some.inj h
      refine ⟨c.1, a.2, b.2, mem_zip_range.mp ha, mem_zip_range.mp hb, ?_⟩
      have := c.2
      rw [bump_eq] at this
      simpa using this
    · cases h
  · rintro ⟨h1, f, g, e1, e2, h3⟩
    refine ⟨(p.1, f), mem_zip_range.mpr e1, List.mem_filterMap.mpr ⟨(p.2, g), mem_zip_range.mpr e2, ?_⟩⟩
    have : p.1 ≤ p.2 ∧ nodes.all (fineBy (bad d.rules) { d with facts := [f, g] }) = false := ⟨h1, by rw [bump_eq, h3]; rfl⟩
    rw [if_pos this]
/-! ### rows of rising numbers -/
def beginOf (row : List Nat) : Nat := match row.getLast? with
  | some x => x + 1
  | none => 0
def longer (many : Nat) (row : List Nat) : List (List Nat) := (List.range' (beginOf row) (many - beginOf row)).map fun n => row ++ [n]
def rowsP (many : Nat) : Nat → List (List Nat)
  | 0 => [[]]
  | t + 1 => (rowsP many t).flatMap (longer many)
/-- the same from another beginning -/
def longerF (b many : Nat) (row : List Nat) : List (List Nat) := (List.range' (match row.getLast? with
  | some x => x + 1
  | none => b) (many - (match row.getLast? with
  | some x => x + 1
  | none => b))).map fun n => row ++ [n]
theorem longerF_cons (b many x : Nat) (row : List Nat) : longerF b many (x :: row) = (longerF (x + 1) many row).map fun c => x :: c := by
  unfold longerF
  cases e : row.getLast? with
  | none =>
    have : row = [] := by simpa using e
    subst this
    simp
  | some y =>
    have : (x :: row).getLast? = some y := by
      rw [List.getLast?_cons, e]; rfl
    rw [this]
    simp
theorem choices_more (m : Nat) : ∀ (n b : Nat) (t : Nat), (choices t (List.range' b n)).flatMap (longerF b (b + n)) = choices (t + 1) (List.range' b n)
  | 0, b, 0 => by simp [choices, longerF]
  | 0, b, t + 1 => by simp [choices]
  | n + 1, b, 0 => by
    have ih := choices_more m n (b + 1) 0
    simp only [choices, List.flatMap_cons, List.flatMap_nil, List.append_nil] at ih ⊢
    rw [List.range'_succ]
    simp only [choices, List.map_cons, List.map_nil]
    rw [← ih]
    unfold longerF
    simp only [List.getLast?_nil]
    have e1 : b + (n + 1) - b = n + 1 := by omega
    have e2 : b + 1 + n - (b + 1) = n := by omega
    rw [e1, e2, List.range'_succ]
    simp
  | n + 1, b, t + 1 => by
    have ih1 := choices_more m n (b + 1) t
    have ih2 := choices_more m n (b + 1) (t + 1)
    rw [List.range'_succ]
    show ((choices t (List.range' (b + 1) n)).map (fun c => b :: c) ++ choices (t + 1) (List.range' (b + 1) n)).flatMap (longerF b (b + (n + 1))) =
      (choices (t + 1) (List.range' (b + 1) n)).map (fun c => b :: c) ++ choices (t + 2) (List.range' (b + 1) n)
    rw [List.flatMap_append]
    congr 1
    · rw [← ih1, List.flatMap_map, List.map_flatMap]
      congr 1
      funext c
      have : b + (n + 1) = b + 1 + n := by omega
      rw [longerF_cons, this]
    · rw [← ih2]
      -- none of these rows is empty
      have ne : ∀ c ∈ choices (t + 1) (List.range' (b + 1) n), c ≠ [] := by
        intro c hc
        have : ∀ (k : Nat) (l : List Nat) (c : List Nat), c ∈ choices k l → c.length = k := by
          intro k l
          induction l generalizing k with
          | nil => intro c hc; cases k with
            | zero => simp [choices] at hc; simp [hc]
            | succ k => simp [choices] at hc
          | cons a l ihl => intro c hc; cases k with
            | zero => simp [choices] at hc; simp [hc]
            | succ k =>
              simp only [choices, List.mem_append, List.mem_map] at hc
              rcases hc with ⟨c', hc', rfl⟩ | hc
              · simp [ihl k c' hc']
              · exact ihl (k + 1) c hc
        intro e
        have := this _ _ _ hc
        rw [e] at this
        simp at this
      have same : ∀ c ∈ choices (t + 1) (List.range' (b + 1) n), longerF b (b + (n + 1)) c = longerF (b + 1) (b + 1 + n) c := by
        intro c hc
        have e : b + (n + 1) = b + 1 + n := by omega
        unfold longerF
        cases q : c.getLast? with
        | none => exact absurd (by simpa using q) (ne c hc)
        | some y => simp only [e]
      have fm : ∀ (l : List (List Nat)) (f g : List Nat → List (List Nat)), (∀ c ∈ l, f c = g c) → l.flatMap f = l.flatMap g := by
        intro l f g
        induction l with
        | nil => intro _; rfl
        | cons a l ihl =>
          intro h
          rw [List.flatMap_cons, List.flatMap_cons, h a List.mem_cons_self, ihl fun c hc => h c (List.mem_cons_of_mem _ hc)]
      exact fm _ _ _ same
theorem rowsP_eq (many : Nat) : ∀ t, rowsP many t = choices t (List.range many)
  | 0 => by simp [rowsP, choices]
  | t + 1 => by
    have := choices_more 0 many 0 t
    rw [← List.range_eq_range'] at this
    show (rowsP many t).flatMap (longer many) = _
    rw [rowsP_eq many t, ← this]
    congr 1
    funext row
    unfold longer longerF beginOf
    rw [Nat.zero_add]
theorem choices_len : ∀ (l : List Nat) (k : Nat) (c : List Nat), c ∈ choices k l → c.length = k
  | [], 0, c, h => by simp [choices] at h; simp [h]
  | [], k + 1, c, h => by simp [choices] at h
  | a :: l, 0, c, h => by simp [choices] at h; simp [h]
  | a :: l, k + 1, c, h => by
    simp only [choices, List.mem_append, List.mem_map] at h
    rcases h with ⟨c', hc', rfl⟩ | hc
    · simp [choices_len l k c' hc']
    · exact choices_len l (k + 1) c hc
theorem choices_many : ∀ (l : List Nat) (k : Nat), (choices k l).length ≤ 2 ^ l.length
  | [], 0 => by simp [choices]
  | [], k + 1 => by simp [choices]
  | a :: l, 0 => by
    simp only [choices, List.length_cons, List.length_nil]
    exact Nat.one_le_two_pow
  | a :: l, k + 1 => by
    have h1 := choices_many l k
    have h2 := choices_many l (k + 1)
    simp only [choices, List.length_append, List.length_map, List.length_cons, Nat.pow_succ]
    omega
theorem choices_all : ∀ (l : List Nat), choices l.length l = [l]
  | [] => rfl
  | a :: l => by
    have none : ∀ (l : List Nat) (k : Nat), l.length < k → choices k l = [] := by
      intro l
      induction l with
      | nil => intro k h; cases k with
        | zero => simp at h
        | succ k => rfl
      | cons a l ih => intro k h; cases k with
        | zero => simp at h
        | succ k =>
          simp only [choices, List.length_cons] at h ⊢
          rw [ih k (by omega), ih (k + 1) (by omega)]; rfl
    show (choices l.length l).map (fun c => a :: c) ++ choices (l.length + 1) l = [a :: l]
    rw [choices_all l, none l (l.length + 1) (by omega)]
    rfl
def hits (row : List Nat) (pairs : List (Nat × Nat)) : Bool := pairs.all fun p => row.contains p.1 || row.contains p.2
theorem all_congr_mem {A : Type} {p : A → Bool} {l m : List A} (h : ∀ a, a ∈ l ↔ a ∈ m) : l.all p = m.all p := by
  rw [Bool.eq_iff_iff, List.all_eq_true, List.all_eq_true]
  simp only [h]
/-- what the program looks for, size by size -/
def found (rs : List Rule) (fs : List Fact) (k : Nat) : Option (List Nat) := (rowsP fs.length k).find? fun c => hits c (clashL rs fs)
theorem fewest_eq (d : Desk) : fewest d = ((List.range (d.facts.length + 1)).findSome? (found d.rules d.facts)).getD [] := by
  unfold fewest
  simp only
  congr 2
  funext k
  unfold found
  rw [rowsP_eq]
  congr 1
  funext c
  exact all_congr_mem fun p => mem_clashes
theorem found_last (rs : List Rule) (fs : List Fact) : found rs fs fs.length = some (List.range fs.length) := by
  unfold found
  have e : choices fs.length (List.range fs.length) = [List.range fs.length] := by
    have := choices_all (List.range fs.length)
    rwa [List.length_range] at this
  rw [rowsP_eq, e, List.find?_cons]
  have : hits (List.range fs.length) (clashL rs fs) = true := by
    unfold hits
    rw [List.all_eq_true]
    intro p hp
    obtain ⟨_, f, g, e1, _⟩ := mem_clashL.mp hp
    rw [Bool.or_eq_true]
    exact .inl (List.contains_iff_mem.mpr (List.mem_range.mpr (List.getElem?_eq_some_iff.mp e1).1))
  rw [this]
/-- the size at which one is found, none ahead -/
theorem fewest_at {rs : List Rule} {fs : List Fact} {k : Nat} {row : List Nat} (hk : k ≤ fs.length) (h : found rs fs k = some row) (hn : ∀ j < k, found rs fs j = none) : fewest ⟨fs, rs⟩ = row := by
  rw [fewest_eq]
  have : (List.range (fs.length + 1)).findSome? (found rs fs) = some row := by
    have e : List.range (fs.length + 1) = List.range k ++ k :: List.range' (k + 1) (fs.length - k) := by
      rw [List.range_eq_range', List.range_eq_range', ← List.range'_succ]
      have : fs.length + 1 = k + (fs.length - k + 1) := by omega
      rw [this, ← List.range'_append_1, Nat.zero_add]
    rw [e, List.findSome?_append]
    have n1 : (List.range k).findSome? (found rs fs) = none := by
      rw [List.findSome?_eq_none_iff]
      intro j hj
      exact hn j (List.mem_range.mp hj)
    rw [n1, List.findSome?_cons, h]
    rfl
  show (Option.getD ((List.range (fs.length + 1)).findSome? (found rs fs)) []) = row
  rw [this]
  rfl
end Wm

namespace Wm
/-! ### the program's closing: one item after another -/
structure Bfs {A : Type} [DecidableEq A] (f : A → List A) (U : List A) (x : A) (n : Nat) (l : List A) : Prop where
  le : n ≤ l.length
  nd : l.Nodup
  sub : ∀ y ∈ l, y ∈ U
  mem : x ∈ l
  rch : ∀ y ∈ l, Reach f x y
  done : ∀ j, j < n → ∀ y, l[j]? = some y → ∀ z ∈ f y, z ∈ l
section
variable {A : Type} [DecidableEq A] {f : A → List A} {U : List A} {x : A} {n : Nat} {l : List A}
theorem Bfs.start (hx : x ∈ U) : Bfs f U x 0 [x] :=
  ⟨Nat.zero_le _, by simp, fun y hy => by rw [List.mem_singleton] at hy; rw [hy]; exact hx, by simp, fun y hy => by rw [List.mem_singleton] at hy; rw [hy]; exact .refl, fun j hj => absurd hj (Nat.not_lt_zero _)⟩
theorem Bfs.len (b : Bfs f U x n l) : l.length ≤ U.length := nodup_len b.nd b.sub
theorem put1_pre (m : List A) (y : A) : ∃ r, put1 m y = m ++ r := by
  unfold put1
  split
  · exact ⟨[], by simp⟩
  · exact ⟨[y], rfl⟩
theorem puts_pre : ∀ (l m : List A), ∃ r, l.foldl put1 m = m ++ r
  | [], m => ⟨[], by simp⟩
  | y :: l, m => by
    obtain ⟨r, h⟩ := put1_pre m y
    obtain ⟨r', h'⟩ := puts_pre l (put1 m y)
    refine ⟨r ++ r', ?_⟩
    rw [List.foldl_cons, h', h, List.append_assoc]
theorem Bfs.turn (hU : ∀ x ∈ U, ∀ y ∈ f x, y ∈ U) (b : Bfs f U x n l) {y : A} (hy : l[n]? = some y) : Bfs f U x (n + 1) ((f y).foldl put1 l) := by
  have hyl : y ∈ l := List.mem_of_getElem? hy
  have hn : n < l.length := (List.getElem?_eq_some_iff.mp hy).1
  have hlen := puts_len (f y) l
  refine ⟨by omega, puts_nodup _ b.nd, fun z hz => ?_, (mem_puts _ _).mpr (.inl b.mem), fun z hz => ?_, fun j hj z hz t ht => ?_⟩
  · rcases (mem_puts _ _).mp hz with h | h
    · exact b.sub z h
    · exact hU y (b.sub y hyl) z h
  · rcases (mem_puts _ _).mp hz with h | h
    · exact b.rch z h
    · exact .step (b.rch y hyl) h
  · obtain ⟨r, e⟩ := puts_pre (f y) l
    rw [e, List.getElem?_append_left (by omega)] at hz
    by_cases c : j = n
    · subst c
      rw [hy] at hz
      obtain rfl := Option.some.inj hz
      exact (mem_puts _ _).mpr (.inr ht)
    · exact (mem_puts _ _).mpr (.inl (b.done j (by omega) z hz t ht))
theorem Bfs.fin (b : Bfs f U x n l) (h : l.length ≤ n) (y : A) : y ∈ l ↔ Reach f x y :=
  reach_of_closed b.mem b.rch (fun z hz t ht => by
    obtain ⟨j, hj⟩ := List.mem_iff_getElem?.mp hz
    have := (List.getElem?_eq_some_iff.mp hj).1
    exact b.done j (by omega) z hj t ht) y
theorem put1_lenle (m : List A) (y : A) : (put1 m y).length ≤ m.length + 1 := by
  unfold put1
  split
  · omega
  · simp
theorem puts_lenle : ∀ (l m : List A), (l.foldl put1 m).length ≤ m.length + l.length
  | [], m => Nat.le_refl _
  | y :: l, m => by
    rw [List.foldl_cons]
    have h1 := puts_lenle l (put1 m y)
    have h2 := put1_lenle m y
    rw [List.length_cons]
    omega
end
end Wm

namespace Wm
open Gq03
/-! ### places and steps -/
def allAt (k : Kept) (fs : List Fact) (p : Nat × List Nat) : List Basic := match p.2.getLast? with
  | none => allOf k fs p.1
  | some r => k.bas (.has (turned r))
def toldAhead (d : Desk) (k : Kept) (p : Nat × List Nat) (t : Nat) : List (Nat × List Nat) := match p.2.getLast? with
  | none => (nodes.filter fun y => (edgeL d p.1 y).contains t).map fun y => (y, [])
  | some r => if (k.dirs (turned r)).contains t = true then [(p.1, p.2.dropLast)] else []
def onward (k : Kept) (p : Nat × List Nat) (t : Nat) (b : Basic) : List (Nat × List Nat) := match b with
  | .has s => if (k.dirs s).contains t = true then [(p.1, p.2 ++ [s])] else []
  | .kind _ => []
def ahead (d : Desk) (k : Kept) (p : Nat × List Nat) (t : Nat) : List (Nat × List Nat) := toldAhead d k p t ++ (allAt k d.facts p).flatMap (onward k p t)
def isOf (k : Kept) (fs : List Fact) (p : Nat × List Nat) (kind : Nat) : Bool := decide (kind = 0) || (allAt k fs p).contains (.kind kind)
/-- one place more, where it is of the kind -/
def putIf (k : Kept) (fs : List Fact) (kind : Nat) (m : List (Nat × List Nat)) (z : Nat × List Nat) : List (Nat × List Nat) := if isOf k fs z kind = true then put1 m z else m
def stepL (d : Desk) (k : Kept) (q : Nat × Nat) (ps : List (Nat × List Nat)) : List (Nat × List Nat) := ps.foldl (fun m p => (ahead d k p q.1).foldl (putIf k d.facts q.2) m) []
def leadL (d : Desk) (k : Kept) (steps : List (Nat × Nat)) (ps : List (Nat × List Nat)) : List (Nat × List Nat) := steps.foldl (fun ps q => stepL d k q ps) ps
structure Good (p : Nat × List Nat) : Prop where
  node : p.1 ∈ nodes
  path : ∀ r ∈ p.2, r ∈ roles
def pos (p : Nat × List Nat) : Pos := (p.1, p.2.reverse)
theorem mem_putIfs {k : Kept} {fs : List Fact} {kind : Nat} : ∀ (l m : List (Nat × List Nat)) {z : Nat × List Nat}, z ∈ l.foldl (putIf k fs kind) m ↔ z ∈ m ∨ (z ∈ l ∧ isOf k fs z kind = true)
  | [], m, z => by simp
  | y :: l, m, z => by
    rw [List.foldl_cons, mem_putIfs l]
    unfold putIf
    by_cases c : isOf k fs y kind = true
    · rw [if_pos c, mem_put1, List.mem_cons]
      constructor
      · rintro ((h | rfl) | h)
        · exact .inl h
        · exact .inr ⟨.inl rfl, c⟩
        · exact .inr ⟨.inr h.1, h.2⟩
      · rintro (h | ⟨rfl | h, e⟩)
        · exact .inl (.inl h)
        · exact .inl (.inr rfl)
        · exact .inr ⟨h, e⟩
    · rw [if_neg c, List.mem_cons]
      constructor
      · rintro (h | h)
        · exact .inl h
        · exact .inr ⟨.inr h.1, h.2⟩
      · rintro (h | ⟨rfl | h, e⟩)
        · exact .inl h
        · exact absurd e c
        · exact .inr ⟨h, e⟩
theorem mem_steps {d : Desk} {k : Kept} {q : Nat × Nat} : ∀ (ps m : List (Nat × List Nat)) {z : Nat × List Nat}, z ∈ ps.foldl (fun m p => (ahead d k p q.1).foldl (putIf k d.facts q.2) m) m ↔ z ∈ m ∨ ∃ p ∈ ps, z ∈ ahead d k p q.1 ∧ isOf k d.facts z q.2 = true
  | [], m, z => by simp
  | y :: l, m, z => by
    rw [List.foldl_cons, mem_steps l, mem_putIfs]
    simp [or_assoc]
theorem mem_stepL {d : Desk} {k : Kept} {q : Nat × Nat} {ps : List (Nat × List Nat)} {z : Nat × List Nat} : z ∈ stepL d k q ps ↔ ∃ p ∈ ps, z ∈ ahead d k p q.1 ∧ isOf k d.facts z q.2 = true := by
  unfold stepL
  rw [mem_steps]
  simp
theorem range_getD {A : Type} (f : Nat → A) (n i : Nat) (x : A) (h : i < n) : ((List.range n).map f).getD i x = f i := by
  rw [List.getD_eq_getElem?_getD, List.getElem?_map, List.getElem?_range h]
  rfl
theorem role_lt {r : Nat} (h : r ∈ roles) : r < 10 := by
  simp only [roles, List.mem_cons, List.not_mem_nil, or_false] at h
  omega
theorem node_lt {x : Nat} (h : x ∈ nodes) : x < 9 := by
  simp only [nodes, List.mem_cons, List.not_mem_nil, or_false] at h
  omega
section
variable {d : Desk} {k : Kept} {B : List Basic} {D : List Nat}
theorem allAt_type (U : Ups d.rules k) (hf : okFacts d.facts) {p : Nat × List Nat} (g : Good p) (c : Basic) : c ∈ allAt k d.facts p ↔ c ∈ typeIn (bookOf d) (pos p) := by
  unfold allAt pos
  cases e : p.2.getLast? with
  | none =>
    have : p.2 = [] := by simpa using e
    simp only
    rw [this]
    show _ ↔ c ∈ ((List.range 9).map (typeOf d)).getD p.1 []
    rw [range_getD _ _ _ _ (node_lt g.node)]
    exact mem_allOf (rs := d.rules) U hf p.1 c
  | some r =>
    obtain ⟨ys, e2⟩ := List.getLast?_eq_some_iff.mp e
    have hr : r ∈ roles := g.path r (by rw [e2]; simp)
    have hr' := turned_mem hr
    simp only
    rw [e2, List.reverse_append]
    show _ ↔ c ∈ ((List.range 10).map fun r => up d.rules [.has r]).getD (turned r) []
    rw [range_getD _ _ _ _ (role_lt hr')]
    exact U.bM _ (has_mem.mpr hr') c
theorem allAt_basics (U : Ups d.rules k) (hf : okFacts d.facts) {p : Nat × List Nat} (g : Good p) {c : Basic} (h : c ∈ allAt k d.facts p) : c ∈ basics := by
  unfold allAt at h
  cases e : p.2.getLast? with
  | none =>
    rw [e] at h
    exact allOf_basics (rs := d.rules) U hf h
  | some r =>
    rw [e] at h
    obtain ⟨ys, e2⟩ := List.getLast?_eq_some_iff.mp e
    have hr : r ∈ roles := g.path r (by rw [e2]; simp)
    exact U.bmem (has_mem.mpr (turned_mem hr)) h
theorem allAt_len (U : Ups d.rules k) (hf : okFacts d.facts) {p : Nat × List Nat} (g : Good p) : (allAt k d.facts p).length ≤ 14 := by
  unfold allAt
  cases e : p.2.getLast? with
  | none => exact allOf_len (rs := d.rules) U hf p.1
  | some r =>
    obtain ⟨ys, e2⟩ := List.getLast?_eq_some_iff.mp e
    have hr : r ∈ roles := g.path r (by rw [e2]; simp)
    exact U.blen (has_mem.mpr (turned_mem hr))
theorem isOf_type (U : Ups d.rules k) (hf : okFacts d.facts) {p : Nat × List Nat} (g : Good p) (kind : Nat) : isOf k d.facts p kind = (kind == 0 || (typeIn (bookOf d) (pos p)).contains (.kind kind)) := by
  unfold isOf
  congr 1
  rw [Bool.eq_iff_iff, List.contains_iff_mem, List.contains_iff_mem]
  exact allAt_type U hf g _
theorem mem_onward {p z : Nat × List Nat} {t : Nat} {b : Basic} : z ∈ onward k p t b ↔ ∃ s, b = .has s ∧ t ∈ k.dirs s ∧ z = (p.1, p.2 ++ [s]) := by
  cases b with
  | kind j => simp [onward]
  | has s =>
    unfold onward
    simp only [Basic.has.injEq]
    by_cases c : t ∈ k.dirs s
    · rw [if_pos (List.contains_iff_mem.mpr c), List.mem_singleton]
      constructor
      · intro h; exact ⟨s, rfl, c, h⟩
      · rintro ⟨s', rfl, _, h⟩; exact h
    · rw [if_neg (fun q => c (List.contains_iff_mem.mp q))]
      constructor
      · intro h; simp at h
      · rintro ⟨s', rfl, h, _⟩; exact absurd h c
theorem ahead_good (U : Ups d.rules k) (hf : okFacts d.facts) {p z : Nat × List Nat} {t : Nat} (g : Good p) (h : z ∈ ahead d k p t) : Good z := by
  unfold ahead at h
  rcases List.mem_append.mp h with h | h
  · unfold toldAhead at h
    cases e : p.2.getLast? with
    | none =>
      rw [e] at h
      obtain ⟨y, hy, rfl⟩ := List.mem_map.mp h
      exact ⟨(List.mem_filter.mp hy).1, by simp⟩
    | some r =>
      rw [e] at h
      simp only at h
      split at h
      · rw [List.mem_singleton] at h
        subst h
        exact ⟨g.node, fun r hr => g.path r (List.dropLast_subset _ hr)⟩
      · simp at h
  · obtain ⟨b, hb, h⟩ := List.mem_flatMap.mp h
    obtain ⟨s, rfl, _, rfl⟩ := mem_onward.mp h
    refine ⟨g.node, fun r hr => ?_⟩
    rcases List.mem_append.mp hr with hr | hr
    · exact g.path r hr
    · rw [List.mem_singleton] at hr
      subst hr
      exact has_mem.mp (allAt_basics U hf g hb)
theorem mem_goesIn (U : Ups d.rules k) (hf : okFacts d.facts) {p : Nat × List Nat} (g : Good p) (t : Nat) (z' : Pos) : z' ∈ goesIn (bookOf d) (pos p) t ↔ ∃ z ∈ ahead d k p t, z' = pos z := by
  have onw : ∀ s, s ∈ roles → (t ∈ k.dirs s ↔ ((bookOf d).above.getD s []).contains t = true) := fun s hs => by
    show _ ↔ (((List.range 10).map (upRole d.rules)).getD s []).contains t = true
    rw [range_getD _ _ _ _ (role_lt hs), List.contains_iff_mem]
    exact U.dM s hs t
  have second : (∃ s ∈ roles, (typeIn (bookOf d) (pos p)).contains (.has s) = true ∧ ((bookOf d).above.getD s []).contains t = true ∧ z' = (p.1, s :: (pos p).2)) ↔ ∃ z ∈ (allAt k d.facts p).flatMap (onward k p t), z' = pos z := by
    constructor
    · rintro ⟨s, hs, h1, h2, rfl⟩
      refine ⟨(p.1, p.2 ++ [s]), List.mem_flatMap.mpr ⟨.has s, (allAt_type U hf g _).mpr (List.contains_iff_mem.mp h1), mem_onward.mpr ⟨s, rfl, (onw s hs).mpr h2, rfl⟩⟩, ?_⟩
      unfold pos
      simp
    · rintro ⟨z, hz, rfl⟩
      obtain ⟨b, hb, h⟩ := List.mem_flatMap.mp hz
      obtain ⟨s, rfl, hs, rfl⟩ := mem_onward.mp h
      have hsr := has_mem.mp (allAt_basics U hf g hb)
      refine ⟨s, hsr, List.contains_iff_mem.mpr ((allAt_type U hf g _).mp hb), (onw s hsr).mp hs, ?_⟩
      unfold pos
      simp
  have secondS : z' ∈ (roles.filter fun s => (typeIn (bookOf d) (pos p)).contains (.has s) && ((bookOf d).above.getD s []).contains t).map (fun s => ((pos p).1, s :: (pos p).2)) ↔ ∃ s ∈ roles, (typeIn (bookOf d) (pos p)).contains (.has s) = true ∧ ((bookOf d).above.getD s []).contains t = true ∧ z' = (p.1, s :: (pos p).2) := by
    rw [List.mem_map]
    constructor
    · rintro ⟨s, hs, e⟩
      rw [List.mem_filter, Bool.and_eq_true] at hs
      exact ⟨s, hs.1, hs.2.1, hs.2.2, e.symm⟩
    · rintro ⟨s, h1, h2, h3, e⟩
      exact ⟨s, List.mem_filter.mpr ⟨h1, by rw [h2, h3]; rfl⟩, e.symm⟩
  have split : ∀ (X : Prop), (z' ∈ goesIn (bookOf d) (pos p) t ↔ X ∨ z' ∈ (roles.filter fun s => (typeIn (bookOf d) (pos p)).contains (.has s) && ((bookOf d).above.getD s []).contains t).map (fun s => ((pos p).1, s :: (pos p).2))) →
      (X ↔ ∃ z ∈ toldAhead d k p t, z' = pos z) → (z' ∈ goesIn (bookOf d) (pos p) t ↔ ∃ z ∈ ahead d k p t, z' = pos z) := fun X h1 h2 => by
    rw [h1, h2, secondS, second]
    unfold ahead
    constructor
    · rintro (⟨z, hz, e⟩ | ⟨z, hz, e⟩)
      · exact ⟨z, List.mem_append.mpr (.inl hz), e⟩
      · exact ⟨z, List.mem_append.mpr (.inr hz), e⟩
    · rintro ⟨z, hz, e⟩
      rcases List.mem_append.mp hz with hz | hz
      · exact .inl ⟨z, hz, e⟩
      · exact .inr ⟨z, hz, e⟩
  cases e : p.2.getLast? with
  | none =>
    have e0 : p.2 = [] := by simpa using e
    refine split (z' ∈ (nodes.filter fun y => (((bookOf d).dirs.getD p.1 []).getD y []).contains t).map fun y => (y, [])) ?_ ?_
    · unfold goesIn
      rw [List.mem_append]
      have : (pos p).2 = [] := by unfold pos; rw [e0]; rfl
      rw [this]
      exact Iff.rfl
    · rw [List.mem_map]
      unfold toldAhead
      rw [e]
      simp only
      have key : ∀ y ∈ nodes, (((bookOf d).dirs.getD p.1 []).getD y []).contains t = (edgeL d p.1 y).contains t := fun y hy => by
        show ((((List.range 9).map fun x => (List.range 9).map fun y => between d x y).getD p.1 []).getD y []).contains t = _
        rw [range_getD _ _ _ _ (node_lt g.node), range_getD _ _ _ _ (node_lt hy), Bool.eq_iff_iff, List.contains_iff_mem, List.contains_iff_mem]
        exact (mem_edgeL (rs := d.rules) U.ok hf p.1 y t).symm
      constructor
      · rintro ⟨y, hy, rfl⟩
        have := List.mem_filter.mp hy
        exact ⟨(y, []), List.mem_map.mpr ⟨y, List.mem_filter.mpr ⟨this.1, by rw [← key y this.1]; exact this.2⟩, rfl⟩, rfl⟩
      · rintro ⟨z, hz, rfl⟩
        obtain ⟨y, hy, rfl⟩ := List.mem_map.mp hz
        have := List.mem_filter.mp hy
        exact ⟨y, List.mem_filter.mpr ⟨this.1, by rw [key y this.1]; exact this.2⟩, rfl⟩
  | some r =>
    obtain ⟨ys, e2⟩ := List.getLast?_eq_some_iff.mp e
    have hr : r ∈ roles := g.path r (by rw [e2]; simp)
    have hr' := turned_mem hr
    have ep : (pos p).2 = r :: ys.reverse := by unfold pos; rw [e2]; simp
    refine split (z' ∈ if ((bookOf d).above.getD (turned r) []).contains t = true then [(p.1, ys.reverse)] else []) ?_ ?_
    · unfold goesIn
      rw [List.mem_append, ep]
      exact Iff.rfl
    · unfold toldAhead
      rw [e]
      simp only
      have dl : p.2.dropLast = ys := by rw [e2]; simp
      rw [dl]
      by_cases c : t ∈ k.dirs (turned r)
      · rw [if_pos ((onw _ hr').mp c), if_pos (List.contains_iff_mem.mpr c)]
        simp [pos]
      · rw [if_neg (fun q => c ((onw _ hr').mpr q)), if_neg (fun q => c (List.contains_iff_mem.mp q))]
        simp
theorem lead_iff (U : Ups d.rules k) (hf : okFacts d.facts) : ∀ (steps : List (Nat × Nat)) (ps : List (Nat × List Nat)), (∀ p ∈ ps, Good p) → ((∃ z, z ∈ leadL d k steps ps) ↔ ∃ p ∈ ps, leadsIn (bookOf d) (pos p) steps = true)
  | [], ps, _ => by
    show (∃ z, z ∈ ps) ↔ ∃ p ∈ ps, leadsIn (bookOf d) (pos p) [] = true
    constructor
    · rintro ⟨z, hz⟩; exact ⟨z, hz, by unfold leadsIn; rfl⟩
    · rintro ⟨z, hz, _⟩; exact ⟨z, hz⟩
  | q :: l, ps, hg => by
    have hg' : ∀ z ∈ stepL d k q ps, Good z := fun z hz => by
      obtain ⟨p, hp, hz, _⟩ := mem_stepL.mp hz
      exact ahead_good U hf (hg p hp) hz
    show (∃ z, z ∈ leadL d k l (stepL d k q ps)) ↔ _
    rw [lead_iff U hf l _ hg']
    constructor
    · rintro ⟨z, hz, h⟩
      obtain ⟨p, hp, hza, hzo⟩ := mem_stepL.mp hz
      refine ⟨p, hp, ?_⟩
      rw [leadsIn, List.any_eq_true]
      refine ⟨pos z, (mem_goesIn U hf (hg p hp) q.1 _).mpr ⟨z, hza, rfl⟩, ?_⟩
      rw [Bool.and_eq_true]
      exact ⟨by rw [← isOf_type U hf (hg' z hz)]; exact hzo, h⟩
    · rintro ⟨p, hp, h⟩
      rw [leadsIn, List.any_eq_true] at h
      obtain ⟨z', hz', h⟩ := h
      obtain ⟨z, hz, rfl⟩ := (mem_goesIn U hf (hg p hp) q.1 _).mp hz'
      rw [Bool.and_eq_true] at h
      refine ⟨z, mem_stepL.mpr ⟨p, hp, hz, ?_⟩, h.2⟩
      rw [isOf_type U hf (ahead_good U hf (hg p hp) hz)]
      exact h.1
/-- leads -/
theorem lead_eq (U : Ups d.rules k) (hf : okFacts d.facts) {x : Nat} (hx : x ∈ nodes) (steps : List (Nat × Nat)) : (!(leadL d k steps [(x, [])]).isEmpty) = leadsIn (bookOf d) (x, []) steps := by
  have := lead_iff U hf steps [(x, [])] (fun p hp => by rw [List.mem_singleton] at hp; subst hp; exact ⟨hx, by simp⟩)
  rw [Bool.eq_iff_iff]
  constructor
  · intro h
    have ne : leadL d k steps [(x, [])] ≠ [] := by simpa using h
    obtain ⟨z, hz⟩ := List.exists_mem_of_ne_nil _ ne
    obtain ⟨p, hp, h⟩ := this.mp ⟨z, hz⟩
    rw [List.mem_singleton] at hp
    subst hp
    exact h
  · intro h
    obtain ⟨z, hz⟩ := this.mpr ⟨(x, []), by simp, h⟩
    have ne : leadL d k steps [(x, [])] ≠ [] := fun e => by rw [e] at hz; simp at hz
    simpa using ne
theorem chain_eq (U : Ups d.rules k) (hf : okFacts d.facts) {x : Nat} (hx : x ∈ nodes) (steps : List (Nat × Nat)) : chainCertain d x steps = (!(wrongL d).isEmpty || !(leadL d k steps [(x, [])]).isEmpty) := by
  unfold chainCertain
  rw [sound_eq, lead_eq U hf hx]
theorem allCertain_eq (U : Ups d.rules k) (hf : okFacts d.facts) (steps : List (Nat × Nat)) : allCertain d steps = if (wrongL d).isEmpty = true then nodes.filter (fun x => !(leadL d k steps [(x, [])]).isEmpty) else nodes := by
  unfold allCertain
  simp only
  rw [sound_eq]
  by_cases c : (wrongL d).isEmpty = true
  · rw [if_pos c, c]
    simp only [Bool.not_true, Bool.false_or]
    exact List.filter_congr fun x hx => (lead_eq U hf hx steps).symm
  · rw [if_neg c]
    have : (wrongL d).isEmpty = false := by simpa using c
    rw [this]
    simp only [Bool.not_false, Bool.true_or]
    decide
/-! sizes -/
theorem ahead_len (U : Ups d.rules k) (hf : okFacts d.facts) {p : Nat × List Nat} (g : Good p) (t : Nat) : (ahead d k p t).length ≤ 22 := by
  unfold ahead
  rw [List.length_append]
  have h1 : (toldAhead d k p t).length ≤ 8 := by
    unfold toldAhead
    cases p.2.getLast? with
    | none => simp only; rw [List.length_map]; exact List.length_filter_le _ _
    | some r => simp only; split <;> simp
  have h2 : ∀ l : List Basic, (l.flatMap (onward k p t)).length ≤ l.length := by
    intro l
    induction l with
    | nil => simp
    | cons b l ih =>
      have : (onward k p t b).length ≤ 1 := by
        cases b with
        | kind j => simp [onward]
        | has s => unfold onward; simp only; split <;> simp
      rw [List.flatMap_cons, List.length_append, List.length_cons]
      omega
  have h3 := h2 (allAt k d.facts p)
  have h4 := allAt_len U hf g
  omega
theorem putIfs_len {fs : List Fact} {kind : Nat} : ∀ (l m : List (Nat × List Nat)), (l.foldl (putIf k fs kind) m).length ≤ m.length + l.length
  | [], m => Nat.le_refl _
  | y :: l, m => by
    rw [List.foldl_cons]
    have h1 := putIfs_len (fs := fs) (kind := kind) l (putIf k fs kind m y)
    have h2 : (putIf k fs kind m y).length ≤ m.length + 1 := by
      unfold putIf
      split
      · exact put1_lenle m y
      · omega
    rw [List.length_cons]
    omega
theorem steps_len (U : Ups d.rules k) (hf : okFacts d.facts) {q : Nat × Nat} : ∀ (ps m : List (Nat × List Nat)), (∀ p ∈ ps, Good p) → (ps.foldl (fun m p => (ahead d k p q.1).foldl (putIf k d.facts q.2) m) m).length ≤ m.length + 22 * ps.length
  | [], m, _ => by simp
  | y :: l, m, hg => by
    rw [List.foldl_cons]
    have h1 := steps_len (q := q) U hf l ((ahead d k y q.1).foldl (putIf k d.facts q.2) m) fun p hp => hg p (List.mem_cons_of_mem _ hp)
    have h2 := putIfs_len (k := k) (fs := d.facts) (kind := q.2) (ahead d k y q.1) m
    have h3 := ahead_len U hf (hg y List.mem_cons_self) q.1
    rw [List.length_cons]
    omega
theorem step_good (U : Ups d.rules k) (hf : okFacts d.facts) {q : Nat × Nat} {ps : List (Nat × List Nat)} (hg : ∀ p ∈ ps, Good p) : ∀ z ∈ stepL d k q ps, Good z := fun z hz => by
  obtain ⟨p, hp, hz, _⟩ := mem_stepL.mp hz
  exact ahead_good U hf (hg p hp) hz
end
end Wm

namespace Wm
open Gq03
/-! ### what rules say by themselves -/
def joinL {A : Type} [DecidableEq A] (a b : List A) : List A := a ++ b.filter fun x => !a.contains x
theorem mem_joinL {A : Type} [DecidableEq A] {a b : List A} {x : A} : x ∈ joinL a b ↔ x ∈ a ∨ x ∈ b := by
  unfold joinL
  rw [List.mem_append, List.mem_filter]
  constructor
  · rintro (h | h)
    · exact .inl h
    · exact .inr h.1
  · rintro (h | h)
    · exact .inl h
    · by_cases c : x ∈ a
      · exact .inl c
      · exact .inr ⟨h, by simp [c]⟩
theorem joinL_len {A : Type} [DecidableEq A] (a b : List A) : (joinL a b).length ≤ a.length + b.length := by
  unfold joinL
  rw [List.length_append]
  have := List.length_filter_le (fun x => !a.contains x) b
  omega
section
variable {rs : List Rule} {k : Kept} {B : List Basic} {D : List Nat}
theorem follows_eq (U : Ups rs k) (F : Full rs B D) {b : Basic} (hb : b ∈ basics) (c : Basic) : ((k.bas b).contains c || B.contains b) = Gq03.follows rs b c := by
  unfold Gq03.follows
  have e1 : (k.bas b).contains c = (up rs [b]).contains c := by
    rw [Bool.eq_iff_iff, List.contains_iff_mem, List.contains_iff_mem]; exact U.bM b hb c
  have e2 : B.contains b = (bad rs).contains b := by
    rw [Bool.eq_iff_iff, List.contains_iff_mem, List.contains_iff_mem]; exact F.bM b
  rw [e1, e2]
theorem two_basics {b c : Basic} (hb : b ∈ basics) (hc : c ∈ basics) : ∀ x ∈ [b, c], x ∈ basics := fun x hx => by
  rcases List.mem_cons.mp hx with rfl | hx
  · exact hb
  · rw [List.mem_singleton] at hx; rw [hx]; exact hc
theorem mem_join_up (U : Ups rs k) {b c : Basic} (hb : b ∈ basics) (hc : c ∈ basics) (x : Basic) : x ∈ joinL (k.bas b) (k.bas c) ↔ x ∈ up rs [b, c] := by
  rw [mem_joinL, U.bM b hb, U.bM c hc, mem_up_one U.ok (two_basics hb hc)]
  simp
/-- never_both -/
def nevB (rs : List Rule) (k : Kept) (B : List Basic) (b c : Basic) : Bool := wrongBeing rs B (joinL (k.bas b) (k.bas c))
theorem nevB_eq (U : Ups rs k) (F : Full rs B D) {b c : Basic} (hb : b ∈ basics) (hc : c ∈ basics) : nevB rs k B b c = ((bad rs).contains b || ((bad rs).contains c || neverBoth rs (up rs [b, c]))) := by
  unfold nevB
  rw [wrongBeing_eq F, neverBoth_congr (mem_join_up U hb hc)]
  rw [Bool.eq_iff_iff, Bool.or_eq_true, Bool.or_eq_true, Bool.or_eq_true, List.any_eq_true]
  constructor
  · rintro (h | ⟨x, hx, h⟩)
    · exact .inr (.inr h)
    · have hxb := List.contains_iff_mem.mp h
      rcases mem_joinL.mp hx with hx | hx
      · exact .inl (List.contains_iff_mem.mpr (bad_up hb ((U.bM b hb x).mp hx) hxb))
      · exact .inr (.inl (List.contains_iff_mem.mpr (bad_up hc ((U.bM c hc x).mp hx) hxb)))
  · rintro (h | h | h)
    · exact .inr ⟨b, mem_joinL.mpr (.inl ((U.bM b hb b).mpr (up_self U.ok hb))), h⟩
    · exact .inr ⟨c, mem_joinL.mpr (.inr ((U.bM c hc c).mpr (up_self U.ok hc))), h⟩
    · exact .inl h
/-- never_both_ways -/
def nevW (rs : List Rule) (k : Kept) (B : List Basic) (D : List Nat) (r s : Nat) : Bool := wrongEdges rs D (joinL (k.dirs r) (k.dirs s)) || (nevB rs k B (.has r) (.has s) || nevB rs k B (.has (turned r)) (.has (turned s)))
theorem upRole_self (h : okRules rs) {r : Nat} (hr : r ∈ roles) : r ∈ upRole rs r := (mem_upRole h hr r).mpr .refl
theorem nevW_eq (U : Ups rs k) (F : Full rs B D) {r s : Nat} (hr : r ∈ roles) (hs : s ∈ roles) : nevW rs k B D r s = (badRole rs (bad rs) r || (badRole rs (bad rs) s || (neverRoles rs (upRole rs r ++ upRole rs s) ||
    (neverBoth rs (up rs [.has r, .has s]) || neverBoth rs (up rs [.has (turned r), .has (turned s)]))))) := by
  have hr' := turned_mem hr
  have hs' := turned_mem hs
  unfold nevW
  rw [nevB_eq U F (has_mem.mpr hr) (has_mem.mpr hs), nevB_eq U F (has_mem.mpr hr') (has_mem.mpr hs')]
  rw [wrongEdges_eq F (fun x hx => by
    rcases mem_joinL.mp hx with h | h
    · exact U.dmem hr h
    · exact U.dmem hs h)]
  have e1 : neverRoles rs (joinL (k.dirs r) (k.dirs s)) = neverRoles rs (upRole rs r ++ upRole rs s) := neverRoles_congr fun x => by
    rw [mem_joinL, List.mem_append, U.dM r hr, U.dM s hs]
  have e2 : ((joinL (k.dirs r) (k.dirs s)).any fun x => badRole rs (bad rs) x) = (badRole rs (bad rs) r || badRole rs (bad rs) s) := by
    rw [Bool.eq_iff_iff, List.any_eq_true, Bool.or_eq_true]
    constructor
    · rintro ⟨x, hx, h⟩
      rcases mem_joinL.mp hx with hx | hx
      · exact .inl (badRole_up U.ok hr ((U.dM r hr x).mp hx) h)
      · exact .inr (badRole_up U.ok hs ((U.dM s hs x).mp hx) h)
    · rintro (h | h)
      · exact ⟨r, mem_joinL.mpr (.inl ((U.dM r hr r).mpr (upRole_self U.ok hr))), h⟩
      · exact ⟨s, mem_joinL.mpr (.inr ((U.dM s hs s).mpr (upRole_self U.ok hs))), h⟩
  rw [e1, e2]
  have b1 : (bad rs).contains (.has r) = true → badRole rs (bad rs) r = true := fun h => badRole_iff.mpr (.inr (.inl (List.contains_iff_mem.mp h)))
  have b2 : (bad rs).contains (.has s) = true → badRole rs (bad rs) s = true := fun h => badRole_iff.mpr (.inr (.inl (List.contains_iff_mem.mp h)))
  have b3 : (bad rs).contains (.has (turned r)) = true → badRole rs (bad rs) r = true := fun h => badRole_iff.mpr (.inr (.inr (List.contains_iff_mem.mp h)))
  have b4 : (bad rs).contains (.has (turned s)) = true → badRole rs (bad rs) s = true := fun h => badRole_iff.mpr (.inr (.inr (List.contains_iff_mem.mp h)))
  cases h1 : badRole rs (bad rs) r
  · have c1 : (bad rs).contains (.has r) = false := by
      cases e : (bad rs).contains (.has r)
      · rfl
      · rw [b1 e] at h1; cases h1
    have c3 : (bad rs).contains (.has (turned r)) = false := by
      cases e : (bad rs).contains (.has (turned r))
      · rfl
      · rw [b3 e] at h1; cases h1
    cases h2 : badRole rs (bad rs) s
    · have c2 : (bad rs).contains (.has s) = false := by
        cases e : (bad rs).contains (.has s)
        · rfl
        · rw [b2 e] at h2; cases h2
      have c4 : (bad rs).contains (.has (turned s)) = false := by
        cases e : (bad rs).contains (.has (turned s))
        · rfl
        · rw [b4 e] at h2; cases h2
      rw [c1, c2, c3, c4]
      simp only [Bool.false_or, Bool.or_false]
    · simp
  · simp
/-- is_idle, of the other rules -/
def idleP (rs : List Rule) (k : Kept) (B : List Basic) (D : List Nat) : Rule → Bool
  | .sub b c => (k.bas b).contains c || B.contains b
  | .role r s => (k.dirs r).contains s || D.contains r
  | .never b c => nevB rs k B b c
  | .neverRole r s => nevW rs k B D r s
theorem idle_eq {all : List Rule} {n : Nat} {x : Rule} (hx : all[n]? = some x) (hok : okRule x) (e : rs = without n all) (U : Ups rs k) (F : Full rs B D) : idleP rs k B D x = idle all n := by
  subst e
  unfold idle
  rw [hx]
  cases x with
  | sub b c => exact follows_eq U F hok.1 c
  | role r s =>
    show ((k.dirs r).contains s || D.contains r) = ((upRole (without n all) r).contains s || badRole (without n all) (bad (without n all)) r)
    congr 1
    · rw [Bool.eq_iff_iff, List.contains_iff_mem, List.contains_iff_mem]; exact U.dM r hok.1 s
    · rw [Bool.eq_iff_iff, List.contains_iff_mem]
      rw [F.dM]
      exact ⟨fun h => h.2, fun h => ⟨hok.1, h⟩⟩
  | never b c => exact nevB_eq U F hok.1 hok.2
  | neverRole r s => exact nevW_eq U F hok.1 hok.2
/-! ### whence -/
def wh1 (k : Kept) (x : Nat) (b : Basic) (f : Fact) : Bool := (tb x f).any fun c => (k.bas c).contains b
theorem wh1_eq (U : Ups rs k) {f : Fact} (hf : okFact f) (x : Nat) (b : Basic) : wh1 k x b f = (typeOf ⟨[f], rs⟩ x).contains b := by
  unfold wh1
  rw [Bool.eq_iff_iff, List.any_eq_true, List.contains_iff_mem, mem_typeOf (d := ⟨[f], rs⟩) U.ok (fun g hg => by rw [List.mem_singleton] at hg; rw [hg]; exact hf)]
  constructor
  · rintro ⟨c, hc, h⟩
    exact ⟨f, by simp, c, hc, (U.bM c (tb_basics hf hc) b).mp (List.contains_iff_mem.mp h)⟩
  · rintro ⟨g, hg, c, hc, h⟩
    rw [List.mem_singleton] at hg
    subst hg
    exact ⟨c, hc, List.contains_iff_mem.mpr ((U.bM c (tb_basics hf hc) b).mpr h)⟩
theorem find_range {p : Nat → Bool} {n : Nat} : ∀ {m : Nat}, m < n → p m = true → (∀ j < m, p j = false) → (List.range n).find? p = some m := fun {m} hm hp hn => by
  rw [List.range_eq_range']
  have : n = m + ((n - m - 1) + 1) := by omega
  rw [this, ← List.range'_append_1, List.find?_append]
  have h1 : (List.range' 0 m).find? p = none := by
    rw [List.find?_eq_none]
    intro x hx
    rw [List.mem_range'_1] at hx
    rw [hn x (by omega)]
    exact Bool.false_ne_true
  rw [h1, List.range'_succ, List.find?_cons]
  have : p (0 + m) = true := by rw [Nat.zero_add]; exact hp
  rw [this, Nat.zero_add]
  rfl
theorem whence_some (U : Ups rs k) {fs : List Fact} (hf : okFacts fs) {x : Nat} {b : Basic} {n : Nat} {f : Fact} (h : fs[n]? = some f) (hw : wh1 k x b f = true) (hn : (fs.take n).any (wh1 k x b) = false) : Gq03.whence ⟨fs, rs⟩ x b = some n := by
  unfold Gq03.whence
  refine find_range (List.getElem?_eq_some_iff.mp h).1 ?_ fun j hj => ?_
  · simp only [h]
    rw [← wh1_eq U (hf f (List.mem_of_getElem? h))]
    exact hw
  · have hjl : j < fs.length := by have := (List.getElem?_eq_some_iff.mp h).1; omega
    have e : fs[j]? = some fs[j] := List.getElem?_eq_getElem hjl
    simp only [e]
    rw [← wh1_eq U (hf _ (List.mem_of_getElem? e))]
    have := List.any_eq_false.mp hn fs[j] (List.mem_take_iff_getElem.mpr ⟨j, by omega, rfl⟩)
    simpa using this
theorem whence_none (U : Ups rs k) {fs : List Fact} (hf : okFacts fs) {x : Nat} {b : Basic} (hn : fs.any (wh1 k x b) = false) : Gq03.whence ⟨fs, rs⟩ x b = none := by
  unfold Gq03.whence
  rw [List.find?_eq_none]
  intro j hj
  have hjl := List.mem_range.mp hj
  have e : fs[j]? = some fs[j] := List.getElem?_eq_getElem hjl
  simp only [e]
  rw [← wh1_eq U (hf _ (List.mem_of_getElem? e))]
  exact List.any_eq_false.mp hn fs[j] (List.mem_of_getElem? e)
end
/-! ### the desk -/
structure OkDesk (d : Desk) : Prop where
  rules : okRules d.rules
  facts : okFacts d.facts
  rlen : d.rules.length ≤ 12
  flen : d.facts.length ≤ 14
theorem okRules_without {l : List Rule} (h : okRules l) (n : Nat) : okRules (without n l) := fun x hx => by
  unfold without at hx
  rcases List.mem_append.mp hx with hx | hx
  · exact h x (List.mem_of_mem_take hx)
  · exact h x (List.mem_of_mem_drop hx)
theorem okFacts_without {l : List Fact} (h : okFacts l) (n : Nat) : okFacts (without n l) := fun x hx => by
  unfold without at hx
  rcases List.mem_append.mp hx with hx | hx
  · exact h x (List.mem_of_mem_take hx)
  · exact h x (List.mem_of_mem_drop hx)
theorem without_len {A : Type} {l : List A} {n : Nat} (h : n < l.length) : (without n l).length = l.length - 1 := by
  unfold without
  rw [List.length_append, List.length_take, List.length_drop]
  omega
theorem without_le {A : Type} (l : List A) (n : Nat) : (without n l).length ≤ l.length := by
  unfold without
  rw [List.length_append, List.length_take, List.length_drop]
  omega
theorem OkDesk.init : OkDesk Gq03.init := ⟨fun x h => by simp [Gq03.init] at h, fun x h => by simp [Gq03.init] at h, by decide, by decide⟩
theorem addFact_ok {d : Desk} {f : Fact} (h : OkDesk d) (hf : okFact f) : OkDesk (addFact d f).1 := by
  unfold addFact
  split
  · exact h
  · split
    · exact h
    · refine ⟨h.rules, fun x hx => ?_, h.rlen, ?_⟩
      · rcases List.mem_append.mp hx with hx | hx
        · exact h.facts x hx
        · rw [List.mem_singleton] at hx; rw [hx]; exact hf
      · show (d.facts ++ [f]).length ≤ 14
        rw [List.length_append, List.length_singleton]; omega
theorem addRule_ok {d : Desk} {f : Rule} (h : OkDesk d) (hf : okRule f) : OkDesk (addRule d f).1 := by
  unfold addRule
  split
  · exact h
  · refine ⟨fun x hx => ?_, h.facts, ?_, h.flen⟩
    · rcases List.mem_append.mp hx with hx | hx
      · exact h.rules x hx
      · rw [List.mem_singleton] at hx; rw [hx]; exact hf
    · show (d.rules ++ [f]).length ≤ 12
      rw [List.length_append, List.length_singleton]; omega
theorem node_in {x : Nat} : isNode x = true ↔ x ∈ nodes := List.contains_iff_mem
theorem role_in {x : Nat} : isRole x = true ↔ x ∈ roles := List.contains_iff_mem
theorem basic_in {x : Basic} : isBasic x = true ↔ x ∈ basics := List.contains_iff_mem
theorem kind_mem {k : Nat} : Basic.kind k ∈ basics ↔ 1 ≤ k ∧ k ≤ 6 := by
  simp only [basics, List.mem_append, List.mem_map, List.mem_cons, List.not_mem_nil, or_false, Basic.kind.injEq]
  constructor
  · rintro (⟨x, hx, rfl⟩ | ⟨x, _, h⟩)
    · omega
    · cases h
  · intro h
    exact .inl ⟨k, by omega, rfl⟩
theorem label_roles {a : Nat} : (2 * a ∈ roles ∧ 2 * a + 1 ∈ roles) ↔ 1 ≤ a ∧ a ≤ 4 := by
  simp only [roles, List.mem_cons, List.not_mem_nil, or_false]
  omega
theorem step_ok {d : Desk} (h : OkDesk d) (c : Gq03.Call) : OkDesk (Gq03.step d c).1 := by
  cases c with
  | kind x k =>
    unfold Gq03.step
    simp only
    split
    · exact h
    · rename_i c
      simp only [not_or, Bool.not_eq_false, Nat.not_lt] at c
      exact addFact_ok h ⟨node_in.mp c.1, kind_mem.mpr ⟨by omega, c.2.2⟩⟩
  | edge x a y =>
    unfold Gq03.step
    simp only
    split
    · exact h
    · rename_i c
      simp only [not_or, Bool.not_eq_false, Nat.not_lt] at c
      have := label_roles.mpr (⟨by omega, c.2.2.2⟩ : 1 ≤ a ∧ a ≤ 4)
      exact addFact_ok h ⟨node_in.mp c.1, this.1, this.2, node_in.mp c.2.1⟩
  | drop n =>
    unfold Gq03.step
    simp only
    split
    · exact h
    · exact ⟨h.rules, okFacts_without h.facts n, h.rlen, Nat.le_trans (without_le _ _) h.flen⟩
  | sub b c =>
    unfold Gq03.step
    simp only
    split
    · exact h
    · rename_i c
      simp only [not_or, Bool.not_eq_false] at c
      exact addRule_ok h ⟨basic_in.mp c.1, basic_in.mp c.2⟩
  | role r s =>
    unfold Gq03.step
    simp only
    split
    · exact h
    · rename_i c
      simp only [not_or, Bool.not_eq_false] at c
      exact addRule_ok h ⟨role_in.mp c.1, role_in.mp c.2⟩
  | never b c =>
    unfold Gq03.step
    simp only
    split
    · exact h
    · rename_i c
      simp only [not_or, Bool.not_eq_false] at c
      exact addRule_ok h ⟨basic_in.mp c.1, basic_in.mp c.2⟩
  | neverRole r s =>
    unfold Gq03.step
    simp only
    split
    · exact h
    · rename_i c
      simp only [not_or, Bool.not_eq_false] at c
      exact addRule_ok h ⟨role_in.mp c.1, role_in.mp c.2⟩
  | strike n =>
    unfold Gq03.step
    simp only
    split
    · exact h
    · exact ⟨okRules_without h.rules n, h.facts, Nat.le_trans (without_le _ _) h.rlen, h.flen⟩
  | _ => exact h
end Wm

namespace Wm
open Gq03 (Basic Rule Fact)
/-! ### how a row of numbers is read, call by call -/
/-- a call that tells: its place, its numbers -/
inductive Tells : Nat → List Nat → Gq03.Call → Prop
  | kind (a b : Nat) : Tells 0 [a, b] (.kind a b)
  | edge (a b c : Nat) : Tells 1 [a, b, c] (.edge a b c)
  | drop (a : Nat) : Tells 2 [a] (.drop a)
  | sub (a b c d : Nat) : Tells 3 [a, b, c, d] (.sub (Gq03Neutral.basic a b) (Gq03Neutral.basic c d))
  | role (a b : Nat) : Tells 4 [a, b] (.role a b)
  | never (a b c d : Nat) : Tells 5 [a, b, c, d] (.never (Gq03Neutral.basic a b) (Gq03Neutral.basic c d))
  | neverRole (a b : Nat) : Tells 6 [a, b] (.neverRole a b)
  | strike (a : Nat) : Tells 7 [a] (.strike a)
/-- a call that asks: its place, its numbers, its row -/
inductive Asks : Nat → List Nat → List Nat → Gq03.Call → Prop
  | is_ (a b c : Nat) : Asks 8 [a, b, c] [] (.is_ a (Gq03Neutral.basic b c))
  | who (a b : Nat) : Asks 9 [a, b] [] (.who (Gq03Neutral.basic a b))
  | edges (a b : Nat) : Asks 10 [a, b] [] (.edges a b)
  | chain (a : Nat) (l : List Nat) : Asks 11 [a] l (.chain a l)
  | all (l : List Nat) : Asks 12 [] l (.all l)
  | sound : Asks 13 [] [] (.sound)
  | follows (a b c d : Nat) : Asks 14 [a, b, c, d] [] (.follows (Gq03Neutral.basic a b) (Gq03Neutral.basic c d))
  | bad : Asks 15 [] [] (.bad)
  | idle (a : Nat) : Asks 16 [a] [] (.idle a)
  | whence (a b c : Nat) : Asks 17 [a, b, c] [] (.whence a (Gq03Neutral.basic b c))
  | fewest : Asks 18 [] [] (.fewest)
def numb : List Nat := [2, 3, 1, 4, 2, 4, 2, 1, 3, 2, 2, 1, 0, 0, 4, 0, 1, 3, 0]
/-- what a call is, and what stands behind it -/
def One (deed : Nat) (ns row r t : List Nat) (x : Gq03.Call) : Prop :=
  numb[deed]? = some ns.length ∧ ((deed ≤ 7 ∧ Tells deed ns x ∧ row = [] ∧ r = ns ++ t) ∨ (8 ≤ deed ∧ deed ≠ 11 ∧ deed ≠ 12 ∧ Asks deed ns row x ∧ row = [] ∧ r = ns ++ t) ∨ ((deed = 11 ∨ deed = 12) ∧ Asks deed ns row x ∧ r = ns ++ row.length :: (row ++ t)))
def tI (l : List Nat) : List Int := l.map fun (n : Nat) => (n : Int)
theorem toNat_tI (l : List Nat) : (tI l).map Int.toNat = l := by
  unfold tI
  rw [List.map_map]
  exact (List.map_congr_left fun n _ => Int.toNat_natCast n).trans (List.map_id l)
theorem callOf_in {l : List Nat} {x : Gq03.Call} (h : Gq03Neutral.callOf (tI l) = some x) : Gq03Neutral.callIn l = some x := by
  unfold Gq03Neutral.callOf at h
  split at h
  · cases h
  · rw [toNat_tI] at h; exact h
def read (c : List (List Int)) : Option Gq03.Call := Gq03Neutral.callOf ((PyGq03.whole c).headD [])
theorem tI_take (l : List Nat) (n : Nat) : (tI l).take n = tI (l.take n) := (List.map_take ..).symm
theorem tI_drop (l : List Nat) (n : Nat) : (tI l).drop n = tI (l.drop n) := (List.map_drop ..).symm
theorem tI_len (l : List Nat) : (tI l).length = l.length := List.length_map _
theorem call_cons (p : Int) (r : List Int) : PyFlat.call PyGq03.shape (p :: r) = match PyGq03.shape p with
    | none => none
    | some (n, k) => if r.length < n then none else match PyFlat.rows k (r.drop n) with
      | none => none
      | some (xs, t) => some ((p :: r.take n) :: xs, t) := rfl
/-- a call without a row -/
theorem call_flat {p : Int} {k : Nat} {r : List Nat} {c : List (List Int)} {t : List Int} (hs : PyGq03.shape p = some (k, 0)) (h : PyFlat.call PyGq03.shape (p :: tI r) = some (c, t)) : k ≤ r.length ∧ c = [p :: tI (r.take k)] ∧ t = tI (r.drop k) := by
  rw [call_cons, hs] at h
  simp only [PyFlat.rows, tI_len, tI_take, tI_drop] at h
  split at h
  · cases h
  · rename_i hl
    have e := Option.some.inj h
    exact ⟨by omega, (Prod.mk.inj e).1.symm, (Prod.mk.inj e).2.symm⟩
/-- a call with a row -/
theorem call_row {p : Int} {k : Nat} {r : List Nat} {c : List (List Int)} {t : List Int} (hs : PyGq03.shape p = some (k, 1)) (h : PyFlat.call PyGq03.shape (p :: tI r) = some (c, t)) :
    ∃ ns row t', ns.length = k ∧ r = ns ++ row.length :: (row ++ t') ∧ c = [p :: tI ns, tI row] ∧ t = tI t' := by
  rw [call_cons, hs] at h
  simp only [tI_len, tI_take, tI_drop] at h
  split at h
  · cases h
  · rename_i hl
    have e0 : r = r.take k ++ r.drop k := (List.take_append_drop k r).symm
    cases hd : r.drop k with
    | nil =>
      rw [hd] at h
      simp only [tI, List.map_nil, PyFlat.rows, PyFlat.row] at h
      cases h
    | cons n s =>
      rw [hd] at h e0
      have hr : PyFlat.row (tI (n :: s)) = if 0 ≤ (n : Int) ∧ (n : Int).toNat ≤ (tI s).length then some ((tI s).take (n : Int).toNat, (tI s).drop (n : Int).toNat) else none := rfl
      simp only [PyFlat.rows, hr, Int.toNat_natCast, tI_len, tI_take, tI_drop] at h
      by_cases c2 : 0 ≤ (n : Int) ∧ n ≤ s.length
      · rw [if_pos c2] at h
        simp only at h
        have e := Option.some.inj h
        refine ⟨r.take k, s.take n, s.drop n, by rw [List.length_take]; omega, ?_, (Prod.mk.inj e).1.symm, (Prod.mk.inj e).2.symm⟩
        rw [List.length_take, Nat.min_eq_left c2.2, List.take_append_drop]
        exact e0
      · rw [if_neg c2] at h
        cases h
theorem shape_in {p : Int} {k : Nat × Nat} (h : PyGq03.shape p = some k) : ∃ d : Nat, p = (d : Int) ∧ d ≤ 18 := by
  by_cases hp : 0 ≤ p ∧ p ≤ 18
  · exact ⟨p.toNat, by omega, by omega⟩
  · unfold PyGq03.shape at h
    rw [if_neg (by omega), if_neg (by omega), if_neg (by omega), if_neg (by omega), if_neg (by omega), if_neg (by omega), if_neg (by omega), if_neg (by omega), if_neg (by omega), if_neg (by omega), if_neg (by omega), if_neg (by omega), if_neg (by omega), if_neg (by omega), if_neg (by omega), if_neg (by omega), if_neg (by omega), if_neg (by omega), if_neg (by omega)] at h
    cases h
theorem at1 : ∀ {r : List Nat}, 1 ≤ r.length → ∃ a t, r = a :: t
  | [], h => absurd h (by decide)
  | a :: t, _ => ⟨a, t, rfl⟩
theorem at2 {r : List Nat} (h : 2 ≤ r.length) : ∃ a b t, r = a :: b :: t := by
  obtain ⟨a, t, rfl⟩ := at1 (r := r) (by omega)
  obtain ⟨b, t, rfl⟩ := at1 (r := t) (by simp only [List.length_cons] at h; omega)
  exact ⟨a, b, t, rfl⟩
theorem at3 {r : List Nat} (h : 3 ≤ r.length) : ∃ a b c t, r = a :: b :: c :: t := by
  obtain ⟨a, b, t, rfl⟩ := at2 (r := r) (by omega)
  obtain ⟨c, t, rfl⟩ := at1 (r := t) (by simp only [List.length_cons] at h; omega)
  exact ⟨a, b, c, t, rfl⟩
theorem at4 {r : List Nat} (h : 4 ≤ r.length) : ∃ a b c d t, r = a :: b :: c :: d :: t := by
  obtain ⟨a, b, c, t, rfl⟩ := at3 (r := r) (by omega)
  obtain ⟨d, t, rfl⟩ := at1 (r := t) (by simp only [List.length_cons] at h; omega)
  exact ⟨a, b, c, d, t, rfl⟩
theorem len_split {r : List Nat} {k : Nat} (h : k ≤ r.length) : r = r.take k ++ r.drop k := (List.take_append_drop k r).symm
theorem one_0 {r : List Nat} {cc : List (List Int)} {t : List Int} {x : Gq03.Call} (h : PyFlat.call PyGq03.shape (((0 : Nat) : Int) :: tI r) = some (cc, t)) (hx : read cc = some x) : ∃ ns row t', t = tI t' ∧ One 0 ns row r t' x := by
  obtain ⟨hl, rfl, rfl⟩ := call_flat (k := 2) rfl h
  obtain ⟨a, b, t, rfl⟩ := at2 hl
  have e := callOf_in (l := [0, a, b]) (x := x) hx
  cases e
  exact ⟨[a, b], [], t, rfl, rfl, .inl ⟨by decide, .kind a b, rfl, rfl⟩⟩
theorem one_1 {r : List Nat} {cc : List (List Int)} {t : List Int} {x : Gq03.Call} (h : PyFlat.call PyGq03.shape (((1 : Nat) : Int) :: tI r) = some (cc, t)) (hx : read cc = some x) : ∃ ns row t', t = tI t' ∧ One 1 ns row r t' x := by
  obtain ⟨hl, rfl, rfl⟩ := call_flat (k := 3) rfl h
  obtain ⟨a, b, c, t, rfl⟩ := at3 hl
  have e := callOf_in (l := [1, a, b, c]) (x := x) hx
  cases e
  exact ⟨[a, b, c], [], t, rfl, rfl, .inl ⟨by decide, .edge a b c, rfl, rfl⟩⟩
theorem one_2 {r : List Nat} {cc : List (List Int)} {t : List Int} {x : Gq03.Call} (h : PyFlat.call PyGq03.shape (((2 : Nat) : Int) :: tI r) = some (cc, t)) (hx : read cc = some x) : ∃ ns row t', t = tI t' ∧ One 2 ns row r t' x := by
  obtain ⟨hl, rfl, rfl⟩ := call_flat (k := 1) rfl h
  obtain ⟨a, t, rfl⟩ := at1 hl
  have e := callOf_in (l := [2, a]) (x := x) hx
  cases e
  exact ⟨[a], [], t, rfl, rfl, .inl ⟨by decide, .drop a, rfl, rfl⟩⟩
theorem one_3 {r : List Nat} {cc : List (List Int)} {t : List Int} {x : Gq03.Call} (h : PyFlat.call PyGq03.shape (((3 : Nat) : Int) :: tI r) = some (cc, t)) (hx : read cc = some x) : ∃ ns row t', t = tI t' ∧ One 3 ns row r t' x := by
  obtain ⟨hl, rfl, rfl⟩ := call_flat (k := 4) rfl h
  obtain ⟨a, b, c, d, t, rfl⟩ := at4 hl
  have e := callOf_in (l := [3, a, b, c, d]) (x := x) hx
  cases e
  exact ⟨[a, b, c, d], [], t, rfl, rfl, .inl ⟨by decide, .sub a b c d, rfl, rfl⟩⟩
theorem one_4 {r : List Nat} {cc : List (List Int)} {t : List Int} {x : Gq03.Call} (h : PyFlat.call PyGq03.shape (((4 : Nat) : Int) :: tI r) = some (cc, t)) (hx : read cc = some x) : ∃ ns row t', t = tI t' ∧ One 4 ns row r t' x := by
  obtain ⟨hl, rfl, rfl⟩ := call_flat (k := 2) rfl h
  obtain ⟨a, b, t, rfl⟩ := at2 hl
  have e := callOf_in (l := [4, a, b]) (x := x) hx
  cases e
  exact ⟨[a, b], [], t, rfl, rfl, .inl ⟨by decide, .role a b, rfl, rfl⟩⟩
theorem one_5 {r : List Nat} {cc : List (List Int)} {t : List Int} {x : Gq03.Call} (h : PyFlat.call PyGq03.shape (((5 : Nat) : Int) :: tI r) = some (cc, t)) (hx : read cc = some x) : ∃ ns row t', t = tI t' ∧ One 5 ns row r t' x := by
  obtain ⟨hl, rfl, rfl⟩ := call_flat (k := 4) rfl h
  obtain ⟨a, b, c, d, t, rfl⟩ := at4 hl
  have e := callOf_in (l := [5, a, b, c, d]) (x := x) hx
  cases e
  exact ⟨[a, b, c, d], [], t, rfl, rfl, .inl ⟨by decide, .never a b c d, rfl, rfl⟩⟩
theorem one_6 {r : List Nat} {cc : List (List Int)} {t : List Int} {x : Gq03.Call} (h : PyFlat.call PyGq03.shape (((6 : Nat) : Int) :: tI r) = some (cc, t)) (hx : read cc = some x) : ∃ ns row t', t = tI t' ∧ One 6 ns row r t' x := by
  obtain ⟨hl, rfl, rfl⟩ := call_flat (k := 2) rfl h
  obtain ⟨a, b, t, rfl⟩ := at2 hl
  have e := callOf_in (l := [6, a, b]) (x := x) hx
  cases e
  exact ⟨[a, b], [], t, rfl, rfl, .inl ⟨by decide, .neverRole a b, rfl, rfl⟩⟩
theorem one_7 {r : List Nat} {cc : List (List Int)} {t : List Int} {x : Gq03.Call} (h : PyFlat.call PyGq03.shape (((7 : Nat) : Int) :: tI r) = some (cc, t)) (hx : read cc = some x) : ∃ ns row t', t = tI t' ∧ One 7 ns row r t' x := by
  obtain ⟨hl, rfl, rfl⟩ := call_flat (k := 1) rfl h
  obtain ⟨a, t, rfl⟩ := at1 hl
  have e := callOf_in (l := [7, a]) (x := x) hx
  cases e
  exact ⟨[a], [], t, rfl, rfl, .inl ⟨by decide, .strike a, rfl, rfl⟩⟩
theorem one_8 {r : List Nat} {cc : List (List Int)} {t : List Int} {x : Gq03.Call} (h : PyFlat.call PyGq03.shape (((8 : Nat) : Int) :: tI r) = some (cc, t)) (hx : read cc = some x) : ∃ ns row t', t = tI t' ∧ One 8 ns row r t' x := by
  obtain ⟨hl, rfl, rfl⟩ := call_flat (k := 3) rfl h
  obtain ⟨a, b, c, t, rfl⟩ := at3 hl
  have e := callOf_in (l := [8, a, b, c]) (x := x) hx
  cases e
  exact ⟨[a, b, c], [], t, rfl, rfl, .inr (.inl ⟨by decide, by decide, by decide, .is_ a b c, rfl, rfl⟩)⟩
theorem one_9 {r : List Nat} {cc : List (List Int)} {t : List Int} {x : Gq03.Call} (h : PyFlat.call PyGq03.shape (((9 : Nat) : Int) :: tI r) = some (cc, t)) (hx : read cc = some x) : ∃ ns row t', t = tI t' ∧ One 9 ns row r t' x := by
  obtain ⟨hl, rfl, rfl⟩ := call_flat (k := 2) rfl h
  obtain ⟨a, b, t, rfl⟩ := at2 hl
  have e := callOf_in (l := [9, a, b]) (x := x) hx
  cases e
  exact ⟨[a, b], [], t, rfl, rfl, .inr (.inl ⟨by decide, by decide, by decide, .who a b, rfl, rfl⟩)⟩
theorem one_10 {r : List Nat} {cc : List (List Int)} {t : List Int} {x : Gq03.Call} (h : PyFlat.call PyGq03.shape (((10 : Nat) : Int) :: tI r) = some (cc, t)) (hx : read cc = some x) : ∃ ns row t', t = tI t' ∧ One 10 ns row r t' x := by
  obtain ⟨hl, rfl, rfl⟩ := call_flat (k := 2) rfl h
  obtain ⟨a, b, t, rfl⟩ := at2 hl
  have e := callOf_in (l := [10, a, b]) (x := x) hx
  cases e
  exact ⟨[a, b], [], t, rfl, rfl, .inr (.inl ⟨by decide, by decide, by decide, .edges a b, rfl, rfl⟩)⟩
theorem one_13 {r : List Nat} {cc : List (List Int)} {t : List Int} {x : Gq03.Call} (h : PyFlat.call PyGq03.shape (((13 : Nat) : Int) :: tI r) = some (cc, t)) (hx : read cc = some x) : ∃ ns row t', t = tI t' ∧ One 13 ns row r t' x := by
  obtain ⟨hl, rfl, rfl⟩ := call_flat (k := 0) rfl h
  have e := callOf_in (l := [13]) (x := x) hx
  cases e
  exact ⟨[], [], r, rfl, rfl, .inr (.inl ⟨by decide, by decide, by decide, .sound, rfl, rfl⟩)⟩
theorem one_14 {r : List Nat} {cc : List (List Int)} {t : List Int} {x : Gq03.Call} (h : PyFlat.call PyGq03.shape (((14 : Nat) : Int) :: tI r) = some (cc, t)) (hx : read cc = some x) : ∃ ns row t', t = tI t' ∧ One 14 ns row r t' x := by
  obtain ⟨hl, rfl, rfl⟩ := call_flat (k := 4) rfl h
  obtain ⟨a, b, c, d, t, rfl⟩ := at4 hl
  have e := callOf_in (l := [14, a, b, c, d]) (x := x) hx
  cases e
  exact ⟨[a, b, c, d], [], t, rfl, rfl, .inr (.inl ⟨by decide, by decide, by decide, .follows a b c d, rfl, rfl⟩)⟩
theorem one_15 {r : List Nat} {cc : List (List Int)} {t : List Int} {x : Gq03.Call} (h : PyFlat.call PyGq03.shape (((15 : Nat) : Int) :: tI r) = some (cc, t)) (hx : read cc = some x) : ∃ ns row t', t = tI t' ∧ One 15 ns row r t' x := by
  obtain ⟨hl, rfl, rfl⟩ := call_flat (k := 0) rfl h
  have e := callOf_in (l := [15]) (x := x) hx
  cases e
  exact ⟨[], [], r, rfl, rfl, .inr (.inl ⟨by decide, by decide, by decide, .bad, rfl, rfl⟩)⟩
theorem one_16 {r : List Nat} {cc : List (List Int)} {t : List Int} {x : Gq03.Call} (h : PyFlat.call PyGq03.shape (((16 : Nat) : Int) :: tI r) = some (cc, t)) (hx : read cc = some x) : ∃ ns row t', t = tI t' ∧ One 16 ns row r t' x := by
  obtain ⟨hl, rfl, rfl⟩ := call_flat (k := 1) rfl h
  obtain ⟨a, t, rfl⟩ := at1 hl
  have e := callOf_in (l := [16, a]) (x := x) hx
  cases e
  exact ⟨[a], [], t, rfl, rfl, .inr (.inl ⟨by decide, by decide, by decide, .idle a, rfl, rfl⟩)⟩
theorem one_17 {r : List Nat} {cc : List (List Int)} {t : List Int} {x : Gq03.Call} (h : PyFlat.call PyGq03.shape (((17 : Nat) : Int) :: tI r) = some (cc, t)) (hx : read cc = some x) : ∃ ns row t', t = tI t' ∧ One 17 ns row r t' x := by
  obtain ⟨hl, rfl, rfl⟩ := call_flat (k := 3) rfl h
  obtain ⟨a, b, c, t, rfl⟩ := at3 hl
  have e := callOf_in (l := [17, a, b, c]) (x := x) hx
  cases e
  exact ⟨[a, b, c], [], t, rfl, rfl, .inr (.inl ⟨by decide, by decide, by decide, .whence a b c, rfl, rfl⟩)⟩
theorem one_18 {r : List Nat} {cc : List (List Int)} {t : List Int} {x : Gq03.Call} (h : PyFlat.call PyGq03.shape (((18 : Nat) : Int) :: tI r) = some (cc, t)) (hx : read cc = some x) : ∃ ns row t', t = tI t' ∧ One 18 ns row r t' x := by
  obtain ⟨hl, rfl, rfl⟩ := call_flat (k := 0) rfl h
  have e := callOf_in (l := [18]) (x := x) hx
  cases e
  exact ⟨[], [], r, rfl, rfl, .inr (.inl ⟨by decide, by decide, by decide, .fewest, rfl, rfl⟩)⟩
theorem one_11 {r : List Nat} {c : List (List Int)} {t : List Int} {x : Gq03.Call} (h : PyFlat.call PyGq03.shape (((11 : Nat) : Int) :: tI r) = some (c, t)) (hx : read c = some x) : ∃ ns row t', t = tI t' ∧ One 11 ns row r t' x := by
  obtain ⟨ns, row, t', hl, rfl, rfl, rfl⟩ := call_row (k := 1) rfl h
  obtain ⟨a, rfl⟩ := List.length_eq_one_iff.mp hl
  · have e0 : (PyGq03.whole [((11 : Nat) : Int) :: tI [a], tI row]).headD [] = tI (11 :: a :: row) := rfl
    unfold read at hx
    rw [e0] at hx
    have e := callOf_in hx
    cases e
    exact ⟨[a], row, t', rfl, rfl, .inr (.inr ⟨.inl rfl, .chain a row, rfl⟩)⟩
theorem one_12 {r : List Nat} {c : List (List Int)} {t : List Int} {x : Gq03.Call} (h : PyFlat.call PyGq03.shape (((12 : Nat) : Int) :: tI r) = some (c, t)) (hx : read c = some x) : ∃ ns row t', t = tI t' ∧ One 12 ns row r t' x := by
  obtain ⟨ns, row, t', hl, rfl, rfl, rfl⟩ := call_row (k := 0) rfl h
  have hn := List.length_eq_zero_iff.mp hl
  subst hn
  · have e0 : (PyGq03.whole [((12 : Nat) : Int) :: tI [], tI row]).headD [] = tI (12 :: row) := rfl
    unfold read at hx
    rw [e0] at hx
    have e := callOf_in hx
    cases e
    exact ⟨[], row, t', rfl, rfl, .inr (.inr ⟨.inr rfl, .all row, rfl⟩)⟩
theorem one_all {deed : Nat} {r : List Nat} {c : List (List Int)} {t : List Int} {x : Gq03.Call} (h : PyFlat.call PyGq03.shape ((deed : Int) :: tI r) = some (c, t)) (hx : read c = some x) : deed ≤ 18 ∧ ∃ ns row t', t = tI t' ∧ One deed ns row r t' x := by
  have hd : deed ≤ 18 := by
    cases hs : PyGq03.shape (deed : Int) with
    | none =>
      rw [call_cons, hs] at h
      cases h
    | some k =>
      obtain ⟨d, e, hd⟩ := shape_in hs
      omega
  refine ⟨hd, ?_⟩
  match deed, hd, h with
  | 0, _, h => exact one_0 h hx
  | 1, _, h => exact one_1 h hx
  | 2, _, h => exact one_2 h hx
  | 3, _, h => exact one_3 h hx
  | 4, _, h => exact one_4 h hx
  | 5, _, h => exact one_5 h hx
  | 6, _, h => exact one_6 h hx
  | 7, _, h => exact one_7 h hx
  | 8, _, h => exact one_8 h hx
  | 9, _, h => exact one_9 h hx
  | 10, _, h => exact one_10 h hx
  | 11, _, h => exact one_11 h hx
  | 12, _, h => exact one_12 h hx
  | 13, _, h => exact one_13 h hx
  | 14, _, h => exact one_14 h hx
  | 15, _, h => exact one_15 h hx
  | 16, _, h => exact one_16 h hx
  | 17, _, h => exact one_17 h hx
  | 18, _, h => exact one_18 h hx
  | n + 19, hd, _ => exact absurd hd (by omega)
/-! ### all calls -/
/-- what is still to be answered -/
def Left (d : Gq03.Desk) (rest : List Nat) (out : List Int) : Prop := ∃ f raw, PyFlat.calls PyGq03.shape f (tI rest) = some raw ∧ (∀ c ∈ raw, (read c).isSome = true) ∧
  out = PyFlat.told (PyFlat.played (fun s c => Gq03Neutral.step s (c.headD [])) d (raw.map PyGq03.whole))
theorem Left.nil {d : Gq03.Desk} {out : List Int} (h : Left d [] out) : out = [] := by
  obtain ⟨f, raw, h1, h2, h3⟩ := h
  have e : PyFlat.calls PyGq03.shape f (tI []) = some [] := by cases f <;> rfl
  rw [e] at h1
  have := Option.some.inj h1
  subst this
  exact h3
theorem Left.cons {d : Gq03.Desk} {deed : Nat} {r : List Nat} {out : List Int} (h : Left d (deed :: r) out) : ∃ x ns row t out', deed ≤ 18 ∧ One deed ns row r t x ∧ Left (Gq03.step d x).1 t out' ∧ out = ((Gq03.step d x).2.length : Int) :: ((Gq03.step d x).2 ++ out') := by
  obtain ⟨f, raw, h1, h2, h3⟩ := h
  cases f with
  | zero => cases h1
  | succ f =>
    change (match PyFlat.call PyGq03.shape ((deed : Int) :: tI r) with
      | none => none
      | some (c, t) => match PyFlat.calls PyGq03.shape f t with
        | none => none
        | some cs => some (c :: cs)) = some raw at h1
    cases hc : PyFlat.call PyGq03.shape ((deed : Int) :: tI r) with
    | none => rw [hc] at h1; cases h1
    | some ct =>
      obtain ⟨c, t⟩ := ct
      rw [hc] at h1
      simp only at h1
      cases ht : PyFlat.calls PyGq03.shape f t with
      | none => rw [ht] at h1; cases h1
      | some cs =>
        rw [ht] at h1
        have e := Option.some.inj h1
        subst e
        have hx := h2 c List.mem_cons_self
        obtain ⟨x, hx⟩ := Option.isSome_iff_exists.mp hx
        obtain ⟨hd, ns, row, t', rfl, ho⟩ := one_all hc hx
        have es : Gq03Neutral.step d ((PyGq03.whole c).headD []) = Gq03.step d x := by
          unfold Gq03Neutral.step
          rw [show Gq03Neutral.callOf ((PyGq03.whole c).headD []) = some x from hx]
        refine ⟨x, ns, row, t', _, hd, ho, ⟨f, cs, ht, fun c' hc' => h2 c' (List.mem_cons_of_mem _ hc'), rfl⟩, ?_⟩
        rw [h3, List.map_cons]
        show PyFlat.told ((Gq03Neutral.step d ((PyGq03.whole c).headD [])).2 :: PyFlat.played _ (Gq03Neutral.step d ((PyGq03.whole c).headD [])).1 _) = _
        rw [es]
        unfold PyFlat.told
        rw [List.flatMap_cons]
        rfl
theorem left_all {l : List Nat} (h : PyGq03.answers_asked (tI l) = true) : Left Gq03.init l (PyGq03.answers (tI l)) ∧ (PyGq03.answers (tI l)).length ≤ 10000000 := by
  unfold PyGq03.answers_asked at h
  cases hc : PyFlat.calls PyGq03.shape (tI l).length (tI l) with
  | none => rw [hc] at h; cases h
  | some raw =>
    rw [hc] at h
    simp only [Bool.and_eq_true] at h
    obtain ⟨⟨⟨⟨_, _⟩, _⟩, ha⟩, hs⟩ := h
    unfold PyFlat.short at hs
    refine ⟨⟨_, raw, hc, fun c hm => ?_, ?_⟩, of_decide_eq_true hs⟩
    · unfold Gq03Neutral.asked at ha
      rw [Bool.and_eq_true] at ha
      have := List.all_eq_true.mp ha.1 ((PyGq03.whole c).headD []) (List.mem_map.mpr ⟨PyGq03.whole c, List.mem_map.mpr ⟨c, hm, rfl⟩, rfl⟩)
      exact this
    · unfold PyGq03.answers PyGq03.calls
      rw [hc]
      rfl
end Wm

/-! # A heap that only grows -/
namespace L2
open PySem PySem.Spec PyProof.Rows
theorem Same.new {H : Hp} {p : Addr} {o : HO} (h : H p = none) : Same H (upd H p o) := fun q xs e => by rw [upd_ne (ne_of_none e h)]; exact e
/-- what was there ahead stays, though a later object is written -/
theorem Same.past {H0 H : Hp} {p : Addr} {o : HO} (s : Same H0 H) (h : H0 p = none) : Same H0 (upd H p o) := fun q xs e => by rw [upd_ne (ne_of_none e h)]; exact s q xs e
end L2
/-! # The walk: words -/
namespace Wm
open PySem PySem.Spec PyProof.Rows L2
open Gq03 (Basic Rule Fact)
/-- the i-th statement of the program -/
def top (i : Nat) : Stmt := PySem.Challenge.pw_whatmustbe_s01_answers.main.body.getD i (.Pass ⟨0, 0, 0, 0⟩)
/-! ### values -/
abbrev vi (n : Nat) : V := .int (n : Int)
abbrev vis (l : List Nat) : List V := l.map vi
/-- tuples stay -/
def TupS (H H' : Hp) : Prop := ∀ p xs, H p = some (.tup xs) → H' p = some (.tup xs)
theorem TupS.refl (H : Hp) : TupS H H := fun _ _ h => h
theorem TupS.trans {H H1 H2 : Hp} (a : TupS H H1) (b : TupS H1 H2) : TupS H H2 := fun p xs h => b p xs (a p xs h)
theorem TupS.of {H H' : Hp} (h : Same H H') : TupS H H' := fun p xs e => h p _ e
theorem TupS.new {H : Hp} {p : Addr} {o : HO} (h : H p = none) : TupS H (upd H p o) := fun q xs e => by rw [upd_ne (ne_of_none e h)]; exact e
theorem TupS.lst {H : Hp} {p : Addr} {ys : List V} {o : HO} (h : H p = some (.lst ys)) : TupS H (upd H p o) := fun q xs e => by rw [upd_ne (ne_of e h (by intro z; cases z))]; exact e
/-! ### pairs of lists -/
section
variable {α β γ : Type} {F : α → β → Prop}
theorem pr_get : ∀ {l : List α} {m : List β} {i : Nat} {a : α}, Paired F l m → l[i]? = some a → ∃ b, m[i]? = some b ∧ F a b
  | _, _, _, _, .nil, h => by simp at h
  | _, _, 0, _, .cons r _, h => by
    have e := Option.some.inj h
    subst e
    exact ⟨_, rfl, r⟩
  | _, _, i + 1, a, .cons _ t, h => pr_get (i := i) t h
theorem pr_get' : ∀ {l : List α} {m : List β} {i : Nat} {b : β}, Paired F l m → m[i]? = some b → ∃ a, l[i]? = some a ∧ F a b
  | _, _, _, _, .nil, h => by simp at h
  | _, _, 0, _, .cons r _, h => by
    have e := Option.some.inj h
    subst e
    exact ⟨_, rfl, r⟩
  | _, _, i + 1, a, .cons _ t, h => pr_get' (i := i) t h
theorem pr_app : ∀ {l l' : List α} {m m' : List β}, Paired F l m → Paired F l' m' → Paired F (l ++ l') (m ++ m')
  | _, _, _, _, .nil, s => s
  | _, _, _, _, .cons r t, s => .cons r (pr_app t s)
theorem pr_take : ∀ {l : List α} {m : List β} (n : Nat), Paired F l m → Paired F (l.take n) (m.take n)
  | _, _, 0, _ => .nil
  | _, _, _ + 1, .nil => .nil
  | _, _, n + 1, .cons r t => .cons r (pr_take n t)
theorem pr_drop : ∀ {l : List α} {m : List β} (n : Nat), Paired F l m → Paired F (l.drop n) (m.drop n)
  | _, _, 0, h => h
  | _, _, _ + 1, .nil => .nil
  | _, _, n + 1, .cons _ t => pr_drop n t
theorem pr_one {a : α} {b : β} (h : F a b) : Paired F [a] [b] := .cons h .nil
theorem pr_len {l : List α} {m : List β} (h : Paired F l m) : l.length = m.length := Paired.length h
end
theorem take_more {α : Type} : ∀ {l : List α} {i : Nat} {x : α}, l[i]? = some x → l.take (i + 1) = l.take i ++ [x]
  | [], i, x, h => by simp at h
  | a :: l, 0, x, h => by
    have e : a = x := Option.some.inj h
    subst e
    rfl
  | a :: l, i + 1, x, h => by
    have ih := take_more (l := l) (i := i) (x := x) h
    show a :: l.take (i + 1) = a :: l.take i ++ [x]
    rw [ih]
    rfl
/-! ### data of the heap -/
def bc : Basic → Nat × Nat
  | .kind k => (0, k)
  | .has r => (1, r)
theorem bc_inj {b c : Basic} (h : bc b = bc c) : b = c := by
  cases b <;> cases c <;> simp [bc] at h <;> simp [h]
def BV (H : Hp) (v : V) (b : Basic) : Prop := ∃ p, v = .ref p ∧ H p = some (.tup [vi (bc b).1, vi (bc b).2])
def BL (H : Hp) (a : Addr) (bs : List Basic) : Prop := ∃ vs, H a = some (.lst vs) ∧ Paired (BV H) vs bs
def IL (H : Hp) (a : Addr) (ns : List Nat) : Prop := H a = some (.lst (vis ns))
def RV (H : Hp) (v : V) (r : Rule) : Prop := ∃ p, v = .ref p ∧ match r with
  | .sub b c => ∃ u w, H p = some (.tup [vi 0, u, w]) ∧ BV H u b ∧ BV H w c
  | .role r s => H p = some (.tup [vi 1, vi r, vi s])
  | .never b c => ∃ u w, H p = some (.tup [vi 2, u, w]) ∧ BV H u b ∧ BV H w c
  | .neverRole r s => H p = some (.tup [vi 3, vi r, vi s])
def RL (H : Hp) (a : Addr) (rs : List Rule) : Prop := ∃ vs, H a = some (.lst vs) ∧ Paired (RV H) vs rs
def fc : Fact → List Nat
  | .kind x k => [0, x, k]
  | .edge x a y => [1, x, a, y]
theorem fc_inj {f g : Fact} (h : fc f = fc g) : f = g := by
  cases f <;> cases g <;> simp [fc] at h <;> simp [h]
def FV (H : Hp) (v : V) (f : Fact) : Prop := ∃ p, v = .ref p ∧ H p = some (.tup (vis (fc f)))
def FL (H : Hp) (a : Addr) (fs : List Fact) : Prop := ∃ vs, H a = some (.lst vs) ∧ Paired (FV H) vs fs
section
variable {H H' : Hp} {v : V} {a : Addr}
theorem BV.ts {b : Basic} (h : BV H v b) (t : TupS H H') : BV H' v b := let ⟨p, e, q⟩ := h; ⟨p, e, t _ _ q⟩
theorem FV.ts {f : Fact} (h : FV H v f) (t : TupS H H') : FV H' v f := let ⟨p, e, q⟩ := h; ⟨p, e, t _ _ q⟩
theorem RV.ts {r : Rule} (h : RV H v r) (t : TupS H H') : RV H' v r := by
  obtain ⟨p, e, q⟩ := h
  refine ⟨p, e, ?_⟩
  cases r with
  | sub b c => obtain ⟨u, w, q, h1, h2⟩ := q; exact ⟨u, w, t _ _ q, h1.ts t, h2.ts t⟩
  | role r s => exact t _ _ q
  | never b c => obtain ⟨u, w, q, h1, h2⟩ := q; exact ⟨u, w, t _ _ q, h1.ts t, h2.ts t⟩
  | neverRole r s => exact t _ _ q
theorem bvs_ts {vs : List V} {bs : List Basic} (h : Paired (BV H) vs bs) (t : TupS H H') : Paired (BV H') vs bs := Paired.mapP h fun _ _ q => q.ts t
theorem fvs_ts {vs : List V} {bs : List Fact} (h : Paired (FV H) vs bs) (t : TupS H H') : Paired (FV H') vs bs := Paired.mapP h fun _ _ q => q.ts t
theorem rvs_ts {vs : List V} {bs : List Rule} (h : Paired (RV H) vs bs) (t : TupS H H') : Paired (RV H') vs bs := Paired.mapP h fun _ _ q => q.ts t
theorem BL.same {bs : List Basic} (h : BL H a bs) (s : Same H H') : BL H' a bs := let ⟨vs, e, q⟩ := h; ⟨vs, s _ _ e, bvs_ts q (TupS.of s)⟩
theorem RL.same {bs : List Rule} (h : RL H a bs) (s : Same H H') : RL H' a bs := let ⟨vs, e, q⟩ := h; ⟨vs, s _ _ e, rvs_ts q (TupS.of s)⟩
theorem FL.same {bs : List Fact} (h : FL H a bs) (s : Same H H') : FL H' a bs := let ⟨vs, e, q⟩ := h; ⟨vs, s _ _ e, fvs_ts q (TupS.of s)⟩
theorem IL.same {bs : List Nat} (h : IL H a bs) (s : Same H H') : IL H' a bs := s _ _ h
end
/-! ### the same as data of the library's == -/
def bD (b : Basic) : PyData := .tuple [.int (bc b).1, .int (bc b).2]
def iD (n : Nat) : PyData := .int n
def fD (f : Fact) : PyData := .tuple ((fc f).map iD)
section
variable {K : PySem.W.Frag} {H : Hp}
theorem dp_ints : ∀ ns : List Nat, DpAll K H (vis ns) (ns.map iD)
  | [] => .nil
  | n :: r => .cons (.int _) (dp_ints r)
theorem BV.dp {v : V} {b : Basic} (h : BV H v b) : Dp K H v (bD b) := by
  obtain ⟨p, rfl, q⟩ := h
  exact .tup (SqT.of q) (.cons (.int _) (.cons (.int _) .nil))
theorem FV.dp {v : V} {f : Fact} (h : FV H v f) : Dp K H v (fD f) := by
  obtain ⟨p, rfl, q⟩ := h
  exact .tup (SqT.of q) (dp_ints _)
theorem bvs_dp : ∀ {vs : List V} {bs : List Basic}, Paired (BV H) vs bs → DpAll K H vs (bs.map bD)
  | _, _, .nil => .nil
  | _, _, .cons h t => .cons h.dp (bvs_dp t)
theorem fvs_dp : ∀ {vs : List V} {bs : List Fact}, Paired (FV H) vs bs → DpAll K H vs (bs.map fD)
  | _, _, .nil => .nil
  | _, _, .cons h t => .cons h.dp (fvs_dp t)
theorem BL.dp {a : Addr} {bs : List Basic} (h : BL H a bs) : Dp K H (.ref a) (.list (bs.map bD)) := let ⟨vs, e, q⟩ := h; .lst (SqL.of e) (bvs_dp q)
theorem FL.dp {a : Addr} {bs : List Fact} (h : FL H a bs) : Dp K H (.ref a) (.list (bs.map fD)) := let ⟨vs, e, q⟩ := h; .lst (SqL.of e) (fvs_dp q)
theorem IL.dp {a : Addr} {ns : List Nat} (h : IL H a ns) : Dp K H (.ref a) (.list (ns.map iD)) := .lst (SqL.of h) (dp_ints _)
end
/-- flat rows of ints: shaped, told apart -/
theorem lay_ints : ∀ ns : List Nat, PyData.canLayAll0 (ns.map iD) = true
  | [] => by simp [PyData.canLayAll0]
  | n :: r => by simp [PyData.canLayAll0, iD, PyData.canLay0, lay_ints r]
theorem dep_ints : ∀ ns : List Nat, PyData.depthAll (ns.map iD) = 0
  | [] => by simp [PyData.depthAll]
  | n :: r => by simp [PyData.depthAll, iD, PyData.depth, dep_ints r]
theorem shaped_of {d : PyData} (h : d.canLay0 = true) (k : d.depth ≤ 64) : SeqAt.shaped d = true := by
  show (d.canLay0 && decide (d.depth ≤ 64)) = true
  rw [h, decide_eq_true k]; rfl
theorem bD_lay (b : Basic) : (bD b).canLay0 = true := by simp [bD, PyData.canLay0, PyData.canLayAll0]
theorem bD_dep (b : Basic) : (bD b).depth = 1 := by simp [bD, PyData.depth, PyData.depthAll]
theorem fD_lay (f : Fact) : (fD f).canLay0 = true := by
  simp only [fD, PyData.canLay0]
  exact lay_ints _
theorem fD_dep (f : Fact) : (fD f).depth = 1 := by
  simp only [fD, PyData.depth]
  rw [dep_ints]
theorem lay_all {A : Type} {D : A → PyData} (h : ∀ a, (D a).canLay0 = true) : ∀ l : List A, PyData.canLayAll0 (l.map D) = true
  | [] => by simp [PyData.canLayAll0]
  | n :: r => by simp [PyData.canLayAll0, h n, lay_all h r]
theorem dep_all {A : Type} {D : A → PyData} {k : Nat} (h : ∀ a, (D a).depth ≤ k) : ∀ l : List A, PyData.depthAll (l.map D) ≤ k
  | [] => by simp [PyData.depthAll]
  | n :: r => by
    have h1 := dep_all h r
    have h2 := h n
    simp only [List.map_cons, PyData.depthAll]
    omega
theorem shaped_list {A : Type} {D : A → PyData} {k : Nat} (h : ∀ a, (D a).canLay0 = true) (hd : ∀ a, (D a).depth ≤ k) (hk : k < 64) (l : List A) : SeqAt.shaped (.list (l.map D)) = true := by
  refine shaped_of (by simp only [PyData.canLay0]; exact lay_all h l) ?_
  have := dep_all hd l
  simp only [PyData.depth]
  omega
theorem bD_shaped (b : Basic) : SeqAt.shaped (bD b) = true := shaped_of (bD_lay b) (by rw [bD_dep]; decide)
theorem fD_shaped (f : Fact) : SeqAt.shaped (fD f) = true := shaped_of (fD_lay f) (by rw [fD_dep]; decide)
theorem bDs_shaped (l : List Basic) : SeqAt.shaped (.list (l.map bD)) = true := shaped_list (k := 1) bD_lay (fun b => by rw [bD_dep]; decide) (by decide) l
theorem fDs_shaped (l : List Fact) : SeqAt.shaped (.list (l.map fD)) = true := shaped_list (k := 1) fD_lay (fun b => by rw [fD_dep]; decide) (by decide) l
theorem iDs_shaped (l : List Nat) : SeqAt.shaped (.list (l.map iD)) = true := shaped_list (k := 0) (D := iD) (fun _ => by simp [iD, PyData.canLay0]) (fun _ => by simp [iD, PyData.depth]) (by decide) l
theorem eqv_ints : ∀ (a b : List Nat), PyData.eqvAll (a.map iD) (b.map iD) = decide (a = b)
  | [], [] => by simp [PyData.eqvAll]
  | [], _ :: _ => by simp [PyData.eqvAll]
  | _ :: _, [] => by simp [PyData.eqvAll]
  | x :: a, y :: b => by
    simp only [List.map_cons, PyData.eqvAll, eqv_ints a b, iD, PyData.eqv]
    by_cases h : x = y
    · subst h
      by_cases k : a = b
      · subst k; simp
      · simp [k]
    · have : ((x : Int) == (y : Int)) = false := beq_eq_false_iff_ne.mpr (by omega)
      rw [this]
      simp [h]
theorem bD_eqv (b c : Basic) : PyData.eqv (bD b) (bD c) = decide (b = c) := by
  have e := eqv_ints [(bc b).1, (bc b).2] [(bc c).1, (bc c).2]
  have e2 : PyData.eqv (bD b) (bD c) = PyData.eqvAll ([(bc b).1, (bc b).2].map iD) ([(bc c).1, (bc c).2].map iD) := by
    simp only [bD, PyData.eqv, List.map_cons, List.map_nil, iD]
  rw [e2, e]
  by_cases h : b = c
  · subst h; simp
  · rw [decide_eq_false h, decide_eq_false]
    intro q
    simp only [List.cons.injEq, and_true] at q
    exact h (bc_inj (Prod.ext q.1 q.2))
theorem fD_eqv (f g : Fact) : PyData.eqv (fD f) (fD g) = decide (f = g) := by
  have e2 : PyData.eqv (fD f) (fD g) = PyData.eqvAll ((fc f).map iD) ((fc g).map iD) := by
    simp only [fD, PyData.eqv]
  rw [e2, eqv_ints]
  by_cases h : f = g
  · subst h; simp
  · rw [decide_eq_false h, decide_eq_false]
    exact fun q => h (fc_inj q)
theorem eqv_empty (ds : List PyData) : PyData.eqv (.list ds) (.list []) = ds.isEmpty := by
  cases ds <;> simp [PyData.eqv, PyData.eqvAll]
theorem any_eqv {A : Type} [DecidableEq A] {D : A → PyData} (h : ∀ a b, PyData.eqv (D a) (D b) = decide (a = b)) (b : A) : ∀ l : List A, ((l.map D).any fun z => PyData.eqv z (D b)) = l.contains b
  | [] => rfl
  | a :: l => by
    rw [List.map_cons, List.any_cons, any_eqv h b l, h, List.contains_cons]
    congr 1
    by_cases e : a = b
    · subst e; simp
    · have : ¬ b = a := fun q => e q.symm
      simp [e, this]
/-! ### rules of comparison -/
section
variable {X : Cx}
theorem OpR.imp {f : Value → Value → Sem Value} {r r' : R2} (h : OpR X f r) (k : ∀ x y H Q, r' x y H Q → r x y H Q) : OpR X f r' := fun pins s σ H x y v u Q I rx ry q => h pins s σ H x y v u Q I rx ry (k _ _ _ _ q)
/-- a basic one in a list of them -/
def rInB : R2 := fun x y H Q => ∃ b bs a, BV H x b ∧ y = .ref a ∧ BL H a bs ∧ Q (.bl (bs.contains b)) H
def rNotInB : R2 := fun x y H Q => ∃ b bs a, BV H x b ∧ y = .ref a ∧ BL H a bs ∧ Q (.bl (!bs.contains b)) H
theorem op_inB (hu : X.A.units + 65 < cLine) : OpR X (compareOp .In) rInB := OpR.imp (op_inD hu) fun x y H Q ⟨b, bs, a, h1, h2, h3, q⟩ => by
  subst h2
  exact ⟨bD b, bs.map bD, h1.dp, h3.dp, bD_shaped b, bDs_shaped bs, by rw [any_eqv bD_eqv]; exact q⟩
theorem op_notInB (hu : X.A.units + 65 < cLine) : OpR X (compareOp .NotIn) rNotInB := OpR.imp (op_notInD hu) fun x y H Q ⟨b, bs, a, h1, h2, h3, q⟩ => by
  subst h2
  exact ⟨bD b, bs.map bD, h1.dp, h3.dp, bD_shaped b, bDs_shaped bs, by rw [any_eqv bD_eqv]; exact q⟩
/-- a thing told in a list of them -/
def rInF : R2 := fun x y H Q => ∃ b bs a, FV H x b ∧ y = .ref a ∧ FL H a bs ∧ Q (.bl (bs.contains b)) H
theorem op_inF (hu : X.A.units + 65 < cLine) : OpR X (compareOp .In) rInF := OpR.imp (op_inD hu) fun x y H Q ⟨b, bs, a, h1, h2, h3, q⟩ => by
  subst h2
  exact ⟨fD b, bs.map fD, h1.dp, h3.dp, fD_shaped b, fDs_shaped bs, by rw [any_eqv fD_eqv]; exact q⟩
/-- two basic ones -/
def rEqB : R2 := fun x y H Q => ∃ b c, BV H x b ∧ BV H y c ∧ Q (.bl (decide (b = c))) H
theorem op_eqB (hu : X.A.units + 64 < cLine) : OpR X (compareOp .Eq) rEqB := OpR.imp (op_eqD hu) fun x y H Q ⟨b, c, h1, h2, q⟩ =>
  ⟨bD b, bD c, h1.dp, h2.dp, bD_shaped b, bD_shaped c, by rw [bD_eqv]; exact q⟩
/-- a list and the empty one -/
def rNeE (K : PySem.W.Frag) : R2 := fun x y H Q => ∃ ds e, Dp K H x (.list ds) ∧ SeqAt.shaped (.list ds) = true ∧ y = .ref e ∧ H e = some (.lst []) ∧ Q (.bl (!ds.isEmpty)) H
def rEqE (K : PySem.W.Frag) : R2 := fun x y H Q => ∃ ds e, Dp K H x (.list ds) ∧ SeqAt.shaped (.list ds) = true ∧ y = .ref e ∧ H e = some (.lst []) ∧ Q (.bl ds.isEmpty) H
theorem nil_shaped : SeqAt.shaped (.list []) = true := iDs_shaped []
theorem op_neE (hu : X.A.units + 64 < cLine) : OpR X (compareOp .NotEq) (rNeE X.K) := OpR.imp (op_neD hu) fun x y H Q ⟨ds, e, h1, h2, h3, h4, q⟩ => by
  subst h3
  exact ⟨.list ds, .list [], h1, .lst (SqL.of h4) .nil, h2, nil_shaped, by rw [eqv_empty]; exact q⟩
theorem op_eqE (hu : X.A.units + 64 < cLine) : OpR X (compareOp .Eq) (rEqE X.K) := OpR.imp (op_eqD hu) fun x y H Q ⟨ds, e, h1, h2, h3, h4, q⟩ => by
  subst h3
  exact ⟨.list ds, .list [], h1, .lst (SqL.of h4) .nil, h2, nil_shaped, by rw [eqv_empty]; exact q⟩
/-- a whole number among whole numbers -/
theorem all_flat (ns : List Nat) : (vis ns).all flatV = true := by
  induction ns with
  | nil => rfl
  | cons n r ih =>
    show (flatV (vi n) && (vis r).all flatV) = true
    rw [ih]; rfl
theorem inV_ints (n : Nat) : ∀ ns : List Nat, inV (vi n) (vis ns) = ns.contains n
  | [] => rfl
  | m :: r => by
    have ih := inV_ints n r
    unfold inV at ih ⊢
    show (eqV (vi m) (vi n) || (vis r).any fun y => eqV y (vi n)) = _
    rw [ih, List.contains_cons]
    congr 1
    show ((m : Int) == (n : Int)) = (n == m)
    by_cases e : n = m
    · subst e; simp
    · have : ((m : Int) == (n : Int)) = false := beq_eq_false_iff_ne.mpr (by omega)
      have k : (n == m) = false := beq_eq_false_iff_ne.mpr e
      rw [this, k]
def rInN (K : PySem.W.Frag) : R2 := fun x y H Q => ∃ n ns a, x = vi n ∧ y = .ref a ∧ (SqL K H a (vis ns) ∨ SqT K H a (vis ns)) ∧ Q (.bl (ns.contains n)) H
def rNotInN (K : PySem.W.Frag) : R2 := fun x y H Q => ∃ n ns a, x = vi n ∧ y = .ref a ∧ (SqL K H a (vis ns) ∨ SqT K H a (vis ns)) ∧ Q (.bl (!ns.contains n)) H
theorem op_inN : OpR X (compareOp .In) (rInN X.K) := OpR.imp op_in_seq fun x y H Q ⟨n, ns, a, h1, h2, h3, q⟩ => by
  subst h1
  exact ⟨a, vis ns, h2, h3, rfl, all_flat ns, by rw [inV_ints]; exact q⟩
theorem op_notInN : OpR X (compareOp .NotIn) (rNotInN X.K) := OpR.imp op_notIn_seq fun x y H Q ⟨n, ns, a, h1, h2, h3, q⟩ => by
  subst h1
  exact ⟨a, vis ns, h2, h3, rfl, all_flat ns, by rw [inV_ints]; exact q⟩
/-- equal whole numbers -/
def rEqN : R2 := fun x y H Q => ∃ n m : Nat, x = vi n ∧ y = vi m ∧ Q (.bl (decide (n = m))) H
theorem op_eqN : OpR X (compareOp .Eq) rEqN := OpR.imp op_eq fun x y H Q ⟨n, m, h1, h2, q⟩ => by
  subst h1 h2
  refine ⟨rfl, ?_⟩
  have : decide (vi n = vi m) = decide (n = m) := by
    by_cases e : n = m
    · subst e; simp
    · rw [decide_eq_false e, decide_eq_false]
      intro z
      exact e (Int.ofNat.inj (V.int.inj z))
  rw [this]
  exact q
end
/-! ### what the program's top holds -/
/-- a whole number by its name -/
def GI (mg : Str → Option Value) (x : Str) (n : Int) : Prop := ∃ t, mg x = some (.int n t)
/-- a tuple of whole numbers by its name -/
def GT (K : PySem.W.Frag) (mg : Str → Option Value) (x : Str) (ns : List Nat) : Prop := ∃ a, mg x = some (.ref a) ∧ ∀ H, SqT K H a (vis ns)
/-- a def that keeps a promise, by its name -/
structure Cal (P : Program) (w : World) (K : PySem.W.Frag) (mg : Str → Option Value) (base : Heap) (k : Nat) (x : Str) (ps : List Str) (sp : Sp) : Prop where
  ex : ∃ f fd, FnOk P w K mg base CX0 k f fd ps sp ∧ mg x = some (.ref f) ∧ PySem.W.keepIn K (.ref f) = true ∧ Binds K fd ps []
/-- a def of the text, by its name -/
structure Def (K : PySem.W.Frag) (mg : Str → Option Value) (x : Str) (st : Stmt) : Prop where
  ex : ∃ f fd, Fun K x x st f fd ∧ mg x = some (.ref f)
section
variable {P : Program} {w : World} {K : PySem.W.Frag} {mg : Str → Option Value} {base : Heap}
theorem Def.cal {x : Str} {st : Stmt} {N ps : List Str} {k : Nat} {sp : Sp} (D : Def K mg x st) (S : FnScope N ps (defScope st)) (len : ∀ vs H Q E, sp vs H Q E → vs.length = ps.length)
    (hb : ∀ (kV doc pm : Value) (an : Option Addr) (cdv ct : Value) (us : List Value), us.length = ps.length → bindArgs (PySem.W.fnOf x x (defArgs st) (defBody st) (defScope st) .none kV doc pm an cdv ct) ⟨us, []⟩ = pure (ps.zip us))
    (hbody : ∀ (f : Addr) (cdv : Value) (A : Around) (outer : List Env) (s : Shared) (H : Hp) (vs : List V) (Q : VK) (E : XK), Room k (A.deeper (envOfC x (defScope st) s.heap.objs.size f cdv)) → sp vs H Q E →
      ∃ t, PSs (cxOf CX0 P w K mg base N x (defScope st) f cdv A outer s H E).nox (defBody st) t ∧ t { nx := fun _ H' => Q .non H', rt := Q } (start N vs) H) : Cal P w K mg base (k + 1) x ps sp := by
  obtain ⟨f, fd, F, hm⟩ := D.ex
  exact ⟨f, fd, F.ok S len (hbody f), hm, F.kp, F.binds hb⟩
theorem Cal.mono {j k : Nat} {x : Str} {ps : List Str} {sp : Sp} (C : Cal P w K mg base j x ps sp) (h : j ≤ k) : Cal P w K mg base k x ps sp := by
  obtain ⟨f, fd, F, r⟩ := C.ex
  exact ⟨f, fd, F.mono h, r⟩
end
section
variable {X : Cx} {p pos : Pos} {x : Str}
theorem pe_gi {n : Int} (h : GI X.mg x n) (hg : Gl X x := by rfl) (hd : (x == ("__debug__" : Str)) = false := by decide) : PE X (.Name x pos) (tC (.int n)) := by
  obtain ⟨t, e⟩ := h
  exact pe_glob hg e ⟨t, rfl⟩ hd
/-- a tuple of the top: an address, the tuple there -/
def tGT (K : PySem.W.Frag) (ns : List Nat) : TE := fun _ H Q => ∀ a, (∀ H, SqT K H a (vis ns)) → Q (.ref a) H
theorem pe_gt {ns : List Nat} (h : GT X.K X.mg x ns) (hg : Gl X x := by rfl) (hd : (x == ("__debug__" : Str)) = false := by decide) : PE X (.Name x pos) (tGT X.K ns) := by
  obtain ⟨a, e, q⟩ := h
  exact ⟨fun pins s σ H Q I hw => (pe_glob (v := .ref a) hg e rfl hd).run pins s σ H Q I (hw a q)⟩
theorem pe_cal {k : Nat} {ps : List Str} {sp : Sp} {e : Expr} {es : List Expr} {t : TA} (C : Cal X.prog X.w X.K X.mg X.base k x ps sp) (hr : Room k X.A) (hg : Gl X x) (ha : PA X (e :: es) t)
    (hs : starEach (e :: es) X.env = (false, eval e X.env) :: starEach es X.env := by rfl) (hpl : (backTo pos (starEach es X.env)).any (·.1) = false := by rfl) (hd : (x == ("__debug__" : Str)) = false := by decide) :
    PE X (.Call (.Name x p) (e :: es) [] pos) (tCall sp [] E0 t) := by
  obtain ⟨f, fd, F, hm, kp, hb⟩ := C.ex
  exact pe_call F hr hg hm kp hb .nil pass0 ha hd hs hpl
theorem pe_cal0 {k : Nat} {ps : List Str} {sp : Sp} (C : Cal X.prog X.w X.K X.mg X.base k x ps sp) (hr : Room k X.A) (hg : Gl X x) (hd : (x == ("__debug__" : Str)) = false := by decide) :
    PE X (.Call (.Name x p) [] [] pos) (tCall sp [] E0 tNil) := by
  obtain ⟨f, fd, F, hm, kp, hb⟩ := C.ex
  exact pe_call0 F hr hg hm kp hb .nil pass0 hd
end
end Wm

/-! # The walk: rules and what follows -/
namespace Wm
open PySem PySem.Spec PyProof.Rows L2
open Gq03 (Basic Rule Fact)
/-- what the top has written -/
structure Txt (K : PySem.W.Frag) (mg : Str → Option Value) (CL CD : Addr) : Prop where
  BEING : GI mg "BEING" 0
  HAVING : GI mg "HAVING" 1
  SUB : GI mg "SUB" 0
  ROLE : GI mg "ROLE" 1
  NEVER : GI mg "NEVER" 2
  NEVER_ROLE : GI mg "NEVER_ROLE" 3
  KIND : GI mg "KIND" 0
  EDGE : GI mg "EDGE" 1
  BEYOND : GI mg "BEYOND" (-1)
  NO_SUCH : GI mg "NO_SUCH" (-2)
  NONE : GI mg "NONE" (-3)
  TOLD : GI mg "TOLD" (-4)
  TOO_MANY : GI mg "TOO_MANY" (-5)
  MOST_TOLD : GI mg "MOST_TOLD" 14
  MOST_RULES : GI mg "MOST_RULES" 12
  MOST_STEPS : GI mg "MOST_STEPS" 4
  KINDS : GT K mg "KINDS" [1, 2, 3, 4, 5, 6]
  DIRECTIONS : GT K mg "DIRECTIONS" Gq03.roles
  NODES : GT K mg "NODES" Gq03.nodes
  LABELS : GT K mg "LABELS" [1, 2, 3, 4]
  NUMBERS : GT K mg "NUMBERS" [2, 3, 1, 4, 2, 4, 2, 1, 3, 2, 2, 1, 0, 0, 4, 0, 1, 3, 0]
  WITH_ROW : GT K mg "WITH_ROW" [11, 12]
  len : mg "len" = none
  range : mg "range" = none
  sorted : mg "sorted" = none
  list : mg "list" = none
  enumerate : mg "enumerate" = none
  int : mg "int" = none
  gL : mg "Lore" = some (.ref CL)
  gD : mg "Desk" = some (.ref CD)
  cL : Cls K CL
  cD : Cls K CD
  lR : NoAttr K CL "rules"
  lD : NoAttr K CL "directions"
  lB : NoAttr K CL "basics"
  lX : NoAttr K CL "bad"
  lY : NoAttr K CL "bad_directions"
  dT : NoAttr K CD "told"
  dR : NoAttr K CD "rules"
section
variable {P : Program} {w : World} {K : PySem.W.Frag} {mg : Str → Option Value} {base : Heap} {CL CD : Addr}
/-! ### turned -/
theorem xor_turned {r : Nat} (h : r ∈ Gq03.roles) : Builtin.bitXor (r : Int) 1 = ((Gq03.turned r : Nat) : Int) := by
  simp only [Gq03.roles, List.mem_cons, List.not_mem_nil, or_false] at h
  rcases h with rfl | rfl | rfl | rfl | rfl | rfl | rfl | rfl <;> decide +kernel
def spTurned : Sp := fun vs H Q _ => ∃ r : Nat, vs = [vi r] ∧ r ∈ Gq03.roles ∧ Q (vi (Gq03.turned r)) H
theorem scTurned : FnScope ["direction"] ["direction"] (defScope (top 9)) := ⟨rfl, rfl, rfl, by decide +kernel, rfl, by decide +kernel, by decide +kernel⟩
theorem ok_turned (D : Def K mg "turned" (top 9)) : Cal P w K mg base 1 "turned" ["direction"] spTurned := by
  refine D.cal scTurned (fun vs H Q E h => ?_) (fun _ _ _ _ _ _ us hl => match us, hl with | [_], _ => rfl) (fun f cdv A outer s H vs Q E hr h => ⟨_, pss_one (ps_ret (pe_op op_xor (pv 0) pe_int)), ?_⟩)
  · obtain ⟨r, rfl, _⟩ := h
    rfl
  · obtain ⟨r, rfl, h1, h2⟩ := h
    refine ⟨_, rfl, _, _, rfl, rfl, ?_⟩
    show Q (.int (Builtin.bitXor (r : Int) 1)) H
    rw [xor_turned h1]
    exact h2
/-! ### all_basics -/
/-- a comprehension without a test -/
theorem tYes_of {σ : L2.St} {H : Hp} {F G : Hp → Prop} (h : F H) : tYes σ H (fun b H3 => if b = true then F H3 else G H3) := iteT (B := G H) h
/-- an item of a row of numbers -/
theorem vis_get {l : List Nat} {i : Nat} {x : V} (h : (vis l)[i]? = some x) : ∃ n, l[i]? = some n ∧ x = vi n := by
  rw [List.getElem?_map] at h
  cases e : l[i]? with
  | none => rw [e] at h; cases h
  | some n => rw [e] at h; exact ⟨n, rfl, (Option.some.inj h).symm⟩
theorem vis_len (l : List Nat) : (vis l).length = l.length := List.length_map _
def spAllB : Sp := fun vs H Q _ => vs = [] ∧ ∀ p H', Same H H' → H p = none → BL H' p Gq03.basics → Q (.ref p) H'
theorem scAllB : FnScope ["kind", "direction"] [] (defScope (top 10)) := ⟨rfl, rfl, rfl, by decide +kernel, rfl, by decide +kernel, by decide +kernel⟩
/-- a tuple of two numbers made and put behind a list -/
theorem put_basic {H : Hp} {D p : Addr} {vs : List V} {bs : List Basic} {b : Basic} (hD : H D = some (.lst vs)) (hp : H p = none) (h : Paired (BV H) vs bs) :
    (upd H p (.tup [vi (bc b).1, vi (bc b).2])) D = some (.lst vs) ∧
    Paired (BV (upd (upd H p (.tup [vi (bc b).1, vi (bc b).2])) D (.lst (vs ++ [.ref p])))) (vs ++ [.ref p]) (bs ++ [b]) := by
  have ne : D ≠ p := ne_of_none hD hp
  have hD2 : (upd H p (.tup [vi (bc b).1, vi (bc b).2])) D = some (.lst vs) := by rw [upd_ne ne]; exact hD
  refine ⟨hD2, pr_app (bvs_ts (bvs_ts h (TupS.new hp)) (TupS.lst hD2)) (pr_one ⟨p, rfl, ?_⟩)⟩
  rw [upd_ne (Ne.symm ne)]
  exact upd_same
theorem ok_allB (T : Txt K mg CL CD) (D : Def K mg "all_basics" (top 10)) : Cal P w K mg base 1 "all_basics" [] spAllB := by
  refine D.cal scAllB (fun vs H Q E h => ?_) (fun _ _ _ _ _ _ us hl => match us, hl with | [], _ => rfl) (fun f cdv A outer s H vs Q E hr h => ⟨_, pss_one (ps_ret (pe_op op_cat
    (pe_lc (own := [("kind", 0)]) (g := gName 0) (tt := tYes) rfl scAllB.nd (pi_tup (pe_gt T.KINDS)) (blkOk_by (N := ["kind", "direction"]) (sc := defScope (top 10)) (by decide +kernel)) (fun _ _ _ _ _ => pg_name (i := 0) scAllB.nd rfl (Or.inl rfl)) (fun _ _ _ _ _ => pts_nil)
      (fun _ _ _ _ _ => pe_tup (pa_cons (pe_gi T.BEING) (pa_cons (pv 0) pa_nil))))
    (pe_lc (own := [("direction", 1)]) (g := gName 1) (tt := tYes) rfl scAllB.nd (pi_tup (pe_gt T.DIRECTIONS)) (blkOk_by (N := ["kind", "direction"]) (sc := defScope (top 10)) (by decide +kernel)) (fun _ _ _ _ _ => pg_name (i := 1) scAllB.nd rfl (Or.inl rfl)) (fun _ _ _ _ _ => pts_nil)
      (fun _ _ _ _ _ => pe_tup (pa_cons (pe_gi T.HAVING) (pa_cons (pv 1) pa_nil)))))), ?_⟩)
  · obtain ⟨rfl, _⟩ := h
    rfl
  · obtain ⟨rfl, k⟩ := h
    intro a ha
    refine ⟨a, rfl, ⟨_, ha _⟩, fun D hD => lc_tup (K := K) (a := a) (xs := vis [1, 2, 3, 4, 5, 6]) (fun i H' => Same H H' ∧ ∃ vs, H' D = some (.lst vs) ∧ vs.length = i ∧ Paired (BV H') vs ((([1, 2, 3, 4, 5, 6] : List Nat).take i).map Basic.kind))
      ⟨Same.new hD, [], upd_same, rfl, .nil⟩ (fun i H' _ _ => ha _) ?_ ?_⟩
    · rintro i x H' hx ⟨s1, vs, hv, hl, hp⟩
      obtain ⟨n, hn, rfl⟩ := vis_get hx
      refine ⟨rfl, tYes_of ⟨_, rfl, by show 2 ≤ sizeLine; decide, fun p np => ?_⟩⟩
      obtain ⟨q1, q2⟩ := put_basic (b := .kind n) hv np hp
      refine ⟨vs, q1, ?_, (s1.trans (Same.new np)).past hD, _, upd_same, ?_, ?_⟩
      · rw [hl]
        have := (List.getElem?_eq_some_iff.mp hn).1
        exact Nat.lt_of_lt_of_le this (by decide)
      · rw [List.length_append, hl]; rfl
      · rw [take_more hn, List.map_append]
        exact q2
    · rintro H1 ⟨s1, vs, hv, hl, hp⟩
      intro a' ha'
      refine ⟨a', rfl, ⟨_, ha' _⟩, fun D' hD' => lc_tup (K := K) (a := a') (xs := vis Gq03.roles) (fun i H' => Same H1 H' ∧ ∃ vs, H' D' = some (.lst vs) ∧ vs.length = i ∧ Paired (BV H') vs ((Gq03.roles.take i).map Basic.has))
        ⟨Same.new hD', [], upd_same, rfl, .nil⟩ (fun i H' _ _ => ha' _) ?_ ?_⟩
      · rintro i x H' hx ⟨s2, vs', hv', hl', hp'⟩
        obtain ⟨n, hn, rfl⟩ := vis_get hx
        refine ⟨rfl, tYes_of ⟨_, rfl, by show 2 ≤ sizeLine; decide, fun p np => ?_⟩⟩
        obtain ⟨q1, q2⟩ := put_basic (b := .has n) hv' np hp'
        refine ⟨vs', q1, ?_, (s2.trans (Same.new np)).past hD', _, upd_same, ?_, ?_⟩
        · rw [hl']
          have := (List.getElem?_eq_some_iff.mp hn).1
          exact Nat.lt_of_lt_of_le this (by decide)
        · rw [List.length_append, hl']; rfl
        · rw [take_more hn, List.map_append]
          exact q2
      · rintro H2 ⟨s2, vs', hv', hl', hp'⟩
        refine ⟨D, D', vs, vs', rfl, rfl, s2 _ _ hv, hv', ?_, fun p np => ?_⟩
        · rw [hl, hl']; decide
        · refine k p _ ((s1.trans s2).trans (Same.new np)) ((s1.trans s2).free np) ⟨_, upd_same, bvs_ts ?_ (TupS.new np)⟩
          exact pr_app (bvs_ts hp (TupS.of s2)) hp'
end
end Wm

namespace Wm
open PySem PySem.Spec PyProof.Rows L2
open Gq03 (Basic Rule Fact)
theorem iT {c : Bool} {A B : Prop} (hc : c = true) (h : A) : if c = true then A else B := by
  rw [if_pos hc]
  exact h
theorem iF {c : Bool} {A B : Prop} (hc : c = false) (h : B) : if c = true then A else B := by
  rw [hc, if_neg Bool.false_ne_true]
  exact h
theorem iB {c : Bool} {A B : Prop} (h1 : c = true → A) (h2 : c = false → B) : if c = true then A else B := by
  cases c with
  | true => exact iT rfl (h1 rfl)
  | false => exact iF rfl (h2 rfl)
theorem IL.snoc {H : Hp} {l : Addr} {ns : List Nat} {b : Nat} : IL (upd H l (.lst (vis ns ++ [vi b]))) l (ns ++ [b]) := by
  show upd H l (.lst (vis ns ++ [vi b])) l = some (.lst ((ns ++ [b]).map vi))
  rw [List.map_append]
  exact upd_same
theorem line1000 {n : Nat} (h : n ≤ 1000) : n ≤ sizeLine := Nat.le_trans h (by decide)
theorem linelt {n : Nat} (h : n ≤ 1000000) : n < sizeLine := Nat.lt_of_le_of_lt h (by decide)
/-- a statement, then the rest, with a word between them -/
def tMid (t u : L2.TS) : L2.TS := fun D σ H => ∃ Mid : L2.St → Hp → Prop, t { D with nx := Mid } σ H ∧ ∀ σ' H', Mid σ' H' → u D σ' H'
theorem pss_mid {X : Cx} {st : Stmt} {rest : List Stmt} {t u : L2.TS} (h1 : PS X st t) (h2 : PSs X rest u) : PSs X (st :: rest) (tMid t u) := by
  refine ⟨fun pins s σ H D I h => ?_⟩
  obtain ⟨Mid, hm, hu⟩ := h
  refine wpAny_execs_cons (thn (h1.run pins s σ H { D with nx := Mid } I hm) fun f s1 q => ?_)
  cases f with
  | next =>
    obtain ⟨σ', H', I', q⟩ := q
    exact h2.run pins s1 σ' H' D I' (hu σ' H' q)
  | ret v => exact q
  | brk => exact q
  | cont => exact q
section
variable {P : Program} {w : World} {K : PySem.W.Frag} {mg : Str → Option Value} {base : Heap} {CL CD : Addr}
/-! ### next_directions -/
def on1 (d : Nat) : Rule → List Nat
  | .role a b => if a = d then [b] else []
  | _ => []
def on2 (d : Nat) : Rule → List Nat
  | .role a b => if Gq03.turned a = d then [Gq03.turned b] else []
  | _ => []
theorem onRole_snoc (l : List Rule) (x : Rule) (d : Nat) : Gq03.onRole (l ++ [x]) d = Gq03.onRole l d ++ on1 d x ++ on2 d x := by
  unfold Gq03.onRole
  rw [List.flatMap_append, List.append_assoc]
  congr 1
  cases x <;> simp [on1, on2]
theorem onRole_cons (l : List Rule) (x : Rule) (d : Nat) : Gq03.onRole (x :: l) d = on1 d x ++ on2 d x ++ Gq03.onRole l d := by
  unfold Gq03.onRole
  rw [List.flatMap_cons]
  congr 1
  cases x <;> simp [on1, on2]
theorem on1_len (d : Nat) (x : Rule) : (on1 d x).length ≤ 1 := by
  cases x with
  | role a b => unfold on1; simp only; split <;> simp
  | _ => simp [on1]
theorem on2_len (d : Nat) (x : Rule) : (on2 d x).length ≤ 1 := by
  cases x with
  | role a b => unfold on2; simp only; split <;> simp
  | _ => simp [on2]
theorem onRole_len (d : Nat) : ∀ l : List Rule, (Gq03.onRole l d).length ≤ 2 * l.length
  | [] => by simp [Gq03.onRole]
  | x :: l => by
    have ih := onRole_len d l
    have h1 := on1_len d x
    have h2 := on2_len d x
    rw [onRole_cons, List.length_append, List.length_append, List.length_cons]
    omega
def spNextD : Sp := fun vs H Q _ => ∃ (a : Addr) (d : Nat) (rs : List Rule), vs = [.ref a, vi d] ∧ RL H a rs ∧ okRules rs ∧ rs.length ≤ 12 ∧ d ∈ Gq03.roles ∧
  ∀ p H', Same H H' → H p = none → IL H' p (Gq03.onRole rs d) → Q (.ref p) H'
theorem scNextD : FnScope ["rules", "direction", "found", "sort", "r", "s"] ["rules", "direction"] (defScope (top 11)) := ⟨rfl, rfl, rfl, by decide +kernel, rfl, by decide +kernel, by decide +kernel⟩
theorem ok_nextD (T : Txt K mg CL CD) (cT : Cal P w K mg base 1 "turned" ["direction"] spTurned) (D : Def K mg "next_directions" (top 11)) : Cal P w K mg base 2 "next_directions" ["rules", "direction"] spNextD := by
  refine D.cal scNextD (fun vs H Q E h => ?_) (fun _ _ _ _ _ _ us hl => match us, hl with | [_, _], _ => rfl) (fun f cdv A outer s H vs Q E hr h => ⟨_, pss_cons (ps_set (i := 2) scNextD.nd rfl (Or.inl rfl) (pe_lst pa_nil))
    (pss_cons (ps_for PassesOwn.never rfl (pi_list (pv 0)) (pg_tup rfl (pgs_cons (pg_name (i := 3) scNextD.nd rfl (Or.inl rfl)) (pgs_cons (pg_name (i := 4) scNextD.nd rfl (Or.inl rfl)) (pgs_cons (pg_name (i := 5) scNextD.nd rfl (Or.inl rfl)) pgs_nil))))
      (pss_mid (ps_if (PW.pt (pw_and (pt_cmpR op_eqN (pv 3) (pe_gi T.ROLE) (nomark _)) (pw_and1 (pt_cmpR op_eqN (pv 4) (pv 1) (nomark _)))))
          (pss_one (ps_expr (pe_bm PySem.F.plainAttrs_list PySem.F.slot_list_append PySem.F.type_list_append mt_append (pv 2) (pa_cons (pv 5) pa_nil)))) pss_nil)
        (pss_one (ps_if (PW.pt (pw_and (pt_cmpR op_eqN (pv 3) (pe_gi T.ROLE) (nomark _)) (pw_and1 (pt_cmpR op_eqN (pv 4) (pe_cal cT hr rfl (pa_cons (pv 1) pa_nil)) (nomark _)))))
          (pss_one (ps_expr (pe_bm PySem.F.plainAttrs_list PySem.F.slot_list_append PySem.F.type_list_append mt_append (pv 2) (pa_cons (pe_cal cT hr rfl (pa_cons (pv 5) pa_nil)) pa_nil)))) pss_nil))))
      (pss_one (ps_ret (pv 2)))), ?_⟩)
  · obtain ⟨a, d, rs, rfl, _⟩ := h
    rfl
  · obtain ⟨a, d, rs, rfl, ⟨vs, hv, hp⟩, ok, hlen, hd, k⟩ := h
    refine ⟨by show 0 ≤ sizeLine; decide, fun l nl => ?_⟩
    refine ⟨_, rfl, a, rfl, ⟨_, SqL.of ((Same.new nl) _ _ hv)⟩, for_list (K := K) (a := a) (xs := vs) (fun i σ H' => ∃ v3 v4 v5, σ = [some (.ref a), some (vi d), some (.ref l), v3, v4, v5] ∧ Same H H' ∧ IL H' l (Gq03.onRole (rs.take i) d))
      ⟨none, none, none, rfl, Same.new nl, upd_same⟩ (fun i σ H' _ ⟨_, _, _, _, s1, _⟩ => SqL.of (s1 _ _ hv)) ?_ ?_⟩
    · rintro i x σ H' hx ⟨v3, v4, v5, rfl, s1, hl⟩
      obtain ⟨r, hri, hrv⟩ := pr_get hp hx
      have len1 := onRole_len d (rs.take i)
      have len2 : (rs.take i).length ≤ 12 := by rw [List.length_take]; omega
      have step := onRole_snoc (rs.take i) r d
      rw [← take_more hri] at step
      have okr := ok r (List.mem_of_getElem? hri)
      obtain ⟨p, rfl, q⟩ := hrv.ts (TupS.of s1)
      have ways : (∃ (n : Nat) (u w' : V), n ≠ 1 ∧ on1 d r = [] ∧ on2 d r = [] ∧ H' p = some (.tup [vi n, u, w'])) ∨ ∃ b c, r = .role b c ∧ H' p = some (.tup [vi 1, vi b, vi c]) := by
        cases r with
        | sub b c => obtain ⟨u, w', hq, _⟩ := q; exact .inl ⟨0, u, w', by decide, rfl, rfl, hq⟩
        | never b c => obtain ⟨u, w', hq, _⟩ := q; exact .inl ⟨2, u, w', by decide, rfl, rfl, hq⟩
        | neverRole b c => exact .inl ⟨3, _, _, by decide, rfl, rfl, q⟩
        | role b c => exact .inr ⟨b, c, rfl, q⟩
      rcases ways with ⟨n, u, w', hn, e1, e2, hq⟩ | ⟨b, c, rfl, hq⟩
      · refine ⟨p, _, rfl, SqT.of hq, rfl, _, _, rfl, _, _, rfl, _, _, rfl, rfl, ?_⟩
        refine ⟨fun σ2 H2 => σ2 = _ ∧ H2 = H', ⟨_, rfl, n, 1, rfl, rfl, _, rfl, iF (decide_eq_false hn) (iF rfl ⟨rfl, rfl⟩)⟩, ?_⟩
        rintro σ2 H2 ⟨rfl, rfl⟩
        refine ⟨_, rfl, n, 1, rfl, rfl, _, rfl, iF (decide_eq_false hn) (iF rfl ⟨_, _, _, rfl, s1, ?_⟩)⟩
        rw [step, e1, e2, List.append_nil, List.append_nil]
        exact hl
      · refine ⟨p, _, rfl, SqT.of hq, rfl, _, _, rfl, _, _, rfl, _, _, rfl, rfl, ?_⟩
        refine ⟨fun σ2 H2 => σ2 = [some (.ref a), some (vi d), some (.ref l), some (vi 1), some (vi b), some (vi c)] ∧ Same H H2 ∧ IL H2 l (Gq03.onRole (rs.take i) d ++ on1 d (.role b c)), ⟨_, rfl, 1, 1, rfl, rfl, _, rfl, iT rfl ⟨_, rfl, _, rfl, b, d, rfl, rfl, _, rfl, ?_⟩⟩, ?_⟩
        · refine iB (fun hc => ?_) (fun hc => ?_)
          · have e : b = d := of_decide_eq_true hc
            refine ⟨_, rfl, .inl ⟨rfl, _, .inl (.inl hl)⟩, _, rfl, l, _, _, rfl, rfl, hl, ?_, rfl, s1.past nl, ?_⟩
            · rw [vis_len]
              exact linelt (by omega)
            · have : on1 d (.role b c) = [c] := if_pos e
              rw [this]; exact IL.snoc
          · have e : ¬ b = d := of_decide_eq_false hc
            have : on1 d (.role b c) = [] := if_neg e
            exact ⟨rfl, s1, by rw [this, List.append_nil]; exact hl⟩
        · rintro σ2 H2 ⟨rfl, s2, hl2⟩
          refine ⟨_, rfl, 1, 1, rfl, rfl, _, rfl, iT rfl ⟨_, rfl, _, rfl, d, rfl, hd, b, Gq03.turned d, rfl, rfl, _, rfl, ?_⟩⟩
          refine iB (fun hc => ?_) (fun hc => ?_)
          · have e : Gq03.turned b = d := turned_eq.mpr (of_decide_eq_true hc)
            refine ⟨_, rfl, .inl ⟨rfl, _, .inl (.inl hl2)⟩, _, rfl, c, rfl, okr.2, l, _, _, rfl, rfl, hl2, ?_, ?_⟩
            · have := on1_len d (.role b c)
              rw [vis_len, List.length_append]
              exact linelt (by omega)
            · refine ⟨_, _, _, rfl, s2.past nl, ?_⟩
              rw [step]
              have : on2 d (.role b c) = [Gq03.turned c] := if_pos e
              rw [this]
              exact IL.snoc
          · have e : ¬ Gq03.turned b = d := fun q => (of_decide_eq_false hc) (turned_eq.mp q)
            refine ⟨_, _, _, rfl, s2, ?_⟩
            rw [step]
            have : on2 d (.role b c) = [] := if_neg e
            rw [this, List.append_nil]
            exact hl2
    · rintro σ H' ⟨_, _, _, rfl, s1, hl⟩
      refine ⟨_, rfl, ?_⟩
      have e : rs.take vs.length = rs := by rw [pr_len hp, List.take_length]
      rw [e] at hl
      exact k l H' s1 nl hl
end
end Wm

namespace Wm
open PySem PySem.Spec PyProof.Rows L2
open Gq03 (Basic Rule Fact)
theorem take_fold {A B : Type} {g : B → A → B} {m : B} {l : List A} {i : Nat} {x : A} (h : l[i]? = some x) : (l.take (i + 1)).foldl g m = g ((l.take i).foldl g m) x := by
  rw [take_more h, List.foldl_append]; rfl
section
variable {P : Program} {w : World} {K : PySem.W.Frag} {mg : Str → Option Value} {base : Heap} {CL CD : Addr}
/-! ### direction_follow -/
def spDirF : Sp := fun vs H Q _ => ∃ (a : Addr) (d : Nat) (rs : List Rule), vs = [.ref a, vi d] ∧ RL H a rs ∧ okRules rs ∧ rs.length ≤ 12 ∧ d ∈ Gq03.roles ∧
  ∀ p H' l, Same H H' → H p = none → IL H' p l → l.Nodup → (∀ s, s ∈ l ↔ s ∈ Gq03.upRole rs d) → Q (.ref p) H'
theorem scDirF : FnScope ["rules", "direction", "found", "at", "other"] ["rules", "direction"] (defScope (top 12)) := ⟨rfl, rfl, rfl, by decide +kernel, rfl, by decide +kernel, by decide +kernel⟩
theorem ok_dirF (T : Txt K mg CL CD) (cN : Cal P w K mg base 2 "next_directions" ["rules", "direction"] spNextD) (D : Def K mg "direction_follow" (top 12)) : Cal P w K mg base 3 "direction_follow" ["rules", "direction"] spDirF := by
  refine D.cal scDirF (fun vs H Q E h => ?_) (fun _ _ _ _ _ _ us hl => match us, hl with | [_, _], _ => rfl) (fun f cdv A outer s H vs Q E hr h => ⟨_, pss_cons (ps_set (i := 2) scDirF.nd rfl (Or.inl rfl) (pe_lst (pa_cons (pv 1) pa_nil)))
    (pss_cons (ps_set (i := 3) scDirF.nd rfl (Or.inl rfl) pe_int)
    (pss_cons (ps_while PassesOwn.never (pt_cmpR op_lt (pv 3) (pe_callB call_len_seq (by rfl) T.len PySem.boot_len (pa_cons (pv 2) pa_nil)) (nomark _))
      (pss_cons (ps_for PassesOwn.never rfl (pi_list (pe_cal cN hr rfl (pa_cons (pv 0) (pa_cons (pe_ix ix_list (pv 2) (pv 3) (fun _ _ => rfl)) pa_nil)))) (pg_name (i := 4) scDirF.nd rfl (Or.inl rfl))
        (pss_one (ps_if (pt_cmpR op_notInN (pv 4) (pv 2) rfl) (pss_one (ps_expr (pe_bm PySem.F.plainAttrs_list PySem.F.slot_list_append PySem.F.type_list_append mt_append (pv 2) (pa_cons (pv 4) pa_nil)))) pss_nil)))
      (pss_one (ps_set (i := 3) scDirF.nd rfl (Or.inl rfl) (pe_op op_add (pv 3) pe_int)))))
    (pss_one (ps_ret (pv 2))))), ?_⟩)
  · obtain ⟨a, d, rs, rfl, _⟩ := h
    rfl
  · obtain ⟨a, d, rs, rfl, hRL, ok, hlen, hd, k⟩ := h
    refine ⟨_, rfl, by show 1 ≤ sizeLine; decide, fun l nl => ?_⟩
    refine ⟨fun m σ H' => ∃ (at_ : Nat) (fd : List Nat) (v4 : Option V), m = 8 - at_ ∧ σ = [some (.ref a), some (vi d), some (.ref l), some (vi at_), v4] ∧ Same H H' ∧ IL H' l fd ∧ Bfs (Gq03.onRole rs) Gq03.roles d at_ fd,
      ⟨8, 0, [d], none, rfl, rfl, Same.new nl, upd_same, Bfs.start hd⟩, ?_⟩
    rintro m σ H1 ⟨at_, fd, v4, rfl, rfl, s1, hl, B⟩
    have blen := B.len
    have e8 : Gq03.roles.length = 8 := rfl
    refine ⟨_, rfl, _, rfl, l, _, rfl, .inl (SqL.of hl), at_, _, rfl, rfl, _, rfl, iB (fun hc => ?_) (fun hc => ?_)⟩
    · rw [vis_len] at hc
      have hlt : at_ < fd.length := by have := of_decide_eq_true hc; omega
      have hx : fd[at_]? = some fd[at_] := List.getElem?_eq_getElem hlt
      refine ⟨fun σ' H' => ∃ (fd' : List Nat) (v4 : Option V), σ' = [some (.ref a), some (vi d), some (.ref l), some (vi (at_ + 1)), v4] ∧ Same H H' ∧ IL H' l fd' ∧ Bfs (Gq03.onRole rs) Gq03.roles d (at_ + 1) fd', ?_, ?_⟩
      · rintro σ' H' ⟨fd', v4, rfl, s2, hl2, B2⟩
        exact ⟨8 - (at_ + 1), by omega, at_ + 1, fd', v4, rfl, rfl, s2, hl2, B2⟩
      · refine ⟨_, rfl, _, rfl, _, rfl, l, vis fd, at_, vi fd[at_], rfl, rfl, SqL.of hl, atI_nat (by rw [List.getElem?_map, hx]; rfl), ?_⟩
        refine ⟨a, fd[at_], rs, rfl, hRL.same s1, ok, hlen, B.sub _ (List.mem_of_getElem? hx), fun q H2 s2 nq hq => ?_⟩
        have nelq : l ≠ q := ne_of_none hl nq
        refine ⟨q, rfl, ⟨_, SqL.of hq⟩, for_list (K := K) (a := q) (xs := vis (Gq03.onRole rs fd[at_])) (fun i σ H' => ∃ v4, σ = [some (.ref a), some (vi d), some (.ref l), some (vi at_), v4] ∧ Same H H' ∧ IL H' q (Gq03.onRole rs fd[at_]) ∧ IL H' l (((Gq03.onRole rs fd[at_]).take i).foldl put1 fd))
          ⟨v4, rfl, s1.trans s2, hq, s2 _ _ hl⟩ (fun i σ H' _ ⟨_, _, _, h, _⟩ => SqL.of h) ?_ ?_⟩
        · rintro i x σ H' hxi ⟨v4', rfl, s3, hq3, hl3⟩
          obtain ⟨n, hn, rfl⟩ := vis_get hxi
          refine ⟨_, rfl, _, rfl, n, _, l, rfl, rfl, .inl (SqL.of hl3), _, rfl, ?_⟩
          have st := take_fold (g := put1) (m := fd) hn
          refine iB (fun hc => ?_) (fun hc => ?_)
          · refine ⟨_, rfl, .inl ⟨rfl, _, .inl (.inl hl3)⟩, _, rfl, l, _, _, rfl, rfl, hl3, ?_, ?_⟩
            · have h1 := puts_lenle ((Gq03.onRole rs fd[at_]).take i) fd
              have h2 := onRole_len fd[at_] rs
              have h3 : ((Gq03.onRole rs fd[at_]).take i).length ≤ (Gq03.onRole rs fd[at_]).length := by rw [List.length_take]; omega
              rw [vis_len]
              exact linelt (by omega)
            · refine ⟨_, rfl, s3.past nl, ?_, ?_⟩
              · show upd H' l _ q = _
                rw [upd_ne (Ne.symm nelq)]; exact hq3
              · rw [st]
                have : put1 (((Gq03.onRole rs fd[at_]).take i).foldl put1 fd) n = ((Gq03.onRole rs fd[at_]).take i).foldl put1 fd ++ [n] := if_neg (by simpa using hc)
                rw [this]
                exact IL.snoc
          · refine ⟨_, rfl, s3, hq3, ?_⟩
            rw [st]
            have : put1 (((Gq03.onRole rs fd[at_]).take i).foldl put1 fd) n = ((Gq03.onRole rs fd[at_]).take i).foldl put1 fd := if_pos (by simpa using hc)
            rw [this]
            exact hl3
        · rintro σ H' ⟨v4', rfl, s3, hq3, hl3⟩
          rw [vis_len, List.take_length] at hl3
          refine ⟨_, rfl, _, _, rfl, rfl, ?_⟩
          exact ⟨_, _, rfl, s3, hl3, B.turn (onRole_roles ok) hx⟩
    · rw [vis_len] at hc
      have hge : fd.length ≤ at_ := by have := of_decide_eq_false hc; omega
      refine ⟨_, rfl, ?_⟩
      exact k l H1 fd s1 nl hl B.nd fun s => by rw [B.fin hge, mem_upRole ok hd]
end
end Wm

namespace Wm
open PySem PySem.Spec PyProof.Rows L2
open Gq03 (Basic Rule Fact)
def sub1 (b : Basic) : Rule → List Basic
  | .sub a c => if a = b then [c] else []
  | _ => []
theorem subsOf_snoc (l : List Rule) (x : Rule) (b : Basic) : subsOf (l ++ [x]) b = subsOf l b ++ sub1 b x := by
  unfold subsOf
  rw [List.flatMap_append]
  congr 1
  cases x <;> simp [sub1]
theorem sub1_len (b : Basic) (x : Rule) : (sub1 b x).length ≤ 1 := by
  cases x with
  | sub a c => unfold sub1; simp only; split <;> simp
  | _ => simp [sub1]
theorem subsOf_len (b : Basic) : ∀ l : List Rule, (subsOf l b).length ≤ l.length
  | [] => by simp [subsOf]
  | x :: l => by
    have e : subsOf (x :: l) b = sub1 b x ++ subsOf l b := by
      unfold subsOf
      rw [List.flatMap_cons]
      cases x <;> simp [sub1]
    have := subsOf_len b l
    have := sub1_len b x
    rw [e, List.length_append, List.length_cons]
    omega
theorem nextB_len (rs : List Rule) (b : Basic) : (nextB rs b).length ≤ 3 * rs.length := by
  unfold nextB
  rw [List.length_append]
  have := subsOf_len b rs
  cases b with
  | kind k => simp only [List.length_nil]; omega
  | has r =>
    have := onRole_len r rs
    simp only [List.length_map]
    omega
section
variable {P : Program} {w : World} {K : PySem.W.Frag} {mg : Str → Option Value} {base : Heap} {CL CD : Addr}
/-! ### next_basics -/
def spNextB : Sp := fun vs H Q _ => ∃ (a : Addr) (v : V) (b : Basic) (rs : List Rule), vs = [.ref a, v] ∧ RL H a rs ∧ okRules rs ∧ rs.length ≤ 12 ∧ BV H v b ∧ b ∈ Gq03.basics ∧
  ∀ p H', Same H H' → H p = none → BL H' p (nextB rs b) → Q (.ref p) H'
theorem scNextB : FnScope ["rules", "basic", "found", "sort", "b", "c", "direction"] ["rules", "basic"] (defScope (top 13)) := ⟨rfl, rfl, rfl, by decide +kernel, rfl, by decide +kernel, by decide +kernel⟩
theorem ok_nextB (T : Txt K mg CL CD) (cN : Cal P w K mg base 2 "next_directions" ["rules", "direction"] spNextD) (D : Def K mg "next_basics" (top 13)) : Cal P w K mg base 3 "next_basics" ["rules", "basic"] spNextB := by
  refine D.cal scNextB (fun vs H Q E h => ?_) (fun _ _ _ _ _ _ us hl => match us, hl with | [_, _], _ => rfl) (fun f cdv A outer s H vs Q E hr h => ⟨_,
    pss_cons (ps_setLc (i := 2) (own := [("sort", 3), ("b", 4), ("c", 5)]) (g := gTup K 3 (gCons (gName 3) (gCons (gName 4) (gCons (gName 5) gNil)))) rfl scNextB.nd rfl rfl (sw_true rfl rfl rfl (by decide +kernel)) (pi_list (pv 0)) (blkOk_by (N := ["rules", "basic", "found", "sort", "b", "c", "direction"]) (sc := defScope (top 13)) (by decide +kernel))
      (fun _ _ _ _ _ => by exact pg_tup rfl (pgs_cons (pg_name (i := 3) scNextB.nd rfl (Or.inl rfl)) (pgs_cons (pg_name (i := 4) scNextB.nd rfl (Or.inl rfl)) (pgs_cons (pg_name (i := 5) scNextB.nd rfl (Or.inl rfl)) pgs_nil))))
      (fun _ _ _ _ _ => by exact pts_one (PW.pt (pw_and (pt_cmpR op_eqN (pv 3) (pe_gi T.SUB) (nomark _)) (pw_and1 (pt_cmpR (op_eqB hr.units) (pv 4) (pv 1) (nomark _)))))) (fun _ _ _ _ _ => pv 5))
    (pss_cons (ps_if (pt_cmpR op_eqN (pe_ix ix_tup (pv 1) pe_int (fun _ _ => rfl)) (pe_gi T.HAVING) (nomark _))
      (pss_one (ps_expr (pe_bm PySem.F.plainAttrs_list PySem.F.slot_list_extend PySem.F.type_list_extend mt_extend (pv 2) (pa_cons
        (pe_lc (own := [("direction", 6)]) (g := gName 6) (tt := tYes) rfl scNextB.nd (pi_list (pe_cal cN hr rfl (pa_cons (pv 0) (pa_cons (pe_ix ix_tup (pv 1) pe_int (fun _ _ => rfl)) pa_nil)))) (blkOk_by (N := ["rules", "basic", "found", "sort", "b", "c", "direction"]) (sc := defScope (top 13)) (by decide +kernel))
          (fun _ _ _ _ _ => pg_name (i := 6) scNextB.nd rfl (Or.inl rfl)) (fun _ _ _ _ _ => pts_nil) (fun _ _ _ _ _ => pe_tup (pa_cons (pe_gi T.HAVING) (pa_cons (pv 6) pa_nil)))) pa_nil)))) pss_nil)
    (pss_one (ps_ret (pv 2)))), ?_⟩)
  · obtain ⟨a, v, b, rs, rfl, _⟩ := h
    rfl
  · obtain ⟨a, v, b, rs, rfl, ⟨vs, hv, hp⟩, ok, hlen, hb, hbm, k⟩ := h
    refine ⟨_, rfl, a, rfl, ⟨_, SqL.of hv⟩, fun D hD => lc_list (K := K) (a := a) (xs := vs) (fun i H' => Same H H' ∧ ∃ us, H' D = some (.lst us) ∧ Paired (BV H') us (subsOf (rs.take i) b))
      ⟨Same.new hD, [], upd_same, .nil⟩ (fun i H' _ ⟨s1, _⟩ => SqL.of (s1 _ _ hv)) ?_ ?_⟩
    · rintro i x H' hx ⟨s1, us, hu, hpu⟩
      obtain ⟨r, hri, hrv⟩ := pr_get hp hx
      have step := subsOf_snoc (rs.take i) r b
      rw [← take_more hri] at step
      obtain ⟨p, rfl, q⟩ := hrv.ts (TupS.of s1)
      have hb' := hb.ts (TupS.of s1)
      have ways : (∃ (n : Nat) (u w' : V), n ≠ 0 ∧ sub1 b r = [] ∧ H' p = some (.tup [vi n, u, w'])) ∨ ∃ b' c u w', r = .sub b' c ∧ H' p = some (.tup [vi 0, u, w']) ∧ BV H' u b' ∧ BV H' w' c := by
        cases r with
        | sub b' c => obtain ⟨u, w', hq, h1, h2⟩ := q; exact .inr ⟨b', c, u, w', rfl, hq, h1, h2⟩
        | never b c => obtain ⟨u, w', hq, _⟩ := q; exact .inl ⟨2, u, w', by decide, rfl, hq⟩
        | neverRole b c => exact .inl ⟨3, _, _, by decide, rfl, q⟩
        | role b c => exact .inl ⟨1, _, _, by decide, rfl, q⟩
      rcases ways with ⟨n, u, w', hn, e1, hq⟩ | ⟨b', c, u, w', rfl, hq, h1, h2⟩
      · refine ⟨p, _, rfl, SqT.of hq, rfl, _, _, rfl, _, _, rfl, _, _, rfl, rfl, rfl, ?_⟩
        refine ⟨_, rfl, n, 0, rfl, rfl, _, rfl, iF (decide_eq_false hn) (iF rfl ⟨s1, us, hu, ?_⟩)⟩
        rw [step, e1, List.append_nil]
        exact hpu
      · refine ⟨p, _, rfl, SqT.of hq, rfl, _, _, rfl, _, _, rfl, _, _, rfl, rfl, rfl, ?_⟩
        refine ⟨_, rfl, 0, 0, rfl, rfl, _, rfl, iT rfl ⟨_, rfl, _, rfl, b', b, h1, hb', _, rfl, iB (fun hc => ?_) (fun hc => ?_)⟩⟩
        · have e : sub1 b (.sub b' c) = [c] := if_pos (of_decide_eq_true hc)
          refine ⟨_, rfl, us, hu, ?_, s1.past hD, _, upd_same, ?_⟩
          · have h3 := subsOf_len b (rs.take i)
            have h4 : (rs.take i).length ≤ 12 := by rw [List.length_take]; omega
            rw [pr_len hpu]
            exact linelt (by omega)
          · rw [step, e]
            exact pr_app (bvs_ts hpu (TupS.lst hu)) (pr_one (h2.ts (TupS.lst hu)))
        · have e : sub1 b (.sub b' c) = [] := if_neg (of_decide_eq_false hc)
          refine ⟨s1, us, hu, ?_⟩
          rw [step, e, List.append_nil]
          exact hpu
    · rintro H1 ⟨s1, us, hu, hpu⟩
      rw [pr_len hp, List.take_length] at hpu
      obtain ⟨p, rfl, q⟩ := hb.ts (TupS.of s1)
      refine ⟨_, rfl, p, _, _, _, rfl, rfl, SqT.of q, atI_nat (j := 0) rfl, _, 1, rfl, rfl, _, rfl, iB (fun hc => ?_) (fun hc => ?_)⟩
      · have hc' := of_decide_eq_true hc
        cases b with
        | kind j => exact absurd hc' (by show ¬ (0 : Nat) = 1; decide)
        | has r =>
          have hr' := has_mem.mp hbm
          refine ⟨_, rfl, .inl ⟨rfl, _, .inl (.inl hu)⟩, _, rfl, _, rfl, p, _, _, _, rfl, rfl, SqT.of q, atI_nat (j := 1) rfl, ?_⟩
          refine ⟨a, r, rs, rfl, RL.same ⟨vs, hv, hp⟩ s1, ok, hlen, hr', fun q2 H2 s2 nq2 hq2 => ?_⟩
          have neD2 : D ≠ q2 := ne_of_none hu nq2
          refine ⟨q2, rfl, ⟨_, SqL.of hq2⟩, fun D' hD' => lc_list (K := K) (a := q2) (xs := vis (Gq03.onRole rs r)) (fun i H' => Same H2 H' ∧ ∃ ws, H' D' = some (.lst ws) ∧ ws.length = i ∧ Paired (BV H') ws (((Gq03.onRole rs r).take i).map Basic.has))
            ⟨Same.new hD', [], upd_same, rfl, .nil⟩ (fun i H' _ ⟨s3, _⟩ => SqL.of (s3 _ _ hq2)) ?_ ?_⟩
          · rintro i x H' hx ⟨s3, ws, hw, hl, hpw⟩
            obtain ⟨n, hn, rfl⟩ := vis_get hx
            refine ⟨rfl, tYes_of ⟨_, rfl, by show 2 ≤ sizeLine; decide, fun p2 np2 => ?_⟩⟩
            obtain ⟨q3, q4⟩ := put_basic (b := .has n) hw np2 hpw
            refine ⟨ws, q3, ?_, (s3.trans (Same.new np2)).past hD', _, upd_same, ?_, ?_⟩
            · have h1 := onRole_len r rs
              have h2 := (List.getElem?_eq_some_iff.mp hn).1
              rw [hl]
              exact linelt (by omega)
            · rw [List.length_append, hl]; rfl
            · rw [take_more hn, List.map_append]
              exact q4
          · rintro H3 ⟨s3, ws, hw, hl, hpw⟩
            rw [vis_len, List.take_length] at hpw
            have hu3 := s3 _ _ (s2 _ _ hu)
            have neDD : D ≠ D' := ne_of_none (s2 _ _ hu) hD'
            refine ⟨D, D', us, ws, rfl, rfl, hu3, hw, ?_, ?_⟩
            · have h1 := onRole_len r rs
              have h2 := subsOf_len (.has r) rs
              rw [pr_len hpu, pr_len hpw, List.length_map]
              exact line1000 (by omega)
            · refine ⟨_, rfl, k D _ (((s1.trans s2).trans s3).past hD) hD ⟨_, upd_same, ?_⟩⟩
              exact pr_app (bvs_ts hpu ((TupS.of (s2.trans s3)).trans (TupS.lst hu3))) (bvs_ts hpw (TupS.lst hu3))
      · have hc' := of_decide_eq_false hc
        refine ⟨_, rfl, k D _ s1 hD ⟨us, hu, ?_⟩⟩
        cases b with
        | kind j =>
          have e : nextB rs (.kind j) = subsOf rs (.kind j) := by unfold nextB; simp
          rw [e]
          exact hpu
        | has r => exact absurd rfl hc'
end
end Wm

namespace Wm
open PySem PySem.Spec PyProof.Rows L2
open Gq03 (Basic Rule Fact)
theorem u65 {k : Nat} {A : Around} (r : Room k A) : A.units + 65 < cLine := by have := r.un; omega
theorem u1 {k : Nat} {A : Around} (r : Room k A) : A.units + 1 < cLine := by have := r.un; omega
theorem put1_in {A : Type} [DecidableEq A] {m : List A} {y : A} (h : (!m.contains y) = false) : put1 m y = m := if_pos (by simpa using h)
theorem put1_out {A : Type} [DecidableEq A] {m : List A} {y : A} (h : (!m.contains y) = true) : put1 m y = m ++ [y] := if_neg (by simpa using h)
section
variable {P : Program} {w : World} {K : PySem.W.Frag} {mg : Str → Option Value} {base : Heap} {CL CD : Addr}
/-! ### basic_follow -/
def spBasF : Sp := fun vs H Q _ => ∃ (a : Addr) (v : V) (b : Basic) (rs : List Rule), vs = [.ref a, v] ∧ RL H a rs ∧ okRules rs ∧ rs.length ≤ 12 ∧ BV H v b ∧ b ∈ Gq03.basics ∧
  ∀ p H' l, Same H H' → H p = none → BL H' p l → l.Nodup → (∀ c, c ∈ l ↔ c ∈ Gq03.up rs [b]) → Q (.ref p) H'
theorem scBasF : FnScope ["rules", "basic", "found", "at", "other"] ["rules", "basic"] (defScope (top 14)) := ⟨rfl, rfl, rfl, by decide +kernel, rfl, by decide +kernel, by decide +kernel⟩
theorem ok_basF (T : Txt K mg CL CD) (cN : Cal P w K mg base 3 "next_basics" ["rules", "basic"] spNextB) (D : Def K mg "basic_follow" (top 14)) : Cal P w K mg base 4 "basic_follow" ["rules", "basic"] spBasF := by
  refine D.cal scBasF (fun vs H Q E h => ?_) (fun _ _ _ _ _ _ us hl => match us, hl with | [_, _], _ => rfl) (fun f cdv A outer s H vs Q E hr h => ⟨_, pss_cons (ps_set (i := 2) scBasF.nd rfl (Or.inl rfl) (pe_lst (pa_cons (pv 1) pa_nil)))
    (pss_cons (ps_set (i := 3) scBasF.nd rfl (Or.inl rfl) pe_int)
    (pss_cons (ps_while PassesOwn.never (pt_cmpR op_lt (pv 3) (pe_callB call_len_seq (by rfl) T.len PySem.boot_len (pa_cons (pv 2) pa_nil)) (nomark _))
      (pss_cons (ps_for PassesOwn.never rfl (pi_list (pe_cal cN hr rfl (pa_cons (pv 0) (pa_cons (pe_ix ix_list (pv 2) (pv 3) (fun _ _ => rfl)) pa_nil)))) (pg_name (i := 4) scBasF.nd rfl (Or.inl rfl))
        (pss_one (ps_if (pt_cmpR (op_notInB (u65 hr)) (pv 4) (pv 2) rfl) (pss_one (ps_expr (pe_bm PySem.F.plainAttrs_list PySem.F.slot_list_append PySem.F.type_list_append mt_append (pv 2) (pa_cons (pv 4) pa_nil)))) pss_nil)))
      (pss_one (ps_set (i := 3) scBasF.nd rfl (Or.inl rfl) (pe_op op_add (pv 3) pe_int)))))
    (pss_one (ps_ret (pv 2))))), ?_⟩)
  · obtain ⟨a, v, b, rs, rfl, _⟩ := h
    rfl
  · obtain ⟨a, v, b, rs, rfl, hRL, ok, hlen, hb, hbm, k⟩ := h
    refine ⟨_, rfl, by show 1 ≤ sizeLine; decide, fun l nl => ?_⟩
    refine ⟨fun m σ H' => ∃ (at_ : Nat) (fd : List Basic) (v4 : Option V), m = 14 - at_ ∧ σ = [some (.ref a), some v, some (.ref l), some (vi at_), v4] ∧ Same H H' ∧ BL H' l fd ∧ Bfs (nextB rs) Gq03.basics b at_ fd,
      ⟨14, 0, [b], none, rfl, rfl, Same.new nl, ⟨_, upd_same, pr_one (hb.ts (TupS.new nl))⟩, Bfs.start hbm⟩, ?_⟩
    rintro m σ H1 ⟨at_, fd, v4, rfl, rfl, s1, ⟨us, hl, hp⟩, B⟩
    have blen := B.len
    have ulen := pr_len hp
    have e8 : Gq03.basics.length = 14 := rfl
    refine ⟨_, rfl, _, rfl, l, _, rfl, .inl (SqL.of hl), at_, _, rfl, rfl, _, rfl, iB (fun hc => ?_) (fun hc => ?_)⟩
    · have hlt : at_ < fd.length := by have := of_decide_eq_true hc; omega
      have hx : fd[at_]? = some fd[at_] := List.getElem?_eq_getElem hlt
      obtain ⟨u0, hu0, hbu⟩ := pr_get' hp hx
      refine ⟨fun σ' H' => ∃ (fd' : List Basic) (v4 : Option V), σ' = [some (.ref a), some v, some (.ref l), some (vi (at_ + 1)), v4] ∧ Same H H' ∧ BL H' l fd' ∧ Bfs (nextB rs) Gq03.basics b (at_ + 1) fd', ?_, ?_⟩
      · rintro σ' H' ⟨fd', v4, rfl, s2, hl2, B2⟩
        exact ⟨14 - (at_ + 1), by omega, at_ + 1, fd', v4, rfl, rfl, s2, hl2, B2⟩
      · refine ⟨_, rfl, _, rfl, _, rfl, l, us, at_, u0, rfl, rfl, SqL.of hl, atI_nat hu0, ?_⟩
        refine ⟨a, u0, fd[at_], rs, rfl, hRL.same s1, ok, hlen, hbu, B.sub _ (List.mem_of_getElem? hx), fun q H2 s2 nq ⟨ws, hq, hpq⟩ => ?_⟩
        have nelq : l ≠ q := ne_of_none hl nq
        refine ⟨q, rfl, ⟨_, SqL.of hq⟩, for_list (K := K) (a := q) (xs := ws) (fun i σ H' => ∃ v4, σ = [some (.ref a), some v, some (.ref l), some (vi at_), v4] ∧ Same H H' ∧ H' q = some (.lst ws) ∧ Paired (BV H') ws (nextB rs fd[at_]) ∧ BL H' l (((nextB rs fd[at_]).take i).foldl put1 fd))
          ⟨v4, rfl, s1.trans s2, hq, hpq, us, s2 _ _ hl, bvs_ts hp (TupS.of s2)⟩ (fun i σ H' _ ⟨_, _, _, h, _⟩ => SqL.of h) ?_ ?_⟩
        · rintro i x σ H' hxi ⟨v4', rfl, s3, hq3, hpq3, ys, hl3, hpl3⟩
          obtain ⟨c, hc, hcv⟩ := pr_get hpq3 hxi
          refine ⟨_, rfl, _, rfl, c, _, l, hcv, rfl, ⟨ys, hl3, hpl3⟩, _, rfl, ?_⟩
          have st := take_fold (g := put1) (m := fd) hc
          refine iB (fun hc => ?_) (fun hc => ?_)
          · refine ⟨_, rfl, .inl ⟨rfl, _, .inl (.inl hl3)⟩, _, rfl, l, _, _, rfl, rfl, hl3, ?_, ?_⟩
            · have h1 := puts_lenle ((nextB rs fd[at_]).take i) fd
              have h2 := nextB_len rs fd[at_]
              have h3 : ((nextB rs fd[at_]).take i).length ≤ (nextB rs fd[at_]).length := by rw [List.length_take]; omega
              rw [pr_len hpl3]
              exact linelt (by omega)
            · refine ⟨_, rfl, s3.past nl, ?_, bvs_ts hpq3 (TupS.lst hl3), ?_⟩
              · show upd H' l _ q = _
                rw [upd_ne (Ne.symm nelq)]; exact hq3
              · rw [st, put1_out hc]
                exact ⟨_, upd_same, pr_app (bvs_ts hpl3 (TupS.lst hl3)) (pr_one (hcv.ts (TupS.lst hl3)))⟩
          · refine ⟨_, rfl, s3, hq3, hpq3, ?_⟩
            rw [st, put1_in hc]
            exact ⟨ys, hl3, hpl3⟩
        · rintro σ H' ⟨v4', rfl, s3, hq3, hpq3, hl3⟩
          rw [pr_len hpq, List.take_length] at hl3
          refine ⟨_, rfl, _, _, rfl, rfl, ?_⟩
          exact ⟨_, _, rfl, s3, hl3, B.turn (nextB_basics ok) hx⟩
    · have hge : fd.length ≤ at_ := by have := of_decide_eq_false hc; omega
      refine ⟨_, rfl, ?_⟩
      exact k l H1 fd s1 nl ⟨us, hl, hp⟩ B.nd fun s => by rw [B.fin hge, mem_up1 ok hbm]
/-! ### are_forbidden, are_role_forbidden: their lore by what they read of it -/
/-- an instance of Lore whose rules are rs -/
def LoR (CL : Addr) (H : Hp) (a : Addr) (rs : List Rule) : Prop := ∃ dx fs ar, H a = some (.ins CL dx fs) ∧ fs.lookup ("rules" : Str) = some (.ref ar) ∧ RL H ar rs
end
end Wm

namespace Wm
open PySem PySem.Spec PyProof.Rows L2
open Gq03 (Basic Rule Fact)
/-! ### Lore -/
def lF (ar ad ab aB aD : Addr) : List (Str × V) := [("rules", .ref ar), ("directions", .ref ad), ("basics", .ref ab), ("bad", .ref aB), ("bad_directions", .ref aD)]
theorem lk_here {k : Str} {v : V} {r : List (Str × V)} : List.lookup k ((k, v) :: r) = some v := by
  have e : (k == k) = true := beq_self_eq_true k
  simp only [List.lookup, e]
theorem lk_past {k g : Str} {v : V} {r : List (Str × V)} (h : (k == g) = false) : List.lookup k ((g, v) :: r) = List.lookup k r := by
  simp only [List.lookup, h]
theorem put_here {f : Str} {v x : V} {r : List (Str × V)} : putF f v ((f, x) :: r) = (f, v) :: r := if_pos rfl
theorem put_past {f g : Str} {v x : V} {r : List (Str × V)} (h : ¬ g = f) : putF f v ((g, x) :: r) = (g, x) :: putF f v r := if_neg h
section
variable {ar ad ab aB aD : Addr}
theorem lF_r : (lF ar ad ab aB aD).lookup ("rules" : Str) = some (.ref ar) := lk_here
theorem lF_d : (lF ar ad ab aB aD).lookup ("directions" : Str) = some (.ref ad) := (lk_past (by decide +kernel)).trans lk_here
theorem lF_b : (lF ar ad ab aB aD).lookup ("basics" : Str) = some (.ref ab) := (lk_past (by decide +kernel)).trans ((lk_past (by decide +kernel)).trans lk_here)
theorem lF_x : (lF ar ad ab aB aD).lookup ("bad" : Str) = some (.ref aB) := (lk_past (by decide +kernel)).trans ((lk_past (by decide +kernel)).trans ((lk_past (by decide +kernel)).trans lk_here))
theorem lF_y : (lF ar ad ab aB aD).lookup ("bad_directions" : Str) = some (.ref aD) := (lk_past (by decide +kernel)).trans ((lk_past (by decide +kernel)).trans ((lk_past (by decide +kernel)).trans ((lk_past (by decide +kernel)).trans lk_here)))
end
theorem putF_new {f : Str} {v : V} : ∀ {l : List (Str × V)}, (∀ p ∈ l, ¬ p.1 = f) → putF f v l = l ++ [(f, v)]
  | [], _ => rfl
  | (g, x) :: r, h => by
    rw [put_past (h (g, x) List.mem_cons_self), putF_new fun p hp => h p (List.mem_cons_of_mem _ hp)]
    rfl
theorem lF_new {ar ad ab aB aD : Addr} : putF "bad_directions" (.ref aD) (putF "bad" (.ref aB) (putF "basics" (.ref ab) (putF "directions" (.ref ad) (putF "rules" (.ref ar) [])))) = lF ar ad ab aB aD := by
  have e1 : putF "rules" (.ref ar) [] = ([("rules", .ref ar)] : List (Str × V)) := rfl
  have e2 : putF "directions" (.ref ad) ([("rules", .ref ar)] : List (Str × V)) = ([("rules", .ref ar), ("directions", .ref ad)] : List (Str × V)) := put_past (by decide +kernel)
  have e3 : putF "basics" (.ref ab) ([("rules", .ref ar), ("directions", .ref ad)] : List (Str × V)) = ([("rules", .ref ar), ("directions", .ref ad), ("basics", .ref ab)] : List (Str × V)) :=
    (put_past (by decide +kernel)).trans (congrArg _ (put_past (by decide +kernel)))
  have e4 : putF "bad" (.ref aB) ([("rules", .ref ar), ("directions", .ref ad), ("basics", .ref ab)] : List (Str × V)) = ([("rules", .ref ar), ("directions", .ref ad), ("basics", .ref ab), ("bad", .ref aB)] : List (Str × V)) :=
    (put_past (by decide +kernel)).trans (congrArg _ ((put_past (by decide +kernel)).trans (congrArg _ (put_past (by decide +kernel)))))
  have e5 : putF "bad_directions" (.ref aD) ([("rules", .ref ar), ("directions", .ref ad), ("basics", .ref ab), ("bad", .ref aB)] : List (Str × V)) = lF ar ad ab aB aD :=
    (put_past (by decide +kernel)).trans (congrArg _ ((put_past (by decide +kernel)).trans (congrArg _ ((put_past (by decide +kernel)).trans (congrArg _ (put_past (by decide +kernel)))))))
  rw [e1, e2, e3, e4, e5]
/-- a basic one's key -/
def kb (b : Basic) : List Key := [Sum.inl ((bc b).1 : Int), Sum.inl ((bc b).2 : Int)]
theorem kb_inj {b c : Basic} (h : kb b = kb c) : b = c := by
  unfold kb at h
  injection h with h1 h2
  injection h2 with h2 _
  have e1 := Sum.inl.inj h1
  have e2 := Sum.inl.inj h2
  exact bc_inj (Prod.ext (Int.ofNat.inj e1) (Int.ofNat.inj e2))
theorem kb_map (b : Basic) : (kb b).map kV = [vi (bc b).1, vi (bc b).2] := rfl
def DirsAt (H : Hp) (kvd : List (Key × V)) (l : List Nat) (dirs : Nat → List Nat) (aB aD : Addr) : Prop := ∀ r ∈ l, ∃ q, valV kvd (.inl (r : Int)) = some (.ref q) ∧ IL H q (dirs r) ∧ q ≠ aB ∧ q ≠ aD
def BasAt (H : Hp) (kvb : List (List Key × V)) (l : List Basic) (bas : Basic → List Basic) (aB aD : Addr) : Prop := ∀ b ∈ l, ∃ q, valV kvb (kb b) = some (.ref q) ∧ BL H q (bas b) ∧ q ≠ aB ∧ q ≠ aD
/-- the lore at a: of the rules rs, all that follows by k, the bad ones so far at aB, aD -/
def LoreW (CL : Addr) (H : Hp) (a : Addr) (rs : List Rule) (k : Kept) (B : List Basic) (D : List Nat) (aB aD : Addr) : Prop := ∃ dx ar ad ab kvd kvb,
  H a = some (.ins CL dx (lF ar ad ab aB aD)) ∧ RL H ar rs ∧ H ad = some (.dK kvd) ∧ DirsAt H kvd Gq03.roles k.dirs aB aD ∧ H ab = some (.dT kvb) ∧ BasAt H kvb Gq03.basics k.bas aB aD ∧ BL H aB B ∧ IL H aD D ∧ aB ≠ aD ∧ ar ≠ aB ∧ ar ≠ aD
theorem LoreW.same {CL : Addr} {H H' : Hp} {a : Addr} {rs : List Rule} {k : Kept} {B : List Basic} {D : List Nat} {aB aD : Addr} (h : LoreW CL H a rs k B D aB aD) (s : Same H H') : LoreW CL H' a rs k B D aB aD := by
  obtain ⟨dx, ar, ad, ab, kvd, kvb, h1, h2, h3, h4, h5, h6, h7, h8, h9⟩ := h
  exact ⟨dx, ar, ad, ab, kvd, kvb, s _ _ h1, h2.same s, s _ _ h3, fun r hr => let ⟨q, e, i, j⟩ := h4 r hr; ⟨q, e, i.same s, j⟩, s _ _ h5, fun b hb => let ⟨q, e, i, j⟩ := h6 b hb; ⟨q, e, i.same s, j⟩, h7.same s, h8.same s, h9⟩
/-- all but p as it was -/
def SB (p : Addr) (H H' : Hp) : Prop := ∀ b o, H b = some o → b ≠ p → H' b = some o
theorem SB.free {p l : Addr} {H H' : Hp} (s : SB p H H') (h : H' l = none) (ne : l ≠ p) : H l = none := by
  cases e : H l with
  | none => rfl
  | some o =>
    have := s l o e ne
    rw [h] at this
    cases this
theorem RL.sb {p a : Addr} {H H1 : Hp} {rs : List Rule} {C dx : Addr} {fs : List (Str × V)} (h : RL H a rs) (s : SB p H H1) (hp : H p = some (.ins C dx fs)) : RL H1 a rs := by
  obtain ⟨vs, e, q⟩ := h
  exact ⟨vs, s _ _ e (ne_of e hp (by intro z; cases z)), rvs_ts q (fun t xs et => s t _ et (ne_of et hp (by intro z; cases z)))⟩
theorem choose_by {A B : Type} [Inhabited B] {l : List A} {R : A → B → Prop} (h : ∀ a ∈ l, ∃ b, R a b) : ∃ f : A → B, ∀ a ∈ l, R a (f a) := by
  have : ∀ a, ∃ b, a ∈ l → R a b := fun a => by
    by_cases c : a ∈ l
    · obtain ⟨b, hb⟩ := h a c
      exact ⟨b, fun _ => hb⟩
    · exact ⟨default, fun z => absurd z c⟩
  obtain ⟨f, hf⟩ := Classical.axiomOfChoice this
  exact ⟨f, fun a ha => hf a ha⟩
theorem SB.trans {p : Addr} {H H1 H2 : Hp} (a : SB p H H1) (b : Same H1 H2) : SB p H H2 := fun q o e ne => b q o (a q o e ne)
theorem SB.past {p l : Addr} {H H1 : Hp} {o : HO} (a : SB p H H1) (h : H l = none) : SB p H (upd H1 l o) := fun q u e ne => by
  rw [upd_ne (ne_of_none e h)]; exact a q u e ne
theorem SB.refl (p : Addr) (H : Hp) : SB p H H := fun _ _ e _ => e
theorem SB.tups {p : Addr} {H H1 : Hp} {o : HO} (a : SB p H H1) (h : H p = some o) (d : ∀ xs, HO.tup xs ≠ o) : TupS H H1 := fun q xs e => a q _ e (ne_of e h (d xs))
theorem SB.at {p : Addr} {H H1 : Hp} {o : HO} (a : SB p H H1) : SB p H (upd H1 p o) := fun q u e ne => by
  rw [upd_ne ne]; exact a q u e ne
theorem upd_keep {H : Hp} {a b : Addr} {o u v : HO} (h : H a = some o) (h' : H b = some u) (d : o ≠ u) : upd H b v a = some o := by
  rw [upd_ne (ne_of h h' d)]; exact h
/-- tuples stay where something else is written -/
theorem TupS.at {H : Hp} {p : Addr} {o u : HO} (h : H p = some u) (d : ∀ xs, HO.tup xs ≠ u) : TupS H (upd H p o) := fun q xs e => upd_keep e h (d xs)
theorem BL.at {H : Hp} {a p : Addr} {o u : HO} {bs : List Basic} (b : BL H a bs) (h : H p = some u) (ne : a ≠ p) (d : ∀ xs, HO.tup xs ≠ u) : BL (upd H p o) a bs := by
  obtain ⟨vs, e, q⟩ := b
  exact ⟨vs, by rw [upd_ne ne]; exact e, bvs_ts q (TupS.at h d)⟩
theorem RL.at {H : Hp} {a p : Addr} {o u : HO} {bs : List Rule} (b : RL H a bs) (h : H p = some u) (ne : a ≠ p) (d : ∀ xs, HO.tup xs ≠ u) : RL (upd H p o) a bs := by
  obtain ⟨vs, e, q⟩ := b
  exact ⟨vs, by rw [upd_ne ne]; exact e, rvs_ts q (TupS.at h d)⟩
section
variable {P : Program} {w : World} {K : PySem.W.Frag} {mg : Str → Option Value} {base : Heap} {CL CD : Addr}
abbrev sLI : Stmt := inClass (top 15) 0
def spLI (CL : Addr) : Sp := fun vs H Q _ => ∃ (p dx ar : Addr) (rs : List Rule), vs = [.ref p, .ref ar] ∧ H p = some (.ins CL dx []) ∧ RL H ar rs ∧ okRules rs ∧ rs.length ≤ 12 ∧
  ∀ H' k aB aD, SB p H H' → Ups rs k → H aB = none → H aD = none → LoreW CL H' p rs k [] [] aB aD → Q .non H'
theorem scLI : FnScope ["self", "rules", "direction", "basic"] ["self", "rules"] (defScope sLI) := ⟨rfl, rfl, rfl, by decide +kernel, rfl, by decide +kernel, by decide +kernel⟩
theorem ok_LI {f : Addr} {fd : FuncData} (F : Fun K "__init__" "Lore.__init__" sLI f fd) (T : Txt K mg CL CD) (cA : Cal P w K mg base 1 "all_basics" [] spAllB) (cD : Cal P w K mg base 3 "direction_follow" ["rules", "direction"] spDirF)
    (cB : Cal P w K mg base 4 "basic_follow" ["rules", "basic"] spBasF) : FnOk P w K mg base CX0 5 f fd ["self", "rules"] (spLI CL) := by
  refine F.ok scLI (fun vs H Q E h => ?_) (fun cdv A outer s H vs Q E hr h => ⟨_, pss_cons (ps_fld (pv 0) (pv 1) rfl) (pss_cons (ps_fld (pv 0) pe_dnewK rfl) (pss_cons (ps_fld (pv 0) pe_dnewT rfl) (pss_cons (ps_fld (pv 0) (pe_lst pa_nil) rfl) (pss_mid (ps_fld (pv 0) (pe_lst pa_nil) rfl)
    (pss_mid (ps_for PassesOwn.never rfl (pi_tup (pe_gt T.DIRECTIONS)) (pg_name (i := 2) scLI.nd rfl (Or.inl rfl))
      (pss_one (ps_dput (u1 hr) (pe_fld (pv 0) rfl) (pv 2) (pe_cal cD (hr.mono (by decide)) rfl (pa_cons (pv 1) (pa_cons (pv 2) pa_nil))) rfl)))
    (pss_one (ps_for PassesOwn.never rfl (pi_list (pe_cal0 cA (hr.mono (by decide)) rfl)) (pg_name (i := 3) scLI.nd rfl (Or.inl rfl))
      (pss_one (ps_dput (u1 hr) (pe_fld (pv 0) rfl) (pv 3) (pe_cal cB hr rfl (pa_cons (pv 1) (pa_cons (pv 3) pa_nil))) rfl))))))))), ?_⟩)
  · obtain ⟨p, dx, ar, rs, rfl, _⟩ := h
    rfl
  · obtain ⟨p, dx, ar, rs, rfl, hp, hR, ok, hlen, k⟩ := h
    have nep : ar ≠ p := by obtain ⟨_, e, _⟩ := hR; exact ne_of e hp (by intro z; cases z)
    -- self.rules = rules
    refine ⟨_, rfl, _, rfl, p, CL, dx, [], rfl, hp, T.cL, T.lR, (by show 0 < 1000; decide), ?_⟩
    -- self.directions = {}
    refine fun ad nad => ⟨_, rfl, p, CL, dx, _, rfl, by rw [upd_ne (ne_of_none upd_same nad)]; exact upd_same, T.cL, T.lD, (by show 1 < 1000; decide), ?_⟩
    refine fun ab nab => ⟨_, rfl, p, CL, dx, _, rfl, by rw [upd_ne (ne_of_none upd_same nab)]; exact upd_same, T.cL, T.lB, (by show 2 < 1000; decide), ?_⟩
    refine ⟨by show 0 ≤ sizeLine; decide, fun aB naB => ⟨_, rfl, p, CL, dx, _, rfl, by rw [upd_ne (ne_of_none upd_same naB)]; exact upd_same, T.cL, T.lX, (by show 3 < 1000; decide), ?_⟩⟩
    refine ⟨fun σ H5 => ∃ aD, σ = [some (.ref p), some (.ref ar), none, none] ∧ SB p H H5 ∧ H5 p = some (.ins CL dx (lF ar ad ab aB aD)) ∧ H5 ad = some (.dK []) ∧ H5 ab = some (.dT []) ∧ H5 aB = some (.lst []) ∧ H5 aD = some (.lst []) ∧ H ad = none ∧ H ab = none ∧ H aB = none ∧ H aD = none ∧ aB ≠ aD, ?_, ?_⟩
    · refine ⟨by show 0 ≤ sizeLine; decide, fun aD naD => ⟨_, rfl, p, CL, dx, _, rfl, by rw [upd_ne (ne_of_none upd_same naD)]; exact upd_same, T.cL, T.lY, (by show 4 < 1000; decide), ?_⟩⟩
      have n1 : ad ≠ p := Ne.symm (ne_of_none upd_same nad)
      have n2 : ab ≠ p := Ne.symm (ne_of_none upd_same nab)
      have n3 : aB ≠ p := Ne.symm (ne_of_none upd_same naB)
      have n4 : aD ≠ p := Ne.symm (ne_of_none upd_same naD)
      have s1 := (SB.refl p H).at (o := .ins CL dx (putF "rules" (.ref ar) []))
      have h1 := s1.free nad n1
      have s2 := (s1.past (o := .dK []) h1).at (o := .ins CL dx (putF "directions" (.ref ad) (putF "rules" (.ref ar) [])))
      have h2 := s2.free nab n2
      have s3 := (s2.past (o := .dT []) h2).at (o := .ins CL dx (putF "basics" (.ref ab) (putF "directions" (.ref ad) (putF "rules" (.ref ar) []))))
      have h3 := s3.free naB n3
      have s4 := (s3.past (o := .lst []) h3).at (o := .ins CL dx (putF "bad" (.ref aB) (putF "basics" (.ref ab) (putF "directions" (.ref ad) (putF "rules" (.ref ar) [])))))
      have h4 := s4.free naD n4
      have s5 := (s4.past (o := .lst []) h4).at (o := .ins CL dx (putF "bad_directions" (.ref aD) (putF "bad" (.ref aB) (putF "basics" (.ref ab) (putF "directions" (.ref ad) (putF "rules" (.ref ar) []))))))
      have m12 : ad ≠ ab := ne_of_none (by rw [upd_ne n1]; exact upd_same) nab
      have e1 : ∀ {o u : HO}, (upd (upd (upd (upd H p (.ins CL dx (putF "rules" (.ref ar) []))) ad (.dK [])) p o) ab u) ad = some (.dK []) := by
        intro o u
        rw [upd_ne m12, upd_ne n1]; exact upd_same
      have m13 : ad ≠ aB := ne_of_none (by rw [upd_ne n1]; exact e1) naB
      have m23 : ab ≠ aB := ne_of_none (by rw [upd_ne n2]; exact upd_same) naB
      have m14 : ad ≠ aD := ne_of_none (by rw [upd_ne n1, upd_ne m13, upd_ne n1]; exact e1) naD
      have m24 : ab ≠ aD := ne_of_none (by rw [upd_ne n2, upd_ne m23, upd_ne n2]; exact upd_same) naD
      have m34 : aB ≠ aD := ne_of_none (by rw [upd_ne n3]; exact upd_same) naD
      refine ⟨aD, rfl, s5, ?_, ?_, ?_, ?_, ?_, h1, h2, h3, h4, m34⟩
      · rw [upd_same, lF_new]
      · rw [upd_ne n1, upd_ne m14, upd_ne n1, upd_ne m13, upd_ne n1]; exact e1
      · rw [upd_ne n2, upd_ne m24, upd_ne n2, upd_ne m23, upd_ne n2]; exact upd_same
      · rw [upd_ne n3, upd_ne m34, upd_ne n3]; exact upd_same
      · rw [upd_ne n4]; exact upd_same
    · rintro σ H5 ⟨aD, rfl, sb, eP, eD, eB, eX, eY, nD, nB, nX, nY, nXY⟩
      refine ⟨fun σ H6 => ∃ (v2 : Option V) (kvd : List (Key × V)) (dirs : Nat → List Nat), σ = [some (.ref p), some (.ref ar), v2, none] ∧ SB p H H6 ∧ H6 p = some (.ins CL dx (lF ar ad ab aB aD)) ∧ H6 ad = some (.dK kvd) ∧ DirsAt H6 kvd Gq03.roles dirs aB aD ∧
        (∀ r ∈ Gq03.roles, (dirs r).Nodup ∧ ∀ s, s ∈ dirs r ↔ s ∈ Gq03.upRole rs r) ∧ H6 ab = some (.dT []) ∧ H6 aB = some (.lst []) ∧ H6 aD = some (.lst []), ?_, ?_⟩
      · refine fun a ha => ⟨a, rfl, ⟨_, ha _⟩, for_tup (K := K) (a := a) (xs := vis Gq03.roles) (fun i σ H' => ∃ (v2 : Option V) (kvd : List (Key × V)), σ = [some (.ref p), some (.ref ar), v2, none] ∧ SB p H H' ∧ H' p = some (.ins CL dx (lF ar ad ab aB aD)) ∧ H' ad = some (.dK kvd) ∧ kvd.length ≤ i ∧
          (∀ r ∈ Gq03.roles.take i, ∃ l q, valV kvd (.inl (r : Int)) = some (.ref q) ∧ (IL H' q l ∧ q ≠ aB ∧ q ≠ aD) ∧ l.Nodup ∧ ∀ s, s ∈ l ↔ s ∈ Gq03.upRole rs r) ∧ H' ab = some (.dT []) ∧ H' aB = some (.lst []) ∧ H' aD = some (.lst []))
          ⟨none, [], rfl, sb, eP, eD, Nat.le_refl _, fun r hr => by simp at hr, eB, eX, eY⟩ (fun i σ H' _ _ => ha _) ?_ ?_⟩
        · rintro i x σ H' hx ⟨v2, kvd, rfl, sb1, eP1, eD1, hl1, hent, eB1, eX1, eY1⟩
          obtain ⟨n, hn, rfl⟩ := vis_get hx
          have hi := (List.getElem?_eq_some_iff.mp hn).1
          have e8 : Gq03.roles.length = 8 := rfl
          refine ⟨_, rfl, _, rfl, ar, n, rs, rfl, hR.sb sb1 hp, ok, hlen, List.mem_of_getElem? hn, fun q H2 l s2 nq hq nd mem => ?_⟩
          refine ⟨_, rfl, p, CL, dx, _, _, rfl, s2 _ _ eP1, T.cL, T.lD, lF_d, _, rfl, ad, _, rfl, DPut.k (k := Sum.inl (n : Int)) (s2 _ _ eD1) (linelt (by omega)), ?_⟩
          refine ⟨_, _, rfl, (sb1.trans s2).past nD, upd_keep (s2 _ _ eP1) (s2 _ _ eD1) (by intro z; cases z), upd_same, ?_, ?_, upd_keep (s2 _ _ eB1) (s2 _ _ eD1) (by intro z; cases z), upd_keep (s2 _ _ eX1) (s2 _ _ eD1) (by intro z; cases z), upd_keep (s2 _ _ eY1) (s2 _ _ eD1) (by intro z; cases z)⟩
          · have := length_putK kvd (Sum.inl (n : Int)) (V.ref q)
            omega
          · intro r hr
            by_cases c : r = n
            · subst c
              exact ⟨l, q, by rw [valV_put, if_pos rfl], ⟨upd_keep hq (s2 _ _ eD1) (by intro z; cases z), Ne.symm (ne_of_none eX1 nq), Ne.symm (ne_of_none eY1 nq)⟩, nd, mem⟩
            · have hr' : r ∈ Gq03.roles.take i := by
                rw [take_more hn, List.mem_append, List.mem_singleton] at hr
                exact hr.resolve_right c
              obtain ⟨l', q', h1, ⟨h2, h5⟩, h3, h4⟩ := hent r hr'
              refine ⟨l', q', ?_, ⟨upd_keep (h2.same s2) (s2 _ _ eD1) (by intro z; cases z), h5⟩, h3, h4⟩
              have nk : ¬ (Sum.inl (r : Int) : Key) = Sum.inl (n : Int) := fun z => c (Int.ofNat.inj (Sum.inl.inj z))
              rw [valV_put, if_neg nk]
              exact h1
        · rintro σ H' ⟨v2, kvd, rfl, sb1, eP1, eD1, hl1, hent, eB1, eX1, eY1⟩
          have e8 : (vis Gq03.roles).length = Gq03.roles.length := rfl
          rw [e8, List.take_length] at hent
          obtain ⟨dirs, hd⟩ := choose_by hent
          exact ⟨v2, kvd, dirs, rfl, sb1, eP1, eD1, fun r hr => let ⟨q, h1, h2, _⟩ := hd r hr; ⟨q, h1, h2⟩, fun r hr => let ⟨q, _, _, h3, h4⟩ := hd r hr; ⟨h3, h4⟩, eB1, eX1, eY1⟩
      · rintro σ H6 ⟨v2, kvd, dirs, rfl, sb6, eP6, eD6, hD6, hdirs, eB6, eX6, eY6⟩
        refine ⟨rfl, fun q H7 s7 nq ⟨ws, hq, hpq⟩ => ⟨q, rfl, ⟨_, SqL.of hq⟩, for_list (K := K) (a := q) (xs := ws) (fun i σ H' => ∃ (v3 : Option V) (kvb : List (List Key × V)), σ = [some (.ref p), some (.ref ar), v2, v3] ∧ SB p H H' ∧ H' q = some (.lst ws) ∧ Paired (BV H') ws Gq03.basics ∧ H' p = some (.ins CL dx (lF ar ad ab aB aD)) ∧
          H' ad = some (.dK kvd) ∧ DirsAt H' kvd Gq03.roles dirs aB aD ∧ H' ab = some (.dT kvb) ∧ kvb.length ≤ i ∧ (∀ b ∈ Gq03.basics.take i, ∃ l q, valV kvb (kb b) = some (.ref q) ∧ (BL H' q l ∧ q ≠ aB ∧ q ≠ aD) ∧ l.Nodup ∧ ∀ c, c ∈ l ↔ c ∈ Gq03.up rs [b]) ∧ H' aB = some (.lst []) ∧ H' aD = some (.lst []))
          ⟨none, [], rfl, sb6.trans s7, hq, hpq, s7 _ _ eP6, s7 _ _ eD6, fun r hr => let ⟨q, h1, h2, h3⟩ := hD6 r hr; ⟨q, h1, h2.same s7, h3⟩, s7 _ _ eB6, Nat.le_refl _, fun r hr => by simp at hr, s7 _ _ eX6, s7 _ _ eY6⟩ (fun i σ H' _ ⟨_, _, _, _, h, _⟩ => SqL.of h) ?_ ?_⟩⟩
        · rintro i x σ H' hx ⟨v3, kvb, rfl, sb1, hq1, hpq1, eP1, eD1, hD1, eB1, hl1, hent, eX1, eY1⟩
          obtain ⟨b, hb, hbv⟩ := pr_get hpq1 hx
          have hi := (List.getElem?_eq_some_iff.mp hb).1
          have e8 : Gq03.basics.length = 14 := rfl
          refine ⟨_, rfl, _, rfl, ar, x, b, rs, rfl, hR.sb sb1 hp, ok, hlen, hbv, List.mem_of_getElem? hb, fun q2 H2 l s2 nq2 hq2 nd mem => ?_⟩
          obtain ⟨pt, rfl, ept⟩ := hbv.ts (TupS.of s2)
          have eB2 := s2 _ _ eB1
          refine ⟨_, rfl, p, CL, dx, _, _, rfl, s2 _ _ eP1, T.cL, T.lB, lF_b, _, rfl, ab, _, rfl, DPut.t (k := kb b) eB2 ept (linelt (by omega)), ?_⟩
          have tS : TupS H2 (upd H2 ab (.dT (putK kvb (kb b) (.ref q2)))) := TupS.at eB2 (by intro xs z; cases z)
          refine ⟨_, _, rfl, (sb1.trans s2).past nB, upd_keep (s2 _ _ hq1) eB2 (by intro z; cases z), bvs_ts hpq1 ((TupS.of s2).trans tS), upd_keep (s2 _ _ eP1) eB2 (by intro z; cases z), upd_keep (s2 _ _ eD1) eB2 (by intro z; cases z),
            fun r hr => let ⟨q', h1, h2, h3⟩ := hD1 r hr; ⟨q', h1, upd_keep (h2.same s2) eB2 (by intro z; cases z), h3⟩, upd_same, ?_, ?_, upd_keep (s2 _ _ eX1) eB2 (by intro z; cases z), upd_keep (s2 _ _ eY1) eB2 (by intro z; cases z)⟩
          · have := length_putK kvb (kb b) (V.ref q2)
            omega
          · intro r hr
            have keepB : ∀ {q' : Addr} {l' : List Basic}, BL H2 q' l' → BL (upd H2 ab (.dT (putK kvb (kb b) (.ref q2)))) q' l' := fun {q' l'} h => by
              obtain ⟨us, e, _⟩ := id h
              exact h.at eB2 (ne_of e eB2 (by intro z; cases z)) (by intro xs z; cases z)
            by_cases c : r = b
            · subst c
              exact ⟨l, q2, by rw [valV_put, if_pos rfl], ⟨keepB hq2, Ne.symm (ne_of_none eX1 nq2), Ne.symm (ne_of_none eY1 nq2)⟩, nd, mem⟩
            · have hr' : r ∈ Gq03.basics.take i := by
                rw [take_more hb, List.mem_append, List.mem_singleton] at hr
                exact hr.resolve_right c
              obtain ⟨l', q', h1, ⟨h2, h5⟩, h3, h4⟩ := hent r hr'
              refine ⟨l', q', ?_, ⟨keepB (h2.same s2), h5⟩, h3, h4⟩
              rw [valV_put, if_neg (fun z => c (kb_inj z))]
              exact h1
        · rintro σ H' ⟨v3, kvb, rfl, sb1, hq1, hpq1, eP1, eD1, hD1, eB1, hl1, hent, eX1, eY1⟩
          rw [pr_len hpq1, List.take_length] at hent
          obtain ⟨bas, hb⟩ := choose_by hent
          exact k H' ⟨dirs, bas⟩ aB aD sb1 ⟨ok, fun r hr => (hdirs r hr).1, fun r hr => (hdirs r hr).2, fun b hm => let ⟨q, _, _, h3, h4⟩ := hb b hm; h3, fun b hm => let ⟨q, _, _, h3, h4⟩ := hb b hm; h4⟩ nX nY
            ⟨dx, ar, ad, ab, kvd, kvb, eP1, hR.sb sb1 hp, eD1, hD1, eB1, fun b hm => let ⟨q, h1, h2, _⟩ := hb b hm; ⟨q, h1, h2⟩, ⟨[], eX1, .nil⟩, eY1, nXY, by
              obtain ⟨vR, eR, _⟩ := hR
              exact ⟨ne_of_none eR nX, ne_of_none eR nY⟩⟩
end
end Wm

namespace Wm
open PySem PySem.Spec PyProof.Rows L2
open Gq03 (Basic Rule Fact)
def nb1 (l : List Basic) : Rule → Bool
  | .never b c => l.contains b && l.contains c
  | _ => false
def nr1 (l : List Nat) : Rule → Bool
  | .neverRole b c => l.contains b && l.contains c
  | _ => false
theorem neverBoth_any (rs : List Rule) (l : List Basic) : Gq03.neverBoth rs l = rs.any (nb1 l) := by
  unfold Gq03.neverBoth
  congr 1
theorem roleForb_any (rs : List Rule) (l : List Nat) : roleForb rs l = rs.any (nr1 l) := by
  unfold roleForb
  congr 1
theorem any_snoc_false {A : Type} {p : A → Bool} {l : List A} {x : A} (h : l.any p = false) (k : p x = false) : (l ++ [x]).any p = false := by
  rw [List.any_append, h, List.any_cons, k]; rfl
theorem any_of_get {A : Type} {p : A → Bool} {l : List A} {i : Nat} {x : A} (h : l[i]? = some x) (k : p x = true) : l.any p = true :=
  List.any_eq_true.mpr ⟨x, List.mem_of_getElem? h, k⟩
section
variable {P : Program} {w : World} {K : PySem.W.Frag} {mg : Str → Option Value} {base : Heap} {CL CD : Addr}
/-! ### are_forbidden -/
def spForb (CL : Addr) : Sp := fun vs H Q _ => ∃ (a l : Addr) (rs : List Rule) (k : Kept) (B : List Basic) (D : List Nat) (aB aD : Addr) (bs : List Basic), vs = [.ref a, .ref l] ∧ LoreW CL H a rs k B D aB aD ∧ BL H l bs ∧ Q (.bl (Gq03.neverBoth rs bs)) H
theorem scForb : FnScope ["lore", "found", "sort", "b", "c"] ["lore", "found"] (defScope (top 16)) := ⟨rfl, rfl, rfl, by decide +kernel, rfl, by decide +kernel, by decide +kernel⟩
theorem ok_forb (T : Txt K mg CL CD) (D : Def K mg "are_forbidden" (top 16)) : Cal P w K mg base 1 "are_forbidden" ["lore", "found"] (spForb CL) := by
  refine D.cal scForb (fun vs H Q E h => ?_) (fun _ _ _ _ _ _ us hl => match us, hl with | [_, _], _ => rfl) (fun f cdv A outer s H vs Q E hr h => ⟨_,
    pss_cons (ps_for PassesOwn.never rfl (pi_list (pe_fld (pv 0) rfl)) (pg_tup rfl (pgs_cons (pg_name (i := 2) scForb.nd rfl (Or.inl rfl)) (pgs_cons (pg_name (i := 3) scForb.nd rfl (Or.inl rfl)) (pgs_cons (pg_name (i := 4) scForb.nd rfl (Or.inl rfl)) pgs_nil))))
      (pss_one (ps_if (PW.pt (pw_and (pt_cmpR op_eqN (pv 2) (pe_gi T.NEVER) (nomark _)) (pw_and (pt_cmpR (op_inB (u65 hr)) (pv 3) (pv 1) rfl) (pw_and1 (pt_cmpR (op_inB (u65 hr)) (pv 4) (pv 1) rfl))))) (pss_one (ps_ret pe_bl)) pss_nil)))
    (pss_one (ps_ret pe_bl)), ?_⟩)
  · obtain ⟨a, l, rs, k, B, D, aB, aD, bs, rfl, _⟩ := h
    rfl
  · obtain ⟨a, l, rs, k, B, D, aB, aD, bs, rfl, ⟨dx, ar, ad, ab, kvd, kvb, h1, ⟨vs, hv, hp⟩, h3, h4, h5, h6, h7, h8, h9⟩, hb, q⟩ := h
    refine ⟨_, rfl, a, CL, dx, _, _, rfl, h1, T.cL, T.lR, lF_r, ar, rfl, ⟨_, SqL.of hv⟩, for_list (K := K) (a := ar) (xs := vs) (fun i σ H' => ∃ v2 v3 v4, σ = [some (.ref a), some (.ref l), v2, v3, v4] ∧ H' = H ∧ (rs.take i).any (nb1 bs) = false)
      ⟨none, none, none, rfl, rfl, rfl⟩ (fun i σ H' _ ⟨_, _, _, _, e, _⟩ => by rw [e]; exact SqL.of hv) ?_ ?_⟩
    · rintro i x σ H' hx ⟨v2, v3, v4, rfl, rfl, hi⟩
      obtain ⟨r, hri, p, rfl, hq⟩ := pr_get hp hx
      have ways : (∃ (n : Nat) (u w' : V), n ≠ 2 ∧ nb1 bs r = false ∧ H' p = some (.tup [vi n, u, w'])) ∨ ∃ b c u w', r = .never b c ∧ H' p = some (.tup [vi 2, u, w']) ∧ BV H' u b ∧ BV H' w' c := by
        cases r with
        | sub b c => obtain ⟨u, w', hq, _⟩ := hq; exact .inl ⟨0, u, w', by decide, rfl, hq⟩
        | never b c => obtain ⟨u, w', hq, h1, h2⟩ := hq; exact .inr ⟨b, c, u, w', rfl, hq, h1, h2⟩
        | neverRole b c => exact .inl ⟨3, _, _, by decide, rfl, hq⟩
        | role b c => exact .inl ⟨1, _, _, by decide, rfl, hq⟩
      rcases ways with ⟨n, u, w', hn, e1, hq⟩ | ⟨b, c, u, w', rfl, hq, g1, g2⟩
      · refine ⟨p, _, rfl, SqT.of hq, rfl, _, _, rfl, _, _, rfl, _, _, rfl, rfl, ?_⟩
        refine ⟨_, rfl, n, 2, rfl, rfl, _, rfl, iF (decide_eq_false hn) (iF rfl ⟨_, _, _, rfl, rfl, ?_⟩)⟩
        rw [take_more hri]
        exact any_snoc_false hi e1
      · refine ⟨p, _, rfl, SqT.of hq, rfl, _, _, rfl, _, _, rfl, _, _, rfl, rfl, ?_⟩
        refine ⟨_, rfl, 2, 2, rfl, rfl, _, rfl, iT rfl ⟨_, rfl, _, rfl, b, bs, l, g1, rfl, hb, _, rfl, ?_⟩⟩
        refine iB (fun hc1 => ?_) (fun hc1 => ?_)
        · refine ⟨_, rfl, _, rfl, c, bs, l, g2, rfl, hb, _, rfl, ?_⟩
          refine iB (fun hc2 => ?_) (fun hc2 => ?_)
          · have e : Gq03.neverBoth rs bs = true := by
              rw [neverBoth_any]
              exact any_of_get hri (by show (bs.contains b && bs.contains c) = true; rw [hc1, hc2]; rfl)
            rw [e] at q
            exact q
          · refine ⟨_, _, _, rfl, rfl, ?_⟩
            rw [take_more hri]
            exact any_snoc_false hi (by show (bs.contains b && bs.contains c) = false; rw [hc2, Bool.and_false])
        · refine iF rfl ⟨_, _, _, rfl, rfl, ?_⟩
          rw [take_more hri]
          exact any_snoc_false hi (by show (bs.contains b && bs.contains c) = false; rw [hc1, Bool.false_and])
    · rintro σ H' ⟨v2, v3, v4, rfl, rfl, hi⟩
      rw [pr_len hp, List.take_length, ← neverBoth_any] at hi
      rw [hi] at q
      exact q
/-! ### are_role_forbidden -/
def spRForb (CL : Addr) : Sp := fun vs H Q _ => ∃ (a l : Addr) (rs : List Rule) (k : Kept) (B : List Basic) (D : List Nat) (aB aD : Addr) (ns : List Nat), vs = [.ref a, .ref l] ∧ LoreW CL H a rs k B D aB aD ∧ IL H l ns ∧ Q (.bl (roleForb rs ns)) H
theorem scRForb : FnScope ["lore", "found", "sort", "r", "s"] ["lore", "found"] (defScope (top 17)) := ⟨rfl, rfl, rfl, by decide +kernel, rfl, by decide +kernel, by decide +kernel⟩
theorem ok_rforb (T : Txt K mg CL CD) (D : Def K mg "are_role_forbidden" (top 17)) : Cal P w K mg base 1 "are_role_forbidden" ["lore", "found"] (spRForb CL) := by
  refine D.cal scRForb (fun vs H Q E h => ?_) (fun _ _ _ _ _ _ us hl => match us, hl with | [_, _], _ => rfl) (fun f cdv A outer s H vs Q E hr h => ⟨_,
    pss_cons (ps_for PassesOwn.never rfl (pi_list (pe_fld (pv 0) rfl)) (pg_tup rfl (pgs_cons (pg_name (i := 2) scRForb.nd rfl (Or.inl rfl)) (pgs_cons (pg_name (i := 3) scRForb.nd rfl (Or.inl rfl)) (pgs_cons (pg_name (i := 4) scRForb.nd rfl (Or.inl rfl)) pgs_nil))))
      (pss_one (ps_if (PW.pt (pw_and (pt_cmpR op_eqN (pv 2) (pe_gi T.NEVER_ROLE) (nomark _)) (pw_and (pt_cmpR op_inN (pv 3) (pv 1) rfl) (pw_and1 (pt_cmpR op_inN (pv 4) (pv 1) rfl))))) (pss_one (ps_ret pe_bl)) pss_nil)))
    (pss_one (ps_ret pe_bl)), ?_⟩)
  · obtain ⟨a, l, rs, k, B, D, aB, aD, bs, rfl, _⟩ := h
    rfl
  · obtain ⟨a, l, rs, k, B, D, aB, aD, bs, rfl, ⟨dx, ar, ad, ab, kvd, kvb, h1, ⟨vs, hv, hp⟩, h3, h4, h5, h6, h7, h8, h9⟩, hb, q⟩ := h
    refine ⟨_, rfl, a, CL, dx, _, _, rfl, h1, T.cL, T.lR, lF_r, ar, rfl, ⟨_, SqL.of hv⟩, for_list (K := K) (a := ar) (xs := vs) (fun i σ H' => ∃ v2 v3 v4, σ = [some (.ref a), some (.ref l), v2, v3, v4] ∧ H' = H ∧ (rs.take i).any (nr1 bs) = false)
      ⟨none, none, none, rfl, rfl, rfl⟩ (fun i σ H' _ ⟨_, _, _, _, e, _⟩ => by rw [e]; exact SqL.of hv) ?_ ?_⟩
    · rintro i x σ H' hx ⟨v2, v3, v4, rfl, rfl, hi⟩
      obtain ⟨r, hri, p, rfl, hq⟩ := pr_get hp hx
      have ways : (∃ (n : Nat) (u w' : V), n ≠ 3 ∧ nr1 bs r = false ∧ H' p = some (.tup [vi n, u, w'])) ∨ ∃ b c, r = .neverRole b c ∧ H' p = some (.tup [vi 3, vi b, vi c]) := by
        cases r with
        | sub b c => obtain ⟨u, w', hq, _⟩ := hq; exact .inl ⟨0, u, w', by decide, rfl, hq⟩
        | never b c => obtain ⟨u, w', hq, h1, h2⟩ := hq; exact .inl ⟨2, u, w', by decide, rfl, hq⟩
        | neverRole b c => exact .inr ⟨b, c, rfl, hq⟩
        | role b c => exact .inl ⟨1, _, _, by decide, rfl, hq⟩
      rcases ways with ⟨n, u, w', hn, e1, hq⟩ | ⟨b, c, rfl, hq⟩
      · refine ⟨p, _, rfl, SqT.of hq, rfl, _, _, rfl, _, _, rfl, _, _, rfl, rfl, ?_⟩
        refine ⟨_, rfl, n, 3, rfl, rfl, _, rfl, iF (decide_eq_false hn) (iF rfl ⟨_, _, _, rfl, rfl, ?_⟩)⟩
        rw [take_more hri]
        exact any_snoc_false hi e1
      · refine ⟨p, _, rfl, SqT.of hq, rfl, _, _, rfl, _, _, rfl, _, _, rfl, rfl, ?_⟩
        refine ⟨_, rfl, 3, 3, rfl, rfl, _, rfl, iT rfl ⟨_, rfl, _, rfl, b, bs, l, rfl, rfl, .inl (SqL.of hb), _, rfl, ?_⟩⟩
        refine iB (fun hc1 => ?_) (fun hc1 => ?_)
        · refine ⟨_, rfl, _, rfl, c, bs, l, rfl, rfl, .inl (SqL.of hb), _, rfl, ?_⟩
          refine iB (fun hc2 => ?_) (fun hc2 => ?_)
          · have e : roleForb rs bs = true := by
              rw [roleForb_any]
              exact any_of_get hri (by show (bs.contains b && bs.contains c) = true; rw [hc1, hc2]; rfl)
            rw [e] at q
            exact q
          · refine ⟨_, _, _, rfl, rfl, ?_⟩
            rw [take_more hri]
            exact any_snoc_false hi (by show (bs.contains b && bs.contains c) = false; rw [hc2, Bool.and_false])
        · refine iF rfl ⟨_, _, _, rfl, rfl, ?_⟩
          rw [take_more hri]
          exact any_snoc_false hi (by show (bs.contains b && bs.contains c) = false; rw [hc1, Bool.false_and])
    · rintro σ H' ⟨v2, v3, v4, rfl, rfl, hi⟩
      rw [pr_len hp, List.take_length, ← roleForb_any] at hi
      rw [hi] at q
      exact q
/-! ### is_bad -/
def bd1 (B : List Basic) (D : List Nat) (c : Basic) : Bool := B.contains c || match c with
    | .has r => D.contains r
    | .kind _ => false
theorem isBad_any (rs : List Rule) (k : Kept) (B : List Basic) (D : List Nat) (b : Basic) : isBad rs k B D b = (Gq03.neverBoth rs (k.bas b) || (k.bas b).any (bd1 B D)) := by
  unfold isBad
  congr 1
def spIsBad (CL : Addr) : Sp := fun vs H Q _ => ∃ (a : Addr) (v : V) (rs : List Rule) (k : Kept) (B : List Basic) (D : List Nat) (aB aD : Addr) (b : Basic), vs = [.ref a, v] ∧ LoreW CL H a rs k B D aB aD ∧ BV H v b ∧ b ∈ Gq03.basics ∧ Q (.bl (isBad rs k B D b)) H
theorem scIsBad : FnScope ["lore", "basic", "found", "other"] ["lore", "basic"] (defScope (top 18)) := ⟨rfl, rfl, rfl, by decide +kernel, rfl, by decide +kernel, by decide +kernel⟩
theorem ok_isBad (T : Txt K mg CL CD) (cF : Cal P w K mg base 1 "are_forbidden" ["lore", "found"] (spForb CL)) (D : Def K mg "is_bad" (top 18)) : Cal P w K mg base 2 "is_bad" ["lore", "basic"] (spIsBad CL) := by
  refine D.cal scIsBad (fun vs H Q E h => ?_) (fun _ _ _ _ _ _ us hl => match us, hl with | [_, _], _ => rfl) (fun f cdv A outer s H vs Q E hr h => ⟨_,
    pss_cons (ps_set (i := 2) scIsBad.nd rfl (Or.inl rfl) (pe_dget (u1 hr) (pe_fld (pv 0) rfl) (pv 1) (fun _ _ => rfl)))
    (pss_cons (ps_if (pt_val (pe_cal cF hr rfl (pa_cons (pv 0) (pa_cons (pv 2) pa_nil)))) (pss_one (ps_ret pe_bl)) pss_nil)
    (pss_cons (ps_for PassesOwn.never rfl (pi_list (pv 2)) (pg_name (i := 3) scIsBad.nd rfl (Or.inl rfl))
      (pss_one (ps_if (PW.pt (pw_or (pt_cmpR (op_inB (u65 hr)) (pv 3) (pe_fld (pv 0) rfl) rfl) (pw_or1 (PW.pt (pw_and (pt_cmpR op_eqN (pe_ix ix_tup (pv 3) pe_int (fun _ _ => rfl)) (pe_gi T.HAVING) (nomark _))
        (pw_and1 (pt_cmpR op_inN (pe_ix ix_tup (pv 3) pe_int (fun _ _ => rfl)) (pe_fld (pv 0) rfl) rfl))))))) (pss_one (ps_ret pe_bl)) pss_nil)))
    (pss_one (ps_ret pe_bl)))), ?_⟩)
  · obtain ⟨a, v, rs, k, B, D, aB, aD, b, rfl, _⟩ := h
    rfl
  · obtain ⟨a, v, rs, k, B, D, aB, aD, b, rfl, L, hb, hbm, q⟩ := h
    obtain ⟨dx, ar, ad, ab, kvd, kvb, h1, h2, h3, h4, h5, h6, h7, h8, h9⟩ := id L
    obtain ⟨qa, e1, ⟨us, hu, hpu⟩, _⟩ := h6 b hbm
    obtain ⟨p, rfl, hpv⟩ := hb
    have g := DGet.t (k := kb b) h5 hpv
    rw [e1] at g
    refine ⟨_, rfl, a, CL, dx, _, _, rfl, h1, T.cL, T.lB, lF_b, _, rfl, ab, _, rfl, g, ?_⟩
    rw [isBad_any] at q
    refine ⟨_, rfl, _, rfl, a, qa, rs, k, B, D, aB, aD, k.bas b, rfl, L, ⟨us, hu, hpu⟩, _, rfl, ?_⟩
    refine iB (fun hc => ?_) (fun hc => ?_)
    · rw [hc] at q
      exact q
    · rw [hc, Bool.false_or] at q
      refine ⟨_, rfl, qa, rfl, ⟨_, SqL.of hu⟩, for_list (K := K) (a := qa) (xs := us) (fun i σ H' => ∃ v3, σ = [some (.ref a), some (.ref p), some (.ref qa), v3] ∧ H' = H ∧ ((k.bas b).take i).any (bd1 B D) = false)
        ⟨none, rfl, rfl, rfl⟩ (fun i σ H' _ ⟨_, _, e, _⟩ => by rw [e]; exact SqL.of hu) ?_ ?_⟩
      · rintro i x σ H' hx ⟨v3, rfl, rfl, hi⟩
        obtain ⟨c, hci, hcv⟩ := pr_get hpu hx
        obtain ⟨pc, rfl, hpc⟩ := id hcv
        have go : bd1 B D c = true → Q (.bl true) H' := fun hc => by
          have e : (k.bas b).any (bd1 B D) = true := any_of_get hci hc
          rw [e] at q
          exact q
        have no : bd1 B D c = false → ((k.bas b).take (i + 1)).any (bd1 B D) = false := fun hc => by
          rw [take_more hci]
          exact any_snoc_false hi hc
        refine ⟨_, rfl, _, rfl, a, CL, dx, _, _, rfl, h1, T.cL, T.lX, lF_x, c, B, aB, hcv, rfl, h7, _, rfl, ?_⟩
        refine iB (fun hc1 => iT rfl (go ?_)) (fun hc1 => ?_)
        · unfold bd1; rw [hc1, Bool.true_or]
        · cases c with
          | kind j =>
            refine ⟨_, rfl, pc, _, _, _, rfl, rfl, SqT.of hpc, atI_nat (j := 0) rfl, 0, 1, rfl, rfl, _, rfl, iF rfl (iF rfl ⟨_, rfl, rfl, no ?_⟩)⟩
            unfold bd1; rw [hc1]; rfl
          | has r =>
            refine ⟨_, rfl, pc, _, _, _, rfl, rfl, SqT.of hpc, atI_nat (j := 0) rfl, 1, 1, rfl, rfl, _, rfl, iT rfl ?_⟩
            refine ⟨_, rfl, pc, _, _, _, rfl, rfl, SqT.of hpc, atI_nat (j := 1) rfl, _, rfl, a, CL, dx, _, _, rfl, h1, T.cL, T.lY, lF_y, r, D, aD, rfl, rfl, .inl (SqL.of h8), _, rfl, ?_⟩
            refine iB (fun hc2 => go ?_) (fun hc2 => ⟨_, rfl, rfl, no ?_⟩)
            · unfold bd1; simp only; rw [hc2, Bool.or_true]
            · unfold bd1; simp only; rw [hc1, hc2]; rfl
      · rintro σ H' ⟨v3, rfl, rfl, hi⟩
        rw [pr_len hpu, List.take_length] at hi
        rw [hi] at q
        exact q
end
end Wm

namespace Wm
open PySem PySem.Spec PyProof.Rows L2
open Gq03 (Basic Rule Fact)
/-- a class whose __init__ keeps a promise, by its name -/
structure CalM (P : Program) (w : World) (K : PySem.W.Frag) (mg : Str → Option Value) (base : Heap) (k : Nat) (x : Str) (C : Addr) (ps : List Str) (sp : Sp) : Prop where
  ex : ∃ f fd, Mk K C f ∧ FnOk P w K mg base CX0 k f fd ps sp ∧ mg x = some (.ref C) ∧ Binds K fd ps []
section
variable {X : Cx} {p pos : Pos} {x : Str}
theorem pe_new {k : Nat} {C : Addr} {ps : List Str} {sp : Sp} {e : Expr} {es : List Expr} {t : TA} (M : CalM X.prog X.w X.K X.mg X.base k x C ps sp) (hr : Room (k + 1) X.A) (hg : Gl X x) (ha : PA X (e :: es) t)
    (hs : starEach (e :: es) X.env = (false, eval e X.env) :: starEach es X.env := by rfl) (hpl : (backTo pos (starEach es X.env)).any (·.1) = false := by rfl) (hd : (x == ("__debug__" : Str)) = false := by decide) :
    PE X (.Call (.Name x p) (e :: es) [] pos) (tMake C sp [] E0 t) := by
  obtain ⟨f, fd, M, F, hm, hb⟩ := M.ex
  exact pe_make M F hr hg hm hb .nil pass0 ha hd hs hpl
theorem pe_new0 {k : Nat} {C : Addr} {ps : List Str} {sp : Sp} (M : CalM X.prog X.w X.K X.mg X.base k x C ps sp) (hr : Room (k + 1) X.A) (hg : Gl X x) (hd : (x == ("__debug__" : Str)) = false := by decide) :
    PE X (.Call (.Name x p) [] [] pos) (tMake C sp [] E0 tNil) := by
  obtain ⟨f, fd, M, F, hm, hb⟩ := M.ex
  exact pe_make0 M F hr hg hm hb .nil pass0 hd
end
section
variable {P : Program} {w : World} {K : PySem.W.Frag} {mg : Str → Option Value} {base : Heap} {CL CD : Addr}
/-! ### is_bad_direction -/
def spIsBadD (CL : Addr) : Sp := fun vs H Q _ => ∃ (a : Addr) (rs : List Rule) (k : Kept) (B : List Basic) (D : List Nat) (aB aD : Addr) (r : Nat), vs = [.ref a, vi r] ∧ LoreW CL H a rs k B D aB aD ∧ r ∈ Gq03.roles ∧
  ∀ H', Same H H' → Q (.bl (isBadDir rs k B r)) H'
theorem scIsBadD : FnScope ["lore", "direction"] ["lore", "direction"] (defScope (top 19)) := ⟨rfl, rfl, rfl, by decide +kernel, rfl, by decide +kernel, by decide +kernel⟩
theorem ok_isBadD (T : Txt K mg CL CD) (cT : Cal P w K mg base 1 "turned" ["direction"] spTurned) (cF : Cal P w K mg base 1 "are_role_forbidden" ["lore", "found"] (spRForb CL)) (D : Def K mg "is_bad_direction" (top 19)) : Cal P w K mg base 2 "is_bad_direction" ["lore", "direction"] (spIsBadD CL) := by
  refine D.cal scIsBadD (fun vs H Q E h => ?_) (fun _ _ _ _ _ _ us hl => match us, hl with | [_, _], _ => rfl) (fun f cdv A outer s H vs Q E hr h => ⟨_,
    pss_cons (ps_if (PW.pt (pw_or (pt_cmpR (op_inB (u65 hr)) (pe_tup (pa_cons (pe_gi T.HAVING) (pa_cons (pv 1) pa_nil))) (pe_fld (pv 0) rfl) rfl)
      (pw_or1 (pt_cmpR (op_inB (u65 hr)) (pe_tup (pa_cons (pe_gi T.HAVING) (pa_cons (pe_cal cT hr rfl (pa_cons (pv 1) pa_nil)) pa_nil))) (pe_fld (pv 0) rfl) rfl)))) (pss_one (ps_ret pe_bl)) pss_nil)
    (pss_cons (ps_if (pt_val (pe_cal cF hr rfl (pa_cons (pv 0) (pa_cons (pe_dget (u1 hr) (pe_fld (pv 0) rfl) (pv 1) (fun _ _ => rfl)) pa_nil)))) (pss_one (ps_ret pe_bl)) pss_nil)
    (pss_one (ps_ret (pe_cal cF hr rfl (pa_cons (pv 0) (pa_cons (pe_dget (u1 hr) (pe_fld (pv 0) rfl) (pe_cal cT hr rfl (pa_cons (pv 1) pa_nil)) (fun _ _ => rfl)) pa_nil)))))), ?_⟩)
  · obtain ⟨a, rs, k, B, D, aB, aD, r, rfl, _⟩ := h
    rfl
  · obtain ⟨a, rs, k, B, D, aB, aD, r, rfl, L, hr, q⟩ := h
    have hr' := turned_mem hr
    refine ⟨_, rfl, by show 2 ≤ sizeLine; decide, fun p np => ?_⟩
    have s1 : Same H (upd H p (.tup [.int 1, vi r])) := Same.new np
    obtain ⟨dx, ar, ad, ab, kvd, kvb, h1, h2, h3, h4, h5, h6, h7, h8, h9⟩ := L.same s1
    refine ⟨_, rfl, a, CL, dx, _, _, rfl, h1, T.cL, T.lX, lF_x, .has r, B, aB, ⟨p, rfl, upd_same⟩, rfl, h7, _, rfl, ?_⟩
    refine iB (fun hc1 => iT rfl ?_) (fun hc1 => ?_)
    · have := q _ s1
      unfold isBadDir at this
      rw [hc1] at this
      exact this
    · refine ⟨_, rfl, r, rfl, hr, by show 2 ≤ sizeLine; decide, fun p2 np2 => ?_⟩
      have s2 := s1.trans (Same.new (o := .tup [.int 1, vi (Gq03.turned r)]) np2)
      obtain ⟨dx, ar, ad, ab, kvd, kvb, h1, h2, h3, h4, h5, h6, h7, h8, h9⟩ := L.same s2
      refine ⟨_, rfl, a, CL, dx, _, _, rfl, h1, T.cL, T.lX, lF_x, .has (Gq03.turned r), B, aB, ⟨p2, rfl, upd_same⟩, rfl, h7, _, rfl, ?_⟩
      refine iB (fun hc2 => ?_) (fun hc2 => ?_)
      · have := q _ s2
        unfold isBadDir at this
        rw [hc1, hc2] at this
        exact this
      · have L2' := L.same s2
        obtain ⟨q1, e1, i1, _⟩ := h4 r hr
        obtain ⟨q2, e2, i2, _⟩ := h4 _ hr'
        have g1 := DGet.k (k := Sum.inl (r : Int)) h3
        have g2 := DGet.k (k := Sum.inl ((Gq03.turned r : Nat) : Int)) h3
        rw [e1] at g1
        rw [e2] at g2
        have qe := q _ s2
        unfold isBadDir at qe
        rw [hc1, hc2, Bool.false_or, Bool.false_or] at qe
        refine ⟨_, rfl, _, rfl, a, CL, dx, _, _, rfl, h1, T.cL, T.lD, lF_d, _, rfl, ad, _, rfl, g1, a, q1, rs, k, B, D, aB, aD, k.dirs r, rfl, L2', i1, _, rfl, ?_⟩
        refine iB (fun hc3 => ?_) (fun hc3 => ?_)
        · rw [hc3] at qe
          exact qe
        · rw [hc3, Bool.false_or] at qe
          exact ⟨_, rfl, _, rfl, a, CL, dx, _, _, rfl, h1, T.cL, T.lD, lF_d, _, rfl, r, rfl, hr, ad, _, rfl, g2, a, q2, rs, k, B, D, aB, aD, _, rfl, L2', i2, qe⟩
end
end Wm

namespace Wm
open PySem PySem.Spec PyProof.Rows L2
open Gq03 (Basic Rule Fact)
theorem filter_more {A : Type} {p : A → Bool} {l : List A} {i : Nat} {x : A} (h : l[i]? = some x) : (l.take (i + 1)).filter p = (l.take i).filter p ++ (if p x = true then [x] else []) := by
  rw [take_more h, List.filter_append, List.filter_cons, List.filter_nil]
theorem filter_yes {A : Type} {p : A → Bool} {l : List A} {i : Nat} {x : A} (h : l[i]? = some x) (hp : p x = true) : (l.take (i + 1)).filter p = (l.take i).filter p ++ [x] := by
  rw [filter_more h, if_pos hp]
theorem filter_no {A : Type} {p : A → Bool} {l : List A} {i : Nat} {x : A} (h : l[i]? = some x) (hp : p x = false) : (l.take (i + 1)).filter p = (l.take i).filter p := by
  rw [filter_more h, if_neg (by rw [hp]; exact Bool.false_ne_true), List.append_nil]
theorem filter_take_len {A : Type} {p : A → Bool} {l : List A} {i : Nat} : ((l.take i).filter p).length ≤ l.length := by
  refine Nat.le_trans (List.length_filter_le _ _) ?_
  rw [List.length_take]; omega
theorem LoreW.freeB {CL : Addr} {H : Hp} {a : Addr} {rs : List Rule} {k : Kept} {B : List Basic} {D : List Nat} {aB aD p : Addr} (L : LoreW CL H a rs k B D aB aD) (h : H p = none) : p ≠ aB := by
  obtain ⟨_, _, _, _, _, _, _, _, _, _, _, _, ⟨xs, e, _⟩, _⟩ := L
  exact Ne.symm (ne_of_none e h)
theorem LoreW.freeD {CL : Addr} {H : Hp} {a : Addr} {rs : List Rule} {k : Kept} {B : List Basic} {D : List Nat} {aB aD p : Addr} (L : LoreW CL H a rs k B D aB aD) (h : H p = none) : p ≠ aD := by
  obtain ⟨_, _, _, _, _, _, _, _, _, _, _, _, _, e, _⟩ := L
  exact Ne.symm (ne_of_none (show H aD = some _ from e) h)
/-- the bad ones grow -/
theorem LoreW.grow {CL : Addr} {H : Hp} {a : Addr} {rs : List Rule} {k : Kept} {B B2 : List Basic} {D D2 : List Nat} {aB aD : Addr} {xs us : List V} (L : LoreW CL H a rs k B D aB aD) (hx : H aB = some (.lst xs)) (hu : Paired (BV H) us B2) :
    LoreW CL (upd (upd H aB (.lst (xs ++ us))) aD (.lst (vis D ++ vis D2))) a rs k (B ++ B2) (D ++ D2) aB aD ∧ (upd H aB (.lst (xs ++ us))) aD = some (.lst (vis D)) := by
  obtain ⟨dx, ar, ad, ab, kvd, kvb, h1, h2, h3, h4, h5, h6, ⟨xs', hx', hp⟩, h8, n1, n2, n3⟩ := L
  rw [hx] at hx'
  obtain rfl : xs = xs' := HO.lst.inj (Option.some.inj hx')
  have e8 : (upd H aB (.lst (xs ++ us))) aD = some (.lst (vis D)) := by rw [upd_ne (Ne.symm n1)]; exact h8
  have t1 : TupS H (upd H aB (.lst (xs ++ us))) := TupS.lst hx
  have t2 : TupS (upd H aB (.lst (xs ++ us))) (upd (upd H aB (.lst (xs ++ us))) aD (.lst (vis D ++ vis D2))) := TupS.lst e8
  have keep : ∀ {q : Addr} {o : HO}, H q = some o → q ≠ aB → q ≠ aD → (upd (upd H aB (.lst (xs ++ us))) aD (.lst (vis D ++ vis D2))) q = some o := fun e m1 m2 => by rw [upd_ne m2, upd_ne m1]; exact e
  have keepN : ∀ {q : Addr} {o : HO}, H q = some o → (∀ ys, o ≠ .lst ys) → (upd (upd H aB (.lst (xs ++ us))) aD (.lst (vis D ++ vis D2))) q = some o := fun e d => keep e (ne_of e hx (d _)) (ne_of e h8 (d _))
  refine ⟨⟨dx, ar, ad, ab, kvd, kvb, keepN h1 (by intro ys z; cases z), ?_, keepN h3 (by intro ys z; cases z), ?_, keepN h5 (by intro ys z; cases z), ?_, ?_, ?_, n1, n2, n3⟩, e8⟩
  · obtain ⟨vr, er, pr⟩ := h2
    exact ⟨vr, keep er n2 n3, rvs_ts pr (t1.trans t2)⟩
  · intro r hr
    obtain ⟨q, e, i, m1, m2⟩ := h4 r hr
    exact ⟨q, e, keep i m1 m2, m1, m2⟩
  · intro b hb
    obtain ⟨q, e, ⟨vq, eq, pq⟩, m1, m2⟩ := h6 b hb
    exact ⟨q, e, ⟨vq, keep eq m1 m2, bvs_ts pq (t1.trans t2)⟩, m1, m2⟩
  · refine ⟨xs ++ us, by rw [upd_ne n1]; exact upd_same, bvs_ts (pr_app hp hu) (t1.trans t2)⟩
  · show _ = some (HO.lst ((D ++ D2).map vi))
    rw [List.map_append]
    exact upd_same
section
variable {P : Program} {w : World} {K : PySem.W.Frag} {mg : Str → Option Value} {base : Heap} {CL CD : Addr}
/-! ### add_bad -/
def spAddB (CL : Addr) : Sp := fun vs H Q _ => ∃ (a : Addr) (rs : List Rule) (k : Kept) (B : List Basic) (D : List Nat) (aB aD : Addr), vs = [.ref a] ∧ LoreW CL H a rs k B D aB aD ∧ B.length ≤ 14 ∧ D.length ≤ 8 ∧
  ∀ H', (∀ b o, H b = some o → b ≠ aB → b ≠ aD → H' b = some o) → LoreW CL H' a rs k (B ++ newB rs k B D) (D ++ newD rs k B D) aB aD → Q (.bl (!(newB rs k B D).isEmpty || !(newD rs k B D).isEmpty)) H'
abbrev nAddB : List Str := ["lore", "basics", "ways", "basic", "way"]
theorem scAddB : FnScope nAddB ["lore"] (defScope (top 20)) := ⟨rfl, rfl, rfl, by decide +kernel, rfl, by decide +kernel, by decide +kernel⟩
theorem ok_addB (T : Txt K mg CL CD) (cA : Cal P w K mg base 1 "all_basics" [] spAllB) (cI : Cal P w K mg base 2 "is_bad" ["lore", "basic"] (spIsBad CL)) (cJ : Cal P w K mg base 2 "is_bad_direction" ["lore", "direction"] (spIsBadD CL))
    (D : Def K mg "add_bad" (top 20)) : Cal P w K mg base 3 "add_bad" ["lore"] (spAddB CL) := by
  refine D.cal scAddB (fun vs H Q E h => ?_) (fun _ _ _ _ _ _ us hl => match us, hl with | [_], _ => rfl) (fun f cdv A outer s H vs Q E hr h => ⟨_,
    pss_cons (ps_setLc (i := 1) (own := [("basic", 3)]) (g := gName 3) (tt := tAnd (tTest (tOp rNotInB (tVar 3) (tFld K (tVar 0) "bad"))) (tB (tCall (spIsBad CL) [] E0 (tCons (tVar 0) (tCons (tVar 3) tNil))))) rfl scAddB.nd rfl rfl (sw_true rfl rfl rfl (by decide +kernel))
      (pi_list (pe_cal0 cA (hr.mono (by decide)) rfl)) (blkOk_by (N := nAddB) (sc := defScope (top 20)) (by decide +kernel)) (fun _ _ _ _ _ => pg_name (i := 3) scAddB.nd rfl (Or.inl rfl))
      (fun _ _ _ _ _ => by exact pts_one (PW.pt (pw_and (pt_cmpR (op_notInB (u65 hr)) (pv 3) (pe_fld (pv 0) rfl) rfl) (pw_and1 (pt_val (pe_cal cI hr rfl (pa_cons (pv 0) (pa_cons (pv 3) pa_nil)))))))) (fun _ _ _ _ _ => pv 3))
    (pss_cons (ps_setLc (i := 2) (own := [("way", 4)]) (g := gName 4) (tt := tAnd (tTest (tOp (rNotInN K) (tVar 4) (tFld K (tVar 0) "bad_directions"))) (tB (tCall (spIsBadD CL) [] E0 (tCons (tVar 0) (tCons (tVar 4) tNil))))) rfl scAddB.nd rfl rfl (sw_true rfl rfl rfl (by decide +kernel))
      (pi_tup (pe_gt T.DIRECTIONS)) (blkOk_by (N := nAddB) (sc := defScope (top 20)) (by decide +kernel)) (fun _ _ _ _ _ => pg_name (i := 4) scAddB.nd rfl (Or.inl rfl))
      (fun _ _ _ _ _ => by exact pts_one (PW.pt (pw_and (pt_cmpR op_notInN (pv 4) (pe_fld (pv 0) rfl) rfl) (pw_and1 (pt_val (pe_cal cJ hr rfl (pa_cons (pv 0) (pa_cons (pv 4) pa_nil)))))))) (fun _ _ _ _ _ => pv 4))
    (pss_cons (ps_expr (pe_bm PySem.F.plainAttrs_list PySem.F.slot_list_extend PySem.F.type_list_extend mt_extend (pe_fld (pv 0) rfl) (pa_cons (pv 1) pa_nil)))
    (pss_cons (ps_expr (pe_bm PySem.F.plainAttrs_list PySem.F.slot_list_extend PySem.F.type_list_extend mt_extend (pe_fld (pv 0) rfl) (pa_cons (pv 2) pa_nil)))
    (pss_one (ps_ret (pe_or (pe_cmpR (op_neE hr.units) (pv 1) (pe_lst pa_nil) (nomark _)) (pe_one (pe_cmpR (op_neE hr.units) (pv 2) (pe_lst pa_nil) (nomark _))))))))), ?_⟩)
  · obtain ⟨a, rs, k, B, D, aB, aD, rfl, _⟩ := h
    rfl
  · obtain ⟨a, rs, k, B, D, aB, aD, rfl, L, lenB, lenD, q⟩ := h
    refine ⟨rfl, fun ql H1 s1 nq ⟨ws, hq, hpq⟩ => ⟨ql, rfl, ⟨_, SqL.of hq⟩, fun D1 hD1 => lc_list (K := K) (a := ql) (xs := ws) (fun i H' => Same H1 H' ∧ ∃ us, H' D1 = some (.lst us) ∧ Paired (BV H') us ((Gq03.basics.take i).filter fun b => !B.contains b && isBad rs k B D b))
      ⟨Same.new hD1, [], upd_same, .nil⟩ (fun i H' _ ⟨s2, _⟩ => SqL.of (s2 _ _ hq)) ?_ ?_⟩⟩
    · rintro i x H' hx ⟨s2, us, hu, hpu⟩
      obtain ⟨b, hb, hbv⟩ := pr_get hpq hx
      have hbv' := hbv.ts (TupS.of s2)
      have L' := L.same (s1.trans s2)
      obtain ⟨dx, ar, ad, ab, kvd, kvb, h1, h2, h3, h4, h5, h6, h7, h8, h9⟩ := id L'
      refine ⟨rfl, _, rfl, _, rfl, a, CL, dx, _, _, rfl, h1, T.cL, T.lX, lF_x, b, B, aB, hbv', rfl, h7, _, rfl, ?_⟩
      refine iB (fun hc1 => ?_) (fun hc1 => iF rfl ⟨s2, us, hu, ?_⟩)
      · refine ⟨_, rfl, _, rfl, a, x, rs, k, B, D, aB, aD, b, rfl, L', hbv', List.mem_of_getElem? hb, _, rfl, ?_⟩
        refine iB (fun hc2 => ?_) (fun hc2 => ⟨s2, us, hu, ?_⟩)
        · refine ⟨_, rfl, us, hu, ?_, s2.past hD1, _, upd_same, ?_⟩
          · rw [pr_len hpu]
            exact linelt (Nat.le_trans filter_take_len (by decide))
          · rw [filter_yes hb (by rw [hc1, hc2]; rfl)]
            exact pr_app (bvs_ts hpu (TupS.lst hu)) (pr_one (hbv'.ts (TupS.lst hu)))
        · rw [filter_no hb (by rw [hc2, Bool.and_false])]
          exact hpu
      · rw [filter_no hb (by rw [hc1, Bool.false_and])]
        exact hpu
    · rintro H2 ⟨s2, us, hu, hpu⟩
      rw [pr_len hpq, List.take_length] at hpu
      have hpu : Paired (BV H2) us (newB rs k B D) := hpu
      refine fun at_ ha => ⟨at_, rfl, ⟨_, ha _⟩, fun D2 hD2 => lc_tup (K := K) (a := at_) (xs := vis Gq03.roles) (fun i H' => Same H2 H' ∧ IL H' D2 ((Gq03.roles.take i).filter fun r => !D.contains r && isBadDir rs k B r))
        ⟨Same.new hD2, upd_same⟩ (fun i H' _ _ => ha _) ?_ ?_⟩
      · rintro i x H' hx ⟨s3, hI⟩
        obtain ⟨r, hr', rfl⟩ := vis_get hx
        have L' := L.same ((s1.trans s2).trans s3)
        obtain ⟨dx, ar, ad, ab, kvd, kvb, h1, h2, h3, h4, h5, h6, h7, h8, h9⟩ := id L'
        refine ⟨rfl, _, rfl, _, rfl, a, CL, dx, _, _, rfl, h1, T.cL, T.lY, lF_y, r, D, aD, rfl, rfl, .inl (SqL.of h8), _, rfl, ?_⟩
        refine iB (fun hc1 => ?_) (fun hc1 => iF rfl ⟨s3, ?_⟩)
        · refine ⟨_, rfl, _, rfl, a, rs, k, B, D, aB, aD, r, rfl, L', List.mem_of_getElem? hr', fun H4 s4 => ⟨_, rfl, ?_⟩⟩
          have hI4 := hI.same s4
          refine iB (fun hc2 => ?_) (fun hc2 => ⟨s3.trans s4, ?_⟩)
          · refine ⟨_, rfl, _, hI4, ?_, (s3.trans s4).past hD2, ?_⟩
            · rw [vis_len]
              exact linelt (Nat.le_trans filter_take_len (by decide))
            · rw [filter_yes hr' (by rw [hc1, hc2]; rfl)]
              exact IL.snoc
          · rw [filter_no hr' (by rw [hc2, Bool.and_false])]
            exact hI4
        · rw [filter_no hr' (by rw [hc1, Bool.false_and])]
          exact hI
      · rintro H3 ⟨s3, hI⟩
        have e8 : (vis Gq03.roles).length = Gq03.roles.length := rfl
        rw [e8, List.take_length] at hI
        have hI : IL H3 D2 (newD rs k B D) := hI
        have sA := (s1.trans s2).trans s3
        have L3 := L.same sA
        obtain ⟨dx, ar, ad, ab, kvd, kvb, h1, h2, h3, h4, h5, h6, ⟨xs, hx, hpx⟩, h8, h9⟩ := id L3
        have hu3 := s3 _ _ hu
        have lB : (newB rs k B D).length ≤ 14 := List.length_filter_le _ _
        have lD : (newD rs k B D).length ≤ 8 := List.length_filter_le _ _
        obtain ⟨L4, e4⟩ := L3.grow (D2 := newD rs k B D) hx (bvs_ts hpu (TupS.of s3))
        refine ⟨_, rfl, a, CL, dx, _, _, rfl, h1, T.cL, T.lX, lF_x, .inl ⟨rfl, _, .inl (.inl hx)⟩, _, rfl, aB, D1, xs, us, rfl, rfl, hx, hu3, ?_, ?_⟩
        · rw [pr_len hpx, pr_len hpu]
          exact line1000 (by omega)
        · -- the names' lists are none of the lore's
          have n1 : D1 ≠ aB := (L.same s1).freeB hD1
          have n4 : D1 ≠ aD := (L.same s1).freeD hD1
          have n2 : D2 ≠ aB := (L.same (s1.trans s2)).freeB hD2
          have n3 : D2 ≠ aD := (L.same (s1.trans s2)).freeD hD2
          have h1' := upd_keep (v := .lst (xs ++ us)) h1 hx (by intro z; cases z)
          have hI2 : (upd H3 aB (.lst (xs ++ us))) D2 = some (.lst (vis (newD rs k B D))) := by rw [upd_ne n2]; exact hI
          refine ⟨_, rfl, a, CL, dx, _, _, rfl, h1', T.cL, T.lY, lF_y, .inl ⟨rfl, _, .inl (.inl e4)⟩, _, rfl, aD, D2, _, _, rfl, rfl, e4, hI2, ?_, ?_⟩
          · rw [vis_len, vis_len]
            exact line1000 (by omega)
          · generalize hH5 : upd (upd H3 aB (.lst (xs ++ us))) aD (.lst (vis D ++ vis (newD rs k B D))) = H5 at L4 ⊢
            have t5 : TupS H3 H5 := by rw [← hH5]; exact (TupS.lst hx).trans (TupS.lst e4)
            have hu5 : BL H5 D1 (newB rs k B D) := ⟨us, by rw [← hH5, upd_ne n4, upd_ne n1]; exact hu3, bvs_ts (bvs_ts hpu (TupS.of s3)) t5⟩
            have hI5 : IL H5 D2 (newD rs k B D) := by
              show H5 D2 = _
              rw [← hH5, upd_ne n3]; exact hI2
            have fr : ∀ b o, H b = some o → b ≠ aB → b ≠ aD → H5 b = some o := fun b o e m1 m2 => by
              rw [← hH5, upd_ne m2, upd_ne m1]; exact sA b o e
            refine ⟨_, rfl, by show 0 ≤ sizeLine; decide, fun e5 ne5 => ?_⟩
            have s6 : Same H5 (upd H5 e5 (.lst [])) := Same.new ne5
            refine ⟨(newB rs k B D).map bD, e5, (hu5.same s6).dp, bDs_shaped _, rfl, upd_same, _, rfl, ?_⟩
            have q6 := q _ (fun b o e m1 m2 => s6 _ _ (fr b o e m1 m2)) (L4.same s6)
            rw [List.isEmpty_map]
            refine iB (fun hc => ?_) (fun hc => ?_)
            · rw [hc] at q6
              exact q6
            · refine ⟨_, rfl, by show 0 ≤ sizeLine; decide, fun e7 ne7 => ?_⟩
              have s7 := s6.trans (Same.new (o := .lst []) ne7)
              refine ⟨(newD rs k B D).map iD, e7, (hI5.same s7).dp, iDs_shaped _, rfl, upd_same, ?_⟩
              have q7 := q _ (fun b o e m1 m2 => s7 _ _ (fr b o e m1 m2)) (L4.same s7)
              rw [List.isEmpty_map]
              rw [hc, Bool.false_or] at q7
              exact q7
/-! ### lore_of -/
/-- a lore of rules, all found -/
def LoreF (CL : Addr) (H : Hp) (a : Addr) (rs : List Rule) (k : Kept) (B : List Basic) (D : List Nat) : Prop := ∃ aB aD, LoreW CL H a rs k B D aB aD
theorem LoreF.same {H H' : Hp} {a : Addr} {rs : List Rule} {k : Kept} {B : List Basic} {D : List Nat} (h : LoreF CL H a rs k B D) (s : Same H H') : LoreF CL H' a rs k B D := let ⟨aB, aD, h⟩ := h; ⟨aB, aD, h.same s⟩
def spLoreOf (CL : Addr) : Sp := fun vs H Q _ => ∃ (ar : Addr) (rs : List Rule), vs = [.ref ar] ∧ RL H ar rs ∧ okRules rs ∧ rs.length ≤ 12 ∧
  ∀ a H' k B D, Same H H' → Ups rs k → Full rs B D → LoreF CL H' a rs k B D → Q (.ref a) H'
theorem scLoreOf : FnScope ["rules", "lore", "goes_on"] ["rules"] (defScope (top 21)) := ⟨rfl, rfl, rfl, by decide +kernel, rfl, by decide +kernel, by decide +kernel⟩
theorem ok_loreOf (T : Txt K mg CL CD) (M : CalM P w K mg base 5 "Lore" CL ["self", "rules"] (spLI CL)) (cA : Cal P w K mg base 3 "add_bad" ["lore"] (spAddB CL)) (D : Def K mg "lore_of" (top 21)) : Cal P w K mg base 7 "lore_of" ["rules"] (spLoreOf CL) := by
  refine D.cal scLoreOf (fun vs H Q E h => ?_) (fun _ _ _ _ _ _ us hl => match us, hl with | [_], _ => rfl) (fun f cdv A outer s H vs Q E hr h => ⟨_,
    pss_cons (ps_set (i := 1) scLoreOf.nd rfl (Or.inl rfl) (pe_new M hr rfl (pa_cons (pv 0) pa_nil)))
    (pss_cons (ps_set (i := 2) scLoreOf.nd rfl (Or.inl rfl) pe_bl)
    (pss_cons (ps_while PassesOwn.never (pt_val (pv 2)) (pss_one (ps_set (i := 2) scLoreOf.nd rfl (Or.inl rfl) (pe_cal cA (hr.mono (by decide)) rfl (pa_cons (pv 1) pa_nil)))))
    (pss_one (ps_ret (pv 1))))), ?_⟩)
  · obtain ⟨ar, rs, rfl, _⟩ := h
    rfl
  · obtain ⟨ar, rs, rfl, hR, ok, hlen, q⟩ := h
    refine ⟨_, rfl, fun x dx nx nd ne => ?_⟩
    have s0 : Same H (upd (upd H dx (.own x)) x (.ins CL dx [])) := (Same.new nd).trans (Same.new (by rw [upd_ne (Ne.symm ne)]; exact nx))
    refine ⟨x, dx, ar, rs, rfl, upd_same, hR.same s0, ok, hlen, fun H1 k aB aD sb U naB naD L => ⟨rfl, ?_⟩⟩
    have s1 : Same H H1 := Same.made nx nd sb
    have nB := s0.free naB
    have nD := s0.free naD
    refine ⟨fun m σ H' => ∃ (B : List Basic) (D : List Nat) (go : Bool), m = 2 * (lack Gq03.basics B + lack Gq03.roles D) + (if go = true then 1 else 0) ∧ σ = [some (.ref ar), some (.ref x), some (.bl go)] ∧ Same H H' ∧ LoreW CL H' x rs k B D aB aD ∧ Sound rs B D ∧ (go = false → newB rs k B D = [] ∧ newD rs k B D = []),
      ⟨_, [], [], true, rfl, rfl, s1, L, Sound.nil rs, fun z => Bool.noConfusion z⟩, ?_⟩
    rintro m σ H2 ⟨B, D, go, rfl, rfl, s2, L2', S, hgo⟩
    refine ⟨_, rfl, go, rfl, iB (fun hc => ?_) (fun hc => ?_)⟩
    · subst hc
      have lB : B.length ≤ 14 := nodup_len (U := Gq03.basics) S.bN fun b hb => bad_basics (S.bS b hb)
      have lD : D.length ≤ 8 := nodup_len (U := Gq03.roles) S.dN S.dR
      refine ⟨fun σ' H' => ∃ go', σ' = [some (.ref ar), some (.ref x), some (.bl go')] ∧ go' = (!(newB rs k B D).isEmpty || !(newD rs k B D).isEmpty) ∧ Same H H' ∧ LoreW CL H' x rs k (B ++ newB rs k B D) (D ++ newD rs k B D) aB aD, ?_, ?_⟩
      · rintro σ' H' ⟨go', rfl, hg, s3, L3⟩
        cases go' with
        | true =>
          have nn : ¬ (newB rs k B D = [] ∧ newD rs k B D = []) := fun ⟨z1, z2⟩ => by
            rw [z1, z2] at hg
            exact absurd hg (by decide)
          have := turn_lt (rs := rs) (k := k) nn
          refine ⟨_, ?_, B ++ newB rs k B D, D ++ newD rs k B D, true, rfl, rfl, s3, L3, S.turn U, fun z => Bool.noConfusion z⟩
          show 2 * _ + 1 < 2 * _ + 1
          omega
        | false =>
          have z := Bool.or_eq_false_iff.mp hg.symm
          have z1 : newB rs k B D = [] := by have := z.1; simpa using this
          have z2 : newD rs k B D = [] := by have := z.2; simpa using this
          rw [z1, z2, List.append_nil, List.append_nil] at L3
          refine ⟨_, ?_, B, D, false, rfl, rfl, s3, L3, S, fun _ => ⟨z1, z2⟩⟩
          show 2 * _ + 0 < 2 * _ + 1
          omega
      · refine ⟨_, rfl, x, rs, k, B, D, aB, aD, rfl, L2', lB, lD, fun H' fr L3 => ⟨_, rfl, rfl, fun b o e => fr b o (s2 b o e) (ne_of_none e nB) (ne_of_none e nD), L3⟩⟩
    · obtain ⟨z1, z2⟩ := hgo hc
      exact ⟨_, rfl, q x H2 k B D s2 U (S.full U z1 z2) ⟨aB, aD, L2'⟩⟩
end
end Wm

namespace Wm
open PySem PySem.Spec PyProof.Rows L2
open Gq03 (Basic Rule Fact)
section
variable {P : Program} {w : World} {K : PySem.W.Frag} {mg : Str → Option Value} {base : Heap} {CL CD : Addr}
/-! ### is_wrong_being -/
def spWB (CL : Addr) : Sp := fun vs H Q _ => ∃ (a l : Addr) (rs : List Rule) (k : Kept) (B : List Basic) (D : List Nat) (bs : List Basic), vs = [.ref a, .ref l] ∧ LoreF CL H a rs k B D ∧ BL H l bs ∧ bs.length ≤ 1000 ∧
  ∀ H', Same H H' → Q (.bl (wrongBeing rs B bs)) H'
abbrev nWB : List Str := ["lore", "found", "basic"]
theorem scWB : FnScope nWB ["lore", "found"] (defScope (top 22)) := ⟨rfl, rfl, rfl, by decide +kernel, rfl, by decide +kernel, by decide +kernel⟩
theorem ok_WB (T : Txt K mg CL CD) (cF : Cal P w K mg base 1 "are_forbidden" ["lore", "found"] (spForb CL)) (D : Def K mg "is_wrong_being" (top 22)) : Cal P w K mg base 2 "is_wrong_being" ["lore", "found"] (spWB CL) := by
  refine D.cal scWB (fun vs H Q E h => ?_) (fun _ _ _ _ _ _ us hl => match us, hl with | [_, _], _ => rfl) (fun f cdv A outer s H vs Q E hr h => ⟨_,
    pss_one (ps_ret (pe_or (pe_cal cF hr rfl (pa_cons (pv 0) (pa_cons (pv 1) pa_nil))) (pe_one (pe_cmpR (op_neE hr.units)
      (pe_lc (own := [("basic", 2)]) (g := gName 2) (tt := tTest (tOp rInB (tVar 2) (tFld K (tVar 0) "bad"))) rfl scWB.nd (pi_list (pv 1)) (blkOk_by (N := nWB) (sc := defScope (top 22)) (by decide +kernel)) (fun _ _ _ _ _ => pg_name (i := 2) scWB.nd rfl (Or.inl rfl))
        (fun _ _ _ _ _ => by exact pts_one (pt_cmpR (op_inB (u65 hr)) (pv 2) (pe_fld (pv 0) rfl) rfl)) (fun _ _ _ _ _ => pv 2)) (pe_lst pa_nil) (nomark _))))), ?_⟩)
  · obtain ⟨a, l, rs, k, B, D, bs, rfl, _⟩ := h
    rfl
  · obtain ⟨a, l, rs, k, B, D, bs, rfl, ⟨aB, aD, L⟩, ⟨vs, hv, hp⟩, hlen, q⟩ := h
    refine ⟨_, rfl, _, rfl, a, l, rs, k, B, D, aB, aD, bs, rfl, L, ⟨vs, hv, hp⟩, _, rfl, ?_⟩
    refine iB (fun hc => ?_) (fun hc => ?_)
    · have := q H (Same.refl H)
      unfold wrongBeing at this
      rw [hc] at this
      exact this
    · refine ⟨_, rfl, l, rfl, ⟨_, SqL.of hv⟩, fun D1 hD1 => lc_list (K := K) (a := l) (xs := vs) (fun i H' => Same H H' ∧ ∃ us, H' D1 = some (.lst us) ∧ Paired (BV H') us ((bs.take i).filter fun b => B.contains b))
        ⟨Same.new hD1, [], upd_same, .nil⟩ (fun i H' _ ⟨s2, _⟩ => SqL.of (s2 _ _ hv)) ?_ ?_⟩
      · rintro i x H' hx ⟨s2, us, hu, hpu⟩
        obtain ⟨b, hb, hbv⟩ := pr_get hp hx
        have hbv' := hbv.ts (TupS.of s2)
        obtain ⟨dx, ar, ad, ab, kvd, kvb, h1, h2, h3, h4, h5, h6, h7, h8, h9⟩ := L.same s2
        refine ⟨rfl, _, rfl, _, rfl, a, CL, dx, _, _, rfl, h1, T.cL, T.lX, lF_x, b, B, aB, hbv', rfl, h7, _, rfl, ?_⟩
        refine iB (fun hc1 => ?_) (fun hc1 => ⟨s2, us, hu, ?_⟩)
        · refine ⟨_, rfl, us, hu, ?_, s2.past hD1, _, upd_same, ?_⟩
          · rw [pr_len hpu]
            exact linelt (Nat.le_trans filter_take_len (by omega))
          · rw [filter_yes hb hc1]
            exact pr_app (bvs_ts hpu (TupS.lst hu)) (pr_one (hbv'.ts (TupS.lst hu)))
        · rw [filter_no hb hc1]
          exact hpu
      · rintro H2 ⟨s2, us, hu, hpu⟩
        rw [pr_len hp, List.take_length] at hpu
        refine ⟨by show 0 ≤ sizeLine; decide, fun e ne => ?_⟩
        have s3 := s2.trans (Same.new (o := .lst []) ne)
        have hb : BL H2 D1 _ := ⟨us, hu, hpu⟩
        refine ⟨_, e, (hb.same (Same.new ne)).dp, bDs_shaped _, rfl, upd_same, ?_⟩
        have := q _ s3
        unfold wrongBeing at this
        rw [hc, Bool.false_or] at this
        rw [List.isEmpty_map]
        exact this
/-! ### are_wrong_edges -/
def spWE (CL : Addr) : Sp := fun vs H Q _ => ∃ (a l : Addr) (rs : List Rule) (k : Kept) (B : List Basic) (D : List Nat) (ns : List Nat), vs = [.ref a, .ref l] ∧ LoreF CL H a rs k B D ∧ IL H l ns ∧ ns.length ≤ 1000 ∧ (∀ n ∈ ns, n ∈ Gq03.roles) ∧
  ∀ H', Same H H' → Q (.bl (wrongEdges rs D ns)) H'
abbrev nWE : List Str := ["lore", "found", "direction"]
theorem scWE : FnScope nWE ["lore", "found"] (defScope (top 23)) := ⟨rfl, rfl, rfl, by decide +kernel, rfl, by decide +kernel, by decide +kernel⟩
theorem ok_WE (T : Txt K mg CL CD) (cT : Cal P w K mg base 1 "turned" ["direction"] spTurned) (cF : Cal P w K mg base 1 "are_role_forbidden" ["lore", "found"] (spRForb CL)) (D : Def K mg "are_wrong_edges" (top 23)) : Cal P w K mg base 2 "are_wrong_edges" ["lore", "found"] (spWE CL) := by
  refine D.cal scWE (fun vs H Q E h => ?_) (fun _ _ _ _ _ _ us hl => match us, hl with | [_, _], _ => rfl) (fun f cdv A outer s H vs Q E hr h => ⟨_,
    pss_cons (ps_if (pt_cmpR (op_neE hr.units)
      (pe_lc (own := [("direction", 2)]) (g := gName 2) (tt := tTest (tOp (rInN K) (tVar 2) (tFld K (tVar 0) "bad_directions"))) rfl scWE.nd (pi_list (pv 1)) (blkOk_by (N := nWE) (sc := defScope (top 23)) (by decide +kernel)) (fun _ _ _ _ _ => pg_name (i := 2) scWE.nd rfl (Or.inl rfl))
        (fun _ _ _ _ _ => by exact pts_one (pt_cmpR op_inN (pv 2) (pe_fld (pv 0) rfl) rfl)) (fun _ _ _ _ _ => pv 2)) (pe_lst pa_nil) (nomark _)) (pss_one (ps_ret pe_bl)) pss_nil)
    (pss_one (ps_ret (pe_or (pe_cal cF hr rfl (pa_cons (pv 0) (pa_cons (pv 1) pa_nil))) (pe_one (pe_cal cF hr rfl (pa_cons (pv 0) (pa_cons
      (pe_lc (own := [("direction", 2)]) (g := gName 2) (tt := tYes) rfl scWE.nd (pi_list (pv 1)) (blkOk_by (N := nWE) (sc := defScope (top 23)) (by decide +kernel)) (fun _ _ _ _ _ => pg_name (i := 2) scWE.nd rfl (Or.inl rfl))
        (fun _ _ _ _ _ => pts_nil) (fun _ _ _ _ _ => pe_cal cT hr rfl (pa_cons (pv 2) pa_nil))) pa_nil))))))), ?_⟩)
  · obtain ⟨a, l, rs, k, B, D, bs, rfl, _⟩ := h
    rfl
  · obtain ⟨a, l, rs, k, B, D, ns, rfl, ⟨aB, aD, L⟩, hI, hlen, hroles, q⟩ := h
    refine ⟨_, rfl, l, rfl, ⟨_, SqL.of hI⟩, fun D1 hD1 => lc_list (K := K) (a := l) (xs := vis ns) (fun i H' => Same H H' ∧ IL H' D1 ((ns.take i).filter fun r => D.contains r))
      ⟨Same.new hD1, upd_same⟩ (fun i H' _ ⟨s2, _⟩ => SqL.of (s2 _ _ hI)) ?_ ?_⟩
    · rintro i x H' hx ⟨s2, hu⟩
      obtain ⟨r, hr', rfl⟩ := vis_get hx
      obtain ⟨dx, ar, ad, ab, kvd, kvb, h1, h2, h3, h4, h5, h6, h7, h8, h9⟩ := L.same s2
      refine ⟨rfl, _, rfl, _, rfl, a, CL, dx, _, _, rfl, h1, T.cL, T.lY, lF_y, r, D, aD, rfl, rfl, .inl (SqL.of h8), _, rfl, ?_⟩
      refine iB (fun hc1 => ?_) (fun hc1 => ⟨s2, ?_⟩)
      · refine ⟨_, rfl, _, hu, ?_, s2.past hD1, ?_⟩
        · rw [vis_len]
          exact linelt (Nat.le_trans filter_take_len (by omega))
        · rw [filter_yes hr' hc1]
          exact IL.snoc
      · rw [filter_no hr' hc1]
        exact hu
    · rintro H2 ⟨s2, hu⟩
      rw [vis_len, List.take_length] at hu
      refine ⟨by show 0 ≤ sizeLine; decide, fun e ne => ?_⟩
      have s3 := s2.trans (Same.new (o := .lst []) ne)
      refine ⟨_, e, (hu.same (Same.new ne)).dp, iDs_shaped _, rfl, upd_same, _, rfl, ?_⟩
      rw [List.isEmpty_map]
      refine iB (fun hc => ?_) (fun hc => ?_)
      · have := q _ s3
        unfold wrongEdges at this
        rw [hc] at this
        exact this
      · refine ⟨_, rfl, _, rfl, a, l, rs, k, B, D, aB, aD, ns, rfl, L.same s3, hI.same s3, _, rfl, ?_⟩
        refine iB (fun hc2 => ?_) (fun hc2 => ?_)
        · have := q _ s3
          unfold wrongEdges at this
          rw [hc, hc2] at this
          exact this
        · refine ⟨_, rfl, _, rfl, l, rfl, ⟨_, SqL.of (hI.same s3)⟩, fun D2 hD2 => lc_list (K := K) (a := l) (xs := vis ns) (fun i H' => Same (upd H2 e (.lst [])) H' ∧ IL H' D2 ((ns.take i).map Gq03.turned))
            ⟨Same.new hD2, upd_same⟩ (fun i H' _ ⟨s4, _⟩ => SqL.of ((s3.trans s4) _ _ hI)) ?_ ?_⟩
          · rintro i x H' hx ⟨s4, hu4⟩
            obtain ⟨r, hr', rfl⟩ := vis_get hx
            refine ⟨rfl, tYes_of ⟨_, rfl, r, rfl, hroles r (List.mem_of_getElem? hr'), _, hu4, ?_, s4.past hD2, ?_⟩⟩
            · rw [vis_len, List.length_map, List.length_take]
              exact linelt (by omega)
            · rw [take_more hr', List.map_append]
              exact IL.snoc
          · rintro H4 ⟨s4, hu4⟩
            rw [vis_len, List.take_length] at hu4
            refine ⟨a, D2, rs, k, B, D, aB, aD, _, rfl, L.same (s3.trans s4), hu4, ?_⟩
            have := q _ (s3.trans s4)
            unfold wrongEdges at this
            rw [hc, hc2, Bool.false_or, Bool.false_or] at this
            exact this
/-! ### basics_told, directions_told -/
theorem mul2 (a : Nat) : V.int (2 * (a : Int)) = vi (2 * a) := by
  show V.int _ = V.int _
  rw [Int.natCast_mul]; rfl
theorem mul21 (a : Nat) : V.int (2 * (a : Int) + 1) = vi (2 * a + 1) := by
  show V.int _ = V.int _
  rw [Int.natCast_add, Int.natCast_mul]; rfl
def spBT : Sp := fun vs H Q _ => ∃ (v : V) (x : Nat) (f : Fact), vs = [v, vi x] ∧ FV H v f ∧ ∀ p H', Same H H' → H p = none → BL H' p (tb x f) → Q (.ref p) H'
theorem scBT : FnScope ["thing", "x", "found"] ["thing", "x"] (defScope (top 28)) := ⟨rfl, rfl, rfl, by decide +kernel, rfl, by decide +kernel, by decide +kernel⟩
theorem ok_BT (T : Txt K mg CL CD) (D : Def K mg "basics_told" (top 28)) : Cal P w K mg base 1 "basics_told" ["thing", "x"] spBT := by
  refine D.cal scBT (fun vs H Q E h => ?_) (fun _ _ _ _ _ _ us hl => match us, hl with | [_, _], _ => rfl) (fun f cdv A outer s H vs Q E hr h => ⟨_,
    pss_cons (ps_if (pt_cmpR op_eqN (pe_ix ix_tup (pv 0) pe_int (fun _ _ => rfl)) (pe_gi T.KIND) (nomark _))
      (pss_one (ps_ret (pe_ifExp (pt_cmpR op_eqN (pe_ix ix_tup (pv 0) pe_int (fun _ _ => rfl)) (pv 1) (nomark _)) (pe_lst (pa_cons (pe_tup (pa_cons (pe_gi T.BEING) (pa_cons (pe_ix ix_tup (pv 0) pe_int (fun _ _ => rfl)) pa_nil))) pa_nil)) (pe_lst pa_nil)))) pss_nil)
    (pss_mid (ps_set (i := 2) scBT.nd rfl (Or.inl rfl) (pe_ifExp (pt_cmpR op_eqN (pe_ix ix_tup (pv 0) pe_int (fun _ _ => rfl)) (pv 1) (nomark _))
      (pe_lst (pa_cons (pe_tup (pa_cons (pe_gi T.HAVING) (pa_cons (pe_op op_mul pe_int (pe_ix ix_tup (pv 0) pe_int (fun _ _ => rfl))) pa_nil))) pa_nil)) (pe_lst pa_nil)))
    (pss_one (ps_ret (pe_ifExp (pt_cmpR op_eqN (pe_ix ix_tup (pv 0) pe_int (fun _ _ => rfl)) (pv 1) (nomark _))
      (pe_op op_cat (pv 2) (pe_lst (pa_cons (pe_tup (pa_cons (pe_gi T.HAVING) (pa_cons (pe_op op_add (pe_op op_mul pe_int (pe_ix ix_tup (pv 0) pe_int (fun _ _ => rfl))) pe_int) pa_nil))) pa_nil))) (pv 2))))), ?_⟩)
  · obtain ⟨v, x, f, rfl, _⟩ := h
    rfl
  · obtain ⟨v, x, f, rfl, ⟨p, rfl, hp⟩, q⟩ := h
    cases f with
    | kind y kk =>
      refine ⟨_, rfl, p, _, _, _, rfl, rfl, SqT.of hp, atI_nat (j := 0) rfl, 0, 0, rfl, rfl, _, rfl, iT rfl ?_⟩
      refine ⟨_, rfl, p, _, _, _, rfl, rfl, SqT.of hp, atI_nat (j := 1) rfl, _, rfl, y, x, rfl, rfl, _, rfl, ?_⟩
      refine iB (fun hc => ?_) (fun hc => ?_)
      · refine ⟨_, rfl, p, _, _, _, rfl, rfl, SqT.of hp, atI_nat (j := 2) rfl, by show 2 ≤ sizeLine; decide, fun t nt => ⟨by show 1 ≤ sizeLine; decide, fun l nl => ?_⟩⟩
        have e : tb x (.kind y kk) = [.kind kk] := if_pos (of_decide_eq_true hc)
        refine q l _ ((Same.new nt).trans (Same.new nl)) ((Same.new nt).free nl) ⟨_, upd_same, ?_⟩
        rw [e]
        exact pr_one ⟨t, rfl, TupS.new nl _ _ upd_same⟩
      · refine ⟨by show 0 ≤ sizeLine; decide, fun l nl => ?_⟩
        have e : tb x (.kind y kk) = [] := if_neg (of_decide_eq_false hc)
        refine q l _ (Same.new nl) nl ⟨_, upd_same, ?_⟩
        rw [e]
        exact .nil
    | edge y a z =>
      refine ⟨_, rfl, p, _, _, _, rfl, rfl, SqT.of hp, atI_nat (j := 0) rfl, 1, 0, rfl, rfl, _, rfl, iF rfl ?_⟩
      refine ⟨fun σ H1 => ∃ l, σ = [some (.ref p), some (vi x), some (.ref l)] ∧ Same H H1 ∧ H l = none ∧ BL H1 l (if y = x then [.has (2 * a)] else []), ?_, ?_⟩
      · refine ⟨_, rfl, p, _, _, _, rfl, rfl, SqT.of hp, atI_nat (j := 1) rfl, _, rfl, y, x, rfl, rfl, _, rfl, ?_⟩
        refine iB (fun hc => ?_) (fun hc => ?_)
        · refine ⟨_, rfl, p, _, _, _, rfl, rfl, SqT.of hp, atI_nat (j := 2) rfl, 2, a, rfl, rfl, .inl ⟨by decide, by decide⟩, by show 2 ≤ sizeLine; decide, fun t nt => ⟨by show 1 ≤ sizeLine; decide, fun l nl => ?_⟩⟩
          refine ⟨l, rfl, (Same.new nt).trans (Same.new nl), (Same.new nt).free nl, _, upd_same, ?_⟩
          rw [if_pos (of_decide_eq_true hc)]
          refine pr_one ⟨t, rfl, TupS.new nl _ _ ?_⟩
          rw [upd_same]
          show some (HO.tup [V.int 1, V.int (2 * (a : Int))]) = _
          rw [mul2]
          rfl
        · refine ⟨by show 0 ≤ sizeLine; decide, fun l nl => ?_⟩
          refine ⟨l, rfl, Same.new nl, nl, _, upd_same, ?_⟩
          rw [if_neg (of_decide_eq_false hc)]
          exact .nil
      · rintro σ H1 ⟨l, rfl, s1, nl, ⟨us, hu, hpu⟩⟩
        have hp1 := s1 _ _ hp
        refine ⟨_, rfl, p, _, _, _, rfl, rfl, SqT.of hp1, atI_nat (j := 3) rfl, _, rfl, z, x, rfl, rfl, _, rfl, ?_⟩
        have e : tb x (.edge y a z) = (if y = x then [.has (2 * a)] else []) ++ (if z = x then [.has (2 * a + 1)] else []) := rfl
        refine iB (fun hc => ?_) (fun hc => ?_)
        · refine ⟨_, rfl, _, rfl, p, _, _, _, rfl, rfl, SqT.of hp1, atI_nat (j := 2) rfl, 2, a, rfl, rfl, .inl ⟨by decide, by decide⟩, _, 1, rfl, rfl, by show 2 ≤ sizeLine; decide, fun t nt => ⟨by show 1 ≤ sizeLine; decide, fun l2 nl2 => ?_⟩⟩
          have s2 := (Same.new (o := .tup [.int 1, .int (2 * (a : Int) + 1)]) nt).trans (Same.new (o := .lst [.ref t]) nl2)
          refine ⟨l, l2, us, [.ref t], rfl, rfl, s2 _ _ hu, upd_same, ?_, fun r nr => ?_⟩
          · have : us.length ≤ 1 := by rw [pr_len hpu]; split <;> simp
            exact line1000 (by simp; omega)
          · have s3 := s2.trans (Same.new (o := .lst (us ++ [.ref t])) nr)
            refine q r _ (s1.trans s3) ((s1.trans s2).free nr) ⟨_, upd_same, ?_⟩
            rw [e, if_pos (of_decide_eq_true hc)]
            refine pr_app (bvs_ts hpu (TupS.of s3)) (pr_one ⟨t, rfl, TupS.new nr _ _ (TupS.new nl2 _ _ ?_)⟩)
            rw [upd_same]
            show some (HO.tup [V.int 1, V.int (2 * (a : Int) + 1)]) = _
            rw [mul21]
            rfl
        · refine ⟨_, rfl, q l H1 s1 nl ⟨us, hu, ?_⟩⟩
          rw [e, if_neg (of_decide_eq_false hc), List.append_nil]
          exact hpu
end
end Wm

namespace Wm
open PySem PySem.Spec PyProof.Rows L2
open Gq03 (Basic Rule Fact)
theorem ext_len {A B : Type} [DecidableEq B] (g : A → List B) (m : List B) (b : A) : (ext g m b).length ≤ m.length + (g b).length := by
  unfold ext
  rw [List.length_append]
  have := List.length_filter_le (fun o => !m.contains o) (g b)
  omega
theorem exts_len {A B : Type} [DecidableEq B] {g : A → List B} {c : Nat} : ∀ (l : List A) (m : List B), (∀ b ∈ l, (g b).length ≤ c) → (l.foldl (ext g) m).length ≤ m.length + c * l.length
  | [], m, _ => by simp
  | b :: l, m, h => by
    rw [List.foldl_cons]
    have h1 := exts_len l (ext g m b) fun x hx => h x (List.mem_cons_of_mem _ hx)
    have h2 := ext_len g m b
    have h3 := h b List.mem_cons_self
    rw [List.length_cons, Nat.mul_succ]
    omega
theorem exts2_more {F A B : Type} [DecidableEq B] {t : F → List A} {g : A → List B} {fs : List F} {i : Nat} {f : F} (h : fs[i]? = some f) : exts2 t g (fs.take (i + 1)) [] = (t f).foldl (ext g) (exts2 t g (fs.take i) []) := take_fold h
theorem okFacts_take {fs : List Fact} (h : okFacts fs) (i : Nat) : okFacts (fs.take i) := fun f hf => h f (List.mem_of_mem_take hf)
section
variable {P : Program} {w : World} {K : PySem.W.Frag} {mg : Str → Option Value} {base : Heap} {CL CD : Addr}
/-! ### directions_told -/
def spDT : Sp := fun vs H Q _ => ∃ (v : V) (x y : Nat) (f : Fact), vs = [v, vi x, vi y] ∧ FV H v f ∧ ∀ p H', Same H H' → H p = none → IL H' p (td x y f) → Q (.ref p) H'
theorem scDT : FnScope ["thing", "x", "y", "found"] ["thing", "x", "y"] (defScope (top 30)) := ⟨rfl, rfl, rfl, by decide +kernel, rfl, by decide +kernel, by decide +kernel⟩
theorem ok_DT (T : Txt K mg CL CD) (D : Def K mg "directions_told" (top 30)) : Cal P w K mg base 1 "directions_told" ["thing", "x", "y"] spDT := by
  refine D.cal scDT (fun vs H Q E h => ?_) (fun _ _ _ _ _ _ us hl => match us, hl with | [_, _, _], _ => rfl) (fun f cdv A outer s H vs Q E hr h => ⟨_,
    pss_cons (ps_if (pt_cmpR op_eqN (pe_ix ix_tup (pv 0) pe_int (fun _ _ => rfl)) (pe_gi T.KIND) (nomark _)) (pss_one (ps_ret (pe_lst pa_nil))) pss_nil)
    (pss_mid (ps_set (i := 3) scDT.nd rfl (Or.inl rfl) (pe_ifExp (PW.pt (pw_and (pt_cmpR op_eqN (pe_ix ix_tup (pv 0) pe_int (fun _ _ => rfl)) (pv 1) (nomark _)) (pw_and1 (pt_cmpR op_eqN (pe_ix ix_tup (pv 0) pe_int (fun _ _ => rfl)) (pv 2) (nomark _)))))
      (pe_lst (pa_cons (pe_op op_mul pe_int (pe_ix ix_tup (pv 0) pe_int (fun _ _ => rfl))) pa_nil)) (pe_lst pa_nil)))
    (pss_one (ps_ret (pe_ifExp (PW.pt (pw_and (pt_cmpR op_eqN (pe_ix ix_tup (pv 0) pe_int (fun _ _ => rfl)) (pv 2) (nomark _)) (pw_and1 (pt_cmpR op_eqN (pe_ix ix_tup (pv 0) pe_int (fun _ _ => rfl)) (pv 1) (nomark _)))))
      (pe_op op_cat (pv 3) (pe_lst (pa_cons (pe_op op_add (pe_op op_mul pe_int (pe_ix ix_tup (pv 0) pe_int (fun _ _ => rfl))) pe_int) pa_nil))) (pv 3))))), ?_⟩)
  · obtain ⟨v, x, y, f, rfl, _⟩ := h
    rfl
  · obtain ⟨v, x, y, f, rfl, ⟨p, rfl, hp⟩, q⟩ := h
    cases f with
    | kind z kk =>
      refine ⟨_, rfl, p, _, _, _, rfl, rfl, SqT.of hp, atI_nat (j := 0) rfl, 0, 0, rfl, rfl, _, rfl, iT rfl ?_⟩
      exact ⟨by show 0 ≤ sizeLine; decide, fun l nl => q l _ (Same.new nl) nl upd_same⟩
    | edge z a z' =>
      refine ⟨_, rfl, p, _, _, _, rfl, rfl, SqT.of hp, atI_nat (j := 0) rfl, 1, 0, rfl, rfl, _, rfl, iF rfl ?_⟩
      refine ⟨fun σ H1 => ∃ l, σ = [some (.ref p), some (vi x), some (vi y), some (.ref l)] ∧ Same H H1 ∧ H l = none ∧ IL H1 l (if z = x ∧ z' = y then [2 * a] else []), ?_, ?_⟩
      · have no : ¬ (z = x ∧ z' = y) → ∀ l, H l = none → ∃ l', ([some (.ref p), some (vi x), some (vi y), some (.ref l)] : L2.St) = [some (.ref p), some (vi x), some (vi y), some (.ref l')] ∧ Same H (upd H l (.lst [])) ∧ H l' = none ∧ IL (upd H l (.lst [])) l' (if z = x ∧ z' = y then [2 * a] else []) :=
          fun c l nl => ⟨l, rfl, Same.new nl, nl, by rw [if_neg c]; exact upd_same⟩
        refine ⟨_, rfl, p, _, _, _, rfl, rfl, SqT.of hp, atI_nat (j := 1) rfl, _, rfl, z, x, rfl, rfl, _, rfl, ?_⟩
        refine iB (fun hc => ?_) (fun hc => iF rfl ⟨by show 0 ≤ sizeLine; decide, fun l nl => no (fun c => of_decide_eq_false hc c.1) l nl⟩)
        refine ⟨_, rfl, p, _, _, _, rfl, rfl, SqT.of hp, atI_nat (j := 3) rfl, _, rfl, z', y, rfl, rfl, _, rfl, ?_⟩
        refine iB (fun hc2 => ?_) (fun hc2 => ⟨by show 0 ≤ sizeLine; decide, fun l nl => no (fun c => of_decide_eq_false hc2 c.2) l nl⟩)
        refine ⟨_, rfl, p, _, _, _, rfl, rfl, SqT.of hp, atI_nat (j := 2) rfl, 2, a, rfl, rfl, .inl ⟨by decide, by decide⟩, by show 1 ≤ sizeLine; decide, fun l nl => ?_⟩
        refine ⟨l, rfl, Same.new nl, nl, ?_⟩
        rw [if_pos ⟨of_decide_eq_true hc, of_decide_eq_true hc2⟩]
        show upd H l (.lst [V.int (2 * (a : Int))]) l = _
        rw [mul2]
        exact upd_same
      · rintro σ H1 ⟨l, rfl, s1, nl, hI⟩
        have hp1 := s1 _ _ hp
        have e : td x y (.edge z a z') = (if z = x ∧ z' = y then [2 * a] else []) ++ (if z = y ∧ z' = x then [2 * a + 1] else []) := rfl
        have no : ¬ (z = y ∧ z' = x) → Q (.ref l) H1 := fun c => q l H1 s1 nl (by rw [e, if_neg c, List.append_nil]; exact hI)
        refine ⟨_, rfl, p, _, _, _, rfl, rfl, SqT.of hp1, atI_nat (j := 1) rfl, _, rfl, z, y, rfl, rfl, _, rfl, ?_⟩
        refine iB (fun hc => ?_) (fun hc => iF rfl ⟨_, rfl, no fun c => of_decide_eq_false hc c.1⟩)
        refine ⟨_, rfl, p, _, _, _, rfl, rfl, SqT.of hp1, atI_nat (j := 3) rfl, _, rfl, z', x, rfl, rfl, _, rfl, ?_⟩
        refine iB (fun hc2 => ?_) (fun hc2 => ⟨_, rfl, no fun c => of_decide_eq_false hc2 c.2⟩)
        refine ⟨_, rfl, _, rfl, p, _, _, _, rfl, rfl, SqT.of hp1, atI_nat (j := 2) rfl, 2, a, rfl, rfl, .inl ⟨by decide, by decide⟩, _, 1, rfl, rfl, by show 1 ≤ sizeLine; decide, fun l2 nl2 => ?_⟩
        have s2 := Same.new (o := .lst [V.int (2 * (a : Int) + 1)]) nl2
        refine ⟨l, l2, _, [V.int (2 * (a : Int) + 1)], rfl, rfl, s2 _ _ hI, upd_same, ?_, fun r nr => ?_⟩
        · rw [vis_len]
          have : (if z = x ∧ z' = y then [2 * a] else []).length ≤ 1 := by split <;> simp
          exact line1000 (by simp only [List.length_cons, List.length_nil]; omega)
        · have s3 := s2.trans (Same.new (o := .lst (vis (if z = x ∧ z' = y then [2 * a] else []) ++ [V.int (2 * (a : Int) + 1)])) nr)
          refine q r _ (s1.trans s3) ((s1.trans s2).free nr) ?_
          rw [e, if_pos (c := z = y ∧ z' = x) ⟨of_decide_eq_true hc, of_decide_eq_true hc2⟩, mul21]
          exact IL.snoc
/-! ### all_of -/
def spAllOf (CL : Addr) : Sp := fun vs H Q _ => ∃ (a t : Addr) (x : Nat) (rs : List Rule) (k : Kept) (B : List Basic) (D : List Nat) (fs : List Fact), vs = [.ref a, .ref t, vi x] ∧ LoreF CL H a rs k B D ∧ Ups rs k ∧ FL H t fs ∧ okFacts fs ∧
  ∀ p H', Same H H' → H p = none → BL H' p (allOf k fs x) → Q (.ref p) H'
abbrev nAllOf : List Str := ["lore", "told", "x", "found", "thing", "basic", "other"]
theorem scAllOf : FnScope nAllOf ["lore", "told", "x"] (defScope (top 29)) := ⟨rfl, rfl, rfl, by decide +kernel, rfl, by decide +kernel, by decide +kernel⟩
theorem ok_allOf (T : Txt K mg CL CD) (cB : Cal P w K mg base 1 "basics_told" ["thing", "x"] spBT) (D : Def K mg "all_of" (top 29)) : Cal P w K mg base 2 "all_of" ["lore", "told", "x"] (spAllOf CL) := by
  refine D.cal scAllOf (fun vs H Q E h => ?_) (fun _ _ _ _ _ _ us hl => match us, hl with | [_, _, _], _ => rfl) (fun f cdv A outer s H vs Q E hr h => ⟨_,
    pss_cons (ps_set (i := 3) scAllOf.nd rfl (Or.inr rfl) (pe_lst pa_nil))
    (pss_cons (ps_for PassesOwn.never rfl (pi_list (pv 1)) (pg_name (i := 4) scAllOf.nd rfl (Or.inl rfl))
      (pss_one (ps_for PassesOwn.never rfl (pi_list (pe_cal cB hr rfl (pa_cons (pv 4) (pa_cons (pv 2) pa_nil)))) (pg_name (i := 5) scAllOf.nd rfl (Or.inl rfl))
        (pss_one (ps_expr (pe_bm PySem.F.plainAttrs_list PySem.F.slot_list_extend PySem.F.type_list_extend mt_extend (pv 3) (pa_cons
          (pe_lc (own := [("other", 6)]) (g := gName 6) (tt := tTest (tOp rNotInB (tVar 6) (tVar 3))) rfl scAllOf.nd (pi_list (pe_dget (u1 hr) (pe_fld (pv 0) rfl) (pv 5) (fun _ _ => rfl))) (blkOk_by (N := nAllOf) (sc := defScope (top 29)) (by decide +kernel)) (fun _ _ _ _ _ => pg_name (i := 6) scAllOf.nd rfl (Or.inl rfl))
            (fun _ _ _ _ _ => by exact pts_one (pt_cmpR (op_notInB (u65 hr)) (pv 6) (pv 3) rfl)) (fun _ _ _ _ _ => pv 6)) pa_nil)))))))
    (pss_one (ps_ret (pv 3)))), ?_⟩)
  · obtain ⟨a, t, x, rs, k, B, D, fs, rfl, _⟩ := h
    rfl
  · obtain ⟨a, t, x, rs, k, B, D, fs, rfl, L, U, ⟨vs, hv, hp⟩, hf, q⟩ := h
    refine ⟨by show 0 ≤ sizeLine; decide, fun l nl => ?_⟩
    refine ⟨_, rfl, t, rfl, ⟨_, SqL.of ((Same.new nl) _ _ hv)⟩, for_list (K := K) (a := t) (xs := vs) (fun i σ H' => ∃ v4 v5 v6, σ = [some (.ref a), some (.ref t), some (vi x), some (.ref l), v4, v5, v6] ∧ Same H H' ∧ BL H' l (exts2 (tb x) k.bas (fs.take i) []))
      ⟨none, none, none, rfl, Same.new nl, [], upd_same, .nil⟩ (fun i σ H' _ ⟨_, _, _, _, s1, _⟩ => SqL.of (s1 _ _ hv)) ?_ ?_⟩
    · rintro i y σ H' hy ⟨v4, v5, v6, rfl, s1, hB⟩
      obtain ⟨f, hfi, hfv⟩ := pr_get hp hy
      have okf := hf f (List.mem_of_getElem? hfi)
      have lacc : (exts2 (tb x) k.bas (fs.take i) []).length ≤ 14 := allOf_len U (okFacts_take hf i) x
      refine ⟨_, rfl, _, rfl, y, x, f, rfl, hfv.ts (TupS.of s1), fun ql H2 s2 nq ⟨ws, hq, hpq⟩ => ?_⟩
      have nelq : ∀ {us : List V}, H' l = some (.lst us) → l ≠ ql := fun e => ne_of_none e nq
      have nlq : l ≠ ql := by obtain ⟨us, e, _⟩ := hB; exact nelq e
      refine ⟨ql, rfl, ⟨_, SqL.of hq⟩, for_list (K := K) (a := ql) (xs := ws) (fun j σ H' => ∃ v5 v6, σ = [some (.ref a), some (.ref t), some (vi x), some (.ref l), some y, v5, v6] ∧ Same H H' ∧ H' ql = some (.lst ws) ∧ Paired (BV H') ws (tb x f) ∧
          BL H' l (((tb x f).take j).foldl (ext k.bas) (exts2 (tb x) k.bas (fs.take i) [])))
        ⟨v5, v6, rfl, s1.trans s2, hq, hpq, hB.same s2⟩ (fun j σ H' _ ⟨_, _, _, _, e, _⟩ => SqL.of e) ?_ ?_⟩
      · rintro j z σ H3 hz ⟨v5', v6', rfl, s3, hq3, hpq3, ⟨us, hu, hpu⟩⟩
        obtain ⟨b, hb, hbv⟩ := pr_get hpq3 hz
        have hbm : b ∈ Gq03.basics := tb_basics okf (List.mem_of_getElem? hb)
        obtain ⟨aB, aD, dx, ar, ad, ab, kvd, kvb, h1, h2, h3, h4, h5, h6, h7, h8, h9⟩ := L.same s3
        obtain ⟨qa, e1, ⟨ys, hys, hpy⟩, _⟩ := h6 b hbm
        obtain ⟨pb, rfl, hpb⟩ := hbv
        have g := DGet.t (k := kb b) h5 hpb
        rw [e1] at g
        have lb := U.blen hbm
        have lcur : (((tb x f).take j).foldl (ext k.bas) (exts2 (tb x) k.bas (fs.take i) [])).length ≤ 14 + 14 * 2 := by
          have h := exts_len (g := k.bas) (c := 14) ((tb x f).take j) (exts2 (tb x) k.bas (fs.take i) []) fun c hc => U.blen (tb_basics okf (List.mem_of_mem_take hc))
          have h2 : ((tb x f).take j).length ≤ 2 := by have := tb_len x f; rw [List.length_take]; omega
          omega
        refine ⟨_, rfl, .inl ⟨rfl, _, .inl (.inl hu)⟩, _, rfl, a, CL, dx, _, _, rfl, h1, T.cL, T.lB, lF_b, _, rfl, ab, _, rfl, g, qa, rfl, ⟨_, SqL.of hys⟩, fun D1 hD1 => ?_⟩
        refine lc_list (K := K) (a := qa) (xs := ys) (fun m H' => Same H3 H' ∧ ∃ os, H' D1 = some (.lst os) ∧ Paired (BV H') os (((k.bas b).take m).filter fun o => !(((tb x f).take j).foldl (ext k.bas) (exts2 (tb x) k.bas (fs.take i) [])).contains o))
          ⟨Same.new hD1, [], upd_same, .nil⟩ (fun m H' _ ⟨s4, _⟩ => SqL.of (s4 _ _ hys)) ?_ ?_
        · rintro m o H4 ho ⟨s4, os, hos, hpo⟩
          obtain ⟨c, hc, hcv⟩ := pr_get hpy ho
          have hcv' := hcv.ts (TupS.of s4)
          refine ⟨rfl, _, rfl, _, rfl, c, _, l, hcv', rfl, (show BL H3 l _ from ⟨us, hu, hpu⟩).same s4, _, rfl, ?_⟩
          refine iB (fun hc1 => ?_) (fun hc1 => ⟨s4, os, hos, ?_⟩)
          · refine ⟨_, rfl, os, hos, ?_, s4.past hD1, _, upd_same, ?_⟩
            · rw [pr_len hpo]
              exact linelt (Nat.le_trans filter_take_len (by omega))
            · rw [filter_yes hc hc1]
              exact pr_app (bvs_ts hpo (TupS.lst hos)) (pr_one (hcv'.ts (TupS.lst hos)))
          · rw [filter_no hc hc1]
            exact hpo
        · rintro H4 ⟨s4, os, hos, hpo⟩
          rw [pr_len hpy, List.take_length] at hpo
          have hu4 := s4 _ _ hu
          have nD1 : D1 ≠ l := Ne.symm (ne_of_none hu hD1)
          have lo : os.length ≤ 14 := by rw [pr_len hpo]; exact Nat.le_trans (List.length_filter_le _ _) lb
          refine ⟨l, D1, us, os, rfl, rfl, hu4, hos, ?_, ?_⟩
          · rw [pr_len hpu]
            exact line1000 (by omega)
          · refine ⟨_, _, rfl, (s3.trans s4).past nl, ?_, bvs_ts hpq3 ((TupS.of s4).trans (TupS.lst hu4)), us ++ os, upd_same, ?_⟩
            · rw [upd_ne (Ne.symm nlq)]; exact s4 _ _ hq3
            · rw [take_fold hb]
              exact pr_app (bvs_ts hpu ((TupS.of s4).trans (TupS.lst hu4))) (bvs_ts hpo (TupS.lst hu4))
      · rintro σ H3 ⟨v5', v6', rfl, s3, hq3, hpq3, hB3⟩
        rw [pr_len hpq3, List.take_length] at hB3
        exact ⟨_, _, _, rfl, s3, by rw [exts2_more hfi]; exact hB3⟩
    · rintro σ H' ⟨v4, v5, v6, rfl, s1, hB⟩
      rw [pr_len hp, List.take_length] at hB
      exact ⟨_, rfl, q l H' s1 nl hB⟩
end
end Wm

namespace Wm
open PySem PySem.Spec PyProof.Rows L2
open Gq03 (Basic Rule Fact)
theorem IL.app {H : Hp} {l : Addr} {a b : List Nat} : IL (upd H l (.lst (vis a ++ vis b))) l (a ++ b) := by
  show upd H l (.lst (vis a ++ vis b)) l = some (.lst ((a ++ b).map vi))
  rw [List.map_append]
  exact upd_same
def toI (n : Nat) : Int := n
theorem vis_eq (l : List Nat) : (l.map toI).map V.int = vis l := by rw [List.map_map]; rfl
theorem roles_sorted : Gq03.roles.Pairwise (· ≤ ·) := by decide
/-- sorted: the one rising row of those directions -/
theorem sorted_is {ns' : List Int} {raw : List Nat} {d : Gq03.Desk} {x y : Nat} (hp : ns'.Perm (raw.map toI)) (hs : ns'.Pairwise (· ≤ ·)) (h : raw.Perm (edgeL d x y)) : ns' = (edgeL d x y).map toI := by
  have h1 : ns'.Perm ((edgeL d x y).map toI) := hp.trans (h.map toI)
  have h2 : ((edgeL d x y).map toI).Pairwise (· ≤ ·) := by
    rw [List.pairwise_map]
    exact (roles_sorted.filter _).imp fun {a b} h => Int.ofNat_le.mpr h
  exact h1.eq_of_pairwise (fun x y _ _ h1 h2 => Int.le_antisymm h1 h2) hs h2
section
variable {P : Program} {w : World} {K : PySem.W.Frag} {mg : Str → Option Value} {base : Heap} {CL CD : Addr}
/-! ### edges_of -/
def spEdges (CL : Addr) : Sp := fun vs H Q _ => ∃ (a t : Addr) (x y : Nat) (rs : List Rule) (k : Kept) (B : List Basic) (D : List Nat) (fs : List Fact), vs = [.ref a, .ref t, vi x, vi y] ∧ LoreF CL H a rs k B D ∧ Ups rs k ∧ FL H t fs ∧ okFacts fs ∧
  ∀ p H', Same H H' → H p = none → IL H' p (edgeL ⟨fs, rs⟩ x y) → Q (.ref p) H'
abbrev nEdges : List Str := ["lore", "told", "x", "y", "found", "thing", "direction", "other"]
theorem scEdges : FnScope nEdges ["lore", "told", "x", "y"] (defScope (top 31)) := ⟨rfl, rfl, rfl, by decide +kernel, rfl, by decide +kernel, by decide +kernel⟩
theorem ok_edges (T : Txt K mg CL CD) (cB : Cal P w K mg base 1 "directions_told" ["thing", "x", "y"] spDT) (D : Def K mg "edges_of" (top 31)) : Cal P w K mg base 2 "edges_of" ["lore", "told", "x", "y"] (spEdges CL) := by
  refine D.cal scEdges (fun vs H Q E h => ?_) (fun _ _ _ _ _ _ us hl => match us, hl with | [_, _, _, _], _ => rfl) (fun f cdv A outer s H vs Q E hr h => ⟨_,
    pss_cons (ps_set (i := 4) scEdges.nd rfl (Or.inr rfl) (pe_lst pa_nil))
    (pss_cons (ps_for PassesOwn.never rfl (pi_list (pv 1)) (pg_name (i := 5) scEdges.nd rfl (Or.inl rfl))
      (pss_one (ps_for PassesOwn.never rfl (pi_list (pe_cal cB hr rfl (pa_cons (pv 5) (pa_cons (pv 2) (pa_cons (pv 3) pa_nil))))) (pg_name (i := 6) scEdges.nd rfl (Or.inl rfl))
        (pss_one (ps_expr (pe_bm PySem.F.plainAttrs_list PySem.F.slot_list_extend PySem.F.type_list_extend mt_extend (pv 4) (pa_cons
          (pe_lc (own := [("other", 7)]) (g := gName 7) (tt := tTest (tOp (rNotInN K) (tVar 7) (tVar 4))) rfl scEdges.nd (pi_list (pe_dget (u1 hr) (pe_fld (pv 0) rfl) (pv 6) (fun _ _ => rfl))) (blkOk_by (N := nEdges) (sc := defScope (top 31)) (by decide +kernel)) (fun _ _ _ _ _ => pg_name (i := 7) scEdges.nd rfl (Or.inl rfl))
            (fun _ _ _ _ _ => by exact pts_one (pt_cmpR op_notInN (pv 7) (pv 4) rfl)) (fun _ _ _ _ _ => pv 7)) pa_nil)))))))
    (pss_one (ps_ret (pe_callB cr_sortedI (by rfl) T.sorted (by decide +kernel) (pa_cons (pv 4) pa_nil))))), ?_⟩)
  · obtain ⟨a, t, x, y, rs, k, B, D, fs, rfl, _⟩ := h
    rfl
  · obtain ⟨a, t, x, y, rs, k, B, D, fs, rfl, L, U, ⟨vs, hv, hp⟩, hf, q⟩ := h
    refine ⟨by show 0 ≤ sizeLine; decide, fun l nl => ?_⟩
    refine ⟨_, rfl, t, rfl, ⟨_, SqL.of ((Same.new nl) _ _ hv)⟩, for_list (K := K) (a := t) (xs := vs) (fun i σ H' => ∃ v5 v6 v7, σ = [some (.ref a), some (.ref t), some (vi x), some (vi y), some (.ref l), v5, v6, v7] ∧ Same H H' ∧ IL H' l (exts2 (td x y) k.dirs (fs.take i) []))
      ⟨none, none, none, rfl, Same.new nl, upd_same⟩ (fun i σ H' _ ⟨_, _, _, _, s1, _⟩ => SqL.of (s1 _ _ hv)) ?_ ?_⟩
    · rintro i z σ H' hy ⟨v5, v6, v7, rfl, s1, hB⟩
      obtain ⟨f, hfi, hfv⟩ := pr_get hp hy
      have okf := hf f (List.mem_of_getElem? hfi)
      have lacc : (exts2 (td x y) k.dirs (fs.take i) []).length ≤ 8 := rawEdges_len U (okFacts_take hf i) x y
      refine ⟨_, rfl, _, rfl, _, rfl, z, x, y, f, rfl, hfv.ts (TupS.of s1), fun ql H2 s2 nq hq => ?_⟩
      have nlq : l ≠ ql := ne_of_none (show H' l = some _ from hB) nq
      refine ⟨ql, rfl, ⟨_, SqL.of hq⟩, for_list (K := K) (a := ql) (xs := vis (td x y f)) (fun j σ H' => ∃ v6 v7, σ = [some (.ref a), some (.ref t), some (vi x), some (vi y), some (.ref l), some z, v6, v7] ∧ Same H H' ∧ IL H' ql (td x y f) ∧
          IL H' l (((td x y f).take j).foldl (ext k.dirs) (exts2 (td x y) k.dirs (fs.take i) [])))
        ⟨v6, v7, rfl, s1.trans s2, hq, hB.same s2⟩ (fun j σ H' _ ⟨_, _, _, _, e, _⟩ => SqL.of e) ?_ ?_⟩
      · rintro j zz σ H3 hz ⟨v6', v7', rfl, s3, hq3, hu⟩
        obtain ⟨r, hr', rfl⟩ := vis_get hz
        have hrm : r ∈ Gq03.roles := td_roles okf (List.mem_of_getElem? hr')
        obtain ⟨aB, aD, dx, ar, ad, ab, kvd, kvb, h1, h2, h3, h4, h5, h6, h7, h8, h9⟩ := L.same s3
        obtain ⟨qa, e1, hys, _⟩ := h4 r hrm
        have g := DGet.k (k := Sum.inl (r : Int)) h3
        rw [e1] at g
        have lb := U.dlen hrm
        have lcur : (((td x y f).take j).foldl (ext k.dirs) (exts2 (td x y) k.dirs (fs.take i) [])).length ≤ 8 + 8 * 2 := by
          have h := exts_len (g := k.dirs) (c := 8) ((td x y f).take j) (exts2 (td x y) k.dirs (fs.take i) []) fun c hc => U.dlen (td_roles okf (List.mem_of_mem_take hc))
          have h2 : ((td x y f).take j).length ≤ 2 := by have := td_len x y f; rw [List.length_take]; omega
          omega
        refine ⟨_, rfl, .inl ⟨rfl, _, .inl (.inl hu)⟩, _, rfl, a, CL, dx, _, _, rfl, h1, T.cL, T.lD, lF_d, _, rfl, ad, _, rfl, g, qa, rfl, ⟨_, SqL.of hys⟩, fun D1 hD1 => ?_⟩
        refine lc_list (K := K) (a := qa) (xs := vis (k.dirs r)) (fun m H' => Same H3 H' ∧ IL H' D1 (((k.dirs r).take m).filter fun o => !(((td x y f).take j).foldl (ext k.dirs) (exts2 (td x y) k.dirs (fs.take i) [])).contains o))
          ⟨Same.new hD1, upd_same⟩ (fun m H' _ ⟨s4, _⟩ => SqL.of (s4 _ _ hys)) ?_ ?_
        · rintro m o H4 ho ⟨s4, hos⟩
          obtain ⟨c, hc, rfl⟩ := vis_get ho
          refine ⟨rfl, _, rfl, _, rfl, c, _, l, rfl, rfl, .inl (SqL.of (hu.same s4)), _, rfl, ?_⟩
          refine iB (fun hc1 => ?_) (fun hc1 => ⟨s4, ?_⟩)
          · refine ⟨_, rfl, _, hos, ?_, s4.past hD1, ?_⟩
            · rw [vis_len]
              exact linelt (Nat.le_trans filter_take_len (by omega))
            · rw [filter_yes hc hc1]
              exact IL.snoc
          · rw [filter_no hc hc1]
            exact hos
        · rintro H4 ⟨s4, hos⟩
          rw [vis_len, List.take_length] at hos
          have hu4 := hu.same s4
          have lo : ((k.dirs r).filter fun o => !(((td x y f).take j).foldl (ext k.dirs) (exts2 (td x y) k.dirs (fs.take i) [])).contains o).length ≤ 8 := Nat.le_trans (List.length_filter_le _ _) lb
          refine ⟨l, D1, _, _, rfl, rfl, hu4, hos, ?_, ?_⟩
          · rw [vis_len, vis_len]
            exact line1000 (by omega)
          · refine ⟨_, _, rfl, (s3.trans s4).past nl, ?_, ?_⟩
            · show upd H4 l _ ql = _
              rw [upd_ne (Ne.symm nlq)]; exact s4 _ _ hq3
            · rw [take_fold hr']
              exact IL.app
      · rintro σ H3 ⟨v6', v7', rfl, s3, hq3, hB3⟩
        rw [vis_len, List.take_length] at hB3
        exact ⟨_, _, _, rfl, s3, by rw [exts2_more hfi]; exact hB3⟩
    · rintro σ H' ⟨v5, v6, v7, rfl, s1, hB⟩
      rw [pr_len hp, List.take_length] at hB
      have hB : IL H' l (rawEdges k fs x y) := hB
      refine ⟨_, rfl, l, (rawEdges k fs x y).map toI, rfl, by rw [vis_eq]; exact SqL.of hB, fun ns' p perm srt np => ?_⟩
      have e := sorted_is perm srt (edgeL_perm (rs := rs) U hf x y)
      rw [e, vis_eq]
      exact q p _ (s1.trans (Same.new np)) (s1.free np) upd_same
/-! ### is_wrong -/
def spIsW (CL : Addr) : Sp := fun vs H Q _ => ∃ (a t : Addr) (x : Nat) (rs : List Rule) (k : Kept) (B : List Basic) (D : List Nat) (fs : List Fact), vs = [.ref a, .ref t, vi x] ∧ LoreF CL H a rs k B D ∧ Ups rs k ∧ FL H t fs ∧ okFacts fs ∧
  ∀ H', Same H H' → Q (.bl (isWrong rs k B D fs x)) H'
theorem scIsW : FnScope ["lore", "told", "x", "y"] ["lore", "told", "x"] (defScope (top 32)) := ⟨rfl, rfl, rfl, by decide +kernel, rfl, by decide +kernel, by decide +kernel⟩
theorem ok_isW (T : Txt K mg CL CD) (cB : Cal P w K mg base 2 "is_wrong_being" ["lore", "found"] (spWB CL)) (cA : Cal P w K mg base 2 "all_of" ["lore", "told", "x"] (spAllOf CL)) (cE : Cal P w K mg base 2 "are_wrong_edges" ["lore", "found"] (spWE CL))
    (cD : Cal P w K mg base 2 "edges_of" ["lore", "told", "x", "y"] (spEdges CL)) (D : Def K mg "is_wrong" (top 32)) : Cal P w K mg base 3 "is_wrong" ["lore", "told", "x"] (spIsW CL) := by
  refine D.cal scIsW (fun vs H Q E h => ?_) (fun _ _ _ _ _ _ us hl => match us, hl with | [_, _, _], _ => rfl) (fun f cdv A outer s H vs Q E hr h => ⟨_,
    pss_cons (ps_if (pt_val (pe_cal cB hr rfl (pa_cons (pv 0) (pa_cons (pe_cal cA hr rfl (pa_cons (pv 0) (pa_cons (pv 1) (pa_cons (pv 2) pa_nil)))) pa_nil)))) (pss_one (ps_ret pe_bl)) pss_nil)
    (pss_cons (ps_for PassesOwn.never rfl (pi_tup (pe_gt T.NODES)) (pg_name (i := 3) scIsW.nd rfl (Or.inl rfl))
      (pss_one (ps_if (pt_val (pe_cal cE hr rfl (pa_cons (pv 0) (pa_cons (pe_cal cD hr rfl (pa_cons (pv 0) (pa_cons (pv 1) (pa_cons (pv 2) (pa_cons (pv 3) pa_nil))))) pa_nil)))) (pss_one (ps_ret pe_bl)) pss_nil)))
    (pss_one (ps_ret pe_bl))), ?_⟩)
  · obtain ⟨a, t, x, rs, k, B, D, fs, rfl, _⟩ := h
    rfl
  · obtain ⟨a, t, x, rs, k, B, D, fs, rfl, L, U, F, hf, q⟩ := h
    refine ⟨_, rfl, _, rfl, _, rfl, _, rfl, a, t, x, rs, k, B, D, fs, rfl, L, U, F, hf, fun p H1 s1 np hp => ?_⟩
    have la := allOf_len (rs := rs) U hf x
    refine ⟨a, p, rs, k, B, D, _, rfl, L.same s1, hp, by omega, fun H2 s2 => ⟨_, rfl, ?_⟩⟩
    refine iB (fun hc => ?_) (fun hc => ?_)
    · have := q H2 (s1.trans s2)
      unfold isWrong at this
      rw [hc] at this
      exact this
    · refine fun an ha => ⟨an, rfl, ⟨_, ha _⟩, for_tup (K := K) (a := an) (xs := vis Gq03.nodes) (fun i σ H' => ∃ v3, σ = [some (.ref a), some (.ref t), some (vi x), v3] ∧ Same H H' ∧ ((Gq03.nodes.take i).any fun y => wrongEdges rs D (edgeL ⟨fs, rs⟩ x y)) = false)
        ⟨none, rfl, s1.trans s2, rfl⟩ (fun i σ H' _ _ => ha _) ?_ ?_⟩
      · rintro i y' σ H' hy ⟨v3, rfl, s3, hi⟩
        obtain ⟨y, hy', rfl⟩ := vis_get hy
        refine ⟨_, rfl, _, rfl, _, rfl, _, rfl, _, rfl, a, t, x, y, rs, k, B, D, fs, rfl, L.same s3, U, F.same s3, hf, fun p2 H4 s4 np2 hp2 => ?_⟩
        have le : (edgeL ⟨fs, rs⟩ x y).length ≤ 8 := List.length_filter_le _ _
        refine ⟨a, p2, rs, k, B, D, _, rfl, L.same (s3.trans s4), hp2, by omega, fun n hn => (List.mem_filter.mp hn).1, fun H5 s5 => ⟨_, rfl, ?_⟩⟩
        refine iB (fun hc2 => ?_) (fun hc2 => ⟨_, rfl, (s3.trans s4).trans s5, ?_⟩)
        · have := q H5 ((s3.trans s4).trans s5)
          unfold isWrong at this
          have e : (Gq03.nodes.any fun y => wrongEdges rs D (edgeL ⟨fs, rs⟩ x y)) = true := any_of_get hy' hc2
          rw [e, Bool.or_true] at this
          exact this
        · rw [take_more hy']
          exact any_snoc_false hi hc2
      · rintro σ H' ⟨v3, rfl, s3, hi⟩
        have e8 : (vis Gq03.nodes).length = Gq03.nodes.length := rfl
        rw [e8, List.take_length] at hi
        have := q H' s3
        unfold isWrong at this
        rw [hc, hi] at this
        exact this
/-! ### wrong_nodes -/
def spWN (CL : Addr) : Sp := fun vs H Q _ => ∃ (a t : Addr) (rs : List Rule) (k : Kept) (B : List Basic) (D : List Nat) (fs : List Fact), vs = [.ref a, .ref t] ∧ LoreF CL H a rs k B D ∧ Ups rs k ∧ Full rs B D ∧ FL H t fs ∧ okFacts fs ∧
  ∀ p H', Same H H' → H p = none → IL H' p (wrongL ⟨fs, rs⟩) → Q (.ref p) H'
abbrev nWN : List Str := ["lore", "told", "x"]
theorem scWN : FnScope nWN ["lore", "told"] (defScope (top 33)) := ⟨rfl, rfl, rfl, by decide +kernel, rfl, by decide +kernel, by decide +kernel⟩
theorem ok_WN (T : Txt K mg CL CD) (cW : Cal P w K mg base 3 "is_wrong" ["lore", "told", "x"] (spIsW CL)) (D : Def K mg "wrong_nodes" (top 33)) : Cal P w K mg base 4 "wrong_nodes" ["lore", "told"] (spWN CL) := by
  refine D.cal scWN (fun vs H Q E h => ?_) (fun _ _ _ _ _ _ us hl => match us, hl with | [_, _], _ => rfl) (fun f cdv A outer s H vs Q E hr h => ⟨_,
    pss_one (ps_ret (pe_lc (own := [("x", 2)]) (g := gName 2) (tt := tB (tCall (spIsW CL) [] E0 (tCons (tVar 0) (tCons (tVar 1) (tCons (tVar 2) tNil))))) rfl scWN.nd (pi_tup (pe_gt T.NODES)) (blkOk_by (N := nWN) (sc := defScope (top 33)) (by decide +kernel)) (fun _ _ _ _ _ => pg_name (i := 2) scWN.nd rfl (Or.inl rfl))
      (fun _ _ _ _ _ => by exact pts_one (pt_val (pe_cal cW hr rfl (pa_cons (pv 0) (pa_cons (pv 1) (pa_cons (pv 2) pa_nil)))))) (fun _ _ _ _ _ => pv 2))), ?_⟩)
  · obtain ⟨a, t, rs, k, B, D, fs, rfl, _⟩ := h
    rfl
  · obtain ⟨a, t, rs, k, B, D, fs, rfl, L, U, Fu, F, hf, q⟩ := h
    refine fun an ha => ⟨an, rfl, ⟨_, ha _⟩, fun D1 hD1 => lc_tup (K := K) (a := an) (xs := vis Gq03.nodes) (fun i H' => Same H H' ∧ IL H' D1 ((Gq03.nodes.take i).filter (isWrong rs k B D fs)))
      ⟨Same.new hD1, upd_same⟩ (fun i H' _ _ => ha _) ?_ ?_⟩
    · rintro i y' H' hy ⟨s1, hI⟩
      obtain ⟨y, hy', rfl⟩ := vis_get hy
      refine ⟨rfl, _, rfl, _, rfl, _, rfl, a, t, y, rs, k, B, D, fs, rfl, L.same s1, U, F.same s1, hf, fun H2 s2 => ⟨_, rfl, ?_⟩⟩
      refine iB (fun hc => ?_) (fun hc => ⟨s1.trans s2, ?_⟩)
      · refine ⟨_, rfl, _, hI.same s2, ?_, (s1.trans s2).past hD1, ?_⟩
        · rw [vis_len]
          exact linelt (Nat.le_trans filter_take_len (by decide))
        · rw [filter_yes hy' hc]
          exact IL.snoc
      · rw [filter_no hy' hc]
        exact hI.same s2
    · rintro H' ⟨s1, hI⟩
      have e8 : (vis Gq03.nodes).length = Gq03.nodes.length := rfl
      rw [e8, List.take_length, wrongL_eq U Fu hf] at hI
      exact q D1 H' s1 hD1 hI
end
end Wm

namespace Wm
open PySem PySem.Spec PyProof.Rows L2
open Gq03 (Basic Rule Fact)
/-! ### pairs, rows -/
def PV (H : Hp) (v : V) (p : Nat × Nat) : Prop := ∃ q, v = .ref q ∧ H q = some (.tup [vi p.1, vi p.2])
def PL (H : Hp) (a : Addr) (ps : List (Nat × Nat)) : Prop := ∃ vs, H a = some (.lst vs) ∧ Paired (PV H) vs ps
theorem PV.ts {H H' : Hp} {v : V} {p : Nat × Nat} (h : PV H v p) (t : TupS H H') : PV H' v p := let ⟨q, e, k⟩ := h; ⟨q, e, t _ _ k⟩
theorem pvs_ts {H H' : Hp} {vs : List V} {ps : List (Nat × Nat)} (h : Paired (PV H) vs ps) (t : TupS H H') : Paired (PV H') vs ps := Paired.mapP h fun _ _ q => q.ts t
theorem PL.same {H H' : Hp} {a : Addr} {ps : List (Nat × Nat)} (h : PL H a ps) (s : Same H H') : PL H' a ps := let ⟨vs, e, q⟩ := h; ⟨vs, s _ _ e, pvs_ts q (TupS.of s)⟩
/-- a row of numbers, at none of the addresses X -/
def RR (X : List Addr) (H : Hp) (v : V) (row : List Nat) : Prop := ∃ q, v = .ref q ∧ IL H q row ∧ q ∉ X
def RRL (H : Hp) (a : Addr) (rows : List (List Nat)) : Prop := ∃ vs, H a = some (.lst vs) ∧ Paired (RR [] H) vs rows
theorem RR.same {X : List Addr} {H H' : Hp} {v : V} {row : List Nat} (h : RR X H v row) (s : Same H H') : RR X H' v row := let ⟨q, e, i, n⟩ := h; ⟨q, e, i.same s, n⟩
theorem rrs_same {X : List Addr} {H H' : Hp} {vs : List V} {rows : List (List Nat)} (h : Paired (RR X H) vs rows) (s : Same H H') : Paired (RR X H') vs rows := Paired.mapP h fun _ _ q => q.same s
theorem RR.at {X : List Addr} {H : Hp} {v : V} {row : List Nat} {a : Addr} {o : HO} (h : RR X H v row) (ha : a ∈ X) : RR X (upd H a o) v row := by
  obtain ⟨q, e, i, n⟩ := h
  refine ⟨q, e, ?_, n⟩
  show upd H a o q = _
  have ne : q ≠ a := fun z => n (by rw [z]; exact ha)
  rw [upd_ne ne]
  exact i
theorem rrs_at {X : List Addr} {H : Hp} {vs : List V} {rows : List (List Nat)} {a : Addr} {o : HO} (h : Paired (RR X H) vs rows) (ha : a ∈ X) : Paired (RR X (upd H a o)) vs rows := Paired.mapP h fun _ _ q => q.at ha
theorem RR.sub {X Y : List Addr} {H : Hp} {v : V} {row : List Nat} (h : RR X H v row) (hs : ∀ a ∈ Y, a ∈ X) : RR Y H v row := let ⟨q, e, i, n⟩ := h; ⟨q, e, i, fun z => n (hs q z)⟩
theorem rrs_sub {X Y : List Addr} {H : Hp} {vs : List V} {rows : List (List Nat)} (h : Paired (RR X H) vs rows) (hs : ∀ a ∈ Y, a ∈ X) : Paired (RR Y H) vs rows := Paired.mapP h fun _ _ q => q.sub hs
theorem RR.add {X : List Addr} {H : Hp} {v : V} {row : List Nat} {a : Addr} (h : RR X H v row) (ha : H a = none) : RR (a :: X) H v row := by
  obtain ⟨q, e, i, n⟩ := h
  refine ⟨q, e, i, fun z => ?_⟩
  rcases List.mem_cons.mp z with z | z
  · exact ne_of_none (show H q = some _ from i) ha z
  · exact n z
theorem rrs_add {X : List Addr} {H : Hp} {vs : List V} {rows : List (List Nat)} {a : Addr} (h : Paired (RR X H) vs rows) (ha : H a = none) : Paired (RR (a :: X) H) vs rows := Paired.mapP h fun _ _ q => q.add ha
/-! ### the mathematics of the loops -/
def bumpAt (rs : List Rule) (fs : List Fact) (i j : Nat) : Bool := match fs[i]?, fs[j]? with
    | some f, some g => bump rs f g
    | _, _ => false
theorem bumpAt_eq {rs : List Rule} {fs : List Fact} {i j : Nat} {f g : Fact} (h : fs[i]? = some f) (k : fs[j]? = some g) : bumpAt rs fs i j = bump rs f g := by
  unfold bumpAt
  rw [h, k]
/-- the pairs with a first place i, their second below i + m -/
def pairsTo (rs : List Rule) (fs : List Fact) (i m : Nat) : List (Nat × Nat) := ((List.range' i m).filter (bumpAt rs fs i)).map fun j => (i, j)
theorem pairsOf_eq (rs : List Rule) (fs : List Fact) (i : Nat) : pairsOf rs fs i = pairsTo rs fs i (fs.length - i) := rfl
theorem range'_more (i m : Nat) : List.range' i (m + 1) = List.range' i m ++ [i + m] := by
  rw [List.range'_concat, Nat.one_mul]
theorem pairsTo_yes {rs : List Rule} {fs : List Fact} {i m : Nat} (h : bumpAt rs fs i (i + m) = true) : pairsTo rs fs i (m + 1) = pairsTo rs fs i m ++ [(i, i + m)] := by
  unfold pairsTo
  rw [range'_more, List.filter_append, List.filter_cons, if_pos h, List.map_append]
  rfl
theorem pairsTo_no {rs : List Rule} {fs : List Fact} {i m : Nat} (h : bumpAt rs fs i (i + m) = false) : pairsTo rs fs i (m + 1) = pairsTo rs fs i m := by
  unfold pairsTo
  rw [range'_more, List.filter_append, List.filter_cons, if_neg (by rw [h]; exact Bool.false_ne_true), List.filter_nil, List.append_nil]
theorem pairsTo_len (rs : List Rule) (fs : List Fact) (i m : Nat) : (pairsTo rs fs i m).length ≤ m := by
  unfold pairsTo
  rw [List.length_map]
  have := List.length_filter_le (bumpAt rs fs i) (List.range' i m)
  rwa [List.length_range'] at this
/-- all pairs whose first place is below i -/
def clashTo (rs : List Rule) (fs : List Fact) (i : Nat) : List (Nat × Nat) := (List.range i).flatMap (pairsOf rs fs)
theorem clashTo_more (rs : List Rule) (fs : List Fact) (i : Nat) : clashTo rs fs (i + 1) = clashTo rs fs i ++ pairsOf rs fs i := by
  unfold clashTo
  rw [List.range_succ, List.flatMap_append]
  simp
theorem clashTo_len (rs : List Rule) (fs : List Fact) : ∀ i, (clashTo rs fs i).length ≤ fs.length * i
  | 0 => by simp [clashTo]
  | i + 1 => by
    have h1 := clashTo_len rs fs i
    have h2 := pairsTo_len rs fs i (fs.length - i)
    rw [clashTo_more, List.length_append, pairsOf_eq, Nat.mul_succ]
    omega
section
variable {P : Program} {w : World} {K : PySem.W.Frag} {mg : Str → Option Value} {base : Heap} {CL CD : Addr}
/-! ### clashes -/
def spClash (CL : Addr) : Sp := fun vs H Q _ => ∃ (a t : Addr) (rs : List Rule) (k : Kept) (B : List Basic) (D : List Nat) (fs : List Fact), vs = [.ref a, .ref t] ∧ LoreF CL H a rs k B D ∧ Ups rs k ∧ Full rs B D ∧ FL H t fs ∧ okFacts fs ∧ fs.length ≤ 14 ∧
  ∀ p H', Same H H' → H p = none → PL H' p (clashL rs fs) → Q (.ref p) H'
theorem scClash : FnScope ["lore", "told", "found", "one", "other"] ["lore", "told"] (defScope (top 34)) := ⟨rfl, rfl, rfl, by decide +kernel, rfl, by decide +kernel, by decide +kernel⟩
theorem ok_clash (T : Txt K mg CL CD) (cW : Cal P w K mg base 4 "wrong_nodes" ["lore", "told"] (spWN CL)) (D : Def K mg "clashes" (top 34)) : Cal P w K mg base 5 "clashes" ["lore", "told"] (spClash CL) := by
  refine D.cal scClash (fun vs H Q E h => ?_) (fun _ _ _ _ _ _ us hl => match us, hl with | [_, _], _ => rfl) (fun f cdv A outer s H vs Q E hr h => ⟨_,
    pss_cons (ps_set (i := 2) scClash.nd rfl (Or.inl rfl) (pe_lst pa_nil))
    (pss_cons (ps_for PassesOwn.never rfl (pi_range1 (by rfl) T.range (pa_cons (pe_callB call_len_seq (by rfl) T.len PySem.boot_len (pa_cons (pv 1) pa_nil)) pa_nil)) (pg_name (i := 3) scClash.nd rfl (Or.inl rfl))
      (pss_one (ps_for PassesOwn.never rfl (pi_range2 (by rfl) T.range (pa_cons (pv 3) (pa_cons (pe_callB call_len_seq (by rfl) T.len PySem.boot_len (pa_cons (pv 1) pa_nil)) pa_nil))) (pg_name (i := 4) scClash.nd rfl (Or.inl rfl))
        (pss_one (ps_if (pt_cmpR (op_neE hr.units) (pe_cal cW hr rfl (pa_cons (pv 0) (pa_cons (pe_lst (pa_cons (pe_ix ix_list (pv 1) (pv 3) (fun _ _ => rfl)) (pa_cons (pe_ix ix_list (pv 1) (pv 4) (fun _ _ => rfl)) pa_nil))) pa_nil))) (pe_lst pa_nil) (nomark _))
          (pss_one (ps_expr (pe_bm PySem.F.plainAttrs_list PySem.F.slot_list_append PySem.F.type_list_append mt_append (pv 2) (pa_cons (pe_tup (pa_cons (pv 3) (pa_cons (pv 4) pa_nil))) pa_nil)))) pss_nil)))))
    (pss_one (ps_ret (pv 2)))), ?_⟩)
  · obtain ⟨a, t, rs, k, B, D, fs, rfl, _⟩ := h
    rfl
  · obtain ⟨a, t, rs, k, B, D, fs, rfl, L, U, Fu, ⟨vs, hv, hp⟩, hf, hlen, q⟩ := h
    have vlen := pr_len hp
    refine ⟨by show 0 ≤ sizeLine; decide, fun l nl => ?_⟩
    refine ⟨_, rfl, t, _, rfl, .inl (SqL.of ((Same.new nl) _ _ hv)), _, rfl, by omega, by omega, for_range (lo := 0) (n := ((vs.length : Nat) : Int).toNat) (fun i σ H' => ∃ v3 v4, σ = [some (.ref a), some (.ref t), some (.ref l), v3, v4] ∧ Same H H' ∧ PL H' l (clashTo rs fs i))
      ⟨none, none, rfl, Same.new nl, [], upd_same, .nil⟩ ?_ ?_⟩
    · rintro i σ H' hi ⟨v3, v4, rfl, s1, hP⟩
      have hi : i < vs.length := hi
      rw [Int.zero_add]
      refine ⟨_, rfl, _, rfl, t, _, rfl, .inl (SqL.of (s1 _ _ hv)), (i : Int), ((vs.length : Nat) : Int), rfl, ⟨by omega, by omega, by omega, by omega⟩, ?_⟩
      have en : (((vs.length : Nat) : Int) - (i : Int)).toNat = fs.length - i := by omega
      rw [en]
      refine for_range (lo := (i : Int)) (n := fs.length - i) (fun m σ H' => ∃ v4, σ = [some (.ref a), some (.ref t), some (.ref l), some (vi i), v4] ∧ Same H H' ∧ PL H' l (clashTo rs fs i ++ pairsTo rs fs i m))
        ⟨v4, rfl, s1, by show PL H' l (clashTo rs fs i ++ []); rw [List.append_nil]; exact hP⟩ ?_ ?_
      · rintro m σ H2 hm ⟨v4', rfl, s2, ⟨us, hu, hpu⟩⟩
        have e1 : fs[i]? = some fs[i] := List.getElem?_eq_getElem (by omega)
        have e2 : fs[i + m]? = some fs[i + m] := List.getElem?_eq_getElem (by omega)
        obtain ⟨x1, hx1, hf1⟩ := pr_get' hp e1
        obtain ⟨x2, hx2, hf2⟩ := pr_get' hp e2
        have hv2 := s2 _ _ hv
        refine ⟨_, rfl, _, rfl, _, rfl, t, vs, i, x1, rfl, rfl, SqL.of hv2, atI_nat hx1, _, rfl, _, rfl, t, vs, ((i + m : Nat) : Int), x2, rfl, rfl, SqL.of hv2, atI_nat hx2, by show 2 ≤ sizeLine; decide, fun l2 nl2 => ?_⟩
        have s3 := Same.new (o := .lst [x1, x2]) nl2
        have hFL : FL (upd H2 l2 (.lst [x1, x2])) l2 [fs[i], fs[i + m]] := ⟨_, upd_same, .cons (hf1.ts (TupS.of (s2.trans s3))) (pr_one (hf2.ts (TupS.of (s2.trans s3))))⟩
        have okp : okFacts [fs[i], fs[i + m]] := fun f hf' => by
          rcases List.mem_cons.mp hf' with rfl | hf'
          · exact hf _ (List.mem_of_getElem? e1)
          · rw [List.mem_singleton] at hf'
            subst hf'
            exact hf _ (List.mem_of_getElem? e2)
        refine ⟨a, l2, rs, k, B, D, _, rfl, L.same (s2.trans s3), U, Fu, hFL, okp, fun p3 H3 s4 np3 hI => ⟨by show 0 ≤ sizeLine; decide, fun e ne => ?_⟩⟩
        have s5 := (s3.trans s4).trans (Same.new (o := .lst []) ne)
        have sAll := s2.trans s5
        refine ⟨_, e, (hI.same (Same.new ne)).dp, iDs_shaped _, rfl, upd_same, _, rfl, ?_⟩
        rw [List.isEmpty_map]
        have be : bumpAt rs fs i (i + m) = !(wrongL ⟨[fs[i], fs[i + m]], rs⟩).isEmpty := bumpAt_eq e1 e2
        have hu5 := s5 _ _ hu
        have hpu5 := pvs_ts hpu (TupS.of s5)
        refine iB (fun hc => ?_) (fun hc => ⟨_, rfl, sAll, us, hu5, ?_⟩)
        · refine ⟨_, rfl, .inl ⟨rfl, _, .inl (.inl hu5)⟩, _, rfl, _, rfl, by show 2 ≤ sizeLine; decide, fun tp ntp => ?_⟩
          have netp : l ≠ tp := ne_of_none hu5 ntp
          have s6 := Same.new (o := .tup [vi i, V.int ((i : Int) + (m : Int))]) ntp
          have hu6 := s6 _ _ hu5
          refine ⟨l, us, _, rfl, rfl, hu6, ?_, _, rfl, (sAll.trans s6).past nl, _, upd_same, ?_⟩
          · have h1 := clashTo_len rs fs i
            have h2 := pairsTo_len rs fs i m
            have h3 : fs.length * i ≤ 14 * 14 := Nat.mul_le_mul hlen (by omega)
            rw [pr_len hpu, List.length_append]
            exact linelt (by omega)
          · rw [pairsTo_yes (by rw [be]; exact hc), ← List.append_assoc]
            refine pr_app (pvs_ts hpu5 ((TupS.of s6).trans (TupS.lst hu6))) (pr_one ⟨tp, rfl, ?_⟩)
            rw [upd_ne (Ne.symm netp)]
            exact upd_same
        · rw [pairsTo_no (by rw [be]; exact hc)]
          exact hpu5
      · rintro σ H2 ⟨v4', rfl, s2, hP2⟩
        exact ⟨_, _, rfl, s2, by rw [clashTo_more, pairsOf_eq]; exact hP2⟩
    · rintro σ H' ⟨v3, v4, rfl, s1, hP⟩
      have hP : PL H' l (clashTo rs fs vs.length) := hP
      rw [vlen] at hP
      exact ⟨_, rfl, q l H' s1 nl hP⟩
/-! ### hits_all -/
def spHits : Sp := fun vs H Q _ => ∃ (r p : Addr) (row : List Nat) (ps : List (Nat × Nat)), vs = [.ref r, .ref p] ∧ IL H r row ∧ PL H p ps ∧ Q (.bl (hits row ps)) H
theorem scHits : FnScope ["row", "pairs", "one", "other"] ["row", "pairs"] (defScope (top 36)) := ⟨rfl, rfl, rfl, by decide +kernel, rfl, by decide +kernel, by decide +kernel⟩
theorem hits_bad {row : List Nat} {ps : List (Nat × Nat)} {i : Nat} {p : Nat × Nat} (h : ps[i]? = some p) (h1 : row.contains p.1 = false) (h2 : row.contains p.2 = false) : hits row ps = false := by
  unfold hits
  rw [List.all_eq_false]
  refine ⟨p, List.mem_of_getElem? h, ?_⟩
  rw [h1, h2]
  simp
theorem hits_snoc {row : List Nat} {ps : List (Nat × Nat)} {p : Nat × Nat} (h : hits row ps = true) (k : (row.contains p.1 || row.contains p.2) = true) : hits row (ps ++ [p]) = true := by
  unfold hits at h ⊢
  rw [List.all_append, h, List.all_cons, k]
  rfl
theorem ok_hits (D : Def K mg "hits_all" (top 36)) : Cal P w K mg base 1 "hits_all" ["row", "pairs"] spHits := by
  refine D.cal scHits (fun vs H Q E h => ?_) (fun _ _ _ _ _ _ us hl => match us, hl with | [_, _], _ => rfl) (fun f cdv A outer s H vs Q E hr h => ⟨_,
    pss_cons (ps_for PassesOwn.never rfl (pi_list (pv 1)) (pg_tup rfl (pgs_cons (pg_name (i := 2) scHits.nd rfl (Or.inl rfl)) (pgs_cons (pg_name (i := 3) scHits.nd rfl (Or.inl rfl)) pgs_nil)))
      (pss_one (ps_if (PW.pt (pw_and (pt_cmpR op_notInN (pv 2) (pv 0) rfl) (pw_and1 (pt_cmpR op_notInN (pv 3) (pv 0) rfl)))) (pss_one (ps_ret pe_bl)) pss_nil)))
    (pss_one (ps_ret pe_bl)), ?_⟩)
  · obtain ⟨r, p, row, ps, rfl, _⟩ := h
    rfl
  · obtain ⟨r, p, row, ps, rfl, hI, ⟨vs, hv, hp⟩, q⟩ := h
    refine ⟨_, rfl, p, rfl, ⟨_, SqL.of hv⟩, for_list (K := K) (a := p) (xs := vs) (fun i σ H' => ∃ v2 v3, σ = [some (.ref r), some (.ref p), v2, v3] ∧ H' = H ∧ hits row (ps.take i) = true)
      ⟨none, none, rfl, rfl, rfl⟩ (fun i σ H' _ ⟨_, _, _, e, _⟩ => by rw [e]; exact SqL.of hv) ?_ ?_⟩
    · rintro i x σ H' hx ⟨v2, v3, rfl, rfl, hi⟩
      obtain ⟨pr, hpr, t, rfl, ht⟩ := pr_get hp hx
      refine ⟨t, _, rfl, SqT.of ht, rfl, _, _, rfl, _, _, rfl, rfl, ?_⟩
      refine ⟨_, rfl, _, rfl, pr.1, row, r, rfl, rfl, .inl (SqL.of hI), _, rfl, ?_⟩
      refine iB (fun hc1 => ?_) (fun hc1 => iF rfl ⟨_, _, rfl, rfl, ?_⟩)
      · refine ⟨_, rfl, _, rfl, pr.2, row, r, rfl, rfl, .inl (SqL.of hI), _, rfl, ?_⟩
        refine iB (fun hc2 => ?_) (fun hc2 => ⟨_, _, rfl, rfl, ?_⟩)
        · rw [hits_bad hpr (by simpa using hc1) (by simpa using hc2)] at q
          exact q
        · rw [take_more hpr]
          refine hits_snoc hi ?_
          have : row.contains pr.2 = true := by simpa using hc2
          rw [this, Bool.or_true]
      · rw [take_more hpr]
        refine hits_snoc hi ?_
        have : row.contains pr.1 = true := by simpa using hc1
        rw [this, Bool.true_or]
    · rintro σ H' ⟨v2, v3, rfl, rfl, hi⟩
      rw [pr_len hp, List.take_length] at hi
      rw [hi] at q
      exact q
end
end Wm

namespace Wm
open PySem PySem.Spec PyProof.Rows L2
open Gq03 (Basic Rule Fact)
theorem flat_more {A B : Type} {f : A → List B} {l : List A} {i : Nat} {x : A} (h : l[i]? = some x) : (l.take (i + 1)).flatMap f = (l.take i).flatMap f ++ f x := by
  rw [take_more h, List.flatMap_append]
  simp
theorem flat_take_len {A B : Type} (f : A → List B) (l : List A) (i : Nat) : ((l.take i).flatMap f).length ≤ (l.flatMap f).length := by
  have e : l.flatMap f = (l.take i).flatMap f ++ (l.drop i).flatMap f := by rw [← List.flatMap_append, List.take_append_drop]
  rw [e, List.length_append]
  omega
theorem rowsP_len (many t : Nat) (h : many ≤ 14) : (rowsP many t).length ≤ 16384 := by
  rw [rowsP_eq]
  have h1 := choices_many (List.range many) t
  rw [List.length_range] at h1
  have h2 : 2 ^ many ≤ 2 ^ 14 := Nat.pow_le_pow_right (by decide) h
  exact Nat.le_trans h1 h2
theorem rowsP_row {many t : Nat} {row : List Nat} (h : row ∈ rowsP many t) : row.length = t := by
  rw [rowsP_eq] at h
  exact choices_len _ _ _ h
theorem at_last {row : List Nat} {x : Nat} (h : row.getLast? = some x) : atI (vis row) (-1) = some (vi x) := by
  obtain ⟨ys, rfl⟩ := List.getLast?_eq_some_iff.mp h
  show atI ((ys ++ [x]).map vi) (-1) = _
  rw [List.map_append]
  exact atI_last _ _
theorem longer_more (b m : Nat) (row : List Nat) : ((List.range' b (m + 1)).map fun n => row ++ [n]) = ((List.range' b m).map fun n => row ++ [n]) ++ [row ++ [b + m]] := by
  rw [range'_more, List.map_append]
  rfl
section
variable {P : Program} {w : World} {K : PySem.W.Frag} {mg : Str → Option Value} {base : Heap} {CL CD : Addr}
/-! ### rows_of -/
def spRows : Sp := fun vs H Q _ => ∃ (many size : Nat), vs = [vi many, vi size] ∧ many ≤ 14 ∧ size ≤ 14 ∧ ∀ p H', Same H H' → H p = none → RRL H' p (rowsP many size) → Q (.ref p) H'
abbrev nRows : List Str := ["many", "size", "found", "turn", "longer", "row", "begin", "number"]
theorem scRows : FnScope nRows ["many", "size"] (defScope (top 35)) := ⟨rfl, rfl, rfl, by decide +kernel, rfl, by decide +kernel, by decide +kernel⟩
theorem ok_rows (T : Txt K mg CL CD) (D : Def K mg "rows_of" (top 35)) : Cal P w K mg base 1 "rows_of" ["many", "size"] spRows := by
  refine D.cal scRows (fun vs H Q E h => ?_) (fun _ _ _ _ _ _ us hl => match us, hl with | [_, _], _ => rfl) (fun f cdv A outer s H vs Q E hr h => ⟨_,
    pss_cons (ps_set (i := 2) scRows.nd rfl (Or.inl rfl) (pe_lst (pa_cons (pe_lst pa_nil) pa_nil)))
    (pss_cons (ps_for PassesOwn.never rfl (pi_range1 (by rfl) T.range (pa_cons (pv 1) pa_nil)) (pg_name (i := 3) scRows.nd rfl (Or.inl rfl))
      (pss_cons (ps_set (i := 4) scRows.nd rfl (Or.inl rfl) (pe_lst pa_nil))
      (pss_cons (ps_for PassesOwn.never rfl (pi_list (pv 2)) (pg_name (i := 5) scRows.nd rfl (Or.inr rfl))
        (pss_mid (ps_set (i := 6) scRows.nd rfl (Or.inl rfl) (pe_ifExp (pt_cmpR (op_neE hr.units) (pv 5) (pe_lst pa_nil) (nomark _)) (pe_op op_add (pe_ix ix_list (pv 5) (pe_un un_neg pe_int) (fun _ _ => rfl)) pe_int) pe_int))
        (pss_one (ps_expr (pe_bm PySem.F.plainAttrs_list PySem.F.slot_list_extend PySem.F.type_list_extend mt_extend (pv 4) (pa_cons
          (pe_lc (own := [("number", 7)]) (g := gName 7) (tt := tYes) rfl scRows.nd (pi_range2 (by rfl) T.range (pa_cons (pv 6) (pa_cons (pv 0) pa_nil))) (blkOk_by (N := nRows) (sc := defScope (top 35)) (by decide +kernel)) (fun _ _ _ _ _ => pg_name (i := 7) scRows.nd rfl (Or.inl rfl))
            (fun _ _ _ _ _ => pts_nil) (fun _ _ _ _ _ => pe_op op_cat (pv 5) (pe_lst (pa_cons (pv 7) pa_nil)))) pa_nil))))))
      (pss_one (ps_set (i := 2) scRows.nd rfl (Or.inl rfl) (pv 4))))))
    (pss_one (ps_ret (pv 2)))), ?_⟩)
  · obtain ⟨many, size, rfl, _⟩ := h
    rfl
  · obtain ⟨many, size, rfl, hm, hsz, q⟩ := h
    refine ⟨by show 0 ≤ sizeLine; decide, fun e0 ne0 => ⟨by show 1 ≤ sizeLine; decide, fun l0 nl0 => ?_⟩⟩
    have s0 := (Same.new (o := .lst []) ne0).trans (Same.new (o := .lst [.ref e0]) nl0)
    refine ⟨_, rfl, (size : Int), rfl, by omega, by omega, for_range (lo := 0) (n := ((size : Nat) : Int).toNat) (fun t σ H' => ∃ v3 v4 v5 v6 lf, σ = [some (vi many), some (vi size), some (.ref lf), v3, v4, v5, v6, none] ∧ Same H H' ∧ H lf = none ∧ RRL H' lf (rowsP many t))
      ⟨none, none, none, none, l0, rfl, s0, (Same.new ne0).free nl0, _, upd_same, pr_one ⟨e0, rfl, (Same.new nl0) _ _ upd_same, by simp⟩⟩ ?_ ?_⟩
    · rintro t σ H1 ht ⟨v3, v4, v5, v6, lf, rfl, s1, nlf, ⟨vs, hv, hp⟩⟩
      have ht : t < size := ht
      refine ⟨by show 0 ≤ sizeLine; decide, fun l4 nl4 => ?_⟩
      have nl4' := s1.free nl4
      have nelf : lf ≠ l4 := ne_of_none hv nl4
      have s2 := Same.new (o := .lst []) nl4
      refine ⟨_, rfl, lf, rfl, ⟨_, SqL.of (s2 _ _ hv)⟩, for_list (K := K) (a := lf) (xs := vs) (fun j σ H' => ∃ v5 v6, σ = [some (vi many), some (vi size), some (.ref lf), some (V.int (0 + (t : Int))), some (.ref l4), v5, v6, none] ∧ Same H H' ∧ H' lf = some (.lst vs) ∧ Paired (RR [l4] H') vs (rowsP many t) ∧
          ∃ us, H' l4 = some (.lst us) ∧ Paired (RR [l4] H') us (((rowsP many t).take j).flatMap (longer many)))
        ⟨v5, v6, rfl, s1.trans s2, s2 _ _ hv, rrs_at (rrs_add hp nl4) (List.mem_singleton.mpr rfl), [], upd_same, .nil⟩ (fun j σ H' _ ⟨_, _, _, _, e, _⟩ => SqL.of e) ?_ ?_⟩
      · rintro j x σ H2 hx ⟨v5', v6', rfl, s3, hv2, hp2, us, hu, hpu⟩
        obtain ⟨row, hrow, hrv⟩ := pr_get hp2 hx
        have hrm := List.mem_of_getElem? hrow
        have rlen := rowsP_row hrm
        obtain ⟨q5, rfl, hI, nq5⟩ := hrv
        have nq5 : q5 ≠ l4 := fun z => nq5 (List.mem_singleton.mpr z)
        refine ⟨fun σ' H3 => σ' = [some (vi many), some (vi size), some (.ref lf), some (V.int (0 + (t : Int))), some (.ref l4), some (.ref q5), some (vi (beginOf row)), none] ∧ Same H2 H3, ?_, ?_⟩
        · refine ⟨_, rfl, by show 0 ≤ sizeLine; decide, fun e ne => ?_⟩
          have s4 := Same.new (o := .lst []) ne
          refine ⟨row.map iD, e, (hI.same s4).dp, iDs_shaped _, rfl, upd_same, _, rfl, ?_⟩
          rw [List.isEmpty_map]
          refine iB (fun hc => ?_) (fun hc => ?_)
          · cases hl : row.getLast? with
            | none =>
              have : row = [] := by simpa using hl
              rw [this] at hc
              exact absurd hc (by decide)
            | some y =>
              refine ⟨_, rfl, 1, rfl, q5, vis row, -1, vi y, rfl, rfl, SqL.of (hI.same s4), at_last hl, (y : Int), 1, rfl, rfl, ?_, s4⟩
              have e : beginOf row = y + 1 := by unfold beginOf; rw [hl]
              rw [e]
              rfl
          · have : row = [] := by simpa using hc
            refine ⟨?_, s4⟩
            rw [this]
            rfl
        · rintro σ' H3 ⟨rfl, s4⟩
          have hu3 := s4 _ _ hu
          have hI3 := hI.same s4
          refine ⟨_, rfl, .inl ⟨rfl, _, .inl (.inl hu3)⟩, _, rfl, _, rfl, ((beginOf row : Nat) : Int), ((many : Nat) : Int), rfl, ?_, fun D1 hD1 => ?_⟩
          · have hb : beginOf row ≤ 2 ^ 61 := by
              -- a row's numbers are below many
              have mem : ∀ (k : Nat) (l : List Nat) (c : List Nat), c ∈ Gq03.choices k l → ∀ y ∈ c, y ∈ l := by
                intro k l
                induction l generalizing k with
                | nil => intro c hc; cases k <;> simp [Gq03.choices] at hc; simp [hc]
                | cons a l ih => intro c hc; cases k with
                  | zero => simp [Gq03.choices] at hc; simp [hc]
                  | succ k =>
                    simp only [Gq03.choices, List.mem_append, List.mem_map] at hc
                    intro y hy
                    rcases hc with ⟨c', hc', rfl⟩ | hc
                    · rcases List.mem_cons.mp hy with rfl | hy
                      · exact List.mem_cons_self
                      · exact List.mem_cons_of_mem _ (ih k c' hc' y hy)
                    · exact List.mem_cons_of_mem _ (ih (k + 1) c hc y hy)
              unfold beginOf
              cases hl : row.getLast? with
              | none => exact Nat.zero_le _
              | some y =>
                have hrm' := hrm
                rw [rowsP_eq] at hrm'
                have := List.mem_range.mp (mem _ _ _ hrm' y (List.mem_of_getLast? hl))
                show y + 1 ≤ 2 ^ 61
                omega
            omega
          · have en : (((many : Nat) : Int) - ((beginOf row : Nat) : Int)).toNat = many - beginOf row := by omega
            rw [en]
            have tot : (((rowsP many t).take (j + 1)).flatMap (longer many)).length ≤ 16384 := Nat.le_trans (flat_take_len _ _ _) (rowsP_len many (t + 1) hm)
            have tote : (((rowsP many t).take (j + 1)).flatMap (longer many)).length = us.length + (longer many row).length := by
              rw [flat_more hrow, List.length_append, ← pr_len hpu]
            refine lc_range (lo := ((beginOf row : Nat) : Int)) (n := many - beginOf row) (fun m H' => Same H3 H' ∧ ∃ os, H' D1 = some (.lst os) ∧ Paired (RR [D1, l4] H') os ((List.range' (beginOf row) m).map fun n => row ++ [n]))
              ⟨Same.new hD1, [], upd_same, .nil⟩ ?_ ?_
            · rintro m H4 hm4 ⟨s5, os, hos, hpo⟩
              refine ⟨rfl, tYes_of ⟨_, rfl, _, rfl, by show 1 ≤ sizeLine; decide, fun e1 ne1 => ?_⟩⟩
              have s6 := Same.new (o := .lst [V.int (((beginOf row : Nat) : Int) + (m : Int))]) ne1
              refine ⟨q5, e1, vis row, _, rfl, rfl, (hI3.same s5).same s6, upd_same, ?_, fun r nr => ?_⟩
              · rw [vis_len, rlen]
                exact line1000 (by simp only [List.length_cons, List.length_nil]; omega)
              · have s7 := s6.trans (Same.new (o := .lst (vis row ++ [V.int (((beginOf row : Nat) : Int) + (m : Int))])) nr)
                have hos7 := s7 _ _ hos
                have hu7 := s7 _ _ (s5 _ _ hu3)
                refine ⟨os, hos7, ?_, (s5.trans s7).past hD1, _, upd_same, ?_⟩
                · rw [pr_len hpo, List.length_map, List.length_range']
                  exact linelt (by omega)
                · rw [longer_more]
                  refine pr_app (rrs_at (rrs_same hpo s7) List.mem_cons_self) (pr_one ⟨r, rfl, ?_, ?_⟩)
                  · have nrD : r ≠ D1 := Ne.symm (ne_of_none (s6 _ _ hos) nr)
                    show upd _ D1 _ r = _
                    rw [upd_ne nrD]
                    exact IL.snoc (b := beginOf row + m)
                  · intro z
                    rcases List.mem_cons.mp z with z | z
                    · exact ne_of_none (s6 _ _ hos) nr z.symm
                    · rw [List.mem_singleton] at z
                      exact ne_of_none (s6 _ _ (s5 _ _ hu3)) nr z.symm
            · rintro H4 ⟨s5, os, hos, hpo⟩
              have hpo : Paired (RR [D1, l4] H4) os (longer many row) := hpo
              have hu4 := s5 _ _ hu3
              refine ⟨l4, D1, us, os, rfl, rfl, hu4, hos, ?_, ?_⟩
              · rw [pr_len hpo, ← tote]
                exact Nat.le_of_lt (linelt (by omega))
              · have s45 := s4.trans s5
                have m4 : l4 ∈ [l4] := List.mem_singleton.mpr rfl
                refine ⟨_, _, rfl, (s3.trans s45).past nl4', by rw [upd_ne nelf]; exact s45 _ _ hv2, rrs_at (rrs_same hp2 s45) m4, _, upd_same, ?_⟩
                rw [flat_more hrow]
                exact pr_app (rrs_at (rrs_same hpu s45) m4) (rrs_at (rrs_sub hpo fun a ha => List.mem_cons_of_mem _ ha) m4)
      · rintro σ H2 ⟨v5', v6', rfl, s3, hv2, hp2, us, hu, hpu⟩
        rw [pr_len hp, List.take_length] at hpu
        refine ⟨_, rfl, ?_⟩
        exact ⟨_, _, _, _, l4, rfl, s3, nl4', us, hu, rrs_sub hpu fun a ha => absurd ha (by simp)⟩
    · rintro σ H1 ⟨v3, v4, v5, v6, lf, rfl, s1, nlf, hR⟩
      exact ⟨_, rfl, q lf H1 s1 nlf hR⟩
/-! ### fewest -/
theorem find_at {A : Type} {p : A → Bool} : ∀ {l : List A} {m : Nat} {x : A}, l[m]? = some x → p x = true → (l.take m).any p = false → l.find? p = some x
  | [], m, x, h, _, _ => by simp at h
  | a :: l, 0, x, h, hp, _ => by
    have e := Option.some.inj h
    subst e
    rw [List.find?_cons, hp]
  | a :: l, m + 1, x, h, hp, hn => by
    rw [List.take_succ_cons, List.any_cons, Bool.or_eq_false_iff] at hn
    rw [List.find?_cons, hn.1]
    exact find_at (l := l) (m := m) h hp hn.2
def spFew (CL : Addr) : Sp := fun vs H Q _ => ∃ (a t : Addr) (rs : List Rule) (k : Kept) (B : List Basic) (D : List Nat) (fs : List Fact), vs = [.ref a, .ref t] ∧ LoreF CL H a rs k B D ∧ Ups rs k ∧ Full rs B D ∧ FL H t fs ∧ okFacts fs ∧ fs.length ≤ 14 ∧
  ∀ p H', Same H H' → IL H' p (Gq03.fewest ⟨fs, rs⟩) → Q (.ref p) H'
theorem scFew : FnScope ["lore", "told", "pairs", "size", "row"] ["lore", "told"] (defScope (top 37)) := ⟨rfl, rfl, rfl, by decide +kernel, rfl, by decide +kernel, by decide +kernel⟩
theorem ok_few (T : Txt K mg CL CD) (cC : Cal P w K mg base 5 "clashes" ["lore", "told"] (spClash CL)) (cR : Cal P w K mg base 1 "rows_of" ["many", "size"] spRows) (cH : Cal P w K mg base 1 "hits_all" ["row", "pairs"] spHits)
    (D : Def K mg "fewest" (top 37)) : Cal P w K mg base 6 "fewest" ["lore", "told"] (spFew CL) := by
  refine D.cal scFew (fun vs H Q E h => ?_) (fun _ _ _ _ _ _ us hl => match us, hl with | [_, _], _ => rfl) (fun f cdv A outer s H vs Q E hr h => ⟨_,
    pss_cons (ps_set (i := 2) scFew.nd rfl (Or.inl rfl) (pe_cal cC hr rfl (pa_cons (pv 0) (pa_cons (pv 1) pa_nil))))
    (pss_cons (ps_for PassesOwn.never rfl (pi_range1 (by rfl) T.range (pa_cons (pe_op op_add (pe_callB call_len_seq (by rfl) T.len PySem.boot_len (pa_cons (pv 1) pa_nil)) pe_int) pa_nil)) (pg_name (i := 3) scFew.nd rfl (Or.inl rfl))
      (pss_one (ps_for PassesOwn.never rfl (pi_list (pe_cal cR (hr.mono (by decide)) rfl (pa_cons (pe_callB call_len_seq (by rfl) T.len PySem.boot_len (pa_cons (pv 1) pa_nil)) (pa_cons (pv 3) pa_nil)))) (pg_name (i := 4) scFew.nd rfl (Or.inl rfl))
        (pss_one (ps_if (pt_val (pe_cal cH (hr.mono (by decide)) rfl (pa_cons (pv 4) (pa_cons (pv 2) pa_nil)))) (pss_one (ps_ret (pv 4))) pss_nil)))))
    (pss_one ps_never)), ?_⟩)
  · obtain ⟨a, t, rs, k, B, D, fs, rfl, _⟩ := h
    rfl
  · obtain ⟨a, t, rs, k, B, D, fs, rfl, L, U, Fu, F, hf, hlen, q⟩ := h
    obtain ⟨vs, hv, hp⟩ := id F
    have vlen := pr_len hp
    refine ⟨_, rfl, _, rfl, a, t, rs, k, B, D, fs, rfl, L, U, Fu, F, hf, hlen, fun lp H1 s1 nlp hP => ?_⟩
    refine ⟨_, rfl, t, _, rfl, .inl (SqL.of (s1 _ _ hv)), ((vs.length : Nat) : Int), 1, rfl, rfl, _, rfl, by omega, by omega, ?_⟩
    have en : (((vs.length : Nat) : Int) + 1).toNat = fs.length + 1 := by omega
    rw [en]
    refine for_range (lo := 0) (n := fs.length + 1) (fun i σ H' => ∃ v3 v4, σ = [some (.ref a), some (.ref t), some (.ref lp), v3, v4] ∧ Same H H' ∧ PL H' lp (clashL rs fs) ∧ ∀ j < i, found rs fs j = none)
      ⟨none, none, rfl, s1, hP, fun j hj => absurd hj (Nat.not_lt_zero _)⟩ ?_ ?_
    · rintro i σ H2 hi ⟨v3, v4, rfl, s2, hP2, hn⟩
      rw [Int.zero_add]
      refine ⟨_, rfl, t, _, rfl, .inl (SqL.of (s2 _ _ hv)), _, rfl, vs.length, i, rfl, by omega, by omega, fun lr H3 s3 nlr ⟨ws, hw, hpw⟩ => ?_⟩
      rw [vlen] at hpw
      refine ⟨lr, rfl, ⟨_, SqL.of hw⟩, for_list (K := K) (a := lr) (xs := ws) (fun m σ H' => ∃ v4, σ = [some (.ref a), some (.ref t), some (.ref lp), some (vi i), v4] ∧ H' = H3 ∧ ((rowsP fs.length i).take m).any (fun c => hits c (clashL rs fs)) = false)
        ⟨v4, rfl, rfl, rfl⟩ (fun m σ H' _ ⟨_, _, e, _⟩ => by rw [e]; exact SqL.of hw) ?_ ?_⟩
      · rintro m x σ H' hx ⟨v4', rfl, rfl, hm⟩
        obtain ⟨row, hrow, qr, rfl, hI, _⟩ := pr_get hpw hx
        refine ⟨_, rfl, _, rfl, qr, lp, row, clashL rs fs, rfl, hI, hP2.same s3, _, rfl, ?_⟩
        refine iB (fun hc => ?_) (fun hc => ⟨_, rfl, rfl, ?_⟩)
        · have e := fewest_at (rs := rs) (k := i) (by omega) (find_at hrow hc hm) hn
          exact ⟨_, rfl, q qr H' (s2.trans s3) (by rw [e]; exact hI)⟩
        · rw [take_more hrow]
          exact any_snoc_false hm hc
      · rintro σ H' ⟨v4', rfl, rfl, hm⟩
        rw [pr_len hpw, List.take_length] at hm
        refine ⟨_, _, rfl, s2.trans s3, hP2.same s3, fun j hj => ?_⟩
        by_cases c : j = i
        · subst c
          unfold found
          rw [List.find?_eq_none]
          intro r hr
          have := List.any_eq_false.mp hm r hr
          simpa using this
        · exact hn j (by omega)
    · rintro σ H2 ⟨v3, v4, rfl, s2, hP2, hn⟩
      have := hn fs.length (by omega)
      rw [found_last] at this
      cases this
end
end Wm

/-! ### a dict whose keys are places: (a node, a tuple of directions); every value is True -/
namespace Wm
open PySem PySem.Spec PyProof.Rows L2
/-- a place: a node, the directions behind it -/
abbrev Pl := Nat × List Nat
def PlV (H : Hp) (v : V) (p : Pl) : Prop := ∃ a q, v = .ref a ∧ H a = some (.tup [vi p.1, .ref q]) ∧ H q = some (.tup (vis p.2))
def PlL (H : Hp) (a : Addr) (ps : List Pl) : Prop := ∃ vs, H a = some (.lst vs) ∧ Paired (PlV H) vs ps
theorem PlV.ts {H H' : Hp} {v : V} {p : Pl} (h : PlV H v p) (t : TupS H H') : PlV H' v p := let ⟨a, q, e, h1, h2⟩ := h; ⟨a, q, e, t _ _ h1, t _ _ h2⟩
theorem plvs_ts {H H' : Hp} {vs : List V} {ps : List Pl} (h : Paired (PlV H) vs ps) (t : TupS H H') : Paired (PlV H') vs ps := Paired.mapP h fun _ _ q => q.ts t
theorem PlL.same {H H' : Hp} {a : Addr} {ps : List Pl} (h : PlL H a ps) (s : Same H H') : PlL H' a ps := let ⟨vs, e, q⟩ := h; ⟨vs, s _ _ e, plvs_ts q (TupS.of s)⟩
/-- the key -/
def nk (p : Pl) : NestedKey := .tup [.num (p.1 : Int), .tup (p.2.map fun n => .num ((n : Nat) : Int))]
theorem nums_inj : ∀ {a b : List Nat}, (a.map fun n => NestedKey.num ((n : Nat) : Int)) = b.map (fun n => NestedKey.num ((n : Nat) : Int)) → a = b
  | [], [], _ => rfl
  | [], _ :: _, h => by simp at h
  | _ :: _, [], h => by simp at h
  | x :: a, y :: b, h => by
    simp only [List.map_cons, List.cons.injEq, NestedKey.num.injEq] at h
    rw [nums_inj h.2, Int.ofNat.inj h.1]
theorem nk_inj {p q : Pl} (h : nk p = nk q) : p = q := by
  unfold nk at h
  simp only [NestedKey.tup.injEq, List.cons.injEq, NestedKey.num.injEq, and_true] at h
  exact Prod.ext (Int.ofNat.inj h.1) (nums_inj h.2)
theorem nums_depth : ∀ l : List Nat, NestedKey.depthAll (l.map fun n => NestedKey.num ((n : Nat) : Int)) = 0
  | [] => by simp [NestedKey.depthAll]
  | n :: r => by simp [NestedKey.depthAll, NestedKey.depth, nums_depth r]
theorem nk_depth (p : Pl) : (nk p).depth ≤ 8 := by
  unfold nk
  simp only [NestedKey.depth, NestedKey.depthAll, nums_depth]
  decide
section
variable {P : Program} {w : World}
theorem nums_are {h : Heap} : ∀ {l : List Nat} {us : List Value}, Vals (vis l) us → NestedAll h (l.map fun n => NestedKey.num ((n : Nat) : Int)) us
  | [], _, r => by
    cases r
    exact .nil
  | n :: l, _, r => by
    cases r with
    | cons r1 r2 =>
      obtain ⟨t, rfl⟩ := r1
      exact .cons (.int _ t) (nums_are r2)
theorem pl_is {H : Hp} {h : Heap} {a : Addr} {p : Pl} (ok : HOk P w H h) (x : PlV H (.ref a) p) : (nestedKind P w).is h (nk p) a := by
  obtain ⟨a', q, e, h1, h2⟩ := x
  cases e
  obtain ⟨_, its, rv, o, ho, hc, n, hd⟩ := ok _ _ h1
  obtain ⟨_, jts, rw', o2, ho2, hc2, n2, hd2⟩ := ok _ _ h2
  refine ⟨.tup ho hc hd ?_, nk_depth p⟩
  cases rv with
  | cons r1 r2 =>
    cases r2 with
    | cons r3 r4 =>
      cases r4
      obtain ⟨t, rfl⟩ := r1
      cases r3
      exact .cons (.int _ t) (.cons (.tup ho2 hc2 hd2 (nums_are rw')) .nil)
/-- the entries -/
def dnE (xs : List (Pl × Addr)) : List (NestedKey × Addr × Value) := xs.map fun x => (nk x.1, x.2, Value.bool true)
def dnP (P : Program) (w : World) (d : Addr) (xs : List (Pl × Addr)) (h : Heap) : Prop :=
  xs.length ≤ sizeLine ∧ (d == sysModules) = false ∧ ∃ o es ep, h.get? d = some o ∧ o.ExactDict ∧ o.data = .dict es ep ∧ es.toList = (dnE xs).map (entryOfKey (nestedKind P w)) ∧ ((dnE xs).map (·.1)).Nodup
def dnO (P : Program) (w : World) (d : Addr) (xs : List (Pl × Addr)) : HO := .ext (dnP P w d xs)
theorem dnO_ok {H : Hp} {h : Heap} {d : Addr} {xs : List (Pl × Addr)} (x : dnP P w d xs h) : ObjOk P w H h d (dnO P w d xs) := by
  obtain ⟨z, e, o, es, ep, ho, r⟩ := id x
  exact ⟨x, ⟨o, ho⟩, fun h1 h2 y k => let ⟨z, e, o, es, ep, ho, r⟩ := y; ⟨z, e, o, es, ep, k o ho, r⟩⟩
theorem of_dnO {H : Hp} {h : Heap} {d : Addr} {xs : List (Pl × Addr)} (ok : HOk P w H h) (e : H d = some (dnO P w d xs)) : dnP P w d xs h := (ok d _ e).1
/-- one more place, if it isn't there -/
def putPl (xs : List (Pl × Addr)) (p : Pl) (a : Addr) : List (Pl × Addr) := if (xs.map (·.1)).contains p = true then xs else xs ++ [(p, a)]
theorem dnE_keys (xs : List (Pl × Addr)) : (dnE xs).map (·.1) = (xs.map (·.1)).map nk := by
  unfold dnE
  rw [List.map_map, List.map_map]; rfl
theorem dn_stored (xs : List (Pl × Addr)) (p : Pl) (a : Addr) : storedH (dnE xs) (nk p) a (.bool true) = dnE (putPl xs p a) := by
  unfold putPl
  by_cases c : p ∈ xs.map (·.1)
  · rw [if_pos (List.contains_iff_mem.mpr c)]
    obtain ⟨x, hx, e⟩ := List.mem_map.mp c
    have some_ : (atKey (dnE xs) (nk p)).isSome = true := by
      unfold atKey
      rw [Option.isSome_map, List.find?_isSome]
      exact ⟨(nk x.1, x.2, Value.bool true), List.mem_map.mpr ⟨x, hx, rfl⟩, decide_eq_true (congrArg nk e)⟩
    unfold storedH
    rw [if_pos some_]
    unfold dnE
    rw [List.map_map]
    refine List.map_congr_left fun y _ => ?_
    show putAt (nk p) (Value.bool true) (nk y.1, y.2, Value.bool true) = _
    unfold putAt
    split <;> rfl
  · rw [if_neg (fun z => c (List.contains_iff_mem.mp z))]
    have none_ : atKey (dnE xs) (nk p) = none := by
      unfold atKey
      rw [Option.map_eq_none_iff, List.find?_eq_none]
      intro y hy
      obtain ⟨x, hx, e⟩ := List.mem_map.mp hy
      subst e
      intro z
      exact c (List.mem_map.mpr ⟨x, hx, nk_inj (of_decide_eq_true z)⟩)
    rw [storedH_new none_]
    unfold dnE
    rw [List.map_append]
    rfl
end
section
variable {X : Cx} {pos : Pos}
theorem dnew_in {pins : List (Addr × Obj)} {σ : L2.St} {H : Hp} {s : Shared} (I : Inv X pins σ H s) : dnP X.prog X.w s.heap.objs.size [] (s.heap.push { cls := .type "dict", data := .dict #[] }) :=
  ⟨Nat.zero_le _, beq_eq_false_iff_ne.mpr (Ne.symm (Nat.ne_of_lt I.big)), _, #[], 0, Heap.get?_push_size _ rfl, ⟨rfl, rfl, rfl⟩, rfl, rfl, List.nodup_nil⟩
/-- {}, to be a dict of places -/
def tDNewN (P : Program) (w : World) : TE := fun _ H Q => ∀ p, H p = none → Q (.ref p) (upd H p (dnO P w p []))
theorem pe_dnewN : PE X (.Dict [] [] pos) (tDNewN X.prog X.w) := ⟨fun pins s σ H Q I h =>
  wpAny_Dict_empty ⟨.ref s.heap.objs.size, _, I.laid (a := s.heap.objs.size) (o := dnO X.prog X.w s.heap.objs.size []) (t' := s.toks) (fun _ _ q => Heap.get?_push_of_some _ q) (Nat.le_refl _) (dnO_ok (dnew_in I)), rfl, h _ (I.hok.fresh (Nat.le_refl _))⟩⟩
/-- d[place] = True -/
def sDPutN (P : Program) (w : World) (td ty tv : TE) : L2.TS := fun D σ H => tv σ H fun v H1 => td σ H1 fun x H2 => ty σ H2 fun y H3 => ∃ (a b : Addr) (xs : List (Pl × Addr)) (p : Pl), v = .bl true ∧ x = .ref a ∧ H3 a = some (dnO P w a xs) ∧ y = .ref b ∧ PlV H3 (.ref b) p ∧
  (∀ z ∈ xs, PlV H3 (.ref z.2) z.1) ∧ xs.length < sizeLine ∧ D.nx σ (upd H3 a (dnO P w a (putPl xs p b)))
theorem putPl_len (xs : List (Pl × Addr)) (p : Pl) (b : Addr) : (putPl xs p b).length ≤ xs.length + 1 := by
  unfold putPl
  split
  · omega
  · simp
theorem ps_dputN {o i value : Expr} {td ty tv : TE} {pos' : Pos} (hu : X.A.units + 9 < cLine) (ho : PE X o td) (hi : PE X i ty) (hv : PE X value tv) (hs : swapsWith value (some (.Subscript o i pos')) pos.line X.env = pure false) :
    PS X (.Assign [.Subscript o i pos'] value pos) (sDPutN X.prog X.w td ty tv) := by
  refine ⟨fun pins s σ H D I h => ?_⟩
  refine wpAny_Assign_Subscript (thn (hv.run pins s σ H _ I h) fun r s1 ⟨v, H1, I1, rv, q1⟩ => thn (ho.run pins s1 σ H1 _ I1 q1) fun u s2 ⟨x, H2, I2, rx, q2⟩ => thn (hi.run pins s2 σ H2 _ I2 q2) fun iv s3 ⟨y, H3, I3, ry, a, b, xs, p, ev, ex, hd, ey, hp, hall, hl, q3⟩ => ?_) hs
  subst ev ex ey
  obtain rfl : r = Value.bool true := rv
  obtain rfl : u = Value.ref a := rx
  obtain rfl : iv = Value.ref b := ry
  obtain ⟨z, hsys, ob, es, ep, hob, hx, hdt, he, hn⟩ := of_dnO I3.hok hd
  have dd : s3.heap.DictOfH (nestedKind X.prog X.w) a (dnE xs) := ⟨ob, es, ep, hob, hx, hdt, he, fun y hy => by
    obtain ⟨x0, hx0, e0⟩ := List.mem_map.mp hy
    subst e0
    exact pl_is I3.hok (hall x0 hx0), hn⟩
  have hroom : (nestedKind X.prog X.w).room X.A.in1 := by
    show X.A.in1.units + 8 < cLine
    have : X.A.in1.units = X.A.units + 1 := rfl
    omega
  have hlen : (dnE xs).length ≤ sizeLine := by unfold dnE; rw [List.length_map]; exact z
  refine wpAny_setItem_heap (hsz := hlen) hroom (pl_is I3.hok hp) dd fun h' dd' hsb => ?_
  rw [dn_stored] at dd'
  obtain ⟨q, es', ep', hq, h2, h3, h4, _, h5⟩ := dd'
  have hl2 := putPl_len xs p b
  refine ⟨σ, _, d_write (a := a) I3 (by rw [hd]; exact True.intro) hsb ⟨q, hq⟩ (dnO_ok ⟨by omega, hsys, q, es', ep', hq, h2, h3, h4, h5⟩), q3⟩
/-- list(d) -/
def rListN (P : Program) (w : World) : List V → Hp → VK → Prop := fun vs H Q => ∃ (d : Addr) (xs : List (Pl × Addr)), vs = [.ref d] ∧ H d = some (dnO P w d xs) ∧ ∀ p, H p = none → Q (.ref p) (upd H p (.lst (xs.map fun x => V.ref x.2)))
theorem call_list_dN (hc : X.calm = true) : CallR X (.type "list") (rListN X.prog X.w) := by
  intro pins s σ H vs us Q I r h
  obtain ⟨d, xs, rfl, hd, q⟩ := h
  obtain ⟨u, rfl, rx⟩ := r.one
  cases rx
  obtain ⟨z, hs, o, es, ep, ho, hx, hdt, he, hn⟩ := of_dnO I.hok hd
  have l1 : es.size = (dnE xs).length := size_of_entries he
  have l2 : (dnE xs).length = xs.length := by unfold dnE; rw [List.length_map]
  refine PySem.W.kdl_call (kdl_raw hs hx hdt) (I.ok.hd hc) ho (by omega) fun h' tk acc' c' kp e it => ?_
  have ea : acc'.toList = (dnE xs).map fun x => Value.ref x.2.1 := by
    have hl : acc'.toList.length = (dnE xs).length := by rw [Array.length_toList, it.1]; exact l1
    apply List.ext_getElem?
    intro j
    rw [List.getElem?_map]
    cases hj : acc'.toList[j]? with
    | none =>
      have h1 := List.getElem?_eq_none_iff.mp hj
      rw [List.getElem?_eq_none (by omega)]
      all_goals rfl
    | some v =>
      obtain ⟨en, hen, hv⟩ := it.2 j v (by rw [← Array.getElem?_toList]; exact hj)
      have qe := entry_at he j
      rw [hen] at qe
      cases hb : (dnE xs)[j]? with
      | none =>
        rw [hb] at qe
        exact nomatch (show some en = none from qe)
      | some b =>
        rw [hb] at qe
        have e2 : en = entryOfKey (nestedKind X.prog X.w) b := Option.some.inj qe
        rw [hv, e2]
        all_goals rfl
  have eb : acc'.toList = (xs.map fun x => x.2).map Value.ref := by
    rw [ea]
    unfold dnE
    rw [List.map_map, List.map_map]
    rfl
  have eV : (xs.map fun x => V.ref x.2) = (xs.map fun x => x.2).map V.ref := by rw [List.map_map]; rfl
  have rv : Vals (xs.map fun x => V.ref x.2) acc'.toList := by rw [eb, eV]; exact vals_refs _
  refine ⟨.ref s.heap.objs.size, _, I.laid (t' := tk) (o := .lst (xs.map fun x => V.ref x.2)) kp (Nat.le_refl _) ?_, rfl, q _ (I.hok.fresh (Nat.le_refl _))⟩
  exact ⟨by rw [List.length_map]; exact z, acc'.toList, c', rv, by rw [Array.toArray_toList]; exact e⟩
end
end Wm

namespace Wm
open PySem PySem.Spec PyProof.Rows L2
open Gq03 (Basic Rule Fact)
theorem eqv_tup_empty (l : List Nat) : PyData.eqv (.tuple (l.map iD)) (.tuple []) = l.isEmpty := by
  cases l <;> simp [PyData.eqv, PyData.eqvAll]
theorem tup_shaped (l : List Nat) : SeqAt.shaped (.tuple (l.map iD)) = true := by
  refine shaped_of (by simp only [PyData.canLay0]; exact lay_ints l) ?_
  simp only [PyData.depth]
  rw [dep_ints]
  decide
section
variable {X : Cx}
/-- a tuple of numbers and the empty one -/
def rEqU : R2 := fun x y H Q => ∃ (a e : Addr) (l : List Nat), x = .ref a ∧ H a = some (.tup (vis l)) ∧ y = .ref e ∧ H e = some (.tup []) ∧ Q (.bl l.isEmpty) H
theorem op_eqU (hu : X.A.units + 64 < cLine) : OpR X (compareOp .Eq) rEqU := OpR.imp (op_eqD hu) fun x y H Q ⟨a, e, l, h1, h2, h3, h4, q⟩ => by
  subst h1 h3
  exact ⟨.tuple (l.map iD), .tuple [], .tup (SqT.of h2) (dp_ints l), .tup (SqT.of h4) .nil, tup_shaped l, tup_shaped [], by rw [eqv_tup_empty]; exact q⟩
end
section
variable {P : Program} {w : World} {K : PySem.W.Frag} {mg : Str → Option Value} {base : Heap} {CL CD : Addr}
/-! ### all_at -/
def spAllAt (CL : Addr) : Sp := fun vs H Q _ => ∃ (a t : Addr) (v : V) (p : Pl) (rs : List Rule) (k : Kept) (B : List Basic) (D : List Nat) (fs : List Fact) (H0 : Hp), vs = [.ref a, .ref t, v] ∧ Same H0 H ∧ LoreF CL H0 a rs k B D ∧ Ups rs k ∧ FL H t fs ∧ okFacts fs ∧ PlV H v p ∧ Good p ∧
  ∀ l H', Same H H' → BL H' l (allAt k fs p) → (H l = none ∨ H0 l ≠ none) → Q (.ref l) H'
theorem scAllAt : FnScope ["lore", "told", "place", "x", "path"] ["lore", "told", "place"] (defScope (top 38)) := ⟨rfl, rfl, rfl, by decide +kernel, rfl, by decide +kernel, by decide +kernel⟩
theorem ok_allAt (T : Txt K mg CL CD) (cA : Cal P w K mg base 2 "all_of" ["lore", "told", "x"] (spAllOf CL)) (cT : Cal P w K mg base 1 "turned" ["direction"] spTurned) (D : Def K mg "all_at" (top 38)) : Cal P w K mg base 3 "all_at" ["lore", "told", "place"] (spAllAt CL) := by
  refine D.cal scAllAt (fun vs H Q E h => ?_) (fun _ _ _ _ _ _ us hl => match us, hl with | [_, _, _], _ => rfl) (fun f cdv A outer s H vs Q E hr h => ⟨_,
    pss_cons (ps_asg (pv 2) (pg_tup rfl (pgs_cons (pg_name (i := 3) scAllAt.nd rfl (Or.inl rfl)) (pgs_cons (pg_name (i := 4) scAllAt.nd rfl (Or.inl rfl)) pgs_nil))))
    (pss_cons (ps_if (pt_cmpR (op_eqU hr.units) (pv 4) (pe_tup pa_nil) (nomark _)) (pss_one (ps_ret (pe_cal cA hr rfl (pa_cons (pv 0) (pa_cons (pv 1) (pa_cons (pv 3) pa_nil)))))) pss_nil)
    (pss_one (ps_ret (pe_dget (u1 hr) (pe_fld (pv 0) rfl) (pe_tup (pa_cons (pe_gi T.HAVING) (pa_cons (pe_cal cT (hr.mono (by decide)) rfl (pa_cons (pe_ix ix_tup (pv 4) (pe_un un_neg pe_int) (fun _ _ => rfl)) pa_nil)) pa_nil))) (fun _ _ => rfl))))), ?_⟩)
  · obtain ⟨a, t, v, p, rs, k, B, D, fs, H0, rfl, _⟩ := h
    rfl
  · obtain ⟨a, t, v, p, rs, k, B, D, fs, H0, rfl, s0, L0, U, F, hf, ⟨pa, pq, rfl, hpa, hpq⟩, g, q⟩ := h
    have L := L0.same s0
    refine ⟨_, rfl, pa, _, rfl, SqT.of hpa, rfl, _, _, rfl, _, _, rfl, rfl, ?_⟩
    refine ⟨_, rfl, by show 0 ≤ sizeLine; decide, fun e ne => ?_⟩
    have s1 := Same.new (o := .tup []) ne
    refine ⟨pq, e, p.2, rfl, s1 _ _ hpq, rfl, upd_same, _, rfl, ?_⟩
    refine iB (fun hc => ?_) (fun hc => ?_)
    · have e0 : p.2 = [] := by simpa using hc
      have e1 : allAt k fs p = allOf k fs p.1 := by unfold allAt; rw [e0]; rfl
      rw [e1] at q
      exact ⟨_, rfl, _, rfl, _, rfl, a, t, p.1, rs, k, B, D, fs, rfl, L.same s1, U, F.same s1, hf, fun l H' s2 nl hb => q l H' (s1.trans s2) hb (.inl (s1.free nl))⟩
    · cases hl : p.2.getLast? with
      | none =>
        have : p.2 = [] := by simpa using hl
        rw [this] at hc
        exact absurd hc (by decide)
      | some r =>
        obtain ⟨ys, e2⟩ := List.getLast?_eq_some_iff.mp hl
        have hrr : r ∈ Gq03.roles := g.path r (by rw [e2]; simp)
        have hb := has_mem.mpr (turned_mem hrr)
        have e1 : allAt k fs p = k.bas (.has (Gq03.turned r)) := by unfold allAt; rw [hl]
        rw [e1] at q
        obtain ⟨aB, aD, dx, ar, ad, ab, kvd, kvb, h1, h2, h3, h4, h5, h6, h7⟩ := L0
        have s01 := s0.trans s1
        refine ⟨_, rfl, a, CL, dx, _, _, rfl, s01 _ _ h1, T.cL, T.lB, lF_b, _, rfl, 1, rfl, pq, vis p.2, -1, vi r, rfl, rfl, SqT.of (s1 _ _ hpq), at_last hl, r, rfl, hrr, by show 2 ≤ sizeLine; decide, fun e3 ne3 => ?_⟩
        have s3 := Same.new (o := .tup [.int 1, vi (Gq03.turned r)]) ne3
        have s2 := s1.trans s3
        obtain ⟨qa, e4, hbl, _⟩ := h6 _ hb
        have gg := DGet.t (k := kb (.has (Gq03.turned r))) ((s0.trans s2) _ _ h5) (b := e3) upd_same
        rw [e4] at gg
        refine ⟨ab, _, rfl, gg, q qa _ s2 (hbl.same (s0.trans s2)) (.inr ?_)⟩
        obtain ⟨_, e5, _⟩ := hbl
        rw [e5]
        exact fun z => by cases z
/-! ### told_ahead -/
def spTA (CL : Addr) : Sp := fun vs H Q _ => ∃ (a t : Addr) (v : V) (dir : Nat) (p : Pl) (rs : List Rule) (k : Kept) (B : List Basic) (D : List Nat) (fs : List Fact), vs = [.ref a, .ref t, v, vi dir] ∧ LoreF CL H a rs k B D ∧ Ups rs k ∧ FL H t fs ∧ okFacts fs ∧ PlV H v p ∧ Good p ∧
  ∀ l H', Same H H' → H l = none → PlL H' l (toldAhead ⟨fs, rs⟩ k p dir) → Q (.ref l) H'
abbrev nTA : List Str := ["lore", "told", "place", "direction", "x", "path", "y"]
theorem scTA : FnScope nTA ["lore", "told", "place", "direction"] (defScope (top 39)) := ⟨rfl, rfl, rfl, by decide +kernel, rfl, by decide +kernel, by decide +kernel⟩
theorem cut_last {l : List Nat} {x : Nat} (h : l.getLast? = some x) : cutV (vis l) none (some (-1)) = vis l.dropLast ∧ ¬ (HT.sIx (vis l).length 0 none = 0 ∧ HT.sIx (vis l).length (vis l).length (some (-1)) = (vis l).length) := by
  obtain ⟨ys, rfl⟩ := List.getLast?_eq_some_iff.mp h
  have e1 : vis (ys ++ [x]) = vis ys ++ [vi x] := by show (ys ++ [x]).map vi = _; rw [List.map_append]; rfl
  have e2 : HT.sIx (vis (ys ++ [x])).length (vis (ys ++ [x])).length (some (-1)) = ys.length := by
    rw [vis_len]
    unfold HT.sIx
    rw [List.length_append]
    simp only [List.length_cons, List.length_nil]
    have h0 : ((-1 : Int) < 0) := by decide
    simp only [h0, if_true]
    omega
  refine ⟨?_, fun z => ?_⟩
  · unfold cutV
    rw [e2]
    show ((vis (ys ++ [x])).drop 0).take (ys.length - 0) = _
    rw [List.drop_zero, Nat.sub_zero, e1, List.dropLast_concat]
    have : ys.length = (vis ys).length := (vis_len ys).symm
    rw [this, List.take_left']
    rfl
  · have := z.2
    rw [e2, vis_len, List.length_append] at this
    simp at this
theorem ok_TA (T : Txt K mg CL CD) (cE : Cal P w K mg base 2 "edges_of" ["lore", "told", "x", "y"] (spEdges CL)) (cT : Cal P w K mg base 1 "turned" ["direction"] spTurned) (D : Def K mg "told_ahead" (top 39)) : Cal P w K mg base 3 "told_ahead" ["lore", "told", "place", "direction"] (spTA CL) := by
  refine D.cal scTA (fun vs H Q E h => ?_) (fun _ _ _ _ _ _ us hl => match us, hl with | [_, _, _, _], _ => rfl) (fun f cdv A outer s H vs Q E hr h => ⟨_,
    pss_cons (ps_asg (pv 2) (pg_tup rfl (pgs_cons (pg_name (i := 4) scTA.nd rfl (Or.inr rfl)) (pgs_cons (pg_name (i := 5) scTA.nd rfl (Or.inl rfl)) pgs_nil))))
    (pss_cons (ps_if (pt_cmpR (op_eqU hr.units) (pv 5) (pe_tup pa_nil) (nomark _)) (pss_one (ps_ret
      (pe_lc (own := [("y", 6)]) (g := gName 6) (tt := tTest (tOp (rInN K) (tVar 3) (tCall (spEdges CL) [] E0 (tCons (tVar 0) (tCons (tVar 1) (tCons (tVar 4) (tCons (tVar 6) tNil))))))) rfl scTA.nd (pi_tup (pe_gt T.NODES)) (blkOk_by (N := nTA) (sc := defScope (top 39)) (by decide +kernel)) (fun _ _ _ _ _ => pg_name (i := 6) scTA.nd rfl (Or.inl rfl))
        (fun _ _ _ _ _ => by exact pts_one (pt_cmpR op_inN (pv 3) (pe_cal cE hr rfl (pa_cons (pv 0) (pa_cons (pv 1) (pa_cons (pv 4) (pa_cons (pv 6) pa_nil))))) rfl)) (fun _ _ _ _ _ => pe_tup (pa_cons (pv 6) (pa_cons (pe_tup pa_nil) pa_nil)))))) pss_nil)
    (pss_cons (ps_if (pt_cmpR op_inN (pv 3) (pe_dget (u1 hr) (pe_fld (pv 0) rfl) (pe_cal cT (hr.mono (by decide)) rfl (pa_cons (pe_ix ix_tup (pv 5) (pe_un un_neg pe_int) (fun _ _ => rfl)) pa_nil)) (fun _ _ => rfl)) rfl)
      (pss_one (ps_ret (pe_lst (pa_cons (pe_tup (pa_cons (pv 4) (pa_cons (pe_slice sl_tup (pv 5) po_none (po_some (pe_un un_neg pe_int))) pa_nil))) pa_nil)))) pss_nil)
    (pss_one (ps_ret (pe_lst pa_nil))))), ?_⟩)
  · obtain ⟨a, t, v, dir, p, rs, k, B, D, fs, rfl, _⟩ := h
    rfl
  · obtain ⟨a, t, v, dir, p, rs, k, B, D, fs, rfl, L, U, F, hf, ⟨pa, pq, rfl, hpa, hpq⟩, g, q⟩ := h
    refine ⟨_, rfl, pa, _, rfl, SqT.of hpa, rfl, _, _, rfl, _, _, rfl, rfl, ?_⟩
    refine ⟨_, rfl, by show 0 ≤ sizeLine; decide, fun e ne => ?_⟩
    have s1 := Same.new (o := .tup []) ne
    refine ⟨pq, e, p.2, rfl, s1 _ _ hpq, rfl, upd_same, _, rfl, ?_⟩
    refine iB (fun hc => ?_) (fun hc => ?_)
    · have e0 : p.2 = [] := by simpa using hc
      have e1 : toldAhead ⟨fs, rs⟩ k p dir = (Gq03.nodes.filter fun y => (edgeL ⟨fs, rs⟩ p.1 y).contains dir).map fun y => (y, []) := by unfold toldAhead; rw [e0]; rfl
      refine fun an ha => ⟨an, rfl, ⟨_, ha _⟩, fun D1 hD1 => lc_tup (K := K) (a := an) (xs := vis Gq03.nodes) (fun i H' => Same (upd H e (.tup [])) H' ∧ PlL H' D1 (((Gq03.nodes.take i).filter fun y => (edgeL ⟨fs, rs⟩ p.1 y).contains dir).map fun y => (y, [])))
        ⟨Same.new hD1, [], upd_same, .nil⟩ (fun i H' _ _ => ha _) ?_ ?_⟩
      · rintro i y' H' hy ⟨s2, us, hu, hpu⟩
        obtain ⟨y, hy', rfl⟩ := vis_get hy
        have s12 := s1.trans s2
        refine ⟨rfl, _, rfl, _, rfl, _, rfl, _, rfl, _, rfl, a, t, p.1, y, rs, k, B, D, fs, rfl, L.same s12, U, F.same s12, hf, fun p2 H4 s4 np2 hp2 => ⟨dir, _, p2, rfl, rfl, .inl (SqL.of hp2), _, rfl, ?_⟩⟩
        have hu4 := s4 _ _ hu
        have hpu4 := plvs_ts hpu (TupS.of s4)
        refine iB (fun hc2 => ?_) (fun hc2 => ⟨s2.trans s4, us, hu4, ?_⟩)
        · refine ⟨_, rfl, by show 0 ≤ sizeLine; decide, fun e5 ne5 => ⟨by show 2 ≤ sizeLine; decide, fun e6 ne6 => ?_⟩⟩
          have s6 := (Same.new (o := .tup []) ne5).trans (Same.new (o := .tup [vi y, .ref e5]) ne6)
          have hu6 := s6 _ _ hu4
          refine ⟨us, hu6, ?_, ((s2.trans s4).trans s6).past hD1, _, upd_same, ?_⟩
          · rw [pr_len hpu, List.length_map]
            exact linelt (Nat.le_trans filter_take_len (by decide))
          · rw [filter_yes hy' hc2, List.map_append]
            refine pr_app (plvs_ts hpu4 ((TupS.of s6).trans (TupS.lst hu6))) (pr_one ⟨e6, e5, rfl, TupS.lst hu6 _ _ upd_same, TupS.lst hu6 _ _ ?_⟩)
            exact (Same.new ne6) _ _ upd_same
        · rw [filter_no hy' hc2]
          exact hpu4
      · rintro H' ⟨s2, hP⟩
        have e8 : (vis Gq03.nodes).length = Gq03.nodes.length := rfl
        rw [e8, List.take_length] at hP
        exact q D1 H' (s1.trans s2) (s1.free hD1) (by rw [e1]; exact hP)
    · cases hl : p.2.getLast? with
      | none =>
        have : p.2 = [] := by simpa using hl
        rw [this] at hc
        exact absurd hc (by decide)
      | some r =>
        obtain ⟨ys, e2⟩ := List.getLast?_eq_some_iff.mp hl
        have hrr : r ∈ Gq03.roles := g.path r (by rw [e2]; simp)
        have hr' := turned_mem hrr
        have e1 : toldAhead ⟨fs, rs⟩ k p dir = if (k.dirs (Gq03.turned r)).contains dir = true then [(p.1, p.2.dropLast)] else [] := by unfold toldAhead; rw [hl]
        obtain ⟨aB, aD, dx, ar, ad, ab, kvd, kvb, h1, h2, h3, h4, _⟩ := L.same s1
        obtain ⟨qa, e4, hIL, _⟩ := h4 _ hr'
        have gg := DGet.k (k := Sum.inl ((Gq03.turned r : Nat) : Int)) h3
        rw [e4] at gg
        refine ⟨_, rfl, _, rfl, a, CL, dx, _, _, rfl, h1, T.cL, T.lD, lF_d, _, rfl, 1, rfl, pq, vis p.2, -1, vi r, rfl, rfl, SqT.of (s1 _ _ hpq), at_last hl, r, rfl, hrr, ad, _, rfl, gg, dir, _, qa, rfl, rfl, .inl (SqL.of hIL), _, rfl, ?_⟩
        refine iB (fun hc2 => ?_) (fun hc2 => ?_)
        · obtain ⟨c1, c2⟩ := cut_last hl
          refine ⟨_, rfl, _, rfl, 1, rfl, _, rfl, pq, vis p.2, rfl, SqT.of (s1 _ _ hpq), c2, fun e5 ne5 => ⟨by show 2 ≤ sizeLine; decide, fun e6 ne6 => ⟨by show 1 ≤ sizeLine; decide, fun e7 ne7 => ?_⟩⟩⟩
          have s6 := s1.trans ((Same.new (o := .tup (cutV (vis p.2) none (some (-1)))) ne5).trans (Same.new (o := .tup [vi p.1, .ref e5]) ne6))
          have s7 := Same.new (o := .lst [V.ref e6]) ne7
          refine q e7 _ (s6.trans s7) (s6.free ne7) ⟨_, upd_same, ?_⟩
          rw [e1, if_pos hc2]
          refine pr_one ⟨e6, e5, rfl, s7 _ _ upd_same, ?_⟩
          have h5 : ∀ o : HO, (upd (upd (upd H e (.tup [])) e5 (.tup (cutV (vis p.2) none (some (-1))))) e6 (.tup [vi p.1, .ref e5])) e5 = some (.tup (vis p.2.dropLast)) := fun _ => by
            rw [← c1]
            exact (Same.new ne6) _ _ upd_same
          exact s7 _ _ (h5 (.tup []))
        · refine ⟨by show 0 ≤ sizeLine; decide, fun e5 ne5 => ?_⟩
          refine q e5 _ (s1.trans (Same.new ne5)) (s1.free ne5) ⟨_, upd_same, ?_⟩
          rw [e1, if_neg (by rw [hc2]; exact Bool.false_ne_true)]
          exact .nil
end
end Wm

namespace Wm
open PySem PySem.Spec PyProof.Rows L2
open Gq03 (Basic Rule Fact)
/-! ### places as data -/
def plD (p : Pl) : PyData := .tuple [.int (p.1 : Int), .tuple (p.2.map iD)]
theorem PlV.dp {K : PySem.W.Frag} {H : Hp} {v : V} {p : Pl} (h : PlV H v p) : Dp K H v (plD p) := by
  obtain ⟨a, q, rfl, h1, h2⟩ := h
  exact .tup (SqT.of h1) (.cons (.int _) (.cons (.tup (SqT.of h2) (dp_ints _)) .nil))
theorem plvs_dp {K : PySem.W.Frag} {H : Hp} : ∀ {vs : List V} {ps : List Pl}, Paired (PlV H) vs ps → DpAll K H vs (ps.map plD)
  | _, _, .nil => .nil
  | _, _, .cons h t => .cons h.dp (plvs_dp t)
theorem PlL.dp {K : PySem.W.Frag} {H : Hp} {a : Addr} {ps : List Pl} (h : PlL H a ps) : Dp K H (.ref a) (.list (ps.map plD)) := let ⟨vs, e, q⟩ := h; .lst (SqL.of e) (plvs_dp q)
theorem plDs_shaped (l : List Pl) : SeqAt.shaped (.list (l.map plD)) = true := shaped_list (k := 2) (D := plD) (fun p => by
    simp only [plD, PyData.canLay0, PyData.canLayAll0, lay_ints]; rfl) (fun p => by
    simp only [plD, PyData.depth, PyData.depthAll, dep_ints]; decide) (by decide) l
theorem put1_mem {A : Type} [DecidableEq A] {m : List A} {y : A} (h : y ∈ m) : put1 m y = m := if_pos (List.contains_iff_mem.mpr h)
theorem put1_nmem {A : Type} [DecidableEq A] {m : List A} {y : A} (h : y ∉ m) : put1 m y = m ++ [y] := if_neg (fun z => h (List.contains_iff_mem.mp z))
theorem putPl_keys (xs : List (Pl × Addr)) (p : Pl) (a : Addr) : (putPl xs p a).map (·.1) = put1 (xs.map (·.1)) p := by
  by_cases c : p ∈ xs.map (·.1)
  · rw [put1_mem c]
    unfold putPl
    rw [if_pos (List.contains_iff_mem.mpr c)]
  · rw [put1_nmem c]
    unfold putPl
    rw [if_neg (fun z => c (List.contains_iff_mem.mp z)), List.map_append]; rfl
theorem mem_putPl {xs : List (Pl × Addr)} {p : Pl} {a : Addr} {z : Pl × Addr} (h : z ∈ putPl xs p a) : z ∈ xs ∨ z = (p, a) := by
  unfold putPl at h
  split at h
  · exact .inl h
  · rcases List.mem_append.mp h with h | h
    · exact .inl h
    · exact .inr (List.mem_singleton.mp h)
theorem pl_pairs {H : Hp} : ∀ {xs : List (Pl × Addr)}, (∀ z ∈ xs, PlV H (.ref z.2) z.1) → Paired (PlV H) (xs.map fun x => V.ref x.2) (xs.map (·.1))
  | [], _ => .nil
  | x :: xs, h => .cons (h x List.mem_cons_self) (pl_pairs fun z hz => h z (List.mem_cons_of_mem _ hz))
theorem ahead_path {d : Gq03.Desk} {k : Kept} {p z : Pl} {t : Nat} (h : z ∈ ahead d k p t) : z.2.length ≤ p.2.length + 1 := by
  unfold ahead at h
  rcases List.mem_append.mp h with h | h
  · unfold toldAhead at h
    cases e : p.2.getLast? with
    | none =>
      rw [e] at h
      obtain ⟨y, hy, rfl⟩ := List.mem_map.mp h
      exact Nat.zero_le _
    | some r =>
      rw [e] at h
      simp only at h
      split at h
      · rw [List.mem_singleton] at h
        subst h
        show p.2.dropLast.length ≤ _
        rw [List.length_dropLast]; omega
      · simp at h
  · obtain ⟨b, hb, h⟩ := List.mem_flatMap.mp h
    obtain ⟨s, rfl, _, rfl⟩ := mem_onward.mp h
    show (p.2 ++ [s]).length ≤ _
    rw [List.length_append]
    exact Nat.le_refl _
section
variable {P : Program} {w : World} {K : PySem.W.Frag} {mg : Str → Option Value} {base : Heap} {CL CD : Addr}
/-! ### places_ahead -/
def spPA (CL : Addr) : Sp := fun vs H Q _ => ∃ (a t : Addr) (v : V) (dir : Nat) (p : Pl) (rs : List Rule) (k : Kept) (B : List Basic) (D : List Nat) (fs : List Fact), vs = [.ref a, .ref t, v, vi dir] ∧ LoreF CL H a rs k B D ∧ Ups rs k ∧ FL H t fs ∧ okFacts fs ∧ PlV H v p ∧ Good p ∧ p.2.length ≤ 100 ∧
  ∀ l H', Same H H' → H l = none → PlL H' l (ahead ⟨fs, rs⟩ k p dir) → Q (.ref l) H'
theorem scPA : FnScope ["lore", "told", "place", "direction", "found", "sort", "other"] ["lore", "told", "place", "direction"] (defScope (top 40)) := ⟨rfl, rfl, rfl, by decide +kernel, rfl, by decide +kernel, by decide +kernel⟩
theorem ok_PA (T : Txt K mg CL CD) (cT : Cal P w K mg base 3 "told_ahead" ["lore", "told", "place", "direction"] (spTA CL)) (cA : Cal P w K mg base 3 "all_at" ["lore", "told", "place"] (spAllAt CL)) (D : Def K mg "places_ahead" (top 40)) : Cal P w K mg base 4 "places_ahead" ["lore", "told", "place", "direction"] (spPA CL) := by
  refine D.cal scPA (fun vs H Q E h => ?_) (fun _ _ _ _ _ _ us hl => match us, hl with | [_, _, _, _], _ => rfl) (fun f cdv A outer s H vs Q E hr h => ⟨_,
    pss_cons (ps_set (i := 4) scPA.nd rfl (Or.inl rfl) (pe_cal cT hr rfl (pa_cons (pv 0) (pa_cons (pv 1) (pa_cons (pv 2) (pa_cons (pv 3) pa_nil))))))
    (pss_cons (ps_for PassesOwn.never rfl (pi_list (pe_cal cA hr rfl (pa_cons (pv 0) (pa_cons (pv 1) (pa_cons (pv 2) pa_nil))))) (pg_tup rfl (pgs_cons (pg_name (i := 5) scPA.nd rfl (Or.inl rfl)) (pgs_cons (pg_name (i := 6) scPA.nd rfl (Or.inl rfl)) pgs_nil)))
      (pss_one (ps_if (PW.pt (pw_and (pt_cmpR op_eqN (pv 5) (pe_gi T.HAVING) (nomark _)) (pw_and1 (pt_cmpR op_inN (pv 3) (pe_dget (u1 hr) (pe_fld (pv 0) rfl) (pv 6) (fun _ _ => rfl)) rfl))))
        (pss_one (ps_expr (pe_bm PySem.F.plainAttrs_list PySem.F.slot_list_append PySem.F.type_list_append mt_append (pv 4) (pa_cons (pe_tup (pa_cons (pe_ix ix_tup (pv 2) pe_int (fun _ _ => rfl))
          (pa_cons (pe_op op_catA (pe_ix ix_tup (pv 2) pe_int (fun _ _ => rfl)) (pe_tup (pa_cons (pv 6) pa_nil))) pa_nil))) pa_nil)))) pss_nil)))
    (pss_one (ps_ret (pv 4)))), ?_⟩)
  · obtain ⟨a, t, v, dir, p, rs, k, B, D, fs, rfl, _⟩ := h
    rfl
  · obtain ⟨a, t, v, dir, p, rs, k, B, D, fs, rfl, L, U, F, hf, hpl, g, hlen, q⟩ := h
    refine ⟨_, rfl, _, rfl, _, rfl, _, rfl, a, t, v, dir, p, rs, k, B, D, fs, rfl, L, U, F, hf, hpl, g, fun lf H1 s1 nlf hP => ?_⟩
    refine ⟨_, rfl, _, rfl, _, rfl, a, t, v, p, rs, k, B, D, fs, H, rfl, s1, L, U, F.same s1, hf, hpl.ts (TupS.of s1), g, fun la H2 s2 ⟨us, hu, hpu⟩ hla => ?_⟩
    have nela : la ≠ lf := by
      obtain ⟨vs, e, _⟩ := hP
      rcases hla with h | h
      · exact fun z => by rw [z, e] at h; cases h
      · exact fun z => h (by rw [z]; exact nlf)
    have lall := allAt_len (d := ⟨fs, rs⟩) U hf g
    have ltold : (toldAhead ⟨fs, rs⟩ k p dir).length ≤ 22 := by
      have := ahead_len (d := ⟨fs, rs⟩) U hf g dir
      unfold ahead at this
      rw [List.length_append] at this
      omega
    refine ⟨la, rfl, ⟨_, SqL.of hu⟩, for_list (K := K) (a := la) (xs := us) (fun i σ H' => ∃ v5 v6, σ = [some (.ref a), some (.ref t), some v, some (vi dir), some (.ref lf), v5, v6] ∧ Same H H' ∧ H' la = some (.lst us) ∧ Paired (BV H') us (allAt k fs p) ∧
        PlL H' lf (toldAhead ⟨fs, rs⟩ k p dir ++ ((allAt k fs p).take i).flatMap (onward k p dir)))
      ⟨none, none, rfl, s1.trans s2, hu, hpu, by rw [List.take_zero, List.flatMap_nil, List.append_nil]; exact hP.same s2⟩ (fun i σ H' _ ⟨_, _, _, _, e, _⟩ => SqL.of e) ?_ ?_⟩
    · rintro i x σ H' hx ⟨v5, v6, rfl, s3, hu3, hpu3, ⟨ws, hw, hpw⟩⟩
      obtain ⟨b, hb, pb, rfl, hpb⟩ := pr_get hpu3 hx
      have hbm := allAt_basics (d := ⟨fs, rs⟩) U hf g (List.mem_of_getElem? hb)
      have fin : onward k p dir b = [] → ∃ v5 v6, ([some (.ref a), some (.ref t), some v, some (vi dir), some (.ref lf), some (vi (bc b).1), some (vi (bc b).2)] : L2.St) = [some (.ref a), some (.ref t), some v, some (vi dir), some (.ref lf), v5, v6] ∧ Same H H' ∧ H' la = some (.lst us) ∧ Paired (BV H') us (allAt k fs p) ∧
          PlL H' lf (toldAhead ⟨fs, rs⟩ k p dir ++ ((allAt k fs p).take (i + 1)).flatMap (onward k p dir)) := fun e =>
        ⟨_, _, rfl, s3, hu3, hpu3, by rw [flat_more hb, e, List.append_nil]; exact ⟨ws, hw, hpw⟩⟩
      refine ⟨pb, _, rfl, SqT.of hpb, rfl, _, _, rfl, _, _, rfl, rfl, ?_⟩
      cases b with
      | kind j => exact ⟨_, rfl, 0, 1, rfl, rfl, _, rfl, iF rfl (iF rfl (fin rfl))⟩
      | has s =>
        have hs := has_mem.mp hbm
        obtain ⟨aB, aD, dx, ar, ad, ab, kvd, kvb, h1, h2, h3, h4, _⟩ := L.same s3
        obtain ⟨qa, e4, hIL, _⟩ := h4 _ hs
        have gg := DGet.k (k := Sum.inl (s : Int)) h3
        rw [e4] at gg
        refine ⟨_, rfl, 1, 1, rfl, rfl, _, rfl, iT rfl ⟨_, rfl, _, rfl, a, CL, dx, _, _, rfl, h1, T.cL, T.lD, lF_d, _, rfl, ad, _, rfl, gg, dir, _, qa, rfl, rfl, .inl (SqL.of hIL), _, rfl, ?_⟩⟩
        refine iB (fun hc => ?_) (fun hc => fin (if_neg (by rw [hc]; exact Bool.false_ne_true)))
        obtain ⟨pa, pq, rfl, hpa, hpq⟩ := hpl
        have hpa3 := s3 _ _ hpa
        have hpq3 := s3 _ _ hpq
        have on : onward k p dir (.has s) = [(p.1, p.2 ++ [s])] := if_pos hc
        -- behind the sum of the two tuples, at r
        have last : ∀ H4 r, Same H' H4 → H4 r = some (.tup (vis (p.2 ++ [s]))) → ∀ tp, H4 tp = none → ∃ l xs y, V.ref lf = .ref l ∧ [V.ref tp] = [y] ∧ (upd H4 tp (.tup [vi p.1, .ref r])) l = some (.lst xs) ∧ xs.length < sizeLine ∧
            ∃ v5 v6, ([some (.ref pa), some (.ref pq)] : L2.St) = [some (.ref pa), some (.ref pq)] ∧ ([some (.ref a), some (.ref t), some (.ref pa), some (vi dir), some (.ref lf), some (vi 1), some (vi s)] : L2.St) = [some (.ref a), some (.ref t), some (.ref pa), some (vi dir), some (.ref lf), v5, v6] ∧
              Same H (upd (upd H4 tp (.tup [vi p.1, .ref r])) l (.lst (xs ++ [y]))) ∧ (upd (upd H4 tp (.tup [vi p.1, .ref r])) l (.lst (xs ++ [y]))) la = some (.lst us) ∧ Paired (BV (upd (upd H4 tp (.tup [vi p.1, .ref r])) l (.lst (xs ++ [y])))) us (allAt k fs p) ∧
              PlL (upd (upd H4 tp (.tup [vi p.1, .ref r])) l (.lst (xs ++ [y]))) lf (toldAhead ⟨fs, rs⟩ k p dir ++ ((allAt k fs p).take (i + 1)).flatMap (onward k p dir)) := fun H4 r s4 hr4 tp ntp => by
          have s5 := Same.new (o := .tup [vi p.1, .ref r]) ntp
          have s45 := s4.trans s5
          have hw5 := s45 _ _ hw
          refine ⟨lf, ws, _, rfl, rfl, hw5, ?_, _, _, rfl, rfl, (s3.trans s45).past nlf, ?_, bvs_ts hpu3 ((TupS.of s45).trans (TupS.lst hw5)), _, upd_same, ?_⟩
          · have h1 : (((allAt k fs p).take i).flatMap (onward k p dir)).length ≤ 22 := by
              have h := flat_take_len (onward k p dir) (allAt k fs p) i
              have h2 := ahead_len (d := ⟨fs, rs⟩) U hf g dir
              unfold ahead at h2
              rw [List.length_append] at h2
              have h3 : ((allAt k (⟨fs, rs⟩ : Gq03.Desk).facts p).flatMap (onward k p dir)).length = ((allAt k fs p).flatMap (onward k p dir)).length := rfl
              omega
            rw [pr_len hpw, List.length_append]
            exact linelt (by omega)
          · rw [upd_ne nela]; exact s45 _ _ hu3
          · rw [flat_more hb, on, ← List.append_assoc]
            exact pr_app (plvs_ts hpw ((TupS.of s45).trans (TupS.lst hw5))) (pr_one ⟨tp, r, rfl, TupS.lst hw5 _ _ upd_same, TupS.lst hw5 _ _ (s5 _ _ hr4)⟩)
        refine ⟨_, rfl, .inl ⟨rfl, _, .inl (.inl hw)⟩, _, rfl, pa, _, _, _, rfl, rfl, SqT.of hpa3, atI_nat (j := 0) rfl, _, rfl, pa, _, _, _, rfl, rfl, SqT.of hpa3, atI_nat (j := 1) rfl, _, rfl, by show 1 ≤ sizeLine; decide, fun e1 ne1 => ?_⟩
        have s4 := Same.new (o := .tup [vi s]) ne1
        refine ⟨pq, e1, vis p.2, [vi s], rfl, rfl, SqT.of (s4 _ _ hpq3), SqT.of upd_same, ?_, fun z => ?_, fun _ z => ?_, fun z1 z2 e2 ne2 => ?_⟩
        · rw [vis_len]
          exact line1000 (by simp only [List.length_cons, List.length_nil]; omega)
        · have e0 : p.2 = [] := by simpa using z
          refine ⟨by show 2 ≤ sizeLine; decide, fun tp ntp => ?_⟩
          obtain ⟨l, xs, y, h1, h2, h3, h4, v5, v6, _, h5⟩ := last _ e1 s4 (by rw [upd_same, e0]; rfl) tp ntp
          exact ⟨l, xs, y, h1, h2, h3, h4, v5, v6, h5⟩
        · simp at z
        · have s5 := s4.trans (Same.new (o := .tup (vis p.2 ++ [vi s])) ne2)
          refine ⟨by show 2 ≤ sizeLine; decide, fun tp ntp => ?_⟩
          obtain ⟨l, xs, y, h1, h2, h3, h4, v5, v6, _, h5⟩ := last _ e2 s5 (by
            rw [upd_same]
            show some (HO.tup (p.2.map vi ++ [vi s])) = some (HO.tup ((p.2 ++ [s]).map vi))
            rw [List.map_append]; rfl) tp ntp
          exact ⟨l, xs, y, h1, h2, h3, h4, v5, v6, h5⟩
    · rintro σ H' ⟨v5, v6, rfl, s3, hu3, hpu3, hP3⟩
      rw [pr_len hpu3, List.take_length] at hP3
      exact ⟨_, rfl, q lf H' s3 nlf hP3⟩
/-! ### is_of -/
def spIsOf (CL : Addr) : Sp := fun vs H Q _ => ∃ (a t : Addr) (v : V) (kind : Nat) (p : Pl) (rs : List Rule) (k : Kept) (B : List Basic) (D : List Nat) (fs : List Fact), vs = [.ref a, .ref t, v, vi kind] ∧ LoreF CL H a rs k B D ∧ Ups rs k ∧ FL H t fs ∧ okFacts fs ∧ PlV H v p ∧ Good p ∧
  ∀ H', Same H H' → Q (.bl (isOf k fs p kind)) H'
theorem scIsOf : FnScope ["lore", "told", "place", "kind"] ["lore", "told", "place", "kind"] (defScope (top 41)) := ⟨rfl, rfl, rfl, by decide +kernel, rfl, by decide +kernel, by decide +kernel⟩
theorem ok_isOf (T : Txt K mg CL CD) (cA : Cal P w K mg base 3 "all_at" ["lore", "told", "place"] (spAllAt CL)) (D : Def K mg "is_of" (top 41)) : Cal P w K mg base 4 "is_of" ["lore", "told", "place", "kind"] (spIsOf CL) := by
  refine D.cal scIsOf (fun vs H Q E h => ?_) (fun _ _ _ _ _ _ us hl => match us, hl with | [_, _, _, _], _ => rfl) (fun f cdv A outer s H vs Q E hr h => ⟨_,
    pss_one (ps_ret (pe_or (pe_cmpR op_eqN (pv 3) pe_int (nomark _)) (pe_one (pe_cmpR (op_inB (u65 hr)) (pe_tup (pa_cons (pe_gi T.BEING) (pa_cons (pv 3) pa_nil))) (pe_cal cA hr rfl (pa_cons (pv 0) (pa_cons (pv 1) (pa_cons (pv 2) pa_nil)))) rfl)))), ?_⟩)
  · obtain ⟨a, t, v, kind, p, rs, k, B, D, fs, rfl, _⟩ := h
    rfl
  · obtain ⟨a, t, v, kind, p, rs, k, B, D, fs, rfl, L, U, F, hf, hpl, g, q⟩ := h
    refine ⟨_, rfl, kind, 0, rfl, rfl, _, rfl, iB (fun hc => ?_) (fun hc => ?_)⟩
    · have := q H (Same.refl H)
      unfold isOf at this
      rw [hc] at this
      exact this
    · refine ⟨_, rfl, by show 2 ≤ sizeLine; decide, fun e ne => ?_⟩
      have s1 := Same.new (o := .tup [.int 0, vi kind]) ne
      refine ⟨_, rfl, _, rfl, _, rfl, a, t, v, p, rs, k, B, D, fs, upd H e (.tup [.int 0, vi kind]), rfl, Same.refl _, L.same s1, U, F.same s1, hf, hpl.ts (TupS.of s1), g, fun l H2 s2 hb _ => ?_⟩
      refine ⟨.kind kind, _, l, ⟨e, rfl, s2 _ _ upd_same⟩, rfl, hb, ?_⟩
      have := q H2 (s1.trans s2)
      unfold isOf at this
      rw [hc, Bool.false_or] at this
      exact this
end
end Wm

namespace Wm
open PySem PySem.Spec PyProof.Rows L2
open Gq03 (Basic Rule Fact)
theorem u9 {k : Nat} {A : Around} (r : Room k A) : A.units + 9 < cLine := by have := r.un; omega
theorem dnO_lst {P : Program} {w : World} {d : Addr} {xs : List (Pl × Addr)} {ys : List V} : HO.lst ys ≠ dnO P w d xs := by intro z; unfold dnO at z; cases z
theorem dnO_tup {P : Program} {w : World} {d : Addr} {xs : List (Pl × Addr)} {ys : List V} : HO.tup ys ≠ dnO P w d xs := by intro z; unfold dnO at z; cases z
/-- what a step has found: so far of the places ahead of this one, then of the first of those ahead of it -/
def part (d : Gq03.Desk) (k : Kept) (q : Nat × Nat) (ps : List Pl) (i : Nat) : List Pl := (ps.take i).foldl (fun m p => (ahead d k p q.1).foldl (putIf k d.facts q.2) m) []
theorem part_more {d : Gq03.Desk} {k : Kept} {q : Nat × Nat} {ps : List Pl} {i : Nat} {p : Pl} (h : ps[i]? = some p) : part d k q ps (i + 1) = (ahead d k p q.1).foldl (putIf k d.facts q.2) (part d k q ps i) := take_fold h
theorem lead_more {d : Gq03.Desk} {k : Kept} {steps : List (Nat × Nat)} {ps : List Pl} {i : Nat} {q : Nat × Nat} (h : steps[i]? = some q) : leadL d k (steps.take (i + 1)) ps = stepL d k q (leadL d k (steps.take i) ps) := take_fold h
section
variable {P : Program} {w : World} {K : PySem.W.Frag} {mg : Str → Option Value} {base : Heap} {CL CD : Addr}
/-! ### leads -/
def spLeads (CL : Addr) : Sp := fun vs H Q _ => ∃ (a t st : Addr) (x : Nat) (rs : List Rule) (k : Kept) (B : List Basic) (D : List Nat) (fs : List Fact) (steps : List (Nat × Nat)), vs = [.ref a, .ref t, vi x, .ref st] ∧ LoreF CL H a rs k B D ∧ Ups rs k ∧ FL H t fs ∧ okFacts fs ∧ PL H st steps ∧ steps.length ≤ 4 ∧ x ∈ Gq03.nodes ∧
  ∀ H', Same H H' → Q (.bl (!(leadL ⟨fs, rs⟩ k steps [(x, [])]).isEmpty)) H'
theorem scLeads : FnScope ["lore", "told", "x", "steps", "places", "direction", "kind", "found", "place", "other"] ["lore", "told", "x", "steps"] (defScope (top 42)) := ⟨rfl, rfl, rfl, by decide +kernel, rfl, by decide +kernel, by decide +kernel⟩
theorem ok_leads (T : Txt K mg CL CD) (cP : Cal P w K mg base 4 "places_ahead" ["lore", "told", "place", "direction"] (spPA CL)) (cI : Cal P w K mg base 4 "is_of" ["lore", "told", "place", "kind"] (spIsOf CL)) (D : Def K mg "leads" (top 42)) : Cal P w K mg base 5 "leads" ["lore", "told", "x", "steps"] (spLeads CL) := by
  refine D.cal scLeads (fun vs H Q E h => ?_) (fun _ _ _ _ _ _ us hl => match us, hl with | [_, _, _, _], _ => rfl) (fun f cdv A outer s H vs Q E hr h => ⟨_,
    pss_cons (ps_set (i := 4) scLeads.nd rfl (Or.inl rfl) (pe_lst (pa_cons (pe_tup (pa_cons (pv 2) (pa_cons (pe_tup pa_nil) pa_nil))) pa_nil)))
    (pss_cons (ps_for PassesOwn.never rfl (pi_list (pv 3)) (pg_tup rfl (pgs_cons (pg_name (i := 5) scLeads.nd rfl (Or.inl rfl)) (pgs_cons (pg_name (i := 6) scLeads.nd rfl (Or.inl rfl)) pgs_nil)))
      (pss_cons (ps_set (i := 7) scLeads.nd rfl (Or.inl rfl) pe_dnewN)
      (pss_cons (ps_for PassesOwn.never rfl (pi_list (pv 4)) (pg_name (i := 8) scLeads.nd rfl (Or.inl rfl))
        (pss_one (ps_for PassesOwn.never rfl (pi_list (pe_cal cP hr rfl (pa_cons (pv 0) (pa_cons (pv 1) (pa_cons (pv 8) (pa_cons (pv 5) pa_nil)))))) (pg_name (i := 9) scLeads.nd rfl (Or.inl rfl))
          (pss_one (ps_if (pt_val (pe_cal cI hr rfl (pa_cons (pv 0) (pa_cons (pv 1) (pa_cons (pv 9) (pa_cons (pv 6) pa_nil)))))) (pss_one (ps_dputN (u9 hr) (pv 7) (pv 9) pe_bl rfl)) pss_nil)))))
      (pss_one (ps_set (i := 4) scLeads.nd rfl (Or.inl rfl) (pe_callTy (call_list_dN rfl) (by rfl) T.list (by decide +kernel) (pa_cons (pv 7) pa_nil)))))))
    (pss_one (ps_ret (pe_cmpR (op_neE hr.units) (pv 4) (pe_lst pa_nil) (nomark _))))), ?_⟩)
  · obtain ⟨a, t, st, x, rs, k, B, D, fs, steps, rfl, _⟩ := h
    rfl
  · obtain ⟨a, t, st, x, rs, k, B, D, fs, steps, rfl, L, U, F, hf, ⟨ss, hss, hps⟩, hlen, hx, q⟩ := h
    refine ⟨_, rfl, by show 0 ≤ sizeLine; decide, fun e0 ne0 => ⟨by show 2 ≤ sizeLine; decide, fun e1 ne1 => ⟨by show 1 ≤ sizeLine; decide, fun l0 nl0 => ?_⟩⟩⟩
    have sA := Same.new (o := .tup []) ne0
    have sB := Same.new (o := .tup [vi x, .ref e0]) ne1
    have sC := Same.new (o := .lst [V.ref e1]) nl0
    have s0 := (sA.trans sB).trans sC
    refine ⟨_, rfl, st, rfl, ⟨_, SqL.of (s0 _ _ hss)⟩, for_list (K := K) (a := st) (xs := ss) (fun i σ H' => ∃ v5 v6 v7 v8 v9 lp, σ = [some (.ref a), some (.ref t), some (vi x), some (.ref st), some (.ref lp), v5, v6, v7, v8, v9] ∧ Same H H' ∧ PlL H' lp (leadL ⟨fs, rs⟩ k (steps.take i) [(x, [])]) ∧
        (∀ p ∈ leadL ⟨fs, rs⟩ k (steps.take i) [(x, [])], Good p ∧ p.2.length ≤ i) ∧ (leadL ⟨fs, rs⟩ k (steps.take i) [(x, [])]).length ≤ 22 ^ i)
      ⟨none, none, none, none, none, l0, rfl, s0, ⟨_, upd_same, pr_one ⟨e1, e0, rfl, sC _ _ upd_same, sC _ _ (sB _ _ upd_same)⟩⟩, fun p hp => by
          have : p = (x, []) := List.mem_singleton.mp hp
          subst this
          exact ⟨⟨hx, by simp⟩, Nat.le_refl _⟩, Nat.le_refl _⟩ (fun i σ H' _ ⟨_, _, _, _, _, _, _, s1, _⟩ => SqL.of (s1 _ _ hss)) ?_ ?_⟩
    · rintro i y σ H1 hy ⟨v5, v6, v7, v8, v9, lp, rfl, s1, ⟨vs, hv, hp⟩, hgood, hsize⟩
      obtain ⟨⟨dir, kind⟩, hst, pt, rfl, hpt⟩ := pr_get hps hy
      have hi : i < 4 := by have := (List.getElem?_eq_some_iff.mp hst).1; omega
      have hsz : (leadL ⟨fs, rs⟩ k (steps.take i) [(x, [])]).length ≤ 10648 := Nat.le_trans hsize (Nat.pow_le_pow_right (by decide) (by omega : i ≤ 3))
      rw [lead_more hst]
      generalize hps' : leadL ⟨fs, rs⟩ k (steps.take i) [(x, [])] = ps at hp hgood hsz hsize ⊢
      refine ⟨pt, _, rfl, SqT.of (s1 _ _ hpt), rfl, _, _, rfl, _, _, rfl, rfl, ?_⟩
      refine fun d nd => ?_
      have s2 := Same.new (o := dnO P w d []) nd
      have ndH := s1.free nd
      have nelp : lp ≠ d := ne_of_none hv nd
      refine ⟨_, rfl, lp, rfl, ⟨_, SqL.of (s2 _ _ hv)⟩, for_list (K := K) (a := lp) (xs := vs) (fun j σ H' => ∃ v8 v9, σ = [some (.ref a), some (.ref t), some (vi x), some (.ref st), some (.ref lp), some (vi dir), some (vi kind), some (.ref d), v8, v9] ∧ Same H H' ∧ H' lp = some (.lst vs) ∧ Paired (PlV H') vs ps ∧
          ∃ xs, H' d = some (dnO P w d xs) ∧ (∀ z ∈ xs, PlV H' (.ref z.2) z.1) ∧ xs.map (·.1) = part ⟨fs, rs⟩ k (dir, kind) ps j)
        ⟨v8, v9, rfl, s1.trans s2, s2 _ _ hv, plvs_ts hp (TupS.of s2), [], upd_same, fun z hz => absurd hz (by simp), rfl⟩ (fun j σ H' _ ⟨_, _, _, _, e, _⟩ => SqL.of e) ?_ ?_⟩
      · rintro j y σ H2 hy ⟨v8', v9', rfl, s3, hv2, hp2, xs, hd, hall, hkeys⟩
        obtain ⟨p, hpj, hpv⟩ := pr_get hp2 hy
        obtain ⟨hg, hpl⟩ := hgood p (List.mem_of_getElem? hpj)
        refine ⟨_, rfl, _, rfl, _, rfl, _, rfl, a, t, y, dir, p, rs, k, B, D, fs, rfl, L.same s3, U, F.same s3, hf, hpv, hg, by omega, fun lq H3 s4 nlq ⟨us, hu, hpu⟩ => ?_⟩
        have s34 := s3.trans s4
        have hd3 := s4 _ _ hd
        have bpart : (part ⟨fs, rs⟩ k (dir, kind) ps j).length ≤ 0 + 22 * (ps.take j).length := steps_len (d := ⟨fs, rs⟩) (q := (dir, kind)) U hf (ps.take j) [] fun p hp => (hgood p (List.mem_of_mem_take hp)).1
        have bt : (ps.take j).length ≤ 10648 := by rw [List.length_take]; omega
        refine ⟨lq, rfl, ⟨_, SqL.of hu⟩, for_list (K := K) (a := lq) (xs := us) (fun m σ H' => ∃ v9, σ = [some (.ref a), some (.ref t), some (vi x), some (.ref st), some (.ref lp), some (vi dir), some (vi kind), some (.ref d), some y, v9] ∧ Same H H' ∧ H' lp = some (.lst vs) ∧ Paired (PlV H') vs ps ∧
            H' lq = some (.lst us) ∧ Paired (PlV H') us (ahead ⟨fs, rs⟩ k p dir) ∧
            ∃ xs, H' d = some (dnO P w d xs) ∧ (∀ z ∈ xs, PlV H' (.ref z.2) z.1) ∧ xs.map (·.1) = ((ahead ⟨fs, rs⟩ k p dir).take m).foldl (putIf k fs kind) (part ⟨fs, rs⟩ k (dir, kind) ps j))
          ⟨v9', rfl, s34, s4 _ _ hv2, plvs_ts hp2 (TupS.of s4), hu, hpu, xs, hd3, fun z hz => (hall z hz).ts (TupS.of s4), hkeys⟩ (fun m σ H' _ ⟨_, _, _, _, _, e, _⟩ => SqL.of e) ?_ ?_⟩
        · rintro m z σ H4 hz ⟨v9'', rfl, s5, hv4, hp4, hu4, hpu4, xs4, hd4, hall4, hk4⟩
          obtain ⟨pz, hpz, hzv⟩ := pr_get hpu4 hz
          have gz := ahead_good (d := ⟨fs, rs⟩) U hf hg (List.mem_of_getElem? hpz)
          have st4 := take_fold (g := putIf k fs kind) (m := part ⟨fs, rs⟩ k (dir, kind) ps j) hpz
          refine ⟨_, rfl, _, rfl, _, rfl, _, rfl, a, t, z, kind, pz, rs, k, B, D, fs, rfl, L.same s5, U, F.same s5, hf, hzv, gz, fun H5 s6 => ⟨_, rfl, ?_⟩⟩
          have s56 := s5.trans s6
          have hd5 := s6 _ _ hd4
          have hzv5 := hzv.ts (TupS.of s6)
          refine iB (fun hc => ?_) (fun hc => ?_)
          · obtain ⟨bz, qz, rfl, h1, h2⟩ := id hzv5
            have tS : TupS H5 (upd H5 d (dnO P w d (putPl xs4 pz bz))) := TupS.at hd5 fun _ => dnO_tup
            refine ⟨_, rfl, _, rfl, d, bz, xs4, pz, rfl, rfl, hd5, rfl, hzv5, fun z0 hz0 => (hall4 z0 hz0).ts (TupS.of s6), ?_, ?_⟩
            · have e1 : xs4.length = (xs4.map (·.1)).length := (List.length_map _).symm
              have h3 := putIfs_len (k := k) (fs := fs) (kind := kind) ((ahead ⟨fs, rs⟩ k p dir).take m) (part ⟨fs, rs⟩ k (dir, kind) ps j)
              have h4 := ahead_len (d := ⟨fs, rs⟩) U hf hg dir
              have h5 : ((ahead ⟨fs, rs⟩ k p dir).take m).length ≤ 22 := by rw [List.length_take]; omega
              rw [e1, hk4]
              exact linelt (by omega)
            · refine ⟨_, rfl, s56.past ndH, upd_keep (s6 _ _ hv4) hd5 dnO_lst, plvs_ts hp4 ((TupS.of s6).trans tS), upd_keep (s6 _ _ hu4) hd5 dnO_lst, plvs_ts hpu4 ((TupS.of s6).trans tS), putPl xs4 pz bz, upd_same, fun z0 hz0 => ?_, ?_⟩
              · rcases mem_putPl hz0 with h | rfl
                · exact (hall4 z0 h).ts ((TupS.of s6).trans tS)
                · exact hzv5.ts tS
              · rw [putPl_keys, hk4, st4]
                exact (if_pos hc).symm
          · refine ⟨_, rfl, s56, s6 _ _ hv4, plvs_ts hp4 (TupS.of s6), s6 _ _ hu4, plvs_ts hpu4 (TupS.of s6), xs4, hd5, fun z0 hz0 => (hall4 z0 hz0).ts (TupS.of s6), ?_⟩
            rw [hk4, st4]
            exact (if_neg (by rw [hc]; exact Bool.false_ne_true)).symm
        · rintro σ H4 ⟨v9'', rfl, s5, hv4, hp4, hu4, hpu4, xs4, hd4, hall4, hk4⟩
          rw [pr_len hpu, List.take_length] at hk4
          exact ⟨_, _, rfl, s5, hv4, hp4, xs4, hd4, hall4, by rw [part_more hpj]; exact hk4⟩
      · rintro σ H2 ⟨v8', v9', rfl, s3, hv2, hp2, xs, hd, hall, hkeys⟩
        rw [pr_len hp] at hkeys
        have hk : xs.map (·.1) = stepL ⟨fs, rs⟩ k (dir, kind) ps := by
          rw [hkeys]
          unfold part
          rw [List.take_length]
          rfl
        refine ⟨_, rfl, d, xs, rfl, hd, fun l4 nl4 => ?_⟩
        have s4 := Same.new (o := .lst (xs.map fun x => V.ref x.2)) nl4
        refine ⟨_, _, _, _, _, l4, rfl, s3.trans s4, ⟨_, upd_same, ?_⟩, fun p hp => ?_, ?_⟩
        · rw [← hk]
          exact plvs_ts (pl_pairs hall) (TupS.of s4)
        · obtain ⟨p0, hp0, hpa, _⟩ := mem_stepL.mp hp
          obtain ⟨g0, l0'⟩ := hgood p0 hp0
          have := ahead_path hpa
          exact ⟨ahead_good (d := ⟨fs, rs⟩) U hf g0 hpa, by omega⟩
        · have := steps_len (d := ⟨fs, rs⟩) (q := (dir, kind)) U hf ps [] fun p hp => (hgood p hp).1
          rw [Nat.pow_succ]
          have h2 : ([] : List Pl).length + 22 * ps.length ≤ 22 ^ i * 22 := by
            have : ([] : List Pl).length = 0 := rfl
            omega
          exact Nat.le_trans this h2
    · rintro σ H1 ⟨v5, v6, v7, v8, v9, lp, rfl, s1, hP, hgood, hsize⟩
      rw [pr_len hps, List.take_length] at hP
      refine ⟨_, rfl, by show 0 ≤ sizeLine; decide, fun e ne => ?_⟩
      have s2 := Same.new (o := .lst []) ne
      refine ⟨_, e, (hP.same s2).dp, plDs_shaped _, rfl, upd_same, ?_⟩
      rw [List.isEmpty_map]
      exact q _ (s1.trans s2)
end
end Wm

namespace Wm
open PySem PySem.Spec PyProof.Rows L2
open Gq03 (Basic Rule Fact)
theorem cut_to (xs : List V) (n : Nat) : cutV xs none (some (n : Int)) = xs.take n := by
  unfold cutV
  rw [HT.sIx_none, HT.sIx_nat, List.drop_zero, Nat.sub_zero]
  by_cases h : n ≤ xs.length
  · rw [Nat.min_eq_left h]
  · rw [Nat.min_eq_right (by omega), List.take_of_length_le (by omega), List.take_of_length_le (by omega)]
theorem cut_from (xs : List V) (n : Nat) : cutV xs (some (n : Int)) none = xs.drop n := by
  unfold cutV
  rw [HT.sIx_none, HT.sIx_nat]
  by_cases h : n ≤ xs.length
  · rw [Nat.min_eq_left h, List.take_of_length_le (by rw [List.length_drop]; omega)]
  · rw [Nat.min_eq_right (by omega), List.drop_of_length_le (by omega), List.drop_of_length_le (by omega), List.take_nil]
/-- two numbers in a tuple -/
def TV (H : Hp) (v : V) (s n : Nat) : Prop := ∃ p, v = .ref p ∧ H p = some (.tup [vi s, vi n])
theorem TV.ts {H H' : Hp} {v : V} {s n : Nat} (h : TV H v s n) (t : TupS H H') : TV H' v s n := let ⟨p, e, q⟩ := h; ⟨p, e, t _ _ q⟩
def isB (s n : Nat) : Bool := (decide (s = 0) && ([1, 2, 3, 4, 5, 6] : List Nat).contains n) || (decide (s = 1) && Gq03.roles.contains n)
theorem isB_eq (s n : Nat) : isB s n = Gq03.isBasic (Gq03Neutral.basic s n) := by
  rw [Bool.eq_iff_iff, basic_in]
  unfold isB Gq03Neutral.basic
  simp only [Bool.or_eq_true, Bool.and_eq_true, decide_eq_true_eq, List.contains_iff_mem]
  by_cases h0 : s = 0
  · subst h0
    simp only [if_true, true_and]
    rw [kind_mem]
    constructor
    · rintro (h | ⟨h, _⟩)
      · simp only [List.mem_cons, List.not_mem_nil, or_false] at h
        omega
      · exact absurd h (by decide)
    · intro h
      refine .inl ?_
      simp only [List.mem_cons, List.not_mem_nil, or_false]
      omega
  · rw [if_neg h0]
    by_cases h1 : s = 1
    · subst h1
      rw [if_pos rfl, has_mem]
      constructor
      · rintro (⟨h, _⟩ | ⟨_, h⟩)
        · exact absurd h (by decide)
        · exact h
      · intro h; exact .inr ⟨rfl, h⟩
    · rw [if_neg h1, kind_mem]
      constructor
      · rintro (⟨h, _⟩ | ⟨h, _⟩)
        · exact absurd h h0
        · exact absurd h h1
      · rintro ⟨h, _⟩
        exact absurd h (by decide)
theorem TV.bv {H : Hp} {v : V} {s n : Nat} (h : TV H v s n) (hb : isB s n = true) : BV H v (Gq03Neutral.basic s n) ∧ Gq03Neutral.basic s n ∈ Gq03.basics := by
  have hm : Gq03Neutral.basic s n ∈ Gq03.basics := basic_in.mp (by rw [← isB_eq]; exact hb)
  refine ⟨?_, hm⟩
  obtain ⟨p, e, q⟩ := h
  refine ⟨p, e, ?_⟩
  rw [q]
  unfold isB at hb
  simp only [Bool.or_eq_true, Bool.and_eq_true, decide_eq_true_eq] at hb
  rcases hb with ⟨rfl, _⟩ | ⟨rfl, _⟩
  · rfl
  · rfl
/-! ### sorted bad ones -/
def bcI (b : Basic) : Int × Int := (((bc b).1 : Int), ((bc b).2 : Int))
def kOf (H : Hp) : V → Int × Int
  | .ref t => match H t with
    | some (.tup [.int i, .int j]) => (i, j)
    | _ => (0, 0)
  | _ => (0, 0)
theorem kOf_bv {H : Hp} {v : V} {b : Basic} (h : BV H v b) : kOf H v = bcI b ∧ ∃ t, v = .ref t ∧ H t = some (.tup [.int (kOf H v).1, .int (kOf H v).2]) := by
  obtain ⟨p, rfl, q⟩ := h
  have e : kOf H (.ref p) = bcI b := by
    show (match H p with
    | some (.tup [.int i, .int j]) => (i, j)
    | _ => ((0 : Int), (0 : Int))) = _
    rw [q]
    rfl
  exact ⟨e, p, rfl, by rw [e]; exact q⟩
theorem kOf_map {H : Hp} : ∀ {vs : List V} {bs : List Basic}, Paired (BV H) vs bs → vs.map (kOf H) = bs.map bcI
  | _, _, .nil => rfl
  | _, _, .cons h t => by rw [List.map_cons, List.map_cons, (kOf_bv h).1, kOf_map t]
theorem bv_of_k {H : Hp} : ∀ {ys : List V} {bs : List Basic}, ys.map (kOf H) = bs.map bcI → (∀ y ∈ ys, ∃ t, y = .ref t ∧ H t = some (.tup [.int (kOf H y).1, .int (kOf H y).2])) → Paired (BV H) ys bs
  | [], [], _, _ => .nil
  | [], _ :: _, h, _ => by simp at h
  | _ :: _, [], h, _ => by simp at h
  | y :: ys, b :: bs, h, hk => by
    rw [List.map_cons, List.map_cons, List.cons.injEq] at h
    refine .cons ?_ (bv_of_k h.2 fun z hz => hk z (List.mem_cons_of_mem _ hz))
    obtain ⟨t, rfl, e⟩ := hk y List.mem_cons_self
    rw [h.1] at e
    exact ⟨t, rfl, e⟩
theorem basics_sorted : (Gq03.basics.map bcI).Pairwise fun x y => SrtO.lexB y x = false := by decide
theorem bad_sorted (rs : List Rule) : ((Gq03.bad rs).map bcI).Pairwise fun x y => SrtO.lexB y x = false := by
  rw [← bad_fix rs]
  exact basics_sorted.sublist (List.Sublist.map _ List.filter_sublist)
theorem bad_nodup (rs : List Rule) : (Gq03.bad rs).Nodup := by
  rw [← bad_fix rs]
  exact basics_nodup.filter _
theorem lex_anti {a b : Int × Int} (h1 : SrtO.lexB b a = false) (h2 : SrtO.lexB a b = false) : a = b := by
  have e1 := SrtO.lexB_no.mp h1
  have e2 := SrtO.lexB_no.mp h2
  exact Prod.ext (by omega) (by omega)
theorem bad_row {H : Hp} {rs : List Rule} {B : List Basic} {D : List Nat} (F : Full rs B D) {xs ys : List V} (hx : Paired (BV H) xs B) (hs : SrtO.Srtd (ltP (kOf H)) ys) (hp : ys.Perm xs) : Paired (BV H) ys (Gq03.bad rs) := by
  have h1 : (ys.map (kOf H)).Perm ((Gq03.bad rs).map bcI) := by
    refine (hp.map _).trans ?_
    rw [kOf_map hx]
    exact ((List.perm_ext_iff_of_nodup F.bN (bad_nodup rs)).mpr F.bM).map _
  have h2 : (ys.map (kOf H)).Pairwise fun x y => SrtO.lexB y x = false := List.pairwise_map.mpr hs
  refine bv_of_k (h1.eq_of_pairwise (fun a b _ _ k1 k2 => lex_anti k1 k2) h2 (bad_sorted rs)) fun y hy => ?_
  obtain ⟨i, hi⟩ := List.mem_iff_getElem?.mp (hp.mem_iff.mp hy)
  obtain ⟨b, _, hb⟩ := pr_get hx hi
  exact (kOf_bv hb).2
section
variable {P : Program} {w : World} {K : PySem.W.Frag} {mg : Str → Option Value} {base : Heap} {CL CD : Addr}
/-! ### follows -/
def spFollows (CL : Addr) : Sp := fun vs H Q _ => ∃ (a : Addr) (v u : V) (b c : Basic) (rs : List Rule) (k : Kept) (B : List Basic) (D : List Nat), vs = [.ref a, v, u] ∧ LoreF CL H a rs k B D ∧ BV H v b ∧ BV H u c ∧ b ∈ Gq03.basics ∧ Q (.bl ((k.bas b).contains c || B.contains b)) H
theorem scFollows : FnScope ["lore", "b", "c"] ["lore", "b", "c"] (defScope (top 44)) := ⟨rfl, rfl, rfl, by decide +kernel, rfl, by decide +kernel, by decide +kernel⟩
theorem ok_follows (T : Txt K mg CL CD) (D : Def K mg "follows" (top 44)) : Cal P w K mg base 1 "follows" ["lore", "b", "c"] (spFollows CL) := by
  refine D.cal scFollows (fun vs H Q E h => ?_) (fun _ _ _ _ _ _ us hl => match us, hl with | [_, _, _], _ => rfl) (fun f cdv A outer s H vs Q E hr h => ⟨_,
    pss_one (ps_ret (pe_or (pe_cmpR (op_inB (u65 hr)) (pv 2) (pe_dget (u1 hr) (pe_fld (pv 0) rfl) (pv 1) (fun _ _ => rfl)) rfl) (pe_one (pe_cmpR (op_inB (u65 hr)) (pv 1) (pe_fld (pv 0) rfl) rfl)))), ?_⟩)
  · obtain ⟨a, v, u, b, c, rs, k, B, D, rfl, _⟩ := h
    rfl
  · obtain ⟨a, v, u, b, c, rs, k, B, D, rfl, ⟨aB, aD, dx, ar, ad, ab, kvd, kvb, h1, h2, h3, h4, h5, h6, h7, h8, h9⟩, hv, hu, hb, q⟩ := h
    obtain ⟨p, rfl, hp⟩ := id hv
    obtain ⟨qa, e4, hBL, _⟩ := h6 b hb
    have gg := DGet.t (k := kb b) h5 hp
    rw [e4] at gg
    refine ⟨_, rfl, _, rfl, a, CL, dx, _, _, rfl, h1, T.cL, T.lB, lF_b, _, rfl, ab, _, rfl, gg, c, _, qa, hu, rfl, hBL, _, rfl, ?_⟩
    refine iB (fun hc => ?_) (fun hc => ?_)
    · rw [hc] at q
      exact q
    · rw [hc, Bool.false_or] at q
      exact ⟨_, rfl, _, rfl, a, CL, dx, _, _, rfl, h1, T.cL, T.lX, lF_x, b, B, aB, hv, rfl, h7, q⟩
/-! ### joined, of basic ones and of directions -/
def spJoinB : Sp := fun vs H Q _ => ∃ (a c : Addr) (as bs : List Basic), vs = [.ref a, .ref c] ∧ BL H a as ∧ BL H c bs ∧ as.length ≤ 1000 ∧ bs.length ≤ 1000 ∧ ∀ p H', Same H H' → BL H' p (joinL as bs) → Q (.ref p) H'
def spJoinN : Sp := fun vs H Q _ => ∃ (a c : Addr) (as bs : List Nat), vs = [.ref a, .ref c] ∧ IL H a as ∧ IL H c bs ∧ as.length ≤ 1000 ∧ bs.length ≤ 1000 ∧ ∀ p H', Same H H' → IL H' p (joinL as bs) → Q (.ref p) H'
abbrev nJoin : List Str := ["one", "other", "thing"]
theorem scJoin : FnScope nJoin ["one", "other"] (defScope (top 45)) := ⟨rfl, rfl, rfl, by decide +kernel, rfl, by decide +kernel, by decide +kernel⟩
theorem ok_joinB (D : Def K mg "joined" (top 45)) : Cal P w K mg base 1 "joined" ["one", "other"] spJoinB := by
  refine D.cal scJoin (fun vs H Q E h => ?_) (fun _ _ _ _ _ _ us hl => match us, hl with | [_, _], _ => rfl) (fun f cdv A outer s H vs Q E hr h => ⟨_,
    pss_one (ps_ret (pe_op op_cat (pv 0) (pe_lc (own := [("thing", 2)]) (g := gName 2) (tt := tTest (tOp rNotInB (tVar 2) (tVar 0))) rfl scJoin.nd (pi_list (pv 1)) (blkOk_by (N := nJoin) (sc := defScope (top 45)) (by decide +kernel)) (fun _ _ _ _ _ => pg_name (i := 2) scJoin.nd rfl (Or.inl rfl))
      (fun _ _ _ _ _ => by exact pts_one (pt_cmpR (op_notInB (u65 hr)) (pv 2) (pv 0) rfl)) (fun _ _ _ _ _ => pv 2)))), ?_⟩)
  · obtain ⟨a, c, as, bs, rfl, _⟩ := h
    rfl
  · obtain ⟨a, c, as, bs, rfl, ⟨xs, hxs, hpx⟩, ⟨ys, hys, hpy⟩, la, lb, q⟩ := h
    refine ⟨_, rfl, _, rfl, c, rfl, ⟨_, SqL.of hys⟩, fun D1 hD1 => lc_list (K := K) (a := c) (xs := ys) (fun i H' => Same H H' ∧ ∃ us, H' D1 = some (.lst us) ∧ Paired (BV H') us ((bs.take i).filter fun x => !as.contains x))
      ⟨Same.new hD1, [], upd_same, .nil⟩ (fun i H' _ ⟨s1, _⟩ => SqL.of (s1 _ _ hys)) ?_ ?_⟩
    · rintro i x H' hx ⟨s1, us, hu, hpu⟩
      obtain ⟨b, hb, hbv⟩ := pr_get hpy hx
      have hbv' := hbv.ts (TupS.of s1)
      refine ⟨rfl, _, rfl, _, rfl, b, as, a, hbv', rfl, (show BL H a as from ⟨xs, hxs, hpx⟩).same s1, _, rfl, ?_⟩
      refine iB (fun hc => ?_) (fun hc => ⟨s1, us, hu, by rw [filter_no hb hc]; exact hpu⟩)
      refine ⟨_, rfl, us, hu, ?_, s1.past hD1, _, upd_same, ?_⟩
      · rw [pr_len hpu]
        exact linelt (Nat.le_trans filter_take_len (by omega))
      · rw [filter_yes hb hc]
        exact pr_app (bvs_ts hpu (TupS.lst hu)) (pr_one (hbv'.ts (TupS.lst hu)))
    · rintro H1 ⟨s1, us, hu, hpu⟩
      rw [pr_len hpy, List.take_length] at hpu
      refine ⟨a, D1, xs, us, rfl, rfl, s1 _ _ hxs, hu, ?_, fun p np => ?_⟩
      · have := List.length_filter_le (fun x => !as.contains x) bs
        rw [pr_len hpx, pr_len hpu]
        exact Nat.le_of_lt (linelt (by omega))
      · exact q p _ (s1.trans (Same.new np)) ⟨_, upd_same, pr_app (bvs_ts hpx (TupS.of (s1.trans (Same.new np)))) (bvs_ts hpu (TupS.of (Same.new np)))⟩
theorem ok_joinN (D : Def K mg "joined" (top 45)) : Cal P w K mg base 1 "joined" ["one", "other"] spJoinN := by
  refine D.cal scJoin (fun vs H Q E h => ?_) (fun _ _ _ _ _ _ us hl => match us, hl with | [_, _], _ => rfl) (fun f cdv A outer s H vs Q E hr h => ⟨_,
    pss_one (ps_ret (pe_op op_cat (pv 0) (pe_lc (own := [("thing", 2)]) (g := gName 2) (tt := tTest (tOp (rNotInN K) (tVar 2) (tVar 0))) rfl scJoin.nd (pi_list (pv 1)) (blkOk_by (N := nJoin) (sc := defScope (top 45)) (by decide +kernel)) (fun _ _ _ _ _ => pg_name (i := 2) scJoin.nd rfl (Or.inl rfl))
      (fun _ _ _ _ _ => by exact pts_one (pt_cmpR op_notInN (pv 2) (pv 0) rfl)) (fun _ _ _ _ _ => pv 2)))), ?_⟩)
  · obtain ⟨a, c, as, bs, rfl, _⟩ := h
    rfl
  · obtain ⟨a, c, as, bs, rfl, hxs, hys, la, lb, q⟩ := h
    refine ⟨_, rfl, _, rfl, c, rfl, ⟨_, SqL.of hys⟩, fun D1 hD1 => lc_list (K := K) (a := c) (xs := vis bs) (fun i H' => Same H H' ∧ IL H' D1 ((bs.take i).filter fun x => !as.contains x))
      ⟨Same.new hD1, upd_same⟩ (fun i H' _ ⟨s1, _⟩ => SqL.of (s1 _ _ hys)) ?_ ?_⟩
    · rintro i x H' hx ⟨s1, hu⟩
      obtain ⟨b, hb, rfl⟩ := vis_get hx
      refine ⟨rfl, _, rfl, _, rfl, b, as, a, rfl, rfl, .inl (SqL.of (hxs.same s1)), _, rfl, ?_⟩
      refine iB (fun hc => ?_) (fun hc => ⟨s1, by rw [filter_no hb hc]; exact hu⟩)
      refine ⟨_, rfl, _, hu, ?_, s1.past hD1, ?_⟩
      · rw [vis_len]
        exact linelt (Nat.le_trans filter_take_len (by omega))
      · rw [filter_yes hb hc]
        exact IL.snoc
    · rintro H1 ⟨s1, hu⟩
      rw [vis_len, List.take_length] at hu
      refine ⟨a, D1, _, _, rfl, rfl, hxs.same s1, hu, ?_, fun p np => ?_⟩
      · have := List.length_filter_le (fun x => !as.contains x) bs
        rw [vis_len, vis_len]
        exact Nat.le_of_lt (linelt (by omega))
      · exact q p _ (s1.trans (Same.new np)) IL.app
/-! ### never_both, never_both_ways -/
def spNB (CL : Addr) : Sp := fun vs H Q _ => ∃ (a : Addr) (v u : V) (b c : Basic) (rs : List Rule) (k : Kept) (B : List Basic) (D : List Nat), vs = [.ref a, v, u] ∧ LoreF CL H a rs k B D ∧ Ups rs k ∧ BV H v b ∧ BV H u c ∧ b ∈ Gq03.basics ∧ c ∈ Gq03.basics ∧ ∀ H', Same H H' → Q (.bl (nevB rs k B b c)) H'
theorem scNB : FnScope ["lore", "b", "c"] ["lore", "b", "c"] (defScope (top 46)) := ⟨rfl, rfl, rfl, by decide +kernel, rfl, by decide +kernel, by decide +kernel⟩
theorem ok_NB (T : Txt K mg CL CD) (cW : Cal P w K mg base 2 "is_wrong_being" ["lore", "found"] (spWB CL)) (cJ : Cal P w K mg base 1 "joined" ["one", "other"] spJoinB) (D : Def K mg "never_both" (top 46)) : Cal P w K mg base 3 "never_both" ["lore", "b", "c"] (spNB CL) := by
  refine D.cal scNB (fun vs H Q E h => ?_) (fun _ _ _ _ _ _ us hl => match us, hl with | [_, _, _], _ => rfl) (fun f cdv A outer s H vs Q E hr h => ⟨_,
    pss_one (ps_ret (pe_cal cW hr rfl (pa_cons (pv 0) (pa_cons (pe_cal cJ (hr.mono (by decide)) rfl (pa_cons (pe_dget (u1 hr) (pe_fld (pv 0) rfl) (pv 1) (fun _ _ => rfl)) (pa_cons (pe_dget (u1 hr) (pe_fld (pv 0) rfl) (pv 2) (fun _ _ => rfl)) pa_nil))) pa_nil)))), ?_⟩)
  · obtain ⟨a, v, u, b, c, rs, k, B, D, rfl, _⟩ := h
    rfl
  · obtain ⟨a, v, u, b, c, rs, k, B, D, rfl, L, U, ⟨p1, rfl, hp1⟩, ⟨p2, rfl, hp2⟩, hb, hc, q⟩ := h
    obtain ⟨aB, aD, dx, ar, ad, ab, kvd, kvb, h1, h2, h3, h4, h5, h6, h7, h8, h9⟩ := id L
    obtain ⟨q1, e1, i1, _⟩ := h6 b hb
    obtain ⟨q2, e2, i2, _⟩ := h6 c hc
    have g1 := DGet.t (k := kb b) h5 hp1
    have g2 := DGet.t (k := kb c) h5 hp2
    rw [e1] at g1
    rw [e2] at g2
    have l1 := U.blen hb
    have l2 := U.blen hc
    have l3 := joinL_len (k.bas b) (k.bas c)
    exact ⟨_, rfl, _, rfl, a, CL, dx, _, _, rfl, h1, T.cL, T.lB, lF_b, _, rfl, ab, _, rfl, g1, _, rfl, a, CL, dx, _, _, rfl, h1, T.cL, T.lB, lF_b, _, rfl, ab, _, rfl, g2,
      q1, q2, _, _, rfl, i1, i2, by omega, by omega, fun p H1 s1 hj => ⟨a, p, rs, k, B, D, _, rfl, L.same s1, hj, by omega, fun H2 s2 => q H2 (s1.trans s2)⟩⟩
def spNW (CL : Addr) : Sp := fun vs H Q _ => ∃ (a : Addr) (r s : Nat) (rs : List Rule) (k : Kept) (B : List Basic) (D : List Nat), vs = [.ref a, vi r, vi s] ∧ LoreF CL H a rs k B D ∧ Ups rs k ∧ r ∈ Gq03.roles ∧ s ∈ Gq03.roles ∧ ∀ H', Same H H' → Q (.bl (nevW rs k B D r s)) H'
theorem scNW : FnScope ["lore", "r", "s"] ["lore", "r", "s"] (defScope (top 47)) := ⟨rfl, rfl, rfl, by decide +kernel, rfl, by decide +kernel, by decide +kernel⟩
theorem ok_NW (T : Txt K mg CL CD) (cW : Cal P w K mg base 2 "are_wrong_edges" ["lore", "found"] (spWE CL)) (cJ : Cal P w K mg base 1 "joined" ["one", "other"] spJoinN) (cB : Cal P w K mg base 3 "never_both" ["lore", "b", "c"] (spNB CL)) (cT : Cal P w K mg base 1 "turned" ["direction"] spTurned)
    (D : Def K mg "never_both_ways" (top 47)) : Cal P w K mg base 4 "never_both_ways" ["lore", "r", "s"] (spNW CL) := by
  refine D.cal scNW (fun vs H Q E h => ?_) (fun _ _ _ _ _ _ us hl => match us, hl with | [_, _, _], _ => rfl) (fun f cdv A outer s H vs Q E hr h => ⟨_,
    pss_cons (ps_if (pt_val (pe_cal cW (hr.mono (by decide)) rfl (pa_cons (pv 0) (pa_cons (pe_cal cJ (hr.mono (by decide)) rfl (pa_cons (pe_dget (u1 hr) (pe_fld (pv 0) rfl) (pv 1) (fun _ _ => rfl)) (pa_cons (pe_dget (u1 hr) (pe_fld (pv 0) rfl) (pv 2) (fun _ _ => rfl)) pa_nil))) pa_nil)))) (pss_one (ps_ret pe_bl)) pss_nil)
    (pss_one (ps_ret (pe_or (pe_cal cB hr rfl (pa_cons (pv 0) (pa_cons (pe_tup (pa_cons (pe_gi T.HAVING) (pa_cons (pv 1) pa_nil))) (pa_cons (pe_tup (pa_cons (pe_gi T.HAVING) (pa_cons (pv 2) pa_nil))) pa_nil))))
      (pe_one (pe_cal cB hr rfl (pa_cons (pv 0) (pa_cons (pe_tup (pa_cons (pe_gi T.HAVING) (pa_cons (pe_cal cT (hr.mono (by decide)) rfl (pa_cons (pv 1) pa_nil)) pa_nil))) (pa_cons (pe_tup (pa_cons (pe_gi T.HAVING) (pa_cons (pe_cal cT (hr.mono (by decide)) rfl (pa_cons (pv 2) pa_nil)) pa_nil))) pa_nil)))))))), ?_⟩)
  · obtain ⟨a, r, s, rs, k, B, D, rfl, _⟩ := h
    rfl
  · obtain ⟨a, r, s, rs, k, B, D, rfl, L, U, hr', hs', q⟩ := h
    obtain ⟨aB, aD, dx, ar, ad, ab, kvd, kvb, h1, h2, h3, h4, h5, h6, h7, h8, h9⟩ := id L
    obtain ⟨q1, e1, i1, _⟩ := h4 r hr'
    obtain ⟨q2, e2, i2, _⟩ := h4 s hs'
    have g1 := DGet.k (k := Sum.inl (r : Int)) h3
    have g2 := DGet.k (k := Sum.inl (s : Int)) h3
    rw [e1] at g1
    rw [e2] at g2
    have l1 := U.dlen hr'
    have l2 := U.dlen hs'
    have l3 := joinL_len (k.dirs r) (k.dirs s)
    refine ⟨_, rfl, _, rfl, a, CL, dx, _, _, rfl, h1, T.cL, T.lD, lF_d, _, rfl, ad, _, rfl, g1, _, rfl, a, CL, dx, _, _, rfl, h1, T.cL, T.lD, lF_d, _, rfl, ad, _, rfl, g2,
      q1, q2, _, _, rfl, i1, i2, by omega, by omega, fun p H1 s1 hj => ⟨a, p, rs, k, B, D, _, rfl, L.same s1, hj, by omega, fun x hx => ?_, fun H2 s2 => ⟨_, rfl, ?_⟩⟩⟩
    · rcases mem_joinL.mp hx with h | h
      · exact U.dmem hr' h
      · exact U.dmem hs' h
    · have s12 := s1.trans s2
      refine iB (fun hc => ?_) (fun hc => ?_)
      · have := q H2 s12
        unfold nevW at this
        rw [hc] at this
        exact this
      · refine ⟨_, rfl, _, rfl, by show 2 ≤ sizeLine; decide, fun t1 n1 => ⟨_, rfl, by show 2 ≤ sizeLine; decide, fun t2 n2 => ?_⟩⟩
        have sa := Same.new (o := .tup [.int 1, vi r]) n1
        have sb := Same.new (o := .tup [.int 1, vi s]) n2
        have s3 := s12.trans (sa.trans sb)
        refine ⟨a, .ref t1, .ref t2, .has r, .has s, rs, k, B, D, rfl, L.same s3, U, ⟨t1, rfl, sb _ _ upd_same⟩, ⟨t2, rfl, upd_same⟩, has_mem.mpr hr', has_mem.mpr hs', fun H4 s4 => ⟨_, rfl, ?_⟩⟩
        refine iB (fun hc2 => ?_) (fun hc2 => ?_)
        · have := q H4 (s3.trans s4)
          unfold nevW at this
          rw [hc, hc2] at this
          exact this
        · refine ⟨_, rfl, _, rfl, r, rfl, hr', by show 2 ≤ sizeLine; decide, fun t3 n3 => ⟨_, rfl, s, rfl, hs', by show 2 ≤ sizeLine; decide, fun t4 n4 => ?_⟩⟩
          have sc := Same.new (o := .tup [.int 1, vi (Gq03.turned r)]) n3
          have sd := Same.new (o := .tup [.int 1, vi (Gq03.turned s)]) n4
          have s5 := (s3.trans s4).trans (sc.trans sd)
          refine ⟨a, .ref t3, .ref t4, .has (Gq03.turned r), .has (Gq03.turned s), rs, k, B, D, rfl, L.same s5, U, ⟨t3, rfl, sd _ _ upd_same⟩, ⟨t4, rfl, upd_same⟩, has_mem.mpr (turned_mem hr'), has_mem.mpr (turned_mem hs'), fun H6 s6 => ?_⟩
          have := q H6 (s5.trans s6)
          unfold nevW at this
          rw [hc, hc2, Bool.false_or, Bool.false_or] at this
          exact this
/-! ### is_idle -/
def spIdle : Sp := fun vs H Q _ => ∃ (ar : Addr) (n : Nat) (rs : List Rule), vs = [.ref ar, vi n] ∧ RL H ar rs ∧ okRules rs ∧ rs.length ≤ 12 ∧ n < rs.length ∧ ∀ H', Same H H' → Q (.bl (Gq03.idle rs n)) H'
theorem scIdle : FnScope ["rules", "n", "lore", "sort", "one", "other"] ["rules", "n"] (defScope (top 48)) := ⟨rfl, rfl, rfl, by decide +kernel, rfl, by decide +kernel, by decide +kernel⟩
theorem ok_idle (T : Txt K mg CL CD) (cL : Cal P w K mg base 7 "lore_of" ["rules"] (spLoreOf CL)) (cF : Cal P w K mg base 1 "follows" ["lore", "b", "c"] (spFollows CL)) (cB : Cal P w K mg base 3 "never_both" ["lore", "b", "c"] (spNB CL))
    (cW : Cal P w K mg base 4 "never_both_ways" ["lore", "r", "s"] (spNW CL)) (D : Def K mg "is_idle" (top 48)) : Cal P w K mg base 8 "is_idle" ["rules", "n"] spIdle := by
  refine D.cal scIdle (fun vs H Q E h => ?_) (fun _ _ _ _ _ _ us hl => match us, hl with | [_, _], _ => rfl) (fun f cdv A outer s H vs Q E hr h => ⟨_,
    pss_cons (ps_set (i := 2) scIdle.nd rfl (Or.inl rfl) (pe_cal cL hr rfl (pa_cons (pe_op op_cat (pe_slice sl_list (pv 0) po_none (po_some (pv 1))) (pe_slice sl_list (pv 0) (po_some (pe_op op_add (pv 1) pe_int)) po_none)) pa_nil)))
    (pss_cons (ps_asg (pe_ix ix_list (pv 0) (pv 1) (fun _ _ => rfl)) (pg_tup rfl (pgs_cons (pg_name (i := 3) scIdle.nd rfl (Or.inl rfl)) (pgs_cons (pg_name (i := 4) scIdle.nd rfl (Or.inl rfl)) (pgs_cons (pg_name (i := 5) scIdle.nd rfl (Or.inl rfl)) pgs_nil)))))
    (pss_cons (ps_if (pt_cmpR op_eqN (pv 3) (pe_gi T.SUB) (nomark _)) (pss_one (ps_ret (pe_cal cF (hr.mono (by decide)) rfl (pa_cons (pv 2) (pa_cons (pv 4) (pa_cons (pv 5) pa_nil)))))) pss_nil)
    (pss_cons (ps_if (pt_cmpR op_eqN (pv 3) (pe_gi T.ROLE) (nomark _)) (pss_one (ps_ret (pe_or (pe_cmpR op_inN (pv 5) (pe_dget (u1 hr) (pe_fld (pv 2) rfl) (pv 4) (fun _ _ => rfl)) rfl) (pe_one (pe_cmpR op_inN (pv 4) (pe_fld (pv 2) rfl) rfl))))) pss_nil)
    (pss_cons (ps_if (pt_cmpR op_eqN (pv 3) (pe_gi T.NEVER) (nomark _)) (pss_one (ps_ret (pe_cal cB (hr.mono (by decide)) rfl (pa_cons (pv 2) (pa_cons (pv 4) (pa_cons (pv 5) pa_nil)))))) pss_nil)
    (pss_one (ps_ret (pe_cal cW (hr.mono (by decide)) rfl (pa_cons (pv 2) (pa_cons (pv 4) (pa_cons (pv 5) pa_nil)))))))))), ?_⟩)
  · obtain ⟨ar, n, rs, rfl, _⟩ := h
    rfl
  · obtain ⟨ar, n, rs, rfl, ⟨vs, hv, hp⟩, ok, hlen, hn, q⟩ := h
    have vlen := pr_len hp
    refine ⟨_, rfl, _, rfl, _, rfl, ar, vs, rfl, SqL.of hv, fun l1 n1 => ?_⟩
    rw [cut_to]
    have s1 := Same.new (o := .lst (vs.take n)) n1
    refine ⟨_, rfl, _, rfl, (n : Int), 1, rfl, rfl, _, rfl, ar, vs, rfl, SqL.of (s1 _ _ hv), fun l2 n2 => ?_⟩
    have ec : cutV vs (some ((n : Int) + 1)) none = vs.drop (n + 1) := cut_from vs (n + 1)
    rw [ec]
    have s2 := Same.new (o := .lst (vs.drop (n + 1))) n2
    refine ⟨l1, l2, vs.take n, vs.drop (n + 1), rfl, rfl, s2 _ _ upd_same, upd_same, ?_, fun l3 n3 => ?_⟩
    · rw [List.length_take, List.length_drop]
      exact line1000 (by omega)
    · have s3 := Same.new (o := .lst (vs.take n ++ vs.drop (n + 1))) n3
      have s123 := (s1.trans s2).trans s3
      have hR3 : RL (upd (upd (upd H l1 (.lst (vs.take n))) l2 (.lst (vs.drop (n + 1)))) l3 (.lst (vs.take n ++ vs.drop (n + 1)))) l3 (Gq03.without n rs) :=
        ⟨_, upd_same, pr_app (pr_take n (rvs_ts hp (TupS.of s123))) (pr_drop (n + 1) (rvs_ts hp (TupS.of s123)))⟩
      refine ⟨l3, Gq03.without n rs, rfl, hR3, okRules_without ok n, Nat.le_trans (without_le rs n) hlen, fun a H4 k B D s4 U F L => ?_⟩
      have s14 := s123.trans s4
      have hx : rs[n]? = some rs[n] := List.getElem?_eq_getElem hn
      obtain ⟨v, hvn, hrv⟩ := pr_get' hp hx
      have okx := ok _ (List.mem_of_getElem? hx)
      have ide := idle_eq hx okx rfl U F
      generalize rs[n] = x at hx hrv okx ide
      obtain ⟨pt, rfl, hpt⟩ := hrv.ts (TupS.of s14)
      refine ⟨_, rfl, _, rfl, ar, vs, n, .ref pt, rfl, rfl, SqL.of (s14 _ _ hv), atI_nat hvn, ?_⟩
      cases x with
      | sub b c =>
        obtain ⟨u, w', hq, g1, g2⟩ := hpt
        refine ⟨pt, _, rfl, SqT.of hq, rfl, _, _, rfl, _, _, rfl, _, _, rfl, rfl, ?_⟩
        refine ⟨_, rfl, 0, 0, rfl, rfl, _, rfl, iT rfl ⟨_, rfl, _, rfl, _, rfl, a, u, w', b, c, Gq03.without n rs, k, B, D, rfl, L, g1, g2, okx.1, ?_⟩⟩
        have := q H4 s14
        rw [← ide] at this
        exact this
      | role r s =>
        refine ⟨pt, _, rfl, SqT.of hpt, rfl, _, _, rfl, _, _, rfl, _, _, rfl, rfl, ?_⟩
        refine ⟨_, rfl, 1, 0, rfl, rfl, _, rfl, iF rfl ⟨_, rfl, 1, 1, rfl, rfl, _, rfl, iT rfl ?_⟩⟩
        obtain ⟨aB, aD, dx, ar', ad, ab, kvd, kvb, h1, h2, h3, h4, h5, h6, h7, h8, h9⟩ := id L
        obtain ⟨q1, e1, i1, _⟩ := h4 r okx.1
        have g1 := DGet.k (k := Sum.inl (r : Int)) h3
        rw [e1] at g1
        have qq := q H4 s14
        rw [← ide] at qq
        refine ⟨_, rfl, _, rfl, a, CL, dx, _, _, rfl, h1, T.cL, T.lD, lF_d, _, rfl, ad, _, rfl, g1, s, _, q1, rfl, rfl, .inl (SqL.of i1), _, rfl, ?_⟩
        refine iB (fun hc => ?_) (fun hc => ?_)
        · have qq : Q (.bl ((k.dirs r).contains s || D.contains r)) H4 := qq
          rw [hc] at qq
          exact qq
        · have qq : Q (.bl ((k.dirs r).contains s || D.contains r)) H4 := qq
          rw [hc, Bool.false_or] at qq
          exact ⟨_, rfl, _, rfl, a, CL, dx, _, _, rfl, h1, T.cL, T.lY, lF_y, r, D, aD, rfl, rfl, .inl (SqL.of h8), qq⟩
      | never b c =>
        obtain ⟨u, w', hq, g1, g2⟩ := hpt
        refine ⟨pt, _, rfl, SqT.of hq, rfl, _, _, rfl, _, _, rfl, _, _, rfl, rfl, ?_⟩
        refine ⟨_, rfl, 2, 0, rfl, rfl, _, rfl, iF rfl ⟨_, rfl, 2, 1, rfl, rfl, _, rfl, iF rfl ⟨_, rfl, 2, 2, rfl, rfl, _, rfl, iT rfl ⟨_, rfl, _, rfl, _, rfl, a, u, w', b, c, Gq03.without n rs, k, B, D, rfl, L, U, g1, g2, okx.1, okx.2, fun H5 s5 => ?_⟩⟩⟩⟩
        have := q H5 (s14.trans s5)
        rw [← ide] at this
        exact this
      | neverRole r s =>
        refine ⟨pt, _, rfl, SqT.of hpt, rfl, _, _, rfl, _, _, rfl, _, _, rfl, rfl, ?_⟩
        refine ⟨_, rfl, 3, 0, rfl, rfl, _, rfl, iF rfl ⟨_, rfl, 3, 1, rfl, rfl, _, rfl, iF rfl ⟨_, rfl, 3, 2, rfl, rfl, _, rfl, iF rfl ⟨_, rfl, _, rfl, _, rfl, a, r, s, Gq03.without n rs, k, B, D, rfl, L, U, okx.1, okx.2, fun H5 s5 => ?_⟩⟩⟩⟩
        have := q H5 (s14.trans s5)
        rw [← ide] at this
        exact this
/-! ### is_basic -/
def spIsBasic : Sp := fun vs H Q _ => ∃ (v : V) (s n : Nat), vs = [v] ∧ TV H v s n ∧ Q (.bl (isB s n)) H
theorem scIsBasic : FnScope ["b"] ["b"] (defScope (top 49)) := ⟨rfl, rfl, rfl, by decide +kernel, rfl, by decide +kernel, by decide +kernel⟩
theorem ok_isBasic (T : Txt K mg CL CD) (D : Def K mg "is_basic" (top 49)) : Cal P w K mg base 1 "is_basic" ["b"] spIsBasic := by
  refine D.cal scIsBasic (fun vs H Q E h => ?_) (fun _ _ _ _ _ _ us hl => match us, hl with | [_], _ => rfl) (fun f cdv A outer s H vs Q E hr h => ⟨_,
    pss_one (ps_ret (pe_or (pe_and (pe_cmpR op_eqN (pe_ix ix_tup (pv 0) pe_int (fun _ _ => rfl)) (pe_gi T.BEING) (nomark _)) (pe_one (pe_cmpR op_inN (pe_ix ix_tup (pv 0) pe_int (fun _ _ => rfl)) (pe_gt T.KINDS) rfl)))
      (pe_one (pe_and (pe_cmpR op_eqN (pe_ix ix_tup (pv 0) pe_int (fun _ _ => rfl)) (pe_gi T.HAVING) (nomark _)) (pe_one (pe_cmpR op_inN (pe_ix ix_tup (pv 0) pe_int (fun _ _ => rfl)) (pe_gt T.DIRECTIONS) rfl)))))), ?_⟩)
  · obtain ⟨v, s, n, rfl, _⟩ := h
    rfl
  · obtain ⟨v, s, n, rfl, ⟨p, rfl, hp⟩, q⟩ := h
    have second : (decide (s = 0) && ([1, 2, 3, 4, 5, 6] : List Nat).contains n) = false → _ := fun e => by
      have qq := q
      unfold isB at qq
      rw [e, Bool.false_or] at qq
      exact qq
    have go : (decide (s = 0) && ([1, 2, 3, 4, 5, 6] : List Nat).contains n) = false →
        tAndV (tOp rEqN (tOp (rIxT K) (tVar 0) (tC (.int 0))) (tC (.int 1))) (tOp (rInN K) (tOp (rIxT K) (tVar 0) (tC (.int 1))) (tGT K Gq03.roles)) (start ["b"] [.ref p]) H Q := fun e => by
      have qq := second e
      refine ⟨_, rfl, p, _, _, _, rfl, rfl, SqT.of hp, atI_nat (j := 0) rfl, s, 1, rfl, rfl, _, rfl, ?_⟩
      refine iB (fun hc => ?_) (fun hc => ?_)
      · rw [hc, Bool.true_and] at qq
        exact ⟨_, rfl, p, _, _, _, rfl, rfl, SqT.of hp, atI_nat (j := 1) rfl, fun ad hd => ⟨n, _, ad, rfl, rfl, .inr (hd _), qq⟩⟩
      · rw [hc, Bool.false_and] at qq
        exact qq
    refine ⟨_, rfl, p, _, _, _, rfl, rfl, SqT.of hp, atI_nat (j := 0) rfl, s, 0, rfl, rfl, _, rfl, ?_⟩
    refine iB (fun hc => ?_) (fun hc => ⟨_, rfl, iF rfl (go (by rw [hc, Bool.false_and]))⟩)
    refine ⟨_, rfl, p, _, _, _, rfl, rfl, SqT.of hp, atI_nat (j := 1) rfl, fun ak hk => ⟨n, _, ak, rfl, rfl, .inr (hk _), _, rfl, ?_⟩⟩
    refine iB (fun hc2 => ?_) (fun hc2 => go (by rw [hc2, Bool.and_false]))
    have qq := q
    unfold isB at qq
    rw [hc, hc2] at qq
    exact qq
/-! ### bad_in_order -/
def spBadO (CL : Addr) : Sp := fun vs H Q _ => ∃ (a : Addr) (rs : List Rule) (k : Kept) (B : List Basic) (D : List Nat), vs = [.ref a] ∧ LoreF CL H a rs k B D ∧ Full rs B D ∧ ∀ p H', Same H H' → H p = none → BL H' p (Gq03.bad rs) → Q (.ref p) H'
theorem scBadO : FnScope ["lore"] ["lore"] (defScope (top 50)) := ⟨rfl, rfl, rfl, by decide +kernel, rfl, by decide +kernel, by decide +kernel⟩
theorem ok_badO (T : Txt K mg CL CD) (D : Def K mg "bad_in_order" (top 50)) : Cal P w K mg base 1 "bad_in_order" ["lore"] (spBadO CL) := by
  refine D.cal scBadO (fun vs H Q E h => ?_) (fun _ _ _ _ _ _ us hl => match us, hl with | [_], _ => rfl) (fun f cdv A outer s H vs Q E hr h => ⟨_,
    pss_one (ps_ret (pe_callB cr_sortedPO (by rfl) T.sorted (by decide +kernel) (pa_cons (pe_fld (pv 0) rfl) pa_nil))), ?_⟩)
  · obtain ⟨a, rs, k, B, D, rfl, _⟩ := h
    rfl
  · obtain ⟨a, rs, k, B, D, rfl, ⟨aB, aD, dx, ar, ad, ab, kvd, kvb, h1, h2, h3, h4, h5, h6, ⟨xs, hx, hpx⟩, h8, h9⟩, F, q⟩ := h
    refine ⟨_, rfl, a, CL, dx, _, _, rfl, h1, T.cL, T.lX, lF_x, aB, xs, kOf H, rfl, SqL.of hx, fun x hx' => ?_, fun ys p hs hst np => ?_⟩
    · obtain ⟨i, hi⟩ := List.mem_iff_getElem?.mp hx'
      obtain ⟨b, _, hb⟩ := pr_get hpx hi
      exact (kOf_bv hb).2
    · exact q p _ (Same.new np) np ⟨ys, upd_same, bvs_ts (bad_row F hpx hs hst.perm) (TupS.new np)⟩
end
end Wm

namespace Wm
open PySem PySem.Spec PyProof.Rows L2
open Gq03 (Basic Rule Fact)
/-! ### the desk -/
def dF (tl ar : Addr) : List (Str × V) := [("told", .ref tl), ("rules", .ref ar)]
theorem dF_t {tl ar : Addr} : (dF tl ar).lookup ("told" : Str) = some (.ref tl) := lk_here
theorem dF_r {tl ar : Addr} : (dF tl ar).lookup ("rules" : Str) = some (.ref ar) := (lk_past (by decide +kernel)).trans lk_here
theorem dF_pt {tl ar t2 : Addr} : putF "told" (.ref t2) (dF tl ar) = dF t2 ar := put_here
theorem dF_pr {tl ar r2 : Addr} : putF "rules" (.ref r2) (dF tl ar) = dF tl r2 := (put_past (by decide +kernel)).trans (congrArg _ put_here)
theorem dF_new {tl ar : Addr} : putF "rules" (.ref ar) (putF "told" (.ref tl) []) = dF tl ar := put_past (by decide +kernel)
def DeskAt (CD : Addr) (H : Hp) (a : Addr) (d : Gq03.Desk) : Prop := ∃ dx tl ar, H a = some (.ins CD dx (dF tl ar)) ∧ FL H tl d.facts ∧ RL H ar d.rules
def OL (H : Hp) (p : Addr) (l : List Int) : Prop := H p = some (.lst (l.map V.int))
theorem dF_inj {tl ar t2 r2 : Addr} (h : dF tl ar = dF t2 r2) : tl = t2 ∧ ar = r2 := by
  unfold dF at h
  injection h with h1 h2
  injection h1 with _ h3
  injection h2 with h4 _
  injection h4 with _ h5
  exact ⟨V.ref.inj h3, V.ref.inj h5⟩
theorem ins_inj {CD dx dx2 tl ar t2 r2 : Addr} (h : some (HO.ins CD dx (dF tl ar)) = some (HO.ins CD dx2 (dF t2 r2))) : tl = t2 ∧ ar = r2 := by
  injection h with h
  injection h with _ _ h
  exact dF_inj h
/-- the desk's two lists: as they were, or new -/
def DL (CD a : Addr) (H H' : Hp) : Prop := ∀ dx tl ar dx' tl' ar', H a = some (.ins CD dx (dF tl ar)) → H' a = some (.ins CD dx' (dF tl' ar')) → (tl' = tl ∨ H tl' = none) ∧ (ar' = ar ∨ H ar' = none)
theorem DL.of {CD a : Addr} {H H' : Hp} (s : Same H H') : DL CD a H H' := fun dx tl ar dx' tl' ar' e e' => by
  rw [s _ _ e] at e'
  obtain ⟨h1, h2⟩ := ins_inj e'
  exact ⟨.inl h1.symm, .inl h2.symm⟩
theorem DL.put {CD a dx tl ar dx2 t2 r2 : Addr} {H H' : Hp} (e : H a = some (.ins CD dx (dF tl ar))) (e' : H' a = some (.ins CD dx2 (dF t2 r2))) (h1 : t2 = tl ∨ H t2 = none) (h2 : r2 = ar ∨ H r2 = none) : DL CD a H H' := fun dx3 t3 r3 dx4 t4 r4 g g' => by
  rw [e] at g
  rw [e'] at g'
  obtain ⟨p1, p2⟩ := ins_inj g
  obtain ⟨q1, q2⟩ := ins_inj g'
  rw [← p1, ← p2, ← q1, ← q2]
  exact ⟨h1, h2⟩
/-- an answer, and the desk behind it -/
def Ans (CD : Addr) (a : Addr) (H : Hp) (Q : VK) (r : Gq03.Desk × List Int) : Prop := ∀ p H', SB a H H' → DL CD a H H' → DeskAt CD H' a r.1 → H p = none → OL H' p r.2 → Q (.ref p) H'
theorem DeskAt.same {CD : Addr} {H H' : Hp} {a : Addr} {d : Gq03.Desk} (h : DeskAt CD H a d) (s : Same H H') : DeskAt CD H' a d := let ⟨dx, tl, ar, e, f, r⟩ := h; ⟨dx, tl, ar, s _ _ e, f.same s, r.same s⟩
theorem SB.of {a : Addr} {H H' : Hp} (s : Same H H') : SB a H H' := fun b o e _ => s b o e
theorem Ans.ask {CD : Addr} {a : Addr} {H : Hp} {Q : VK} {d : Gq03.Desk} {l : List Int} (q : Ans CD a H Q (d, l)) (h : DeskAt CD H a d) {p : Addr} {H' : Hp} (s : Same H H') (n : H p = none) (o : OL H' p l) : Q (.ref p) H' := q p H' (.of s) (.of s) (h.same s) n o
theorem Ans.same {CD : Addr} {a : Addr} {H H1 : Hp} {Q : VK} {r : Gq03.Desk × List Int} (q : Ans CD a H Q r) (s : Same H H1) : Ans CD a H1 Q r := fun p H' sb dl h n o => q p H' (fun b x e ne => sb b x (s b x e) ne) (fun dx tl ar dx' tl' ar' e e' => let ⟨h1, h2⟩ := dl dx tl ar dx' tl' ar' (s _ _ e) e'; ⟨h1.imp id fun z => s.free z, h2.imp id fun z => s.free z⟩) h (s.free n) o
theorem FL.sb {p a : Addr} {H H1 : Hp} {fs : List Fact} {C dx : Addr} {kv : List (Str × V)} (h : FL H a fs) (s : SB p H H1) (hp : H p = some (.ins C dx kv)) : FL H1 a fs := by
  obtain ⟨vs, e, q⟩ := h
  exact ⟨vs, s _ _ e (ne_of e hp (by intro z; cases z)), fvs_ts q (fun t xs et => s t _ et (ne_of et hp (by intro z; cases z)))⟩
/-- the told put anew -/
theorem DeskAt.put {CD : Addr} {H : Hp} {a dx tl ar t2 : Addr} {fs : List Fact} {d : Gq03.Desk} (h : H a = some (.ins CD dx (dF tl ar))) (r : RL H ar d.rules) (f : FL H t2 fs) : DeskAt CD (upd H a (.ins CD dx (dF t2 ar))) a ⟨fs, d.rules⟩ := by
  have sb := (SB.refl a H).at (o := .ins CD dx (dF t2 ar))
  exact ⟨dx, t2, ar, upd_same, f.sb sb h, r.sb sb h⟩
/-- the rules put anew -/
theorem DeskAt.putR {CD : Addr} {H : Hp} {a dx tl ar r2 : Addr} {rs : List Rule} {d : Gq03.Desk} (h : H a = some (.ins CD dx (dF tl ar))) (f : FL H tl d.facts) (r : RL H r2 rs) : DeskAt CD (upd H a (.ins CD dx (dF tl r2))) a ⟨d.facts, rs⟩ := by
  have sb := (SB.refl a H).at (o := .ins CD dx (dF tl r2))
  exact ⟨dx, tl, r2, upd_same, f.sb sb h, r.sb sb h⟩
theorem SB.put {a : Addr} {H H1 : Hp} {o : HO} (s : Same H H1) : SB a H (upd H1 a o) := (SB.of s).at
section
variable {P : Program} {w : World} {K : PySem.W.Frag} {mg : Str → Option Value} {base : Heap} {CL CD : Addr}
/-! ### Desk -/
abbrev sDI : Stmt := inClass (top 63) 0
def spDI (CD : Addr) : Sp := fun vs H Q _ => ∃ (p dx : Addr), vs = [.ref p] ∧ H p = some (.ins CD dx []) ∧ ∀ H', SB p H H' → DeskAt CD H' p Gq03.init → Q .non H'
theorem scDI : FnScope ["self"] ["self"] (defScope sDI) := ⟨rfl, rfl, rfl, by decide +kernel, rfl, by decide +kernel, by decide +kernel⟩
theorem ok_DI {f : Addr} {fd : FuncData} (F : Fun K "__init__" "Desk.__init__" sDI f fd) (T : Txt K mg CL CD) : FnOk P w K mg base CX0 1 f fd ["self"] (spDI CD) := by
  refine F.ok scDI (fun vs H Q E h => ?_) (fun cdv A outer s H vs Q E hr h => ⟨_, pss_cons (ps_fld (pv 0) (pe_lst pa_nil) rfl) (pss_one (ps_fld (pv 0) (pe_lst pa_nil) rfl)), ?_⟩)
  · obtain ⟨p, dx, rfl, _⟩ := h
    rfl
  · obtain ⟨p, dx, rfl, hp, q⟩ := h
    refine ⟨by show 0 ≤ sizeLine; decide, fun l1 n1 => ?_⟩
    have s1 := Same.new (o := .lst []) n1
    refine ⟨_, rfl, p, CD, dx, _, rfl, s1 _ _ hp, T.cD, T.dT, (by show 0 < 1000; decide), ?_⟩
    have ne1 : l1 ≠ p := Ne.symm (ne_of_none hp n1)
    refine ⟨by show 0 ≤ sizeLine; decide, fun l2 n2 => ?_⟩
    have ne2 : l2 ≠ p := Ne.symm (ne_of_none upd_same n2)
    have ne3 : l1 ≠ l2 := ne_of_none (by rw [upd_ne ne1]; exact upd_same) n2
    refine ⟨_, rfl, p, CD, dx, _, rfl, by rw [upd_ne (Ne.symm ne2)]; exact upd_same, T.cD, T.dR, (by show 1 < 1000; decide), ?_⟩
    have b1 : SB p H (upd (upd H l1 (.lst [])) p (.ins CD dx (putF "told" (.ref l1) []))) := SB.put s1
    refine q _ ((b1.past (b1.free n2 ne2)).at) ⟨dx, l1, l2, ?_, ⟨[], ?_, .nil⟩, ⟨[], ?_, .nil⟩⟩
    · rw [upd_same, dF_new]
    · rw [upd_ne ne1, upd_ne ne3, upd_ne ne1]; exact upd_same
    · rw [upd_ne ne2]; exact upd_same
/-! ### tell -/
def spTell (CD : Addr) : Sp := fun vs H Q _ => ∃ (a : Addr) (v : V) (d : Gq03.Desk) (f : Fact), vs = [.ref a, v] ∧ DeskAt CD H a d ∧ d.facts.length ≤ 14 ∧ FV H v f ∧ Ans CD a H Q (Gq03.addFact d f)
theorem scTell : FnScope ["desk", "thing"] ["desk", "thing"] (defScope (top 64)) := ⟨rfl, rfl, rfl, by decide +kernel, rfl, by decide +kernel, by decide +kernel⟩
theorem ok_tell (T : Txt K mg CL CD) (D : Def K mg "tell" (top 64)) : Cal P w K mg base 1 "tell" ["desk", "thing"] (spTell CD) := by
  refine D.cal scTell (fun vs H Q E h => ?_) (fun _ _ _ _ _ _ us hl => match us, hl with | [_, _], _ => rfl) (fun f cdv A outer s H vs Q E hr h => ⟨_,
    pss_cons (ps_if (pt_cmpR (op_inF (u65 hr)) (pv 1) (pe_fld (pv 0) rfl) rfl) (pss_one (ps_ret (pe_lst (pa_cons (pe_gi T.TOLD) pa_nil)))) pss_nil)
    (pss_cons (ps_if (pt_cmpR op_eqN (pe_callB call_len_seq (by rfl) T.len PySem.boot_len (pa_cons (pe_fld (pv 0) rfl) pa_nil)) (pe_gi T.MOST_TOLD) (nomark _)) (pss_one (ps_ret (pe_lst (pa_cons (pe_gi T.TOO_MANY) pa_nil)))) pss_nil)
    (pss_cons (ps_fld (pv 0) (pe_op op_cat (pe_fld (pv 0) rfl) (pe_lst (pa_cons (pv 1) pa_nil))) rfl)
    (pss_one (ps_ret (pe_lst (pa_cons (pe_op op_sub (pe_callB call_len_seq (by rfl) T.len PySem.boot_len (pa_cons (pe_fld (pv 0) rfl) pa_nil)) pe_int) pa_nil)))))), ?_⟩)
  · obtain ⟨a, v, d, f, rfl, _⟩ := h
    rfl
  · obtain ⟨a, v, d, f, rfl, hD, hlen, hv, q⟩ := h
    obtain ⟨dx, tl, ar, ea, hF, hR⟩ := id hD
    obtain ⟨vs, hvs, hp⟩ := id hF
    have vlen := pr_len hp
    unfold Gq03.addFact at q
    refine ⟨_, rfl, _, rfl, a, CD, dx, _, _, rfl, ea, T.cD, T.dT, dF_t, f, d.facts, tl, hv, rfl, hF, _, rfl, ?_⟩
    refine iB (fun hc => ?_) (fun hc => ?_)
    · rw [if_pos hc] at q
      exact ⟨by show 1 ≤ sizeLine; decide, fun p np => q.ask hD (Same.new np) np upd_same⟩
    rw [if_neg (by rw [hc]; exact Bool.false_ne_true)] at q
    refine ⟨_, rfl, a, CD, dx, _, _, rfl, ea, T.cD, T.dT, dF_t, tl, vs, rfl, .inl (SqL.of hvs), vs.length, 14, rfl, rfl, _, rfl, ?_⟩
    refine iB (fun hc => ?_) (fun hc => ?_)
    · have h14 := of_decide_eq_true hc
      rw [if_pos (by omega)] at q
      exact ⟨by show 1 ≤ sizeLine; decide, fun p np => q.ask hD (Same.new np) np upd_same⟩
    have h14 := of_decide_eq_false hc
    rw [if_neg (by omega)] at q
    refine ⟨_, rfl, a, CD, dx, _, _, rfl, ea, T.cD, T.dT, dF_t, _, rfl, by show 1 ≤ sizeLine; decide, fun l1 n1 => ?_⟩
    have s1 := Same.new (o := .lst [v]) n1
    refine ⟨tl, l1, vs, [v], rfl, rfl, s1 _ _ hvs, upd_same, line1000 (by rw [List.length_singleton]; omega), fun l2 n2 => ?_⟩
    have s2 := Same.new (o := .lst (vs ++ [v])) n2
    have s12 := s1.trans s2
    refine ⟨_, rfl, a, CD, dx, _, rfl, s12 _ _ ea, T.cD, T.dT, (by show 2 < 1000; decide), ?_⟩
    have hD3 := DeskAt.put (t2 := l2) (d := d) (s12 _ _ ea) (hR.same s12) ⟨_, upd_same, pr_app (fvs_ts hp (TupS.of s12)) (pr_one (hv.ts (TupS.of s12)))⟩
    rw [dF_pt]
    have e2 : (upd (upd (upd H l1 (.lst [v])) l2 (.lst (vs ++ [v]))) a (.ins CD dx (dF l2 ar))) l2 = some (.lst (vs ++ [v])) := by
      rw [upd_ne (Ne.symm (ne_of_none (s1 _ _ ea) n2))]; exact upd_same
    refine ⟨_, rfl, a, CD, dx, _, _, rfl, upd_same, T.cD, T.dT, dF_t, l2, vs ++ [v], rfl, .inl (SqL.of e2), _, 1, rfl, rfl, by show 1 ≤ sizeLine; decide, fun p np => ?_⟩
    have sp := Same.new (o := .lst [V.int (((vs ++ [v]).length : Int) - 1)]) np
    have b3 : SB a H (upd (upd (upd H l1 (.lst [v])) l2 (.lst (vs ++ [v]))) a (.ins CD dx (dF l2 ar))) := SB.put s12
    have npa : p ≠ a := Ne.symm (ne_of_none upd_same np)
    refine q p _ (b3.trans sp) (.put ea (sp _ _ upd_same) (.inr (s1.free n2)) (.inl rfl)) (hD3.same sp) (b3.free np npa) ?_
    have e3 : (((vs ++ [v]).length : Int) - 1) = ((d.facts.length : Nat) : Int) := by rw [List.length_append, List.length_singleton]; omega
    show OL (upd _ p (.lst [V.int (((vs ++ [v]).length : Int) - 1)])) p _
    rw [e3]
    exact upd_same
/-! ### tell_kind, tell_edge -/
theorem nt {b : Bool} (h : (!b) = true) : b = false := by cases b <;> simp_all
theorem nf {b : Bool} (h : (!b) = false) : b = true := by cases b <;> simp_all
theorem in_of {n : Nat} {l : List Nat} (h : l.contains n = true) : n ∈ l := List.contains_iff_mem.mp h
theorem kinds_no {k : Nat} (h : ([1, 2, 3, 4, 5, 6] : List Nat).contains k = false) : k = 0 ∨ 6 < k := by
  by_cases c : k = 0 ∨ 6 < k
  · exact c
  · have : k ∈ ([1, 2, 3, 4, 5, 6] : List Nat) := by
      simp only [List.mem_cons, List.not_mem_nil, or_false]; omega
    rw [List.contains_iff_mem.mpr this] at h
    cases h
theorem kinds_yes {k : Nat} (h : ([1, 2, 3, 4, 5, 6] : List Nat).contains k = true) : ¬ (k = 0 ∨ 6 < k) := by
  have := in_of h
  simp only [List.mem_cons, List.not_mem_nil, or_false] at this
  omega
theorem labels_no {k : Nat} (h : ([1, 2, 3, 4] : List Nat).contains k = false) : k = 0 ∨ 4 < k := by
  by_cases c : k = 0 ∨ 4 < k
  · exact c
  · have : k ∈ ([1, 2, 3, 4] : List Nat) := by
      simp only [List.mem_cons, List.not_mem_nil, or_false]; omega
    rw [List.contains_iff_mem.mpr this] at h
    cases h
theorem labels_yes {k : Nat} (h : ([1, 2, 3, 4] : List Nat).contains k = true) : ¬ (k = 0 ∨ 4 < k) := by
  have := in_of h
  simp only [List.mem_cons, List.not_mem_nil, or_false] at this
  omega
def spTellK (CD : Addr) : Sp := fun vs H Q _ => ∃ (a : Addr) (d : Gq03.Desk) (x k : Nat), vs = [.ref a, vi x, vi k] ∧ DeskAt CD H a d ∧ OkDesk d ∧ Ans CD a H Q (Gq03.step d (.kind x k))
theorem scTellK : FnScope ["desk", "x", "k"] ["desk", "x", "k"] (defScope (top 65)) := ⟨rfl, rfl, rfl, by decide +kernel, rfl, by decide +kernel, by decide +kernel⟩
theorem ok_tellK (T : Txt K mg CL CD) (cT : Cal P w K mg base 1 "tell" ["desk", "thing"] (spTell CD)) (D : Def K mg "tell_kind" (top 65)) : Cal P w K mg base 2 "tell_kind" ["desk", "x", "k"] (spTellK CD) := by
  refine D.cal scTellK (fun vs H Q E h => ?_) (fun _ _ _ _ _ _ us hl => match us, hl with | [_, _, _], _ => rfl) (fun f cdv A outer s H vs Q E hr h => ⟨_,
    pss_cons (ps_if (PW.pt (pw_or (pt_cmpR op_notInN (pv 1) (pe_gt T.NODES) rfl) (pw_or1 (pt_cmpR op_notInN (pv 2) (pe_gt T.KINDS) rfl)))) (pss_one (ps_ret (pe_lst (pa_cons (pe_gi T.BEYOND) pa_nil)))) pss_nil)
    (pss_one (ps_ret (pe_cal cT hr rfl (pa_cons (pv 0) (pa_cons (pe_tup (pa_cons (pe_gi T.KIND) (pa_cons (pv 1) (pa_cons (pv 2) pa_nil)))) pa_nil))))), ?_⟩)
  · obtain ⟨a, d, x, k, rfl, _⟩ := h
    rfl
  · obtain ⟨a, d, x, k, rfl, hD, ok, q⟩ := h
    change Ans CD a H Q (if Gq03.isNode x = false ∨ k = 0 ∨ 6 < k then (d, [-1]) else Gq03.addFact d (.kind x k)) at q
    refine ⟨_, rfl, fun an hn => ⟨x, _, an, rfl, rfl, .inr (hn _), _, rfl, ?_⟩⟩
    refine iB (fun hc => ?_) (fun hc => ?_)
    · rw [if_pos (.inl (nt hc))] at q
      exact iT rfl ⟨by show 1 ≤ sizeLine; decide, fun p np => q.ask hD (Same.new np) np upd_same⟩
    refine ⟨_, rfl, fun ak hk => ⟨k, _, ak, rfl, rfl, .inr (hk _), _, rfl, ?_⟩⟩
    refine iB (fun hc2 => ?_) (fun hc2 => ?_)
    · rw [if_pos (.inr (kinds_no (nt hc2)))] at q
      exact ⟨by show 1 ≤ sizeLine; decide, fun p np => q.ask hD (Same.new np) np upd_same⟩
    have e1 : ¬ (Gq03.isNode x = false ∨ k = 0 ∨ 6 < k) := fun z => z.elim (fun z => by rw [show Gq03.isNode x = true from nf hc] at z; cases z) (kinds_yes (nf hc2))
    rw [if_neg e1] at q
    refine ⟨_, rfl, _, rfl, _, rfl, by show 3 ≤ sizeLine; decide, fun t1 n1 => ?_⟩
    have s1 := Same.new (o := .tup [.int 0, vi x, vi k]) n1
    exact ⟨a, .ref t1, d, .kind x k, rfl, hD.same s1, ok.flen, ⟨t1, rfl, upd_same⟩, q.same s1⟩
def spTellE (CD : Addr) : Sp := fun vs H Q _ => ∃ (a : Addr) (d : Gq03.Desk) (x l y : Nat), vs = [.ref a, vi x, vi l, vi y] ∧ DeskAt CD H a d ∧ OkDesk d ∧ Ans CD a H Q (Gq03.step d (.edge x l y))
theorem scTellE : FnScope ["desk", "x", "a", "y"] ["desk", "x", "a", "y"] (defScope (top 66)) := ⟨rfl, rfl, rfl, by decide +kernel, rfl, by decide +kernel, by decide +kernel⟩
theorem ok_tellE (T : Txt K mg CL CD) (cT : Cal P w K mg base 1 "tell" ["desk", "thing"] (spTell CD)) (D : Def K mg "tell_edge" (top 66)) : Cal P w K mg base 2 "tell_edge" ["desk", "x", "a", "y"] (spTellE CD) := by
  refine D.cal scTellE (fun vs H Q E h => ?_) (fun _ _ _ _ _ _ us hl => match us, hl with | [_, _, _, _], _ => rfl) (fun f cdv A outer s H vs Q E hr h => ⟨_,
    pss_cons (ps_if (PW.pt (pw_or (pt_cmpR op_notInN (pv 1) (pe_gt T.NODES) rfl) (pw_or (pt_cmpR op_notInN (pv 3) (pe_gt T.NODES) rfl) (pw_or1 (pt_cmpR op_notInN (pv 2) (pe_gt T.LABELS) rfl))))) (pss_one (ps_ret (pe_lst (pa_cons (pe_gi T.BEYOND) pa_nil)))) pss_nil)
    (pss_one (ps_ret (pe_cal cT hr rfl (pa_cons (pv 0) (pa_cons (pe_tup (pa_cons (pe_gi T.EDGE) (pa_cons (pv 1) (pa_cons (pv 2) (pa_cons (pv 3) pa_nil))))) pa_nil))))), ?_⟩)
  · obtain ⟨a, d, x, l, y, rfl, _⟩ := h
    rfl
  · obtain ⟨a, d, x, l, y, rfl, hD, ok, q⟩ := h
    change Ans CD a H Q (if Gq03.isNode x = false ∨ Gq03.isNode y = false ∨ l = 0 ∨ 4 < l then (d, [-1]) else Gq03.addFact d (.edge x l y)) at q
    refine ⟨_, rfl, fun an hn => ⟨x, _, an, rfl, rfl, .inr (hn _), _, rfl, ?_⟩⟩
    refine iB (fun hc => ?_) (fun hc => ?_)
    · rw [if_pos (.inl (nt hc))] at q
      exact iT rfl ⟨by show 1 ≤ sizeLine; decide, fun p np => q.ask hD (Same.new np) np upd_same⟩
    refine ⟨_, rfl, fun an hn => ⟨y, _, an, rfl, rfl, .inr (hn _), _, rfl, ?_⟩⟩
    refine iB (fun hc1 => ?_) (fun hc1 => ?_)
    · rw [if_pos (.inr (.inl (nt hc1)))] at q
      exact iT rfl ⟨by show 1 ≤ sizeLine; decide, fun p np => q.ask hD (Same.new np) np upd_same⟩
    refine ⟨_, rfl, fun ak hk => ⟨l, _, ak, rfl, rfl, .inr (hk _), _, rfl, ?_⟩⟩
    refine iB (fun hc2 => ?_) (fun hc2 => ?_)
    · rw [if_pos (.inr (.inr (labels_no (nt hc2))))] at q
      exact ⟨by show 1 ≤ sizeLine; decide, fun p np => q.ask hD (Same.new np) np upd_same⟩
    have e1 : ¬ (Gq03.isNode x = false ∨ Gq03.isNode y = false ∨ l = 0 ∨ 4 < l) := fun z => z.elim (fun z => by rw [show Gq03.isNode x = true from nf hc] at z; cases z)
      fun z => z.elim (fun z => by rw [show Gq03.isNode y = true from nf hc1] at z; cases z) (labels_yes (nf hc2))
    rw [if_neg e1] at q
    refine ⟨_, rfl, _, rfl, _, rfl, _, rfl, by show 4 ≤ sizeLine; decide, fun t1 n1 => ?_⟩
    have s1 := Same.new (o := .tup [.int 1, vi x, vi l, vi y]) n1
    exact ⟨a, .ref t1, d, .edge x l y, rfl, hD.same s1, ok.flen, ⟨t1, rfl, upd_same⟩, q.same s1⟩
/-! ### drop, strike -/
def spDrop (CD : Addr) : Sp := fun vs H Q _ => ∃ (a : Addr) (d : Gq03.Desk) (n : Nat), vs = [.ref a, vi n] ∧ DeskAt CD H a d ∧ OkDesk d ∧ Ans CD a H Q (Gq03.step d (.drop n))
theorem scDrop : FnScope ["desk", "n"] ["desk", "n"] (defScope (top 67)) := ⟨rfl, rfl, rfl, by decide +kernel, rfl, by decide +kernel, by decide +kernel⟩
theorem ok_drop (T : Txt K mg CL CD) (D : Def K mg "drop" (top 67)) : Cal P w K mg base 1 "drop" ["desk", "n"] (spDrop CD) := by
  refine D.cal scDrop (fun vs H Q E h => ?_) (fun _ _ _ _ _ _ us hl => match us, hl with | [_, _], _ => rfl) (fun f cdv A outer s H vs Q E hr h => ⟨_,
    pss_cons (ps_if (pt_cmpR op_ge (pv 1) (pe_callB call_len_seq (by rfl) T.len PySem.boot_len (pa_cons (pe_fld (pv 0) rfl) pa_nil)) (nomark _)) (pss_one (ps_ret (pe_lst (pa_cons (pe_gi T.NO_SUCH) pa_nil)))) pss_nil)
    (pss_cons (ps_fld (pv 0) (pe_op op_cat (pe_slice sl_list (pe_fld (pv 0) rfl) po_none (po_some (pv 1))) (pe_slice sl_list (pe_fld (pv 0) rfl) (po_some (pe_op op_add (pv 1) pe_int)) po_none)) rfl)
    (pss_one (ps_ret (pe_lst (pa_cons (pe_callB call_len_seq (by rfl) T.len PySem.boot_len (pa_cons (pe_fld (pv 0) rfl) pa_nil)) pa_nil))))), ?_⟩)
  · obtain ⟨a, d, n, rfl, _⟩ := h
    rfl
  · obtain ⟨a, d, n, rfl, hD, ok, q⟩ := h
    obtain ⟨dx, tl, ar, ea, hF, hR⟩ := id hD
    obtain ⟨vs, hvs, hp⟩ := id hF
    have vlen := pr_len hp
    have flen := ok.flen
    change Ans CD a H Q (if d.facts.length ≤ n then (d, [-2]) else ({ d with facts := Gq03.without n d.facts }, Gq03.ints [d.facts.length - 1])) at q
    refine ⟨_, rfl, _, rfl, a, CD, dx, _, _, rfl, ea, T.cD, T.dT, dF_t, tl, vs, rfl, .inl (SqL.of hvs), n, vs.length, rfl, rfl, _, rfl, ?_⟩
    refine iB (fun hc => ?_) (fun hc => ?_)
    · have h1 := of_decide_eq_true hc
      rw [if_pos (by omega)] at q
      exact ⟨by show 1 ≤ sizeLine; decide, fun p np => q.ask hD (Same.new np) np upd_same⟩
    have h1 := of_decide_eq_false hc
    have hn : n < d.facts.length := by omega
    rw [if_neg (by omega)] at q
    refine ⟨_, rfl, a, CD, dx, _, _, rfl, ea, T.cD, T.dT, dF_t, _, rfl, _, rfl, tl, vs, rfl, SqL.of hvs, fun l1 n1 => ?_⟩
    rw [cut_to]
    have s1 := Same.new (o := .lst (vs.take n)) n1
    refine ⟨_, rfl, a, CD, dx, _, _, rfl, s1 _ _ ea, T.cD, T.dT, dF_t, _, rfl, (n : Int), 1, rfl, rfl, _, rfl, tl, vs, rfl, SqL.of (s1 _ _ hvs), fun l2 n2 => ?_⟩
    have ec : cutV vs (some ((n : Int) + 1)) none = vs.drop (n + 1) := cut_from vs (n + 1)
    rw [ec]
    have s2 := Same.new (o := .lst (vs.drop (n + 1))) n2
    refine ⟨l1, l2, vs.take n, vs.drop (n + 1), rfl, rfl, s2 _ _ upd_same, upd_same, ?_, fun l3 n3 => ?_⟩
    · rw [List.length_take, List.length_drop]
      exact line1000 (by omega)
    have s3 := Same.new (o := .lst (vs.take n ++ vs.drop (n + 1))) n3
    have s123 := (s1.trans s2).trans s3
    refine ⟨_, rfl, a, CD, dx, _, rfl, s123 _ _ ea, T.cD, T.dT, (by show 2 < 1000; decide), ?_⟩
    have hF3 : FL (upd (upd (upd H l1 (.lst (vs.take n))) l2 (.lst (vs.drop (n + 1)))) l3 (.lst (vs.take n ++ vs.drop (n + 1)))) l3 (Gq03.without n d.facts) :=
      ⟨_, upd_same, pr_app (pr_take n (fvs_ts hp (TupS.of s123))) (pr_drop (n + 1) (fvs_ts hp (TupS.of s123)))⟩
    have hD3 := DeskAt.put (t2 := l3) (d := d) (s123 _ _ ea) (hR.same s123) hF3
    rw [dF_pt]
    have n3a : l3 ≠ a := Ne.symm (ne_of_none ((s1.trans s2) _ _ ea) n3)
    have e2 : (upd (upd (upd (upd H l1 (.lst (vs.take n))) l2 (.lst (vs.drop (n + 1)))) l3 (.lst (vs.take n ++ vs.drop (n + 1)))) a (.ins CD dx (dF l3 ar))) l3 = some (.lst (vs.take n ++ vs.drop (n + 1))) := by
      rw [upd_ne n3a]; exact upd_same
    refine ⟨_, rfl, a, CD, dx, _, _, rfl, upd_same, T.cD, T.dT, dF_t, l3, _, rfl, .inl (SqL.of e2), by show 1 ≤ sizeLine; decide, fun p np => ?_⟩
    have b3 : SB a H (upd (upd (upd (upd H l1 (.lst (vs.take n))) l2 (.lst (vs.drop (n + 1)))) l3 (.lst (vs.take n ++ vs.drop (n + 1)))) a (.ins CD dx (dF l3 ar))) := SB.put s123
    have npa : p ≠ a := Ne.symm (ne_of_none upd_same np)
    have e3 : (vs.take n ++ vs.drop (n + 1)).length = d.facts.length - 1 := by rw [List.length_append, List.length_take, List.length_drop]; omega
    rw [e3]
    exact q p _ (b3.trans (Same.new np)) (.put ea (Same.new np _ _ upd_same) (.inr ((s1.trans s2).free n3)) (.inl rfl)) (hD3.same (Same.new np)) (b3.free np npa) upd_same
def spStrike (CD : Addr) : Sp := fun vs H Q _ => ∃ (a : Addr) (d : Gq03.Desk) (n : Nat), vs = [.ref a, vi n] ∧ DeskAt CD H a d ∧ OkDesk d ∧ Ans CD a H Q (Gq03.step d (.strike n))
theorem scStrike : FnScope ["desk", "n"] ["desk", "n"] (defScope (top 71)) := ⟨rfl, rfl, rfl, by decide +kernel, rfl, by decide +kernel, by decide +kernel⟩
theorem ok_strike (T : Txt K mg CL CD) (D : Def K mg "strike" (top 71)) : Cal P w K mg base 1 "strike" ["desk", "n"] (spStrike CD) := by
  refine D.cal scStrike (fun vs H Q E h => ?_) (fun _ _ _ _ _ _ us hl => match us, hl with | [_, _], _ => rfl) (fun f cdv A outer s H vs Q E hr h => ⟨_,
    pss_cons (ps_if (pt_cmpR op_ge (pv 1) (pe_callB call_len_seq (by rfl) T.len PySem.boot_len (pa_cons (pe_fld (pv 0) rfl) pa_nil)) (nomark _)) (pss_one (ps_ret (pe_lst (pa_cons (pe_gi T.NO_SUCH) pa_nil)))) pss_nil)
    (pss_cons (ps_fld (pv 0) (pe_op op_cat (pe_slice sl_list (pe_fld (pv 0) rfl) po_none (po_some (pv 1))) (pe_slice sl_list (pe_fld (pv 0) rfl) (po_some (pe_op op_add (pv 1) pe_int)) po_none)) rfl)
    (pss_one (ps_ret (pe_lst (pa_cons (pe_callB call_len_seq (by rfl) T.len PySem.boot_len (pa_cons (pe_fld (pv 0) rfl) pa_nil)) pa_nil))))), ?_⟩)
  · obtain ⟨a, d, n, rfl, _⟩ := h
    rfl
  · obtain ⟨a, d, n, rfl, hD, ok, q⟩ := h
    obtain ⟨dx, tl, ar, ea, hF, hR⟩ := id hD
    obtain ⟨vs, hvs, hp⟩ := id hR
    have vlen := pr_len hp
    have rlen := ok.rlen
    change Ans CD a H Q (if d.rules.length ≤ n then (d, [-2]) else ({ d with rules := Gq03.without n d.rules }, Gq03.ints [d.rules.length - 1])) at q
    refine ⟨_, rfl, _, rfl, a, CD, dx, _, _, rfl, ea, T.cD, T.dR, dF_r, ar, vs, rfl, .inl (SqL.of hvs), n, vs.length, rfl, rfl, _, rfl, ?_⟩
    refine iB (fun hc => ?_) (fun hc => ?_)
    · have h1 := of_decide_eq_true hc
      rw [if_pos (by omega)] at q
      exact ⟨by show 1 ≤ sizeLine; decide, fun p np => q.ask hD (Same.new np) np upd_same⟩
    have h1 := of_decide_eq_false hc
    have hn : n < d.rules.length := by omega
    rw [if_neg (by omega)] at q
    refine ⟨_, rfl, a, CD, dx, _, _, rfl, ea, T.cD, T.dR, dF_r, _, rfl, _, rfl, ar, vs, rfl, SqL.of hvs, fun l1 n1 => ?_⟩
    rw [cut_to]
    have s1 := Same.new (o := .lst (vs.take n)) n1
    refine ⟨_, rfl, a, CD, dx, _, _, rfl, s1 _ _ ea, T.cD, T.dR, dF_r, _, rfl, (n : Int), 1, rfl, rfl, _, rfl, ar, vs, rfl, SqL.of (s1 _ _ hvs), fun l2 n2 => ?_⟩
    have ec : cutV vs (some ((n : Int) + 1)) none = vs.drop (n + 1) := cut_from vs (n + 1)
    rw [ec]
    have s2 := Same.new (o := .lst (vs.drop (n + 1))) n2
    refine ⟨l1, l2, vs.take n, vs.drop (n + 1), rfl, rfl, s2 _ _ upd_same, upd_same, ?_, fun l3 n3 => ?_⟩
    · rw [List.length_take, List.length_drop]
      exact line1000 (by omega)
    have s3 := Same.new (o := .lst (vs.take n ++ vs.drop (n + 1))) n3
    have s123 := (s1.trans s2).trans s3
    refine ⟨_, rfl, a, CD, dx, _, rfl, s123 _ _ ea, T.cD, T.dR, (by show 2 < 1000; decide), ?_⟩
    have hF3 : RL (upd (upd (upd H l1 (.lst (vs.take n))) l2 (.lst (vs.drop (n + 1)))) l3 (.lst (vs.take n ++ vs.drop (n + 1)))) l3 (Gq03.without n d.rules) :=
      ⟨_, upd_same, pr_app (pr_take n (rvs_ts hp (TupS.of s123))) (pr_drop (n + 1) (rvs_ts hp (TupS.of s123)))⟩
    have hD3 := DeskAt.putR (r2 := l3) (d := d) (s123 _ _ ea) (hF.same s123) hF3
    rw [dF_pr]
    have n3a : l3 ≠ a := Ne.symm (ne_of_none ((s1.trans s2) _ _ ea) n3)
    have e2 : (upd (upd (upd (upd H l1 (.lst (vs.take n))) l2 (.lst (vs.drop (n + 1)))) l3 (.lst (vs.take n ++ vs.drop (n + 1)))) a (.ins CD dx (dF tl l3))) l3 = some (.lst (vs.take n ++ vs.drop (n + 1))) := by
      rw [upd_ne n3a]; exact upd_same
    refine ⟨_, rfl, a, CD, dx, _, _, rfl, upd_same, T.cD, T.dR, dF_r, l3, _, rfl, .inl (SqL.of e2), by show 1 ≤ sizeLine; decide, fun p np => ?_⟩
    have b3 : SB a H (upd (upd (upd (upd H l1 (.lst (vs.take n))) l2 (.lst (vs.drop (n + 1)))) l3 (.lst (vs.take n ++ vs.drop (n + 1)))) a (.ins CD dx (dF tl l3))) := SB.put s123
    have npa : p ≠ a := Ne.symm (ne_of_none upd_same np)
    have e3 : (vs.take n ++ vs.drop (n + 1)).length = d.rules.length - 1 := by rw [List.length_append, List.length_take, List.length_drop]; omega
    rw [e3]
    exact q p _ (b3.trans (Same.new np)) (.put ea (Same.new np _ _ upd_same) (.inl rfl) (.inr ((s1.trans s2).free n3))) (hD3.same (Same.new np)) (b3.free np npa) upd_same
/-! ### add_rule, rule_of_basics, rule_of_directions -/
def spAddR (CD : Addr) : Sp := fun vs H Q _ => ∃ (a : Addr) (v : V) (d : Gq03.Desk) (f : Rule), vs = [.ref a, v] ∧ DeskAt CD H a d ∧ d.rules.length ≤ 12 ∧ RV H v f ∧ Ans CD a H Q (Gq03.addRule d f)
theorem scAddR : FnScope ["desk", "rule"] ["desk", "rule"] (defScope (top 68)) := ⟨rfl, rfl, rfl, by decide +kernel, rfl, by decide +kernel, by decide +kernel⟩
theorem ok_addR (T : Txt K mg CL CD) (D : Def K mg "add_rule" (top 68)) : Cal P w K mg base 1 "add_rule" ["desk", "rule"] (spAddR CD) := by
  refine D.cal scAddR (fun vs H Q E h => ?_) (fun _ _ _ _ _ _ us hl => match us, hl with | [_, _], _ => rfl) (fun f cdv A outer s H vs Q E hr h => ⟨_,
    pss_cons (ps_if (pt_cmpR op_eqN (pe_callB call_len_seq (by rfl) T.len PySem.boot_len (pa_cons (pe_fld (pv 0) rfl) pa_nil)) (pe_gi T.MOST_RULES) (nomark _)) (pss_one (ps_ret (pe_lst (pa_cons (pe_gi T.TOO_MANY) pa_nil)))) pss_nil)
    (pss_cons (ps_fld (pv 0) (pe_op op_cat (pe_fld (pv 0) rfl) (pe_lst (pa_cons (pv 1) pa_nil))) rfl)
    (pss_one (ps_ret (pe_lst (pa_cons (pe_op op_sub (pe_callB call_len_seq (by rfl) T.len PySem.boot_len (pa_cons (pe_fld (pv 0) rfl) pa_nil)) pe_int) pa_nil))))), ?_⟩)
  · obtain ⟨a, v, d, f, rfl, _⟩ := h
    rfl
  · obtain ⟨a, v, d, f, rfl, hD, hlen, hv, q⟩ := h
    obtain ⟨dx, tl, ar, ea, hF, hR⟩ := id hD
    obtain ⟨vs, hvs, hp⟩ := id hR
    have vlen := pr_len hp
    unfold Gq03.addRule at q
    refine ⟨_, rfl, a, CD, dx, _, _, rfl, ea, T.cD, T.dR, dF_r, ar, vs, rfl, .inl (SqL.of hvs), vs.length, 12, rfl, rfl, _, rfl, ?_⟩
    refine iB (fun hc => ?_) (fun hc => ?_)
    · have h14 := of_decide_eq_true hc
      rw [if_pos (by omega)] at q
      exact ⟨by show 1 ≤ sizeLine; decide, fun p np => q.ask hD (Same.new np) np upd_same⟩
    have h14 := of_decide_eq_false hc
    rw [if_neg (by omega)] at q
    refine ⟨_, rfl, a, CD, dx, _, _, rfl, ea, T.cD, T.dR, dF_r, _, rfl, by show 1 ≤ sizeLine; decide, fun l1 n1 => ?_⟩
    have s1 := Same.new (o := .lst [v]) n1
    refine ⟨ar, l1, vs, [v], rfl, rfl, s1 _ _ hvs, upd_same, line1000 (by rw [List.length_singleton]; omega), fun l2 n2 => ?_⟩
    have s2 := Same.new (o := .lst (vs ++ [v])) n2
    have s12 := s1.trans s2
    refine ⟨_, rfl, a, CD, dx, _, rfl, s12 _ _ ea, T.cD, T.dR, (by show 2 < 1000; decide), ?_⟩
    have hD3 := DeskAt.putR (r2 := l2) (d := d) (s12 _ _ ea) (hF.same s12) ⟨_, upd_same, pr_app (rvs_ts hp (TupS.of s12)) (pr_one (hv.ts (TupS.of s12)))⟩
    rw [dF_pr]
    have e2 : (upd (upd (upd H l1 (.lst [v])) l2 (.lst (vs ++ [v]))) a (.ins CD dx (dF tl l2))) l2 = some (.lst (vs ++ [v])) := by
      rw [upd_ne (Ne.symm (ne_of_none (s1 _ _ ea) n2))]; exact upd_same
    refine ⟨_, rfl, a, CD, dx, _, _, rfl, upd_same, T.cD, T.dR, dF_r, l2, vs ++ [v], rfl, .inl (SqL.of e2), _, 1, rfl, rfl, by show 1 ≤ sizeLine; decide, fun p np => ?_⟩
    have sp := Same.new (o := .lst [V.int (((vs ++ [v]).length : Int) - 1)]) np
    have b3 : SB a H (upd (upd (upd H l1 (.lst [v])) l2 (.lst (vs ++ [v]))) a (.ins CD dx (dF tl l2))) := SB.put s12
    have npa : p ≠ a := Ne.symm (ne_of_none upd_same np)
    refine q p _ (b3.trans sp) (.put ea (sp _ _ upd_same) (.inl rfl) (.inr (s1.free n2))) (hD3.same sp) (b3.free np npa) ?_
    have e3 : (((vs ++ [v]).length : Int) - 1) = ((d.rules.length : Nat) : Int) := by rw [List.length_append, List.length_singleton]; omega
    show OL (upd _ p (.lst [V.int (((vs ++ [v]).length : Int) - 1)])) p _
    rw [e3]
    exact upd_same
def mkB (sort : Nat) (b c : Basic) : Rule := if sort = 0 then .sub b c else .never b c
def mkD (sort : Nat) (r s : Nat) : Rule := if sort = 1 then .role r s else .neverRole r s
def stB (sort : Nat) (d : Gq03.Desk) (b c : Basic) : Gq03.Desk × List Int := if Gq03.isBasic b = false ∨ Gq03.isBasic c = false then (d, [-1]) else Gq03.addRule d (mkB sort b c)
def stD (sort : Nat) (d : Gq03.Desk) (r s : Nat) : Gq03.Desk × List Int := if Gq03.isRole r = false ∨ Gq03.isRole s = false then (d, [-1]) else Gq03.addRule d (mkD sort r s)
def spRoB (CD : Addr) : Sp := fun vs H Q _ => ∃ (a : Addr) (v u : V) (d : Gq03.Desk) (sort s n t m : Nat), vs = [.ref a, vi sort, v, u] ∧ (sort = 0 ∨ sort = 2) ∧ DeskAt CD H a d ∧ OkDesk d ∧ TV H v s n ∧ TV H u t m ∧ Ans CD a H Q (stB sort d (Gq03Neutral.basic s n) (Gq03Neutral.basic t m))
theorem scRoB : FnScope ["desk", "sort", "b", "c"] ["desk", "sort", "b", "c"] (defScope (top 69)) := ⟨rfl, rfl, rfl, by decide +kernel, rfl, by decide +kernel, by decide +kernel⟩
theorem ok_roB (T : Txt K mg CL CD) (cI : Cal P w K mg base 1 "is_basic" ["b"] spIsBasic) (cA : Cal P w K mg base 1 "add_rule" ["desk", "rule"] (spAddR CD)) (D : Def K mg "rule_of_basics" (top 69)) : Cal P w K mg base 2 "rule_of_basics" ["desk", "sort", "b", "c"] (spRoB CD) := by
  refine D.cal scRoB (fun vs H Q E h => ?_) (fun _ _ _ _ _ _ us hl => match us, hl with | [_, _, _, _], _ => rfl) (fun f cdv A outer s H vs Q E hr h => ⟨_,
    pss_cons (ps_if (PW.pt (pw_or (pt_not (pt_val (pe_cal cI hr rfl (pa_cons (pv 2) pa_nil)))) (pw_or1 (pt_not (pt_val (pe_cal cI hr rfl (pa_cons (pv 3) pa_nil))))))) (pss_one (ps_ret (pe_lst (pa_cons (pe_gi T.BEYOND) pa_nil)))) pss_nil)
    (pss_one (ps_ret (pe_cal cA hr rfl (pa_cons (pv 0) (pa_cons (pe_tup (pa_cons (pv 1) (pa_cons (pv 2) (pa_cons (pv 3) pa_nil)))) pa_nil))))), ?_⟩)
  · obtain ⟨a, v, u, d, sort, s, n, t, m, rfl, _⟩ := h
    rfl
  · obtain ⟨a, v, u, d, sort, s, n, t, m, rfl, hso, hD, ok, hv, hu, q⟩ := h
    unfold stB at q
    refine ⟨_, rfl, v, s, n, rfl, hv, _, rfl, ?_⟩
    refine iB (fun hc => ?_) (fun hc => ?_)
    · rw [if_pos (.inl (by rw [← isB_eq]; exact nt hc))] at q
      exact iT rfl ⟨by show 1 ≤ sizeLine; decide, fun p np => q.ask hD (Same.new np) np upd_same⟩
    refine ⟨_, rfl, u, t, m, rfl, hu, _, rfl, ?_⟩
    refine iB (fun hc2 => ?_) (fun hc2 => ?_)
    · rw [if_pos (.inr (by rw [← isB_eq]; exact nt hc2))] at q
      exact ⟨by show 1 ≤ sizeLine; decide, fun p np => q.ask hD (Same.new np) np upd_same⟩
    have b1 := nf hc
    have b2 := nf hc2
    rw [if_neg (fun z => z.elim (fun z => by rw [← isB_eq, b1] at z; cases z) fun z => by rw [← isB_eq, b2] at z; cases z)] at q
    refine ⟨_, rfl, _, rfl, _, rfl, _, rfl, by show 3 ≤ sizeLine; decide, fun t1 n1 => ?_⟩
    have s1 := Same.new (o := .tup [vi sort, v, u]) n1
    refine ⟨a, .ref t1, d, _, rfl, hD.same s1, ok.rlen, ⟨t1, rfl, ?_⟩, q.same s1⟩
    have g1 := (hv.bv b1).1.ts (TupS.of s1)
    have g2 := (hu.bv b2).1.ts (TupS.of s1)
    rcases hso with rfl | rfl
    · exact ⟨v, u, upd_same, g1, g2⟩
    · exact ⟨v, u, upd_same, g1, g2⟩
def spRoD (CD : Addr) : Sp := fun vs H Q _ => ∃ (a : Addr) (d : Gq03.Desk) (sort r s : Nat), vs = [.ref a, vi sort, vi r, vi s] ∧ (sort = 1 ∨ sort = 3) ∧ DeskAt CD H a d ∧ OkDesk d ∧ Ans CD a H Q (stD sort d r s)
theorem scRoD : FnScope ["desk", "sort", "r", "s"] ["desk", "sort", "r", "s"] (defScope (top 70)) := ⟨rfl, rfl, rfl, by decide +kernel, rfl, by decide +kernel, by decide +kernel⟩
theorem ok_roD (T : Txt K mg CL CD) (cA : Cal P w K mg base 1 "add_rule" ["desk", "rule"] (spAddR CD)) (D : Def K mg "rule_of_directions" (top 70)) : Cal P w K mg base 2 "rule_of_directions" ["desk", "sort", "r", "s"] (spRoD CD) := by
  refine D.cal scRoD (fun vs H Q E h => ?_) (fun _ _ _ _ _ _ us hl => match us, hl with | [_, _, _, _], _ => rfl) (fun f cdv A outer s H vs Q E hr h => ⟨_,
    pss_cons (ps_if (PW.pt (pw_or (pt_cmpR op_notInN (pv 2) (pe_gt T.DIRECTIONS) rfl) (pw_or1 (pt_cmpR op_notInN (pv 3) (pe_gt T.DIRECTIONS) rfl)))) (pss_one (ps_ret (pe_lst (pa_cons (pe_gi T.BEYOND) pa_nil)))) pss_nil)
    (pss_one (ps_ret (pe_cal cA hr rfl (pa_cons (pv 0) (pa_cons (pe_tup (pa_cons (pv 1) (pa_cons (pv 2) (pa_cons (pv 3) pa_nil)))) pa_nil))))), ?_⟩)
  · obtain ⟨a, d, sort, r, s, rfl, _⟩ := h
    rfl
  · obtain ⟨a, d, sort, r, s, rfl, hso, hD, ok, q⟩ := h
    unfold stD at q
    refine ⟨_, rfl, fun an hn => ⟨r, _, an, rfl, rfl, .inr (hn _), _, rfl, ?_⟩⟩
    refine iB (fun hc => ?_) (fun hc => ?_)
    · rw [if_pos (.inl (nt hc))] at q
      exact iT rfl ⟨by show 1 ≤ sizeLine; decide, fun p np => q.ask hD (Same.new np) np upd_same⟩
    refine ⟨_, rfl, fun an hn => ⟨s, _, an, rfl, rfl, .inr (hn _), _, rfl, ?_⟩⟩
    refine iB (fun hc2 => ?_) (fun hc2 => ?_)
    · rw [if_pos (.inr (nt hc2))] at q
      exact ⟨by show 1 ≤ sizeLine; decide, fun p np => q.ask hD (Same.new np) np upd_same⟩
    rw [if_neg (fun z => z.elim (fun z => by rw [show Gq03.isRole r = true from nf hc] at z; cases z) fun z => by rw [show Gq03.isRole s = true from nf hc2] at z; cases z)] at q
    refine ⟨_, rfl, _, rfl, _, rfl, _, rfl, by show 3 ≤ sizeLine; decide, fun t1 n1 => ?_⟩
    have s1 := Same.new (o := .tup [vi sort, vi r, vi s]) n1
    refine ⟨a, .ref t1, d, _, rfl, hD.same s1, ok.rlen, ⟨t1, rfl, ?_⟩, q.same s1⟩
    rcases hso with rfl | rfl
    · exact upd_same
    · exact upd_same
/-! ### counted -/
theorem told_eq (l : List Nat) : (Gq03.told l).map V.int = vi l.length :: vis l := by
  unfold Gq03.told Gq03.ints
  rw [List.map_cons, List.map_cons, List.map_map]; rfl
def spCounted : Sp := fun vs H Q _ => ∃ (a : Addr) (l : List Nat), vs = [.ref a] ∧ IL H a l ∧ l.length ≤ 900 ∧ ∀ p H', Same H H' → H p = none → OL H' p (Gq03.told l) → Q (.ref p) H'
theorem scCounted : FnScope ["row"] ["row"] (defScope (top 72)) := ⟨rfl, rfl, rfl, by decide +kernel, rfl, by decide +kernel, by decide +kernel⟩
theorem ok_counted (T : Txt K mg CL CD) (D : Def K mg "counted" (top 72)) : Cal P w K mg base 1 "counted" ["row"] spCounted := by
  refine D.cal scCounted (fun vs H Q E h => ?_) (fun _ _ _ _ _ _ us hl => match us, hl with | [_], _ => rfl) (fun f cdv A outer s H vs Q E hr h => ⟨_,
    pss_one (ps_ret (pe_op op_cat (pe_lst (pa_cons (pe_callB call_len_seq (by rfl) T.len PySem.boot_len (pa_cons (pv 0) pa_nil)) pa_nil)) (pv 0))), ?_⟩)
  · obtain ⟨a, l, rfl, _⟩ := h
    rfl
  · obtain ⟨a, l, rfl, hl, hlen, q⟩ := h
    refine ⟨_, rfl, a, _, rfl, .inl (SqL.of hl), by show 1 ≤ sizeLine; decide, fun l1 n1 => ⟨_, rfl, l1, a, _, _, rfl, rfl, upd_same, (hl.same (Same.new n1)), ?_, fun p np => q p _ ((Same.new n1).trans (Same.new np)) ((Same.new n1).free np) ?_⟩⟩
    · have h1 : (vis l).length = l.length := vis_len l
      exact line1000 (show 1 + (vis l).length ≤ 1000 by rw [h1]; omega)
    · unfold OL
      rw [told_eq, upd_same, vis_len]
      rfl
end
end Wm

namespace Wm
open PySem PySem.Spec PyProof.Rows L2
open Gq03 (Basic Rule Fact)
theorem flag_eq (b : Bool) : (Gq03.flag b).map V.int = [.int (if b = true then 1 else 0)] := by cases b <;> rfl
section
variable {P : Program} {w : World} {K : PySem.W.Frag} {mg : Str → Option Value} {base : Heap} {CL CD : Addr}
/-! ### is_certain -/
def spIsC (CL CD : Addr) : Sp := fun vs H Q _ => ∃ (a la : Addr) (x : Nat) (v : V) (b : Basic) (d : Gq03.Desk) (k : Kept) (B : List Basic) (D : List Nat), vs = [.ref a, .ref la, vi x, v] ∧ DeskAt CD H a d ∧ OkDesk d ∧ LoreF CL H la d.rules k B D ∧ Ups d.rules k ∧ Full d.rules B D ∧ BV H v b ∧
  ∀ H', Same H H' → Q (.bl (Gq03.isCertain d x b)) H'
theorem scIsC : FnScope ["desk", "lore", "x", "b"] ["desk", "lore", "x", "b"] (defScope (top 73)) := ⟨rfl, rfl, rfl, by decide +kernel, rfl, by decide +kernel, by decide +kernel⟩
theorem ok_isC (T : Txt K mg CL CD) (cW : Cal P w K mg base 4 "wrong_nodes" ["lore", "told"] (spWN CL)) (cA : Cal P w K mg base 2 "all_of" ["lore", "told", "x"] (spAllOf CL)) (D : Def K mg "is_certain" (top 73)) : Cal P w K mg base 5 "is_certain" ["desk", "lore", "x", "b"] (spIsC CL CD) := by
  refine D.cal scIsC (fun vs H Q E h => ?_) (fun _ _ _ _ _ _ us hl => match us, hl with | [_, _, _, _], _ => rfl) (fun f cdv A outer s H vs Q E hr h => ⟨_,
    pss_one (ps_ret (pe_or (pe_cmpR (op_neE hr.units) (pe_cal cW hr rfl (pa_cons (pv 1) (pa_cons (pe_fld (pv 0) rfl) pa_nil))) (pe_lst pa_nil) (nomark _))
      (pe_one (pe_cmpR (op_inB (u65 hr)) (pv 3) (pe_cal cA (hr.mono (by decide)) rfl (pa_cons (pv 1) (pa_cons (pe_fld (pv 0) rfl) (pa_cons (pv 2) pa_nil)))) rfl)))), ?_⟩)
  · obtain ⟨a, la, x, v, b, d, k, B, D, rfl, _⟩ := h
    rfl
  · obtain ⟨a, la, x, v, b, ⟨fs, rs⟩, k, B, D, rfl, hD, ok, L, U, Fu, hv, q⟩ := h
    obtain ⟨dx, tl, ar, ea, hF, hR⟩ := id hD
    refine ⟨_, rfl, _, rfl, a, CD, dx, _, _, rfl, ea, T.cD, T.dT, dF_t, la, tl, rs, k, B, D, fs, rfl, L, U, Fu, hF, ok.facts, fun p H1 s1 np hp => ⟨by show 0 ≤ sizeLine; decide, fun e ne => ?_⟩⟩
    have s2 := Same.new (o := .lst []) ne
    refine ⟨_, e, (hp.same s2).dp, iDs_shaped _, rfl, upd_same, _, rfl, ?_⟩
    have ec := certain_eq U ok.facts x b
    rw [List.isEmpty_map]
    refine iB (fun hc => ?_) (fun hc => ?_)
    · have := q _ (s1.trans s2)
      rw [ec, hc] at this
      exact this
    have s12 := s1.trans s2
    refine ⟨_, rfl, _, rfl, _, rfl, a, CD, dx, _, _, rfl, s12 _ _ ea, T.cD, T.dT, dF_t, _, rfl, la, tl, x, rs, k, B, D, fs, rfl, L.same s12, U, hF.same s12, ok.facts, fun p2 H3 s3 np2 hp2 => ?_⟩
    refine ⟨b, _, p2, hv.ts (TupS.of (s12.trans s3)), rfl, hp2, ?_⟩
    have := q _ (s12.trans s3)
    rw [ec, hc, Bool.false_or] at this
    exact this
/-! ### is_told -/
def spIsTold (CD : Addr) : Sp := fun vs H Q _ => ∃ (a : Addr) (x : Nat) (v : V) (s n : Nat) (d : Gq03.Desk), vs = [.ref a, vi x, v] ∧ DeskAt CD H a d ∧ OkDesk d ∧ TV H v s n ∧ Ans CD a H Q (Gq03.step d (.is_ x (Gq03Neutral.basic s n)))
theorem scIsTold : FnScope ["desk", "x", "b"] ["desk", "x", "b"] (defScope (top 74)) := ⟨rfl, rfl, rfl, by decide +kernel, rfl, by decide +kernel, by decide +kernel⟩
theorem ok_isTold (T : Txt K mg CL CD) (cI : Cal P w K mg base 1 "is_basic" ["b"] spIsBasic) (cL : Cal P w K mg base 7 "lore_of" ["rules"] (spLoreOf CL)) (cC : Cal P w K mg base 5 "is_certain" ["desk", "lore", "x", "b"] (spIsC CL CD)) (D : Def K mg "is_told" (top 74)) : Cal P w K mg base 8 "is_told" ["desk", "x", "b"] (spIsTold CD) := by
  refine D.cal scIsTold (fun vs H Q E h => ?_) (fun _ _ _ _ _ _ us hl => match us, hl with | [_, _, _], _ => rfl) (fun f cdv A outer s H vs Q E hr h => ⟨_,
    pss_cons (ps_if (PW.pt (pw_or (pt_cmpR op_notInN (pv 1) (pe_gt T.NODES) rfl) (pw_or1 (pt_not (pt_val (pe_cal cI (hr.mono (by decide)) rfl (pa_cons (pv 2) pa_nil))))))) (pss_one (ps_ret (pe_lst (pa_cons (pe_gi T.BEYOND) pa_nil)))) pss_nil)
    (pss_one (ps_ret (pe_lst (pa_cons (pe_callTy call_int1 (by rfl) T.int (by decide +kernel) (pa_cons (pe_cal cC (hr.mono (by decide)) rfl (pa_cons (pv 0) (pa_cons (pe_cal cL hr rfl (pa_cons (pe_fld (pv 0) rfl) pa_nil)) (pa_cons (pv 1) (pa_cons (pv 2) pa_nil))))) pa_nil)) pa_nil)))), ?_⟩)
  · obtain ⟨a, x, v, s, n, d, rfl, _⟩ := h
    rfl
  · obtain ⟨a, x, v, s, n, d, rfl, hD, ok, hv, q⟩ := h
    change Ans CD a H Q (d, if Gq03.isNode x = false ∨ Gq03.isBasic (Gq03Neutral.basic s n) = false then [-1] else Gq03.flag (Gq03.isCertain d x (Gq03Neutral.basic s n))) at q
    obtain ⟨dx, tl, ar, ea, hF, hR⟩ := id hD
    refine ⟨_, rfl, fun an hn => ⟨x, _, an, rfl, rfl, .inr (hn _), _, rfl, ?_⟩⟩
    refine iB (fun hc => ?_) (fun hc => ?_)
    · rw [if_pos (.inl (nt hc))] at q
      exact iT rfl ⟨by show 1 ≤ sizeLine; decide, fun p np => q.ask hD (Same.new np) np upd_same⟩
    refine ⟨_, rfl, v, s, n, rfl, hv, _, rfl, ?_⟩
    refine iB (fun hc2 => ?_) (fun hc2 => ?_)
    · rw [if_pos (.inr (by rw [← isB_eq]; exact nt hc2))] at q
      exact ⟨by show 1 ≤ sizeLine; decide, fun p np => q.ask hD (Same.new np) np upd_same⟩
    have b1 := nf hc2
    rw [if_neg (fun z => z.elim (fun z => by rw [show Gq03.isNode x = true from nf hc] at z; cases z) fun z => by rw [← isB_eq, b1] at z; cases z)] at q
    refine ⟨_, rfl, _, rfl, a, CD, dx, _, _, rfl, ea, T.cD, T.dR, dF_r, ar, d.rules, rfl, hR, ok.rules, ok.rlen, fun la H1 k B D s1 U Fu L => ?_⟩
    refine ⟨_, rfl, _, rfl, a, la, x, v, Gq03Neutral.basic s n, d, k, B, D, rfl, hD.same s1, ok, L, U, Fu, (hv.bv b1).1.ts (TupS.of s1), fun H2 s2 => .inr ⟨_, rfl, by show 1 ≤ sizeLine; decide, fun p np => ?_⟩⟩
    have s3 := (s1.trans s2).trans (Same.new (o := .lst [V.int (if Gq03.isCertain d x (Gq03Neutral.basic s n) = true then 1 else 0)]) np)
    refine q.ask hD s3 ((s1.trans s2).free np) ?_
    unfold OL
    rw [flag_eq]
    exact upd_same
/-! ### who -/
def spWho (CD : Addr) : Sp := fun vs H Q _ => ∃ (a : Addr) (v : V) (s n : Nat) (d : Gq03.Desk), vs = [.ref a, v] ∧ DeskAt CD H a d ∧ OkDesk d ∧ TV H v s n ∧ Ans CD a H Q (Gq03.step d (.who (Gq03Neutral.basic s n)))
abbrev nWho : List Str := ["desk", "b", "lore", "x"]
theorem scWho : FnScope nWho ["desk", "b"] (defScope (top 75)) := ⟨rfl, rfl, rfl, by decide +kernel, rfl, by decide +kernel, by decide +kernel⟩
theorem ok_who (T : Txt K mg CL CD) (cI : Cal P w K mg base 1 "is_basic" ["b"] spIsBasic) (cL : Cal P w K mg base 7 "lore_of" ["rules"] (spLoreOf CL)) (cC : Cal P w K mg base 5 "is_certain" ["desk", "lore", "x", "b"] (spIsC CL CD)) (cN : Cal P w K mg base 1 "counted" ["row"] spCounted) (D : Def K mg "who" (top 75)) : Cal P w K mg base 8 "who" ["desk", "b"] (spWho CD) := by
  refine D.cal scWho (fun vs H Q E h => ?_) (fun _ _ _ _ _ _ us hl => match us, hl with | [_, _], _ => rfl) (fun f cdv A outer s H vs Q E hr h => ⟨_,
    pss_cons (ps_if (pt_not (pt_val (pe_cal cI (hr.mono (by decide)) rfl (pa_cons (pv 1) pa_nil)))) (pss_one (ps_ret (pe_lst (pa_cons (pe_gi T.BEYOND) pa_nil)))) pss_nil)
    (pss_cons (ps_set (i := 2) scWho.nd rfl (Or.inr rfl) (pe_cal cL hr rfl (pa_cons (pe_fld (pv 0) rfl) pa_nil)))
    (pss_one (ps_ret (pe_cal cN (hr.mono (by decide)) rfl (pa_cons
      (pe_lc (own := [("x", 3)]) (g := gName 3) (tt := tB (tCall (spIsC CL CD) [] E0 (tCons (tVar 0) (tCons (tVar 2) (tCons (tVar 3) (tCons (tVar 1) tNil)))))) rfl scWho.nd (pi_tup (pe_gt T.NODES)) (blkOk_by (N := nWho) (sc := defScope (top 75)) (by decide +kernel)) (fun _ _ _ _ _ => pg_name (i := 3) scWho.nd rfl (Or.inl rfl))
        (fun _ _ _ _ _ => by exact pts_one (pt_val (pe_cal cC (hr.mono (by decide)) rfl (pa_cons (pv 0) (pa_cons (pv 2) (pa_cons (pv 3) (pa_cons (pv 1) pa_nil))))))) (fun _ _ _ _ _ => pv 3)) pa_nil))))), ?_⟩)
  · obtain ⟨a, v, s, n, d, rfl, _⟩ := h
    rfl
  · obtain ⟨a, v, s, n, d, rfl, hD, ok, hv, q⟩ := h
    change Ans CD a H Q (d, if Gq03.isBasic (Gq03Neutral.basic s n) = false then [-1] else Gq03.told (Gq03.nodes.filter fun x => Gq03.isCertain d x (Gq03Neutral.basic s n))) at q
    obtain ⟨dx, tl, ar, ea, hF, hR⟩ := id hD
    refine ⟨_, rfl, v, s, n, rfl, hv, _, rfl, ?_⟩
    refine iB (fun hc2 => ?_) (fun hc2 => ?_)
    · rw [if_pos (by rw [← isB_eq]; exact nt hc2)] at q
      exact ⟨by show 1 ≤ sizeLine; decide, fun p np => q.ask hD (Same.new np) np upd_same⟩
    have b1 := nf hc2
    rw [if_neg (fun z => by rw [← isB_eq, b1] at z; cases z)] at q
    refine ⟨_, rfl, a, CD, dx, _, _, rfl, ea, T.cD, T.dR, dF_r, ar, d.rules, rfl, hR, ok.rules, ok.rlen, fun la H1 k B D s1 U Fu L => ?_⟩
    refine fun an ha => ⟨an, rfl, ⟨_, ha _⟩, fun D1 hD1 => lc_tup (K := K) (a := an) (xs := vis Gq03.nodes) (fun i H' => Same H1 H' ∧ IL H' D1 ((Gq03.nodes.take i).filter fun x => Gq03.isCertain d x (Gq03Neutral.basic s n)))
      ⟨Same.new hD1, upd_same⟩ (fun i H' _ _ => ha _) ?_ ?_⟩
    · rintro i y' H' hy ⟨s2, hI⟩
      obtain ⟨y, hy', rfl⟩ := vis_get hy
      have s12 := s1.trans s2
      refine ⟨rfl, _, rfl, _, rfl, _, rfl, _, rfl, a, la, y, v, Gq03Neutral.basic s n, d, k, B, D, rfl, hD.same s12, ok, L.same s2, U, Fu, (hv.bv b1).1.ts (TupS.of s12), fun H2 s3 => ⟨_, rfl, ?_⟩⟩
      refine iB (fun hc => ?_) (fun hc => ⟨s2.trans s3, ?_⟩)
      · refine ⟨_, rfl, _, hI.same s3, ?_, (s2.trans s3).past hD1, ?_⟩
        · rw [vis_len]
          exact linelt (Nat.le_trans filter_take_len (by decide))
        · rw [filter_yes hy' hc]
          exact IL.snoc
      · rw [filter_no hy' hc]
        exact hI.same s3
    · rintro H' ⟨s2, hI⟩
      have e8 : (vis Gq03.nodes).length = Gq03.nodes.length := rfl
      rw [e8, List.take_length] at hI
      exact ⟨D1, _, rfl, hI, Nat.le_trans (List.length_filter_le _ _) (by decide), fun p H2 s3 np o => q.ask hD ((s1.trans s2).trans s3) ((s1.trans s2).free np) o⟩
/-! ### edges_told -/
def spEdgesT (CD : Addr) : Sp := fun vs H Q _ => ∃ (a : Addr) (x y : Nat) (d : Gq03.Desk), vs = [.ref a, vi x, vi y] ∧ DeskAt CD H a d ∧ OkDesk d ∧ Ans CD a H Q (Gq03.step d (.edges x y))
theorem scEdgesT : FnScope ["desk", "x", "y", "lore"] ["desk", "x", "y"] (defScope (top 76)) := ⟨rfl, rfl, rfl, by decide +kernel, rfl, by decide +kernel, by decide +kernel⟩
theorem ok_edgesT (T : Txt K mg CL CD) (cL : Cal P w K mg base 7 "lore_of" ["rules"] (spLoreOf CL)) (cW : Cal P w K mg base 4 "wrong_nodes" ["lore", "told"] (spWN CL)) (cE : Cal P w K mg base 2 "edges_of" ["lore", "told", "x", "y"] (spEdges CL)) (cN : Cal P w K mg base 1 "counted" ["row"] spCounted) (D : Def K mg "edges_told" (top 76)) : Cal P w K mg base 8 "edges_told" ["desk", "x", "y"] (spEdgesT CD) := by
  refine D.cal scEdgesT (fun vs H Q E h => ?_) (fun _ _ _ _ _ _ us hl => match us, hl with | [_, _, _], _ => rfl) (fun f cdv A outer s H vs Q E hr h => ⟨_,
    pss_cons (ps_if (PW.pt (pw_or (pt_cmpR op_notInN (pv 1) (pe_gt T.NODES) rfl) (pw_or1 (pt_cmpR op_notInN (pv 2) (pe_gt T.NODES) rfl)))) (pss_one (ps_ret (pe_lst (pa_cons (pe_gi T.BEYOND) pa_nil)))) pss_nil)
    (pss_cons (ps_set (i := 3) scEdgesT.nd rfl (Or.inl rfl) (pe_cal cL hr rfl (pa_cons (pe_fld (pv 0) rfl) pa_nil)))
    (pss_cons (ps_if (pt_cmpR (op_neE hr.units) (pe_cal cW (hr.mono (by decide)) rfl (pa_cons (pv 3) (pa_cons (pe_fld (pv 0) rfl) pa_nil))) (pe_lst pa_nil) (nomark _))
      (pss_one (ps_ret (pe_cal cN (hr.mono (by decide)) rfl (pa_cons (pe_callTy call_list_of (by rfl) T.list (by decide +kernel) (pa_cons (pe_gt T.DIRECTIONS) pa_nil)) pa_nil)))) pss_nil)
    (pss_one (ps_ret (pe_cal cN (hr.mono (by decide)) rfl (pa_cons (pe_cal cE (hr.mono (by decide)) rfl (pa_cons (pv 3) (pa_cons (pe_fld (pv 0) rfl) (pa_cons (pv 1) (pa_cons (pv 2) pa_nil))))) pa_nil)))))), ?_⟩)
  · obtain ⟨a, x, y, d, rfl, _⟩ := h
    rfl
  · obtain ⟨a, x, y, ⟨fs, rs⟩, rfl, hD, ok, q⟩ := h
    change Ans CD a H Q (⟨fs, rs⟩, if Gq03.isNode x = false ∨ Gq03.isNode y = false then [-1] else Gq03.told (Gq03.roles.filter fun r => Gq03.edgeCertain ⟨fs, rs⟩ x y r)) at q
    obtain ⟨dx, tl, ar, ea, hF, hR⟩ := id hD
    refine ⟨_, rfl, fun an hn => ⟨x, _, an, rfl, rfl, .inr (hn _), _, rfl, ?_⟩⟩
    refine iB (fun hc => ?_) (fun hc => ?_)
    · rw [if_pos (.inl (nt hc))] at q
      exact iT rfl ⟨by show 1 ≤ sizeLine; decide, fun p np => q.ask hD (Same.new np) np upd_same⟩
    refine ⟨_, rfl, fun an hn => ⟨y, _, an, rfl, rfl, .inr (hn _), _, rfl, ?_⟩⟩
    refine iB (fun hc2 => ?_) (fun hc2 => ?_)
    · rw [if_pos (.inr (nt hc2))] at q
      exact ⟨by show 1 ≤ sizeLine; decide, fun p np => q.ask hD (Same.new np) np upd_same⟩
    rw [if_neg (fun z => z.elim (fun z => by rw [show Gq03.isNode x = true from nf hc] at z; cases z) fun z => by rw [show Gq03.isNode y = true from nf hc2] at z; cases z), edges_eq] at q
    refine ⟨_, rfl, a, CD, dx, _, _, rfl, ea, T.cD, T.dR, dF_r, ar, rs, rfl, hR, ok.rules, ok.rlen, fun la H1 k B D s1 U Fu L => ?_⟩
    refine ⟨_, rfl, _, rfl, a, CD, dx, _, _, rfl, s1 _ _ ea, T.cD, T.dT, dF_t, la, tl, rs, k, B, D, fs, rfl, L, U, Fu, hF.same s1, ok.facts, fun p H2 s2 np hp => ⟨by show 0 ≤ sizeLine; decide, fun e ne => ?_⟩⟩
    have s3 := Same.new (o := .lst []) ne
    have s123 := (s1.trans s2).trans s3
    refine ⟨_, e, (hp.same s3).dp, iDs_shaped _, rfl, upd_same, _, rfl, ?_⟩
    rw [List.isEmpty_map]
    refine iB (fun hc => ?_) (fun hc => ?_)
    · rw [if_neg (by rw [nt hc]; exact Bool.false_ne_true)] at q
      exact fun ad hd => ⟨ad, _, rfl, .inr (hd _), fun l nl => ⟨l, Gq03.roles, rfl, upd_same, by decide, fun p4 H4 s4 np4 o => q.ask hD ((s123.trans (Same.new nl)).trans s4) ((s123.trans (Same.new nl)).free np4) o⟩⟩
    · rw [if_pos (nf hc)] at q
      refine ⟨_, rfl, _, rfl, a, CD, dx, _, _, rfl, s123 _ _ ea, T.cD, T.dT, dF_t, _, rfl, _, rfl, la, tl, x, y, rs, k, B, D, fs, rfl, L.same (s2.trans s3), U, hF.same s123, ok.facts, fun l H4 s4 nl hl => ?_⟩
      exact ⟨l, _, rfl, hl, Nat.le_trans (List.length_filter_le _ _) (by decide), fun p5 H5 s5 np5 o => q.ask hD ((s123.trans s4).trans s5) ((s123.trans s4).free np5) o⟩
end
end Wm

namespace Wm
open PySem PySem.Spec PyProof.Rows L2
open Gq03 (Basic Rule Fact)
/-! ### the steps that numbers tell -/
def stepsOf (l : List Nat) : Option (List (Nat × Nat)) := if 8 < l.length then none else Gq03.askOf l
theorem ask_odd : ∀ {l : List Nat}, l.length % 2 = 1 → Gq03.askOf l = none
  | [], h => by simp at h
  | [_], _ => rfl
  | r :: k :: l, h => by
    have h2 : l.length % 2 = 1 := by simp only [List.length_cons] at h; omega
    show (if Gq03.isRole r = true ∧ k ≤ 6 then (Gq03.askOf l).map _ else none) = none
    rw [ask_odd h2]
    split <;> rfl
theorem ask_pre : ∀ {i : Nat} {l : List Nat} {q : List (Nat × Nat)}, Gq03.askOf (l.take (2 * i)) = some q → 2 * i ≤ l.length → Gq03.askOf l = (Gq03.askOf (l.drop (2 * i))).map (q ++ ·)
  | 0, l, q, h, _ => by
    have e : q = [] := (Option.some.inj h).symm
    subst e
    show Gq03.askOf l = (Gq03.askOf l).map fun z => [] ++ z
    cases Gq03.askOf l <;> rfl
  | i + 1, [], q, _, hl => by simp at hl
  | i + 1, [_], q, _, hl => by simp at hl; omega
  | i + 1, r :: k :: l, q, h, hl => by
    have e1 : 2 * (i + 1) = 2 * i + 1 + 1 := by omega
    rw [e1] at h ⊢
    rw [List.take_succ_cons, List.take_succ_cons] at h
    rw [List.drop_succ_cons, List.drop_succ_cons]
    change (if Gq03.isRole r = true ∧ k ≤ 6 then (Gq03.askOf (l.take (2 * i))).map (fun q => (r, k) :: q) else none) = some q at h
    show (if Gq03.isRole r = true ∧ k ≤ 6 then (Gq03.askOf l).map (fun q => (r, k) :: q) else none) = _
    by_cases c : Gq03.isRole r = true ∧ k ≤ 6
    · rw [if_pos c] at h ⊢
      cases e : Gq03.askOf (l.take (2 * i)) with
      | none => rw [e] at h; cases h
      | some q' =>
        rw [e] at h
        have e2 : (r, k) :: q' = q := Option.some.inj h
        subst e2
        rw [ask_pre e (by simp only [List.length_cons] at hl; omega)]
        cases Gq03.askOf (l.drop (2 * i)) <;> rfl
    · rw [if_neg c] at h; cases h
theorem drop_two {l : List Nat} {i r k : Nat} (h1 : l[2 * i]? = some r) (h2 : l[2 * i + 1]? = some k) : l.drop (2 * i) = r :: k :: l.drop (2 * i + 2) := by
  have a1 := (List.getElem?_eq_some_iff.mp h1)
  have a2 := (List.getElem?_eq_some_iff.mp h2)
  obtain ⟨b1, e1⟩ := a1
  obtain ⟨b2, e2⟩ := a2
  rw [List.drop_eq_getElem_cons b1, List.drop_eq_getElem_cons b2, e1, e2]
theorem ask_bad {l : List Nat} {i r k : Nat} {q : List (Nat × Nat)} (h : Gq03.askOf (l.take (2 * i)) = some q) (h1 : l[2 * i]? = some r) (h2 : l[2 * i + 1]? = some k) (hb : ¬ (Gq03.isRole r = true ∧ k ≤ 6)) : Gq03.askOf l = none := by
  have b := (List.getElem?_eq_some_iff.mp h1).1
  rw [ask_pre h (by omega), drop_two h1 h2]
  have e : Gq03.askOf (r :: k :: l.drop (2 * i + 2)) = none := if_neg hb
  rw [e]; rfl
theorem ask_next {l : List Nat} {i r k : Nat} {q : List (Nat × Nat)} (h : Gq03.askOf (l.take (2 * i)) = some q) (h1 : l[2 * i]? = some r) (h2 : l[2 * i + 1]? = some k) (hb : Gq03.isRole r = true ∧ k ≤ 6) : Gq03.askOf (l.take (2 * (i + 1))) = some (q ++ [(r, k)]) := by
  have b2 := (List.getElem?_eq_some_iff.mp h2).1
  have e1 : 2 * (i + 1) = 2 * i + 2 := by omega
  rw [e1]
  have t1 : (l.take (2 * i + 2)).take (2 * i) = l.take (2 * i) := by rw [List.take_take, Nat.min_eq_left (by omega)]
  have t2 : (l.take (2 * i + 2)).drop (2 * i) = [r, k] := by
    rw [List.drop_take, drop_two h1 h2, show 2 * i + 2 - 2 * i = 2 by omega]
    rfl
  have hl : (l.take (2 * i + 2)).length = 2 * i + 2 := by rw [List.length_take]; omega
  rw [ask_pre (l := l.take (2 * i + 2)) (i := i) (by rw [t1]; exact h) (by omega), t2]
  have e : Gq03.askOf [r, k] = some [(r, k)] := if_pos hb
  rw [e]; rfl
theorem ask_len : ∀ {l : List Nat} {q : List (Nat × Nat)}, Gq03.askOf l = some q → l.length = 2 * q.length
  | [], q, h => by
    have e : q = [] := (Option.some.inj h).symm
    subst e; rfl
  | [_], q, h => by cases h
  | r :: k :: l, q, h => by
    change (if Gq03.isRole r = true ∧ k ≤ 6 then (Gq03.askOf l).map (fun q => (r, k) :: q) else none) = some q at h
    split at h
    · cases e : Gq03.askOf l with
      | none => rw [e] at h; cases h
      | some q' =>
        rw [e] at h
        have e2 : (r, k) :: q' = q := Option.some.inj h
        subst e2
        have := ask_len e
        simp only [List.length_cons]; omega
    · cases h
theorem stp_len {l : List Nat} {q : List (Nat × Nat)} (h : stepsOf l = some q) : q.length ≤ 4 := by
  unfold stepsOf at h
  split at h
  · cases h
  · have := ask_len h; omega
theorem rg2 : ∀ m, m ≤ 4 → RgC 0 ((2 * m : Nat) : Int) 2 m
  | 0, _ => ⟨by decide, by decide, by decide +kernel, by decide +kernel⟩
  | 1, _ => ⟨by decide, by decide, by decide +kernel, by decide +kernel⟩
  | 2, _ => ⟨by decide, by decide, by decide +kernel, by decide +kernel⟩
  | 3, _ => ⟨by decide, by decide, by decide +kernel, by decide +kernel⟩
  | 4, _ => ⟨by decide, by decide, by decide +kernel, by decide +kernel⟩
  | n + 5, h => absurd h (by omega)
section
variable {P : Program} {w : World} {K : PySem.W.Frag} {mg : Str → Option Value} {base : Heap} {CL CD : Addr}
/-! ### steps_of -/
def spSteps : Sp := fun vs H Q _ => ∃ (p : Addr) (l : List Nat), vs = [.ref p] ∧ IL H p l ∧ l.length ≤ 100000 ∧ (∀ H', Same H H' → stepsOf l = none → Q .non H') ∧ ∀ t q H', Same H H' → stepsOf l = some q → PL H' t q → Q (.ref t) H'
theorem scSteps : FnScope ["numbers", "found", "at"] ["numbers"] (defScope (top 77)) := ⟨rfl, rfl, rfl, by decide +kernel, rfl, by decide +kernel, by decide +kernel⟩
theorem ok_steps (T : Txt K mg CL CD) (D : Def K mg "steps_of" (top 77)) : Cal P w K mg base 1 "steps_of" ["numbers"] spSteps := by
  refine D.cal scSteps (fun vs H Q E h => ?_) (fun _ _ _ _ _ _ us hl => match us, hl with | [_], _ => rfl) (fun f cdv A outer s H vs Q E hr h => ⟨_,
    pss_cons (ps_if (PW.pt (pw_or (pt_cmpR op_eqN (pe_op op_mod (pe_callB call_len_seq (by rfl) T.len PySem.boot_len (pa_cons (pv 0) pa_nil)) pe_int) pe_int (nomark _)) (pw_or1 (pt_cmpR op_gt (pe_callB call_len_seq (by rfl) T.len PySem.boot_len (pa_cons (pv 0) pa_nil)) (pe_op op_mul pe_int (pe_gi T.MOST_STEPS)) (nomark _)))))
      (pss_one (ps_ret pe_non)) pss_nil)
    (pss_cons (ps_set (i := 1) scSteps.nd rfl (Or.inl rfl) (pe_lst pa_nil))
    (pss_cons (ps_for PassesOwn.never rfl (pi_range3 (by rfl) T.range (pa_cons pe_int (pa_cons (pe_callB call_len_seq (by rfl) T.len PySem.boot_len (pa_cons (pv 0) pa_nil)) (pa_cons pe_int pa_nil)))) (pg_name (i := 2) scSteps.nd rfl (Or.inl rfl))
      (pss_cons (ps_if (PW.pt (pw_or (pt_cmpR op_notInN (pe_ix ix_list (pv 0) (pv 2) (fun _ _ => rfl)) (pe_gt T.DIRECTIONS) rfl) (pw_or1 (pt_cmpR op_gt (pe_ix ix_list (pv 0) (pe_op op_add (pv 2) pe_int) (fun _ _ => rfl)) (pe_ix ix_tup (pe_gt T.KINDS) (pe_un un_neg pe_int) (fun _ _ => rfl)) (nomark _)))))
        (pss_one (ps_ret pe_non)) pss_nil)
      (pss_one (ps_expr (pe_bm PySem.F.plainAttrs_list PySem.F.slot_list_append PySem.F.type_list_append mt_append (pv 1) (pa_cons (pe_tup (pa_cons (pe_ix ix_list (pv 0) (pv 2) (fun _ _ => rfl)) (pa_cons (pe_ix ix_list (pv 0) (pe_op op_add (pv 2) pe_int) (fun _ _ => rfl)) pa_nil))) pa_nil))))))
    (pss_one (ps_ret (pv 1))))), ?_⟩)
  · obtain ⟨p, l, rfl, _⟩ := h
    rfl
  · obtain ⟨p, l, rfl, hl, hlen, qN, qS⟩ := h
    have vl := vis_len l
    refine ⟨_, rfl, p, _, rfl, .inl (SqL.of hl), ((vis l).length : Int), 2, rfl, rfl, by show (0 : Int) < 2; decide, l.length % 2, 1, congrArg V.int (by omega), rfl, _, rfl, ?_⟩
    refine iB (fun hc => ?_) (fun hc => ?_)
    · have h1 := of_decide_eq_true hc
      refine iT rfl (qN H (Same.refl H) ?_)
      unfold stepsOf
      rw [ask_odd h1]
      split <;> rfl
    have h1 := of_decide_eq_false hc
    refine ⟨_, rfl, p, _, rfl, .inl (SqL.of hl), 2, 4, rfl, rfl, .inl (by decide), ((vis l).length : Int), 8, rfl, rfl, _, rfl, ?_⟩
    refine iB (fun hc => ?_) (fun hc => ?_)
    · have h2 := of_decide_eq_true hc
      refine qN H (Same.refl H) ?_
      unfold stepsOf
      rw [if_pos (by omega)]
    have h2 := of_decide_eq_false hc
    have h8 : l.length ≤ 8 := by omega
    have es : stepsOf l = Gq03.askOf l := if_neg (by omega)
    refine ⟨by show 0 ≤ sizeLine; decide, fun fl nf' => ?_⟩
    have s1 := Same.new (o := .lst []) nf'
    refine ⟨_, rfl, p, _, rfl, .inl (SqL.of (hl.same s1)), 0, ((vis l).length : Int), 2, l.length / 2, rfl, ?_, ?_⟩
    · have e : ((vis l).length : Int) = ((2 * (l.length / 2) : Nat) : Int) := by omega
      rw [e]
      exact rg2 _ (by omega)
    refine for_rangeC (lo := 0) (c := 2) (n := l.length / 2) (fun i σ H' => ∃ v2 us q, σ = [some (.ref p), some (.ref fl), v2] ∧ Same H H' ∧ H' fl = some (.lst us) ∧ Paired (PV H') us q ∧ Gq03.askOf (l.take (2 * i)) = some q ∧ q.length = i)
      ⟨none, [], [], rfl, s1, upd_same, .nil, rfl, rfl⟩ ?_ ?_
    · rintro i σ H2 hi ⟨v2, us, q, rfl, s2, hus, hpu, hq, hqi⟩
      obtain ⟨r, hr1⟩ : ∃ r, l[2 * i]? = some r := ⟨_, List.getElem?_eq_getElem (by omega)⟩
      obtain ⟨k, hk1⟩ : ∃ k, l[2 * i + 1]? = some k := ⟨_, List.getElem?_eq_getElem (by omega)⟩
      have er : atI (vis l) ((0 : Int) + (i : Nat) * 2) = some (vi r) := by
        have e : ((0 : Int) + (i : Nat) * 2) = ((2 * i : Nat) : Int) := by omega
        rw [e]
        exact atI_nat (by rw [List.getElem?_map, hr1]; rfl)
      have ek : atI (vis l) (((0 : Int) + (i : Nat) * 2) + 1) = some (vi k) := by
        have e : (((0 : Int) + (i : Nat) * 2) + 1) = ((2 * i + 1 : Nat) : Int) := by omega
        rw [e]
        exact atI_nat (by rw [List.getElem?_map, hk1]; rfl)
      refine ⟨_, rfl, _, rfl, p, _, _, _, rfl, rfl, SqL.of (hl.same s2), er, fun ad hd => ⟨r, _, ad, rfl, rfl, .inr (hd _), _, rfl, ?_⟩⟩
      refine iB (fun hc => ?_) (fun hc => ?_)
      · refine iT rfl (qN H2 s2 ?_)
        rw [es]
        exact ask_bad hq hr1 hk1 fun z => by rw [show Gq03.isRole r = false from nt hc] at z; exact absurd z.1 Bool.false_ne_true
      refine ⟨_, rfl, _, rfl, _, 1, rfl, rfl, p, _, _, _, rfl, rfl, SqL.of (hl.same s2), ek, fun ak hk => ⟨1, rfl, ak, _, _, _, rfl, rfl, hk _, rfl, (k : Int), 6, rfl, rfl, _, rfl, ?_⟩⟩
      refine iB (fun hc2 => ?_) (fun hc2 => ?_)
      · have := of_decide_eq_true hc2
        refine qN H2 s2 ?_
        rw [es]
        exact ask_bad hq hr1 hk1 fun z => by omega
      have := of_decide_eq_false hc2
      have hb : Gq03.isRole r = true ∧ k ≤ 6 := ⟨nf hc, by omega⟩
      refine ⟨_, rfl, .inl ⟨rfl, _, .inl (.inl hus)⟩, _, rfl, _, rfl, p, _, _, _, rfl, rfl, SqL.of (hl.same s2), er, _, rfl, _, rfl, _, 1, rfl, rfl, p, _, _, _, rfl, rfl, SqL.of (hl.same s2), ek, by show 2 ≤ sizeLine; decide, fun t nt' => ?_⟩
      have s3 := Same.new (o := .tup [vi r, vi k]) nt'
      have hus3 := s3 _ _ hus
      have nfl : fl ≠ t := ne_of_none hus nt'
      refine ⟨fl, us, .ref t, rfl, rfl, hus3, ?_, ?_⟩
      · rw [pr_len hpu, hqi]
        exact linelt (by omega)
      refine ⟨_, _, q ++ [(r, k)], rfl, (s2.trans s3).past nf', upd_same, pr_app (pvs_ts (pvs_ts hpu (TupS.of s3)) (TupS.lst hus3)) (pr_one ⟨t, rfl, ?_⟩), ask_next hq hr1 hk1 hb, by rw [List.length_append, hqi]; rfl⟩
      rw [upd_ne (Ne.symm nfl)]
      exact upd_same
    · rintro σ H2 ⟨v2, us, q, rfl, s2, hus, hpu, hq, hqi⟩
      refine ⟨_, rfl, qS fl q H2 s2 ?_ ⟨us, hus, hpu⟩⟩
      rw [es, ← hq, List.take_of_length_le (by omega)]
end
end Wm

namespace Wm
open PySem PySem.Spec PyProof.Rows L2
open Gq03 (Basic Rule Fact)
theorem sound_find (d : Gq03.Desk) : (Gq03.nodes.find? fun x => !Gq03.fineBy (Gq03.bad d.rules) d x) = (wrongL d).head? := by
  unfold wrongL
  rw [List.head?_filter]
theorem row_bc (b : Basic) : Gq03.row b = [(bc b).1, (bc b).2] := by cases b <;> rfl
theorem OL.of {H : Hp} {p : Addr} {l : List Nat} (h : IL H p l) : OL H p (Gq03.ints l) := by
  unfold OL Gq03.ints
  rw [List.map_map]
  exact h
section
variable {P : Program} {w : World} {K : PySem.W.Frag} {mg : Str → Option Value} {base : Heap} {CL CD : Addr}
/-! ### nodes_that_lead -/
def spNL (CD : Addr) : Sp := fun vs H Q _ => ∃ (a st : Addr) (d : Gq03.Desk) (steps : List (Nat × Nat)), vs = [.ref a, .ref st] ∧ DeskAt CD H a d ∧ OkDesk d ∧ PL H st steps ∧ steps.length ≤ 4 ∧ ∀ p H', Same H H' → H p = none → IL H' p (Gq03.allCertain d steps) → Q (.ref p) H'
abbrev nNL : List Str := ["desk", "steps", "lore", "x"]
theorem scNL : FnScope nNL ["desk", "steps"] (defScope (top 78)) := ⟨rfl, rfl, rfl, by decide +kernel, rfl, by decide +kernel, by decide +kernel⟩
theorem ok_NL (T : Txt K mg CL CD) (cL : Cal P w K mg base 7 "lore_of" ["rules"] (spLoreOf CL)) (cW : Cal P w K mg base 4 "wrong_nodes" ["lore", "told"] (spWN CL)) (cS : Cal P w K mg base 5 "leads" ["lore", "told", "x", "steps"] (spLeads CL)) (D : Def K mg "nodes_that_lead" (top 78)) : Cal P w K mg base 8 "nodes_that_lead" ["desk", "steps"] (spNL CD) := by
  refine D.cal scNL (fun vs H Q E h => ?_) (fun _ _ _ _ _ _ us hl => match us, hl with | [_, _], _ => rfl) (fun f cdv A outer s H vs Q E hr h => ⟨_,
    pss_cons (ps_set (i := 2) scNL.nd rfl (Or.inr rfl) (pe_cal cL hr rfl (pa_cons (pe_fld (pv 0) rfl) pa_nil)))
    (pss_cons (ps_if (pt_cmpR (op_neE hr.units) (pe_cal cW (hr.mono (by decide)) rfl (pa_cons (pv 2) (pa_cons (pe_fld (pv 0) rfl) pa_nil))) (pe_lst pa_nil) (nomark _))
      (pss_one (ps_ret (pe_callTy call_list_of (by rfl) T.list (by decide +kernel) (pa_cons (pe_gt T.NODES) pa_nil)))) pss_nil)
    (pss_one (ps_ret (pe_lc (own := [("x", 3)]) (g := gName 3) (tt := tB (tCall (spLeads CL) [] E0 (tCons (tVar 2) (tCons (tFld K (tVar 0) "told") (tCons (tVar 3) (tCons (tVar 1) tNil)))))) rfl scNL.nd (pi_tup (pe_gt T.NODES)) (blkOk_by (N := nNL) (sc := defScope (top 78)) (by decide +kernel)) (fun _ _ _ _ _ => pg_name (i := 3) scNL.nd rfl (Or.inl rfl))
        (fun _ _ _ _ _ => by exact pts_one (pt_val (pe_cal cS (hr.mono (by decide)) rfl (pa_cons (pv 2) (pa_cons (pe_fld (pv 0) rfl) (pa_cons (pv 3) (pa_cons (pv 1) pa_nil))))))) (fun _ _ _ _ _ => pv 3))))), ?_⟩)
  · obtain ⟨a, st, d, steps, rfl, _⟩ := h
    rfl
  · obtain ⟨a, st, ⟨fs, rs⟩, steps, rfl, hD, ok, hst, hlen, q⟩ := h
    obtain ⟨dx, tl, ar, ea, hF, hR⟩ := id hD
    refine ⟨_, rfl, a, CD, dx, _, _, rfl, ea, T.cD, T.dR, dF_r, ar, rs, rfl, hR, ok.rules, ok.rlen, fun la H1 k B D s1 U Fu L => ?_⟩
    rw [allCertain_eq (k := k) U ok.facts] at q
    refine ⟨_, rfl, _, rfl, a, CD, dx, _, _, rfl, s1 _ _ ea, T.cD, T.dT, dF_t, la, tl, rs, k, B, D, fs, rfl, L, U, Fu, hF.same s1, ok.facts, fun p H2 s2 np hp => ⟨by show 0 ≤ sizeLine; decide, fun e ne => ?_⟩⟩
    have s3 := Same.new (o := .lst []) ne
    have s123 := (s1.trans s2).trans s3
    refine ⟨_, e, (hp.same s3).dp, iDs_shaped _, rfl, upd_same, _, rfl, ?_⟩
    rw [List.isEmpty_map]
    refine iB (fun hc => ?_) (fun hc => ?_)
    · rw [if_neg (by rw [nt hc]; exact Bool.false_ne_true)] at q
      exact fun ad hd => ⟨ad, _, rfl, .inr (hd _), fun l nl => q l _ (s123.trans (Same.new nl)) (s123.free nl) upd_same⟩
    rw [if_pos (nf hc)] at q
    generalize hH0 : upd H2 e (.lst []) = H0 at s3 s123
    refine fun an ha => ⟨an, rfl, ⟨_, ha _⟩, fun D1 hD1 => lc_tup (K := K) (a := an) (xs := vis Gq03.nodes) (fun i H' => Same H0 H' ∧ IL H' D1 ((Gq03.nodes.take i).filter fun x => !(leadL ⟨fs, rs⟩ k steps [(x, [])]).isEmpty))
      ⟨Same.new hD1, upd_same⟩ (fun i H' _ _ => ha _) ?_ ?_⟩
    · rintro i y' H' hy ⟨s4, hI⟩
      obtain ⟨y, hy', rfl⟩ := vis_get hy
      have t4 := s123.trans s4
      refine ⟨rfl, _, rfl, _, rfl, a, CD, dx, _, _, rfl, t4 _ _ ea, T.cD, T.dT, dF_t, _, rfl, _, rfl, la, tl, st, y, rs, k, B, D, fs, steps, rfl, L.same ((s2.trans s3).trans s4), U, hF.same t4, ok.facts, hst.same t4, hlen, List.mem_of_getElem? hy', fun H3 s5 => ⟨_, rfl, ?_⟩⟩
      refine iB (fun hc => ?_) (fun hc => ⟨s4.trans s5, ?_⟩)
      · refine ⟨_, rfl, _, hI.same s5, ?_, (s4.trans s5).past hD1, ?_⟩
        · rw [vis_len]
          exact linelt (Nat.le_trans filter_take_len (by decide))
        · rw [filter_yes hy' hc]
          exact IL.snoc
      · rw [filter_no hy' hc]
        exact hI.same s5
    · rintro H' ⟨s4, hI⟩
      have e8 : (vis Gq03.nodes).length = Gq03.nodes.length := rfl
      rw [e8, List.take_length] at hI
      exact q D1 _ (s123.trans s4) (s123.free hD1) hI
end
end Wm

namespace Wm
open PySem PySem.Spec PyProof.Rows L2
open Gq03 (Basic Rule Fact)
/-- what the document answers, of a row of steps -/
def chainS (d : Gq03.Desk) (x : Nat) (l : List Nat) : List Int := if Gq03.isNode x = false then [-1] else match stepsOf l with
    | none => [-1]
    | some q => Gq03.flag (Gq03.chainCertain d x q)
theorem chainS_eq (d : Gq03.Desk) (x : Nat) (l : List Nat) : Gq03.step d (.chain x l) = (d, chainS d x l) := by
  show (d, if Gq03.isNode x = false ∨ 8 < l.length then [-1] else match Gq03.askOf l with
    | none => [-1]
    | some q => Gq03.flag (Gq03.chainCertain d x q)) = _
  unfold chainS stepsOf
  by_cases c : Gq03.isNode x = false
  · rw [if_pos (.inl c), if_pos c]
  · by_cases c2 : 8 < l.length
    · rw [if_pos (.inr c2), if_neg c, if_pos c2]
    · rw [if_neg (fun z => z.elim c c2), if_neg c, if_neg c2]
      cases Gq03.askOf l <;> rfl
def allS (d : Gq03.Desk) (l : List Nat) : List Int := match stepsOf l with
    | none => [-1]
    | some q => Gq03.told (Gq03.allCertain d q)
theorem allS_eq (d : Gq03.Desk) (l : List Nat) : Gq03.step d (.all l) = (d, allS d l) := by
  show (d, if 8 < l.length then [-1] else match Gq03.askOf l with
    | none => [-1]
    | some q => Gq03.told (Gq03.allCertain d q)) = _
  unfold allS stepsOf
  by_cases c2 : 8 < l.length
  · rw [if_pos c2, if_pos c2]
  · rw [if_neg c2, if_neg c2]
    cases Gq03.askOf l <;> rfl
section
variable {P : Program} {w : World} {K : PySem.W.Frag} {mg : Str → Option Value} {base : Heap} {CL CD : Addr}
/-! ### chain -/
def spChain (CD : Addr) : Sp := fun vs H Q _ => ∃ (a pn : Addr) (x : Nat) (l : List Nat) (d : Gq03.Desk), vs = [.ref a, vi x, .ref pn] ∧ DeskAt CD H a d ∧ OkDesk d ∧ IL H pn l ∧ l.length ≤ 100000 ∧ Ans CD a H Q (Gq03.step d (.chain x l))
theorem scChain : FnScope ["desk", "x", "numbers", "steps", "lore"] ["desk", "x", "numbers"] (defScope (top 79)) := ⟨rfl, rfl, rfl, by decide +kernel, rfl, by decide +kernel, by decide +kernel⟩
theorem ok_chain (T : Txt K mg CL CD) (cG : Cal P w K mg base 1 "steps_of" ["numbers"] spSteps) (cL : Cal P w K mg base 7 "lore_of" ["rules"] (spLoreOf CL)) (cW : Cal P w K mg base 4 "wrong_nodes" ["lore", "told"] (spWN CL)) (cS : Cal P w K mg base 5 "leads" ["lore", "told", "x", "steps"] (spLeads CL))
    (D : Def K mg "chain" (top 79)) : Cal P w K mg base 8 "chain" ["desk", "x", "numbers"] (spChain CD) := by
  refine D.cal scChain (fun vs H Q E h => ?_) (fun _ _ _ _ _ _ us hl => match us, hl with | [_, _, _], _ => rfl) (fun f cdv A outer s H vs Q E hr h => ⟨_,
    pss_cons (ps_set (i := 3) scChain.nd rfl (Or.inl rfl) (pe_cal cG (hr.mono (by decide)) rfl (pa_cons (pv 2) pa_nil)))
    (pss_cons (ps_if (PW.pt (pw_or (pt_cmpR op_notInN (pv 1) (pe_gt T.NODES) rfl) (pw_or1 (pt_cmpR op_isN (pv 3) pe_non (nomark _))))) (pss_one (ps_ret (pe_lst (pa_cons (pe_gi T.BEYOND) pa_nil)))) pss_nil)
    (pss_cons (ps_set (i := 4) scChain.nd rfl (Or.inl rfl) (pe_cal cL hr rfl (pa_cons (pe_fld (pv 0) rfl) pa_nil)))
    (pss_one (ps_ret (pe_lst (pa_cons (pe_callTy call_int1 (by rfl) T.int (by decide +kernel) (pa_cons
      (pe_or (pe_cmpR (op_neE hr.units) (pe_cal cW (hr.mono (by decide)) rfl (pa_cons (pv 4) (pa_cons (pe_fld (pv 0) rfl) pa_nil))) (pe_lst pa_nil) (nomark _))
        (pe_one (pe_cal cS (hr.mono (by decide)) rfl (pa_cons (pv 4) (pa_cons (pe_fld (pv 0) rfl) (pa_cons (pv 1) (pa_cons (pv 3) pa_nil))))))) pa_nil)) pa_nil)))))), ?_⟩)
  · obtain ⟨a, pn, x, l, d, rfl, _⟩ := h
    rfl
  · obtain ⟨a, pn, x, l, ⟨fs, rs⟩, rfl, hD, ok, hl, hlen, q⟩ := h
    rw [chainS_eq] at q
    unfold chainS at q
    obtain ⟨dx, tl, ar, ea, hF, hR⟩ := id hD
    refine ⟨_, rfl, pn, l, rfl, hl, hlen, fun H1 s1 e => ?_, fun t steps H1 s1 e hP => ?_⟩
    · rw [e] at q
      refine ⟨_, rfl, fun an hn => ⟨x, _, an, rfl, rfl, .inr (hn _), _, rfl, ?_⟩⟩
      refine iB (fun hc => ?_) (fun hc => ?_)
      · rw [if_pos (show Gq03.isNode x = false from nt hc)] at q
        exact iT rfl ⟨by show 1 ≤ sizeLine; decide, fun p np => q.ask hD (s1.trans (Same.new np)) (s1.free np) upd_same⟩
      · rw [if_neg (fun z => by rw [show Gq03.isNode x = true from nf hc] at z; cases z)] at q
        exact ⟨_, rfl, rfl, _, rfl, iT rfl ⟨by show 1 ≤ sizeLine; decide, fun p np => q.ask hD (s1.trans (Same.new np)) (s1.free np) upd_same⟩⟩
    · rw [e] at q
      refine ⟨_, rfl, fun an hn => ⟨x, _, an, rfl, rfl, .inr (hn _), _, rfl, ?_⟩⟩
      refine iB (fun hc => ?_) (fun hc => ?_)
      · rw [if_pos (show Gq03.isNode x = false from nt hc)] at q
        exact iT rfl ⟨by show 1 ≤ sizeLine; decide, fun p np => q.ask hD (s1.trans (Same.new np)) (s1.free np) upd_same⟩
      rw [if_neg (fun z => by rw [show Gq03.isNode x = true from nf hc] at z; cases z)] at q
      refine ⟨_, rfl, rfl, _, rfl, iF rfl ?_⟩
      refine ⟨_, rfl, a, CD, dx, _, _, rfl, s1 _ _ ea, T.cD, T.dR, dF_r, ar, rs, rfl, hR.same s1, ok.rules, ok.rlen, fun la H2 k B D s2 U Fu L => ?_⟩
      have hx : x ∈ Gq03.nodes := in_of (nf hc)
      have ec := chain_eq (k := k) (d := ⟨fs, rs⟩) U ok.facts hx steps
      have s12 := s1.trans s2
      have fin : ∀ (b : Bool) (H5 : Hp), Same H H5 → b = Gq03.chainCertain ⟨fs, rs⟩ x steps → ∀ p, H5 p = none → Q (.ref p) (upd H5 p (.lst [V.int (if b = true then 1 else 0)])) := fun b H5 s5 eb p np => by
        subst eb
        refine q.ask hD (s5.trans (Same.new np)) (s5.free np) ?_
        unfold OL
        rw [flag_eq]
        exact upd_same
      refine ⟨_, rfl, _, rfl, a, CD, dx, _, _, rfl, s12 _ _ ea, T.cD, T.dT, dF_t, la, tl, rs, k, B, D, fs, rfl, L, U, Fu, hF.same s12, ok.facts, fun p H3 s3 np hp => ⟨by show 0 ≤ sizeLine; decide, fun e ne => ?_⟩⟩
      have s4 := Same.new (o := .lst []) ne
      have s1234 := (s12.trans s3).trans s4
      refine ⟨_, e, (hp.same s4).dp, iDs_shaped _, rfl, upd_same, _, rfl, ?_⟩
      rw [List.isEmpty_map]
      refine iB (fun hc => ?_) (fun hc => ?_)
      · exact .inr ⟨_, rfl, by show 1 ≤ sizeLine; decide, fin true _ s1234 (by rw [ec, hc, Bool.true_or])⟩
      · exact ⟨_, rfl, _, rfl, a, CD, dx, _, _, rfl, s1234 _ _ ea, T.cD, T.dT, dF_t, _, rfl, _, rfl, la, tl, t, x, rs, k, B, D, fs, steps, rfl, L.same (s3.trans s4), U, hF.same s1234, ok.facts, hP.same ((s2.trans s3).trans s4), stp_len (by assumption), hx, fun H5 s5 =>
          .inr ⟨_, rfl, by show 1 ≤ sizeLine; decide, fin _ _ (s1234.trans s5) (by rw [ec, hc, Bool.false_or])⟩⟩
/-! ### from_all -/
def spFrom (CD : Addr) : Sp := fun vs H Q _ => ∃ (a pn : Addr) (l : List Nat) (d : Gq03.Desk), vs = [.ref a, .ref pn] ∧ DeskAt CD H a d ∧ OkDesk d ∧ IL H pn l ∧ l.length ≤ 100000 ∧ Ans CD a H Q (Gq03.step d (.all l))
theorem scFrom : FnScope ["desk", "numbers", "steps"] ["desk", "numbers"] (defScope (top 80)) := ⟨rfl, rfl, rfl, by decide +kernel, rfl, by decide +kernel, by decide +kernel⟩
theorem ok_from (T : Txt K mg CL CD) (cG : Cal P w K mg base 1 "steps_of" ["numbers"] spSteps) (cN : Cal P w K mg base 1 "counted" ["row"] spCounted) (cL : Cal P w K mg base 8 "nodes_that_lead" ["desk", "steps"] (spNL CD))
    (D : Def K mg "from_all" (top 80)) : Cal P w K mg base 9 "from_all" ["desk", "numbers"] (spFrom CD) := by
  refine D.cal scFrom (fun vs H Q E h => ?_) (fun _ _ _ _ _ _ us hl => match us, hl with | [_, _], _ => rfl) (fun f cdv A outer s H vs Q E hr h => ⟨_,
    pss_cons (ps_set (i := 2) scFrom.nd rfl (Or.inl rfl) (pe_cal cG (hr.mono (by decide)) rfl (pa_cons (pv 1) pa_nil)))
    (pss_cons (ps_if (pt_cmpR op_isN (pv 2) pe_non (nomark _)) (pss_one (ps_ret (pe_lst (pa_cons (pe_gi T.BEYOND) pa_nil)))) pss_nil)
    (pss_one (ps_ret (pe_cal cN (hr.mono (by decide)) rfl (pa_cons (pe_cal cL hr rfl (pa_cons (pv 0) (pa_cons (pv 2) pa_nil))) pa_nil))))), ?_⟩)
  · obtain ⟨a, pn, l, d, rfl, _⟩ := h
    rfl
  · obtain ⟨a, pn, l, d, rfl, hD, ok, hl, hlen, q⟩ := h
    rw [allS_eq] at q
    unfold allS at q
    refine ⟨_, rfl, pn, l, rfl, hl, hlen, fun H1 s1 e => ?_, fun t steps H1 s1 e hP => ?_⟩
    · rw [e] at q
      exact ⟨_, rfl, rfl, _, rfl, iT rfl ⟨by show 1 ≤ sizeLine; decide, fun p np => q.ask hD (s1.trans (Same.new np)) (s1.free np) upd_same⟩⟩
    · rw [e] at q
      refine ⟨_, rfl, rfl, _, rfl, iF rfl ?_⟩
      refine ⟨_, rfl, _, rfl, a, t, d, steps, rfl, hD.same s1, ok, hP, stp_len e, fun p H2 s2 np hp => ⟨p, _, rfl, hp, Nat.le_trans (List.length_filter_le _ _) (by decide), fun p3 H3 s3 np3 o => q.ask hD ((s1.trans s2).trans s3) ((s1.trans s2).free np3) o⟩⟩
/-! ### sound -/
def spSound (CD : Addr) : Sp := fun vs H Q _ => ∃ (a : Addr) (d : Gq03.Desk), vs = [.ref a] ∧ DeskAt CD H a d ∧ OkDesk d ∧ Ans CD a H Q (Gq03.step d .sound)
theorem scSound : FnScope ["desk", "found"] ["desk"] (defScope (top 81)) := ⟨rfl, rfl, rfl, by decide +kernel, rfl, by decide +kernel, by decide +kernel⟩
theorem ok_sound (T : Txt K mg CL CD) (cL : Cal P w K mg base 7 "lore_of" ["rules"] (spLoreOf CL)) (cW : Cal P w K mg base 4 "wrong_nodes" ["lore", "told"] (spWN CL)) (D : Def K mg "sound" (top 81)) : Cal P w K mg base 8 "sound" ["desk"] (spSound CD) := by
  refine D.cal scSound (fun vs H Q E h => ?_) (fun _ _ _ _ _ _ us hl => match us, hl with | [_], _ => rfl) (fun f cdv A outer s H vs Q E hr h => ⟨_,
    pss_cons (ps_set (i := 1) scSound.nd rfl (Or.inl rfl) (pe_cal cW (hr.mono (by decide)) rfl (pa_cons (pe_cal cL hr rfl (pa_cons (pe_fld (pv 0) rfl) pa_nil)) (pa_cons (pe_fld (pv 0) rfl) pa_nil))))
    (pss_one (ps_ret (pe_ifExp (pt_cmpR (op_eqE hr.units) (pv 1) (pe_lst pa_nil) (nomark _)) (pe_lst (pa_cons pe_int pa_nil)) (pe_lst (pa_cons pe_int (pa_cons (pe_ix ix_list (pv 1) pe_int (fun _ _ => rfl)) pa_nil)))))), ?_⟩)
  · obtain ⟨a, d, rfl, _⟩ := h
    rfl
  · obtain ⟨a, ⟨fs, rs⟩, rfl, hD, ok, q⟩ := h
    have q : Ans CD a H Q (⟨fs, rs⟩, match Gq03.nodes.find? fun x => !Gq03.fineBy (Gq03.bad rs) ⟨fs, rs⟩ x with
      | none => [1]
      | some x => Gq03.ints [0, x]) := q
    have es := sound_find ⟨fs, rs⟩
    rw [show (Gq03.nodes.find? fun x => !Gq03.fineBy (Gq03.bad rs) ⟨fs, rs⟩ x) = (wrongL ⟨fs, rs⟩).head? from es] at q
    obtain ⟨dx, tl, ar, ea, hF, hR⟩ := id hD
    refine ⟨_, rfl, a, CD, dx, _, _, rfl, ea, T.cD, T.dR, dF_r, ar, rs, rfl, hR, ok.rules, ok.rlen, fun la H1 k B D s1 U Fu L => ?_⟩
    refine ⟨_, rfl, a, CD, dx, _, _, rfl, s1 _ _ ea, T.cD, T.dT, dF_t, la, tl, rs, k, B, D, fs, rfl, L, U, Fu, hF.same s1, ok.facts, fun p H2 s2 np hp => ?_⟩
    refine ⟨_, rfl, by show 0 ≤ sizeLine; decide, fun e ne => ?_⟩
    have s3 := Same.new (o := .lst []) ne
    have s123 := (s1.trans s2).trans s3
    refine ⟨_, e, (hp.same s3).dp, iDs_shaped _, rfl, upd_same, _, rfl, ?_⟩
    rw [List.isEmpty_map]
    have hp3 := hp.same s3
    cases hw : wrongL ⟨fs, rs⟩ with
    | nil =>
      rw [hw] at q
      exact iT rfl ⟨by show 1 ≤ sizeLine; decide, fun p4 n4 => q.ask hD (s123.trans (Same.new n4)) (s123.free n4) upd_same⟩
    | cons x r =>
      rw [hw] at q hp3
      exact iF rfl ⟨_, rfl, p, _, _, _, rfl, rfl, SqL.of hp3, atI_nat (j := 0) rfl, by show 2 ≤ sizeLine; decide, fun p4 n4 => q.ask hD (s123.trans (Same.new n4)) (s123.free n4) upd_same⟩
/-! ### follows_told -/
def spFollowsT (CD : Addr) : Sp := fun vs H Q _ => ∃ (a : Addr) (v u : V) (s n t m : Nat) (d : Gq03.Desk), vs = [.ref a, v, u] ∧ DeskAt CD H a d ∧ OkDesk d ∧ TV H v s n ∧ TV H u t m ∧ Ans CD a H Q (Gq03.step d (.follows (Gq03Neutral.basic s n) (Gq03Neutral.basic t m)))
theorem scFollowsT : FnScope ["desk", "b", "c"] ["desk", "b", "c"] (defScope (top 82)) := ⟨rfl, rfl, rfl, by decide +kernel, rfl, by decide +kernel, by decide +kernel⟩
theorem ok_followsT (T : Txt K mg CL CD) (cI : Cal P w K mg base 1 "is_basic" ["b"] spIsBasic) (cL : Cal P w K mg base 7 "lore_of" ["rules"] (spLoreOf CL)) (cF : Cal P w K mg base 1 "follows" ["lore", "b", "c"] (spFollows CL)) (D : Def K mg "follows_told" (top 82)) : Cal P w K mg base 8 "follows_told" ["desk", "b", "c"] (spFollowsT CD) := by
  refine D.cal scFollowsT (fun vs H Q E h => ?_) (fun _ _ _ _ _ _ us hl => match us, hl with | [_, _, _], _ => rfl) (fun f cdv A outer s H vs Q E hr h => ⟨_,
    pss_cons (ps_if (PW.pt (pw_or (pt_not (pt_val (pe_cal cI (hr.mono (by decide)) rfl (pa_cons (pv 1) pa_nil)))) (pw_or1 (pt_not (pt_val (pe_cal cI (hr.mono (by decide)) rfl (pa_cons (pv 2) pa_nil))))))) (pss_one (ps_ret (pe_lst (pa_cons (pe_gi T.BEYOND) pa_nil)))) pss_nil)
    (pss_one (ps_ret (pe_lst (pa_cons (pe_callTy call_int1 (by rfl) T.int (by decide +kernel) (pa_cons (pe_cal cF (hr.mono (by decide)) rfl (pa_cons (pe_cal cL hr rfl (pa_cons (pe_fld (pv 0) rfl) pa_nil)) (pa_cons (pv 1) (pa_cons (pv 2) pa_nil)))) pa_nil)) pa_nil)))), ?_⟩)
  · obtain ⟨a, v, u, s, n, t, m, d, rfl, _⟩ := h
    rfl
  · obtain ⟨a, v, u, s, n, t, m, d, rfl, hD, ok, hv, hu, q⟩ := h
    change Ans CD a H Q (d, if Gq03.isBasic (Gq03Neutral.basic s n) = false ∨ Gq03.isBasic (Gq03Neutral.basic t m) = false then [-1] else Gq03.flag (Gq03.follows d.rules (Gq03Neutral.basic s n) (Gq03Neutral.basic t m))) at q
    obtain ⟨dx, tl, ar, ea, hF, hR⟩ := id hD
    refine ⟨_, rfl, v, s, n, rfl, hv, _, rfl, ?_⟩
    refine iB (fun hc => ?_) (fun hc => ?_)
    · rw [if_pos (.inl (by rw [← isB_eq]; exact nt hc))] at q
      exact iT rfl ⟨by show 1 ≤ sizeLine; decide, fun p np => q.ask hD (Same.new np) np upd_same⟩
    refine ⟨_, rfl, u, t, m, rfl, hu, _, rfl, ?_⟩
    refine iB (fun hc2 => ?_) (fun hc2 => ?_)
    · rw [if_pos (.inr (by rw [← isB_eq]; exact nt hc2))] at q
      exact ⟨by show 1 ≤ sizeLine; decide, fun p np => q.ask hD (Same.new np) np upd_same⟩
    have b1 := nf hc
    have b2 := nf hc2
    rw [if_neg (fun z => z.elim (fun z => by rw [← isB_eq, b1] at z; cases z) fun z => by rw [← isB_eq, b2] at z; cases z)] at q
    refine ⟨_, rfl, a, CD, dx, _, _, rfl, ea, T.cD, T.dR, dF_r, ar, d.rules, rfl, hR, ok.rules, ok.rlen, fun la H1 k B D s1 U Fu L => ?_⟩
    refine ⟨_, rfl, _, rfl, la, v, u, _, _, d.rules, k, B, D, rfl, L, (hv.bv b1).1.ts (TupS.of s1), (hu.bv b2).1.ts (TupS.of s1), (hv.bv b1).2, .inr ⟨_, rfl, by show 1 ≤ sizeLine; decide, fun p np => ?_⟩⟩
    refine q.ask hD (s1.trans (Same.new np)) (s1.free np) ?_
    unfold OL
    rw [flag_eq, ← follows_eq U Fu (hv.bv b1).2]
    exact upd_same
end
end Wm

namespace Wm
open PySem PySem.Spec PyProof.Rows L2
open Gq03 (Basic Rule Fact)
theorem bad_len (rs : List Rule) : (Gq03.bad rs).length ≤ 14 := nodup_len (U := Gq03.basics) (bad_nodup rs) fun _ h => bad_basics h
theorem rows_len : ∀ l : List Basic, (l.flatMap Gq03.row).length = 2 * l.length
  | [] => rfl
  | b :: l => by
    rw [List.flatMap_cons, List.length_append, rows_len l, row_bc, List.length_cons, List.length_cons]
    simp only [List.length_cons, List.length_nil]
    omega
section
variable {P : Program} {w : World} {K : PySem.W.Frag} {mg : Str → Option Value} {base : Heap} {CL CD : Addr}
/-! ### bad_told -/
def spBadT (CD : Addr) : Sp := fun vs H Q _ => ∃ (a : Addr) (d : Gq03.Desk), vs = [.ref a] ∧ DeskAt CD H a d ∧ OkDesk d ∧ Ans CD a H Q (Gq03.step d .bad)
theorem scBadT : FnScope ["desk", "found", "numbers", "basic"] ["desk"] (defScope (top 83)) := ⟨rfl, rfl, rfl, by decide +kernel, rfl, by decide +kernel, by decide +kernel⟩
theorem ok_badT (T : Txt K mg CL CD) (cL : Cal P w K mg base 7 "lore_of" ["rules"] (spLoreOf CL)) (cB : Cal P w K mg base 1 "bad_in_order" ["lore"] (spBadO CL)) (D : Def K mg "bad_told" (top 83)) : Cal P w K mg base 8 "bad_told" ["desk"] (spBadT CD) := by
  refine D.cal scBadT (fun vs H Q E h => ?_) (fun _ _ _ _ _ _ us hl => match us, hl with | [_], _ => rfl) (fun f cdv A outer s H vs Q E hr h => ⟨_,
    pss_cons (ps_set (i := 1) scBadT.nd rfl (Or.inl rfl) (pe_cal cB (hr.mono (by decide)) rfl (pa_cons (pe_cal cL hr rfl (pa_cons (pe_fld (pv 0) rfl) pa_nil)) pa_nil)))
    (pss_cons (ps_set (i := 2) scBadT.nd rfl (Or.inl rfl) (pe_lst (pa_cons (pe_callB call_len_seq (by rfl) T.len PySem.boot_len (pa_cons (pv 1) pa_nil)) pa_nil)))
    (pss_cons (ps_for PassesOwn.never rfl (pi_list (pv 1)) (pg_name (i := 3) scBadT.nd rfl (Or.inl rfl))
      (pss_one (ps_expr (pe_bm PySem.F.plainAttrs_list PySem.F.slot_list_extend PySem.F.type_list_extend mt_extend (pv 2) (pa_cons (pe_callTy call_list_of (by rfl) T.list (by decide +kernel) (pa_cons (pv 3) pa_nil)) pa_nil)))))
    (pss_one (ps_ret (pv 2))))), ?_⟩)
  · obtain ⟨a, d, rfl, _⟩ := h
    rfl
  · obtain ⟨a, d, rfl, hD, ok, q⟩ := h
    have q : Ans CD a H Q (d, Gq03.ints ((Gq03.bad d.rules).length :: (Gq03.bad d.rules).flatMap Gq03.row)) := q
    obtain ⟨dx, tl, ar, ea, hF, hR⟩ := id hD
    refine ⟨_, rfl, a, CD, dx, _, _, rfl, ea, T.cD, T.dR, dF_r, ar, d.rules, rfl, hR, ok.rules, ok.rlen, fun la H1 k B D s1 U Fu L => ?_⟩
    have bl := bad_len d.rules
    refine ⟨la, d.rules, k, B, D, rfl, L, Fu, fun fl H2 s2 nfl ⟨us, hus, hpu⟩ => ?_⟩
    have ulen := pr_len hpu
    refine ⟨_, rfl, fl, us, rfl, .inl (SqL.of hus), by show 1 ≤ sizeLine; decide, fun nb nnb => ?_⟩
    have s3 := Same.new (o := .lst [V.int (us.length : Int)]) nnb
    have s12 := s1.trans s2
    have nH := s12.free nnb
    have e1 : V.int (us.length : Int) = vi (Gq03.bad d.rules).length := by rw [ulen]
    rw [e1] at s3 ⊢
    refine ⟨_, rfl, fl, rfl, ⟨_, SqL.of (s3 _ _ hus)⟩, for_list (K := K) (a := fl) (xs := us) (fun i σ H' => ∃ v3, σ = [some (.ref a), some (.ref fl), some (.ref nb), v3] ∧ Same H H' ∧ H' fl = some (.lst us) ∧ Paired (BV H') us (Gq03.bad d.rules) ∧ IL H' nb ((Gq03.bad d.rules).length :: ((Gq03.bad d.rules).take i).flatMap Gq03.row))
      ⟨none, rfl, s12.trans s3, s3 _ _ hus, bvs_ts hpu (TupS.of s3), upd_same⟩ (fun i σ H' _ ⟨_, _, _, e, _⟩ => SqL.of e) ?_ ?_⟩
    · rintro i y σ H3 hy ⟨v3, rfl, s4, hus3, hpu3, hI⟩
      obtain ⟨b, hb, hbv⟩ := pr_get hpu3 hy
      obtain ⟨pt, rfl, hpt⟩ := id hbv
      refine ⟨_, rfl, .inl ⟨rfl, _, .inl (.inl hI)⟩, _, rfl, pt, _, rfl, .inr (SqT.of hpt), fun l nl => ?_⟩
      have s5 := Same.new (o := .lst [vi (bc b).1, vi (bc b).2]) nl
      have hI5 := hI.same s5
      have rl := rows_len ((Gq03.bad d.rules).take i)
      have tl' : ((Gq03.bad d.rules).take i).length ≤ 14 := by rw [List.length_take]; omega
      have nef : fl ≠ nb := by
        intro z
        have := s12.free nnb
        have h2 := hus
        rw [z] at h2
        rw [h2] at nnb
        cases nnb
      refine ⟨nb, l, _, _, rfl, rfl, hI5, upd_same, ?_, ?_⟩
      · rw [vis_len, List.length_cons, rl]
        exact line1000 (show 2 * _ + 1 + 2 ≤ 1000 by omega)
      · refine ⟨_, rfl, (s4.trans s5).past nH, ?_, bvs_ts hpu3 ((TupS.of s5).trans (TupS.lst hI5)), ?_⟩
        · rw [upd_ne nef]
          exact s5 _ _ hus3
        · rw [flat_more hb, row_bc, ← List.cons_append]
          exact IL.app (b := [(bc b).1, (bc b).2])
    · rintro σ H3 ⟨v3, rfl, s4, hus3, hpu3, hI⟩
      rw [ulen, List.take_length] at hI
      exact ⟨_, rfl, q.ask hD s4 nH (OL.of hI)⟩
/-! ### idle -/
def spIdleT (CD : Addr) : Sp := fun vs H Q _ => ∃ (a : Addr) (n : Nat) (d : Gq03.Desk), vs = [.ref a, vi n] ∧ DeskAt CD H a d ∧ OkDesk d ∧ Ans CD a H Q (Gq03.step d (.idle n))
theorem scIdleT : FnScope ["desk", "n"] ["desk", "n"] (defScope (top 84)) := ⟨rfl, rfl, rfl, by decide +kernel, rfl, by decide +kernel, by decide +kernel⟩
theorem ok_idleT (T : Txt K mg CL CD) (cI : Cal P w K mg base 8 "is_idle" ["rules", "n"] spIdle) (D : Def K mg "idle" (top 84)) : Cal P w K mg base 9 "idle" ["desk", "n"] (spIdleT CD) := by
  refine D.cal scIdleT (fun vs H Q E h => ?_) (fun _ _ _ _ _ _ us hl => match us, hl with | [_, _], _ => rfl) (fun f cdv A outer s H vs Q E hr h => ⟨_,
    pss_cons (ps_if (pt_cmpR op_ge (pv 1) (pe_callB call_len_seq (by rfl) T.len PySem.boot_len (pa_cons (pe_fld (pv 0) rfl) pa_nil)) (nomark _)) (pss_one (ps_ret (pe_lst (pa_cons (pe_gi T.NO_SUCH) pa_nil)))) pss_nil)
    (pss_one (ps_ret (pe_lst (pa_cons (pe_callTy call_int1 (by rfl) T.int (by decide +kernel) (pa_cons (pe_cal cI hr rfl (pa_cons (pe_fld (pv 0) rfl) (pa_cons (pv 1) pa_nil))) pa_nil)) pa_nil)))), ?_⟩)
  · obtain ⟨a, n, d, rfl, _⟩ := h
    rfl
  · obtain ⟨a, n, d, rfl, hD, ok, q⟩ := h
    change Ans CD a H Q (d, if d.rules.length ≤ n then [-2] else Gq03.flag (Gq03.idle d.rules n)) at q
    obtain ⟨dx, tl, ar, ea, hF, hR⟩ := id hD
    obtain ⟨vs, hvs, hp⟩ := id hR
    have vlen := pr_len hp
    refine ⟨_, rfl, _, rfl, a, CD, dx, _, _, rfl, ea, T.cD, T.dR, dF_r, ar, vs, rfl, .inl (SqL.of hvs), n, vs.length, rfl, rfl, _, rfl, ?_⟩
    refine iB (fun hc => ?_) (fun hc => ?_)
    · have h1 := of_decide_eq_true hc
      rw [if_pos (by omega)] at q
      exact ⟨by show 1 ≤ sizeLine; decide, fun p np => q.ask hD (Same.new np) np upd_same⟩
    have h1 := of_decide_eq_false hc
    rw [if_neg (by omega)] at q
    refine ⟨_, rfl, a, CD, dx, _, _, rfl, ea, T.cD, T.dR, dF_r, _, rfl, ar, n, d.rules, rfl, hR, ok.rules, ok.rlen, by omega, fun H1 s1 => .inr ⟨_, rfl, by show 1 ≤ sizeLine; decide, fun p np => ?_⟩⟩
    refine q.ask hD (s1.trans (Same.new np)) (s1.free np) ?_
    unfold OL
    rw [flag_eq]
    exact upd_same
/-! ### whence -/
def whS (d : Gq03.Desk) (x : Nat) (b : Basic) : List Int := match Gq03.whence d x b with
    | none => [-3]
    | some n => Gq03.ints [n]
def spWhence (CD : Addr) : Sp := fun vs H Q _ => ∃ (a : Addr) (x : Nat) (v : V) (s n : Nat) (d : Gq03.Desk), vs = [.ref a, vi x, v] ∧ DeskAt CD H a d ∧ OkDesk d ∧ TV H v s n ∧ Ans CD a H Q (Gq03.step d (.whence x (Gq03Neutral.basic s n)))
theorem scWhence : FnScope ["desk", "x", "b", "lore", "number", "thing", "basic"] ["desk", "x", "b"] (defScope (top 85)) := ⟨rfl, rfl, rfl, by decide +kernel, rfl, by decide +kernel, by decide +kernel⟩
theorem ok_whence (T : Txt K mg CL CD) (cI : Cal P w K mg base 1 "is_basic" ["b"] spIsBasic) (cL : Cal P w K mg base 7 "lore_of" ["rules"] (spLoreOf CL)) (cB : Cal P w K mg base 1 "basics_told" ["thing", "x"] spBT) (D : Def K mg "whence" (top 85)) : Cal P w K mg base 8 "whence" ["desk", "x", "b"] (spWhence CD) := by
  refine D.cal scWhence (fun vs H Q E h => ?_) (fun _ _ _ _ _ _ us hl => match us, hl with | [_, _, _], _ => rfl) (fun f cdv A outer s H vs Q E hr h => ⟨_,
    pss_cons (ps_if (PW.pt (pw_or (pt_cmpR op_notInN (pv 1) (pe_gt T.NODES) rfl) (pw_or1 (pt_not (pt_val (pe_cal cI (hr.mono (by decide)) rfl (pa_cons (pv 2) pa_nil))))))) (pss_one (ps_ret (pe_lst (pa_cons (pe_gi T.BEYOND) pa_nil)))) pss_nil)
    (pss_cons (ps_set (i := 3) scWhence.nd rfl (Or.inl rfl) (pe_cal cL hr rfl (pa_cons (pe_fld (pv 0) rfl) pa_nil)))
    (pss_cons (ps_for PassesOwn.never rfl (pi_enum (by rfl) T.enumerate (pa_cons (pe_fld (pv 0) rfl) pa_nil)) (pg_tup rfl (pgs_cons (pg_name (i := 4) scWhence.nd rfl (Or.inl rfl)) (pgs_cons (pg_name (i := 5) scWhence.nd rfl (Or.inl rfl)) pgs_nil)))
      (pss_one (ps_for PassesOwn.never rfl (pi_list (pe_cal cB (hr.mono (by decide)) rfl (pa_cons (pv 5) (pa_cons (pv 1) pa_nil)))) (pg_name (i := 6) scWhence.nd rfl (Or.inl rfl))
        (pss_one (ps_if (pt_cmpR (op_inB (u65 hr)) (pv 2) (pe_dget (u1 hr) (pe_fld (pv 3) rfl) (pv 6) (fun _ _ => rfl)) rfl) (pss_one (ps_ret (pe_lst (pa_cons (pv 4) pa_nil)))) pss_nil)))))
    (pss_one (ps_ret (pe_lst (pa_cons (pe_gi T.NONE) pa_nil)))))), ?_⟩)
  · obtain ⟨a, x, v, s, n, d, rfl, _⟩ := h
    rfl
  · obtain ⟨a, x, v, s, n, ⟨fs, rs⟩, rfl, hD, ok, hv, q⟩ := h
    change Ans CD a H Q (⟨fs, rs⟩, if Gq03.isNode x = false ∨ Gq03.isBasic (Gq03Neutral.basic s n) = false then [-1] else whS ⟨fs, rs⟩ x (Gq03Neutral.basic s n)) at q
    obtain ⟨dx, tl, ar, ea, hF, hR⟩ := id hD
    obtain ⟨vs, hvs, hp⟩ := id hF
    have vlen := pr_len hp
    refine ⟨_, rfl, fun an hn => ⟨x, _, an, rfl, rfl, .inr (hn _), _, rfl, ?_⟩⟩
    refine iB (fun hc => ?_) (fun hc => ?_)
    · rw [if_pos (.inl (nt hc))] at q
      exact iT rfl ⟨by show 1 ≤ sizeLine; decide, fun p np => q.ask hD (Same.new np) np upd_same⟩
    refine ⟨_, rfl, v, s, n, rfl, hv, _, rfl, ?_⟩
    refine iB (fun hc2 => ?_) (fun hc2 => ?_)
    · rw [if_pos (.inr (by rw [← isB_eq]; exact nt hc2))] at q
      exact ⟨by show 1 ≤ sizeLine; decide, fun p np => q.ask hD (Same.new np) np upd_same⟩
    have b1 := nf hc2
    rw [if_neg (fun z => z.elim (fun z => by rw [show Gq03.isNode x = true from nf hc] at z; cases z) fun z => by rw [← isB_eq, b1] at z; cases z)] at q
    have hb0 := (hv.bv b1).1
    generalize Gq03Neutral.basic s n = b at q hb0
    unfold whS at q
    refine ⟨_, rfl, a, CD, dx, _, _, rfl, ea, T.cD, T.dR, dF_r, ar, rs, rfl, hR, ok.rules, ok.rlen, fun la H1 k B D s1 U Fu L => ?_⟩
    have okf : okFacts fs := ok.facts
    refine ⟨_, rfl, a, CD, dx, _, _, rfl, s1 _ _ ea, T.cD, T.dT, dF_t, tl, vs, rfl, SqL.of (s1 _ _ hvs), for_it walk_enum (fun i σ H' => ∃ v4 v5 v6, σ = [some (.ref a), some (vi x), some v, some (.ref la), v4, v5, v6] ∧ Same H1 H' ∧ (fs.take i).any (wh1 k x b) = false)
      ⟨none, none, none, rfl, Same.refl H1, rfl⟩ (fun i σ H' _ ⟨_, _, _, _, s2, _⟩ => SqL.of ((s1.trans s2) _ _ hvs)) ?_ ?_⟩
    · rintro i y σ H2 H3 hi ⟨v4, v5, v6, rfl, s2, hno⟩ ⟨t, x0, y0, rfl, nt0, rfl, e1, e2⟩
      have ex := Option.some.inj e1
      subst ex
      have s3 := Same.new (o := .tup [V.int (i : Nat), y0]) nt0
      obtain ⟨f, hfi, hfv⟩ := pr_get hp e2
      have okff := okf f (List.mem_of_getElem? hfi)
      have s123 := (s1.trans s2).trans s3
      refine ⟨t, _, rfl, SqT.of upd_same, rfl, _, _, rfl, _, _, rfl, rfl, ?_⟩
      refine ⟨_, rfl, _, rfl, y0, x, f, rfl, hfv.ts (TupS.of s123), fun ql H4 s4 nq ⟨ws, hq, hpq⟩ => ?_⟩
      refine ⟨ql, rfl, ⟨_, SqL.of hq⟩, for_list (K := K) (a := ql) (xs := ws) (fun j σ H' => ∃ v6, σ = [some (.ref a), some (vi x), some v, some (.ref la), some (vi i), some y0, v6] ∧ H' = H4 ∧ ((tb x f).take j).any (fun c => (k.bas c).contains b) = false)
        ⟨v6, rfl, rfl, rfl⟩ (fun j σ H' _ ⟨_, _, e, _⟩ => by rw [e]; exact SqL.of hq) ?_ ?_⟩
      · rintro j z σ H5 hz ⟨v6', rfl, rfl, hnj⟩
        obtain ⟨c, hcj, hcv⟩ := pr_get hpq hz
        have hcm : c ∈ Gq03.basics := tb_basics okff (List.mem_of_getElem? hcj)
        have s24 := (s2.trans s3).trans s4
        obtain ⟨aB, aD, dx', ar', ad, ab, kvd, kvb, h1, h2, h3, h4, h5, h6, h7, h8, h9⟩ := L.same s24
        obtain ⟨qa, e1, i1, _⟩ := h6 c hcm
        obtain ⟨pc, rfl, hpc⟩ := hcv
        have g := DGet.t (k := kb c) h5 hpc
        rw [e1] at g
        have s14 := s1.trans s24
        refine ⟨_, rfl, _, rfl, la, CL, dx', _, _, rfl, h1, T.cL, T.lB, lF_b, _, rfl, ab, _, rfl, g, b, _, qa, hb0.ts (TupS.of s14), rfl, i1, _, rfl, ?_⟩
        refine iB (fun hc3 => ?_) (fun hc3 => ⟨_, rfl, rfl, ?_⟩)
        · have hw : wh1 k x b f = true := by
            unfold wh1
            exact any_of_get hcj hc3
          rw [whence_some U okf hfi hw hno] at q
          exact ⟨_, rfl, by show 1 ≤ sizeLine; decide, fun p np => q.ask hD (s14.trans (Same.new np)) (s14.free np) upd_same⟩
        · rw [take_more hcj]
          exact any_snoc_false hnj hc3
      · rintro σ H5 ⟨v6', rfl, rfl, hnj⟩
        rw [pr_len hpq, List.take_length] at hnj
        refine ⟨_, _, _, rfl, (s2.trans s3).trans s4, ?_⟩
        rw [take_more hfi]
        exact any_snoc_false hno hnj
    · rintro σ H2 ⟨v4, v5, v6, rfl, s2, hno⟩
      rw [vlen, List.take_length] at hno
      rw [whence_none U okf hno] at q
      exact ⟨by show 1 ≤ sizeLine; decide, fun p np => q.ask hD ((s1.trans s2).trans (Same.new np)) ((s1.trans s2).free np) upd_same⟩
end
end Wm

namespace Wm
open PySem PySem.Spec PyProof.Rows L2
open Gq03 (Basic Rule Fact)
theorem fewest_len (d : Gq03.Desk) : (Gq03.fewest d).length ≤ d.facts.length := by
  unfold Gq03.fewest
  simp only
  cases h : (List.range (d.facts.length + 1)).findSome? fun k => (Gq03.choices k (List.range d.facts.length)).find? fun c => (Gq03.clashes d).all fun p => c.contains p.1 || c.contains p.2 with
  | none => exact Nat.zero_le _
  | some c =>
    obtain ⟨k, hk, hf⟩ := List.exists_of_findSome?_eq_some h
    have := choices_len _ _ _ (List.mem_of_find?_eq_some hf)
    have hk' := List.mem_range.mp hk
    show c.length ≤ _
    omega
section
variable {P : Program} {w : World} {K : PySem.W.Frag} {mg : Str → Option Value} {base : Heap} {CL CD : Addr}
/-! ### answer_telling -/
def spTelling (CD : Addr) : Sp := fun vs H Q _ => ∃ (a pn : Addr) (deed : Nat) (ns : List Nat) (d : Gq03.Desk) (c : Gq03.Call), vs = [.ref a, vi deed, .ref pn] ∧ DeskAt CD H a d ∧ OkDesk d ∧ IL H pn ns ∧ Tells deed ns c ∧ Ans CD a H Q (Gq03.step d c)
theorem scTelling : FnScope ["desk", "deed", "n"] ["desk", "deed", "n"] (defScope (top 86)) := ⟨rfl, rfl, rfl, by decide +kernel, rfl, by decide +kernel, by decide +kernel⟩
theorem ok_telling (T : Txt K mg CL CD) (c0 : Cal P w K mg base 2 "tell_kind" ["desk", "x", "k"] (spTellK CD)) (c1 : Cal P w K mg base 2 "tell_edge" ["desk", "x", "a", "y"] (spTellE CD)) (c2 : Cal P w K mg base 1 "drop" ["desk", "n"] (spDrop CD))
    (c3 : Cal P w K mg base 2 "rule_of_basics" ["desk", "sort", "b", "c"] (spRoB CD)) (c4 : Cal P w K mg base 2 "rule_of_directions" ["desk", "sort", "r", "s"] (spRoD CD)) (c7 : Cal P w K mg base 1 "strike" ["desk", "n"] (spStrike CD)) (D : Def K mg "answer_telling" (top 86)) :
    Cal P w K mg base 3 "answer_telling" ["desk", "deed", "n"] (spTelling CD) := by
  refine D.cal scTelling (fun vs H Q E h => ?_) (fun _ _ _ _ _ _ us hl => match us, hl with | [_, _, _], _ => rfl) (fun f cdv A outer s H vs Q E hr h => ⟨_,
    pss_cons (ps_if (pt_cmpR op_eqN (pv 1) pe_int (nomark _)) (pss_one (ps_ret (pe_cal c0 hr rfl (pa_cons (pv 0) (pa_cons (pe_ix ix_list (pv 2) pe_int (fun _ _ => rfl)) (pa_cons (pe_ix ix_list (pv 2) pe_int (fun _ _ => rfl)) pa_nil)))))) pss_nil) (
    pss_cons (ps_if (pt_cmpR op_eqN (pv 1) pe_int (nomark _)) (pss_one (ps_ret (pe_cal c1 hr rfl (pa_cons (pv 0) (pa_cons (pe_ix ix_list (pv 2) pe_int (fun _ _ => rfl)) (pa_cons (pe_ix ix_list (pv 2) pe_int (fun _ _ => rfl)) (pa_cons (pe_ix ix_list (pv 2) pe_int (fun _ _ => rfl)) pa_nil))))))) pss_nil) (
    pss_cons (ps_if (pt_cmpR op_eqN (pv 1) pe_int (nomark _)) (pss_one (ps_ret (pe_cal c2 (hr.mono (by decide)) rfl (pa_cons (pv 0) (pa_cons (pe_ix ix_list (pv 2) pe_int (fun _ _ => rfl)) pa_nil))))) pss_nil) (
    pss_cons (ps_if (pt_cmpR op_eqN (pv 1) pe_int (nomark _)) (pss_one (ps_ret (pe_cal c3 hr rfl (pa_cons (pv 0) (pa_cons (pe_gi T.SUB) (pa_cons (pe_tup (pa_cons (pe_ix ix_list (pv 2) pe_int (fun _ _ => rfl)) (pa_cons (pe_ix ix_list (pv 2) pe_int (fun _ _ => rfl)) pa_nil))) (pa_cons (pe_tup (pa_cons (pe_ix ix_list (pv 2) pe_int (fun _ _ => rfl)) (pa_cons (pe_ix ix_list (pv 2) pe_int (fun _ _ => rfl)) pa_nil))) pa_nil))))))) pss_nil) (
    pss_cons (ps_if (pt_cmpR op_eqN (pv 1) pe_int (nomark _)) (pss_one (ps_ret (pe_cal c4 hr rfl (pa_cons (pv 0) (pa_cons (pe_gi T.ROLE) (pa_cons (pe_ix ix_list (pv 2) pe_int (fun _ _ => rfl)) (pa_cons (pe_ix ix_list (pv 2) pe_int (fun _ _ => rfl)) pa_nil))))))) pss_nil) (
    pss_cons (ps_if (pt_cmpR op_eqN (pv 1) pe_int (nomark _)) (pss_one (ps_ret (pe_cal c3 hr rfl (pa_cons (pv 0) (pa_cons (pe_gi T.NEVER) (pa_cons (pe_tup (pa_cons (pe_ix ix_list (pv 2) pe_int (fun _ _ => rfl)) (pa_cons (pe_ix ix_list (pv 2) pe_int (fun _ _ => rfl)) pa_nil))) (pa_cons (pe_tup (pa_cons (pe_ix ix_list (pv 2) pe_int (fun _ _ => rfl)) (pa_cons (pe_ix ix_list (pv 2) pe_int (fun _ _ => rfl)) pa_nil))) pa_nil))))))) pss_nil) (
    pss_cons (ps_if (pt_cmpR op_eqN (pv 1) pe_int (nomark _)) (pss_one (ps_ret (pe_cal c4 hr rfl (pa_cons (pv 0) (pa_cons (pe_gi T.NEVER_ROLE) (pa_cons (pe_ix ix_list (pv 2) pe_int (fun _ _ => rfl)) (pa_cons (pe_ix ix_list (pv 2) pe_int (fun _ _ => rfl)) pa_nil))))))) pss_nil) (
    (pss_one (ps_ret (pe_cal c7 (hr.mono (by decide)) rfl (pa_cons (pv 0) (pa_cons (pe_ix ix_list (pv 2) pe_int (fun _ _ => rfl)) pa_nil)))))))))))), ?_⟩)
  · obtain ⟨a, pn, deed, ns, d, c, rfl, _⟩ := h
    rfl
  · obtain ⟨a, pn, deed, ns, d, c, rfl, hD, ok, hn, ht, q⟩ := h
    cases ht with
    | kind x y =>
      refine ⟨_, rfl, 0, 0, rfl, rfl, _, rfl, iT rfl (?_)⟩
      exact ⟨_, rfl, _, rfl, pn, _, _, _, rfl, rfl, SqL.of hn, atI_nat (j := 0) rfl, _, rfl, pn, _, _, _, rfl, rfl, SqL.of hn, atI_nat (j := 1) rfl, a, d, x, y, rfl, hD, ok, q⟩
    | edge x y z =>
      refine ⟨_, rfl, 1, 0, rfl, rfl, _, rfl, iF rfl (⟨_, rfl, 1, 1, rfl, rfl, _, rfl, iT rfl (?_)⟩)⟩
      exact ⟨_, rfl, _, rfl, pn, _, _, _, rfl, rfl, SqL.of hn, atI_nat (j := 0) rfl, _, rfl, pn, _, _, _, rfl, rfl, SqL.of hn, atI_nat (j := 1) rfl, _, rfl, pn, _, _, _, rfl, rfl, SqL.of hn, atI_nat (j := 2) rfl, a, d, x, y, z, rfl, hD, ok, q⟩
    | drop x =>
      refine ⟨_, rfl, 2, 0, rfl, rfl, _, rfl, iF rfl (⟨_, rfl, 2, 1, rfl, rfl, _, rfl, iF rfl (⟨_, rfl, 2, 2, rfl, rfl, _, rfl, iT rfl (?_)⟩)⟩)⟩
      exact ⟨_, rfl, _, rfl, pn, _, _, _, rfl, rfl, SqL.of hn, atI_nat (j := 0) rfl, a, d, x, rfl, hD, ok, q⟩
    | sub x y z t =>
      refine ⟨_, rfl, 3, 0, rfl, rfl, _, rfl, iF rfl (⟨_, rfl, 3, 1, rfl, rfl, _, rfl, iF rfl (⟨_, rfl, 3, 2, rfl, rfl, _, rfl, iF rfl (⟨_, rfl, 3, 3, rfl, rfl, _, rfl, iT rfl (?_)⟩)⟩)⟩)⟩
      refine ⟨_, rfl, _, rfl, pn, _, _, _, rfl, rfl, SqL.of hn, atI_nat (j := 0) rfl, _, rfl, pn, _, _, _, rfl, rfl, SqL.of hn, atI_nat (j := 1) rfl, by show 2 ≤ sizeLine; decide, fun t1 n1 => ?_⟩
      have s1 := Same.new (o := .tup [vi x, vi y]) n1
      have hn1 := hn.same s1
      refine ⟨_, rfl, pn, _, _, _, rfl, rfl, SqL.of hn1, atI_nat (j := 2) rfl, _, rfl, pn, _, _, _, rfl, rfl, SqL.of hn1, atI_nat (j := 3) rfl, by show 2 ≤ sizeLine; decide, fun t2 n2 => ?_⟩
      have s2 := Same.new (o := .tup [vi z, vi t]) n2
      exact ⟨a, .ref t1, .ref t2, d, 0, x, y, z, t, rfl, .inl rfl, hD.same (s1.trans s2), ok, ⟨t1, rfl, s2 _ _ upd_same⟩, ⟨t2, rfl, upd_same⟩, q.same (s1.trans s2)⟩
    | role x y =>
      refine ⟨_, rfl, 4, 0, rfl, rfl, _, rfl, iF rfl (⟨_, rfl, 4, 1, rfl, rfl, _, rfl, iF rfl (⟨_, rfl, 4, 2, rfl, rfl, _, rfl, iF rfl (⟨_, rfl, 4, 3, rfl, rfl, _, rfl, iF rfl (⟨_, rfl, 4, 4, rfl, rfl, _, rfl, iT rfl (?_)⟩)⟩)⟩)⟩)⟩
      exact ⟨_, rfl, _, rfl, pn, _, _, _, rfl, rfl, SqL.of hn, atI_nat (j := 0) rfl, _, rfl, pn, _, _, _, rfl, rfl, SqL.of hn, atI_nat (j := 1) rfl, a, d, 1, x, y, rfl, .inl rfl, hD, ok, q⟩
    | never x y z t =>
      refine ⟨_, rfl, 5, 0, rfl, rfl, _, rfl, iF rfl (⟨_, rfl, 5, 1, rfl, rfl, _, rfl, iF rfl (⟨_, rfl, 5, 2, rfl, rfl, _, rfl, iF rfl (⟨_, rfl, 5, 3, rfl, rfl, _, rfl, iF rfl (⟨_, rfl, 5, 4, rfl, rfl, _, rfl, iF rfl (⟨_, rfl, 5, 5, rfl, rfl, _, rfl, iT rfl (?_)⟩)⟩)⟩)⟩)⟩)⟩
      refine ⟨_, rfl, _, rfl, pn, _, _, _, rfl, rfl, SqL.of hn, atI_nat (j := 0) rfl, _, rfl, pn, _, _, _, rfl, rfl, SqL.of hn, atI_nat (j := 1) rfl, by show 2 ≤ sizeLine; decide, fun t1 n1 => ?_⟩
      have s1 := Same.new (o := .tup [vi x, vi y]) n1
      have hn1 := hn.same s1
      refine ⟨_, rfl, pn, _, _, _, rfl, rfl, SqL.of hn1, atI_nat (j := 2) rfl, _, rfl, pn, _, _, _, rfl, rfl, SqL.of hn1, atI_nat (j := 3) rfl, by show 2 ≤ sizeLine; decide, fun t2 n2 => ?_⟩
      have s2 := Same.new (o := .tup [vi z, vi t]) n2
      exact ⟨a, .ref t1, .ref t2, d, 2, x, y, z, t, rfl, .inr rfl, hD.same (s1.trans s2), ok, ⟨t1, rfl, s2 _ _ upd_same⟩, ⟨t2, rfl, upd_same⟩, q.same (s1.trans s2)⟩
    | neverRole x y =>
      refine ⟨_, rfl, 6, 0, rfl, rfl, _, rfl, iF rfl (⟨_, rfl, 6, 1, rfl, rfl, _, rfl, iF rfl (⟨_, rfl, 6, 2, rfl, rfl, _, rfl, iF rfl (⟨_, rfl, 6, 3, rfl, rfl, _, rfl, iF rfl (⟨_, rfl, 6, 4, rfl, rfl, _, rfl, iF rfl (⟨_, rfl, 6, 5, rfl, rfl, _, rfl, iF rfl (⟨_, rfl, 6, 6, rfl, rfl, _, rfl, iT rfl (?_)⟩)⟩)⟩)⟩)⟩)⟩)⟩
      exact ⟨_, rfl, _, rfl, pn, _, _, _, rfl, rfl, SqL.of hn, atI_nat (j := 0) rfl, _, rfl, pn, _, _, _, rfl, rfl, SqL.of hn, atI_nat (j := 1) rfl, a, d, 3, x, y, rfl, .inr rfl, hD, ok, q⟩
    | strike x =>
      refine ⟨_, rfl, 7, 0, rfl, rfl, _, rfl, iF rfl (⟨_, rfl, 7, 1, rfl, rfl, _, rfl, iF rfl (⟨_, rfl, 7, 2, rfl, rfl, _, rfl, iF rfl (⟨_, rfl, 7, 3, rfl, rfl, _, rfl, iF rfl (⟨_, rfl, 7, 4, rfl, rfl, _, rfl, iF rfl (⟨_, rfl, 7, 5, rfl, rfl, _, rfl, iF rfl (⟨_, rfl, 7, 6, rfl, rfl, _, rfl, iF rfl (?_)⟩)⟩)⟩)⟩)⟩)⟩)⟩
      exact ⟨_, rfl, _, rfl, pn, _, _, _, rfl, rfl, SqL.of hn, atI_nat (j := 0) rfl, a, d, x, rfl, hD, ok, q⟩
/-! ### answer_asking -/
def spAsking (CD : Addr) : Sp := fun vs H Q _ => ∃ (a pn pr : Addr) (deed : Nat) (ns row : List Nat) (d : Gq03.Desk) (c : Gq03.Call), vs = [.ref a, vi deed, .ref pn, .ref pr] ∧ DeskAt CD H a d ∧ OkDesk d ∧ IL H pn ns ∧ IL H pr row ∧ row.length ≤ 100000 ∧ Asks deed ns row c ∧ Ans CD a H Q (Gq03.step d c)
theorem scAsking : FnScope ["desk", "deed", "n", "row"] ["desk", "deed", "n", "row"] (defScope (top 87)) := ⟨rfl, rfl, rfl, by decide +kernel, rfl, by decide +kernel, by decide +kernel⟩
theorem ok_asking (T : Txt K mg CL CD) (c8 : Cal P w K mg base 8 "is_told" ["desk", "x", "b"] (spIsTold CD)) (c9 : Cal P w K mg base 8 "who" ["desk", "b"] (spWho CD)) (c10 : Cal P w K mg base 8 "edges_told" ["desk", "x", "y"] (spEdgesT CD)) (c11 : Cal P w K mg base 8 "chain" ["desk", "x", "numbers"] (spChain CD))
    (c12 : Cal P w K mg base 9 "from_all" ["desk", "numbers"] (spFrom CD)) (c13 : Cal P w K mg base 8 "sound" ["desk"] (spSound CD)) (c14 : Cal P w K mg base 8 "follows_told" ["desk", "b", "c"] (spFollowsT CD)) (c15 : Cal P w K mg base 8 "bad_told" ["desk"] (spBadT CD)) (c16 : Cal P w K mg base 9 "idle" ["desk", "n"] (spIdleT CD))
    (c17 : Cal P w K mg base 8 "whence" ["desk", "x", "b"] (spWhence CD)) (cN : Cal P w K mg base 1 "counted" ["row"] spCounted) (cF : Cal P w K mg base 6 "fewest" ["lore", "told"] (spFew CL)) (cL : Cal P w K mg base 7 "lore_of" ["rules"] (spLoreOf CL)) (D : Def K mg "answer_asking" (top 87)) :
    Cal P w K mg base 10 "answer_asking" ["desk", "deed", "n", "row"] (spAsking CD) := by
  refine D.cal scAsking (fun vs H Q E h => ?_) (fun _ _ _ _ _ _ us hl => match us, hl with | [_, _, _, _], _ => rfl) (fun f cdv A outer s H vs Q E hr h => ⟨_,
    pss_cons (ps_if (pt_cmpR op_eqN (pv 1) pe_int (nomark _)) (pss_one (ps_ret (pe_cal c8 (hr.mono (by decide)) rfl (pa_cons (pv 0) (pa_cons (pe_ix ix_list (pv 2) pe_int (fun _ _ => rfl)) (pa_cons (pe_tup (pa_cons (pe_ix ix_list (pv 2) pe_int (fun _ _ => rfl)) (pa_cons (pe_ix ix_list (pv 2) pe_int (fun _ _ => rfl)) pa_nil))) pa_nil)))))) pss_nil) (
    pss_cons (ps_if (pt_cmpR op_eqN (pv 1) pe_int (nomark _)) (pss_one (ps_ret (pe_cal c9 (hr.mono (by decide)) rfl (pa_cons (pv 0) (pa_cons (pe_tup (pa_cons (pe_ix ix_list (pv 2) pe_int (fun _ _ => rfl)) (pa_cons (pe_ix ix_list (pv 2) pe_int (fun _ _ => rfl)) pa_nil))) pa_nil))))) pss_nil) (
    pss_cons (ps_if (pt_cmpR op_eqN (pv 1) pe_int (nomark _)) (pss_one (ps_ret (pe_cal c10 (hr.mono (by decide)) rfl (pa_cons (pv 0) (pa_cons (pe_ix ix_list (pv 2) pe_int (fun _ _ => rfl)) (pa_cons (pe_ix ix_list (pv 2) pe_int (fun _ _ => rfl)) pa_nil)))))) pss_nil) (
    pss_cons (ps_if (pt_cmpR op_eqN (pv 1) pe_int (nomark _)) (pss_one (ps_ret (pe_cal c11 (hr.mono (by decide)) rfl (pa_cons (pv 0) (pa_cons (pe_ix ix_list (pv 2) pe_int (fun _ _ => rfl)) (pa_cons (pv 3) pa_nil)))))) pss_nil) (
    pss_cons (ps_if (pt_cmpR op_eqN (pv 1) pe_int (nomark _)) (pss_one (ps_ret (pe_cal c12 hr rfl (pa_cons (pv 0) (pa_cons (pv 3) pa_nil))))) pss_nil) (
    pss_cons (ps_if (pt_cmpR op_eqN (pv 1) pe_int (nomark _)) (pss_one (ps_ret (pe_cal c13 (hr.mono (by decide)) rfl (pa_cons (pv 0) pa_nil)))) pss_nil) (
    pss_cons (ps_if (pt_cmpR op_eqN (pv 1) pe_int (nomark _)) (pss_one (ps_ret (pe_cal c14 (hr.mono (by decide)) rfl (pa_cons (pv 0) (pa_cons (pe_tup (pa_cons (pe_ix ix_list (pv 2) pe_int (fun _ _ => rfl)) (pa_cons (pe_ix ix_list (pv 2) pe_int (fun _ _ => rfl)) pa_nil))) (pa_cons (pe_tup (pa_cons (pe_ix ix_list (pv 2) pe_int (fun _ _ => rfl)) (pa_cons (pe_ix ix_list (pv 2) pe_int (fun _ _ => rfl)) pa_nil))) pa_nil)))))) pss_nil) (
    pss_cons (ps_if (pt_cmpR op_eqN (pv 1) pe_int (nomark _)) (pss_one (ps_ret (pe_cal c15 (hr.mono (by decide)) rfl (pa_cons (pv 0) pa_nil)))) pss_nil) (
    pss_cons (ps_if (pt_cmpR op_eqN (pv 1) pe_int (nomark _)) (pss_one (ps_ret (pe_cal c16 hr rfl (pa_cons (pv 0) (pa_cons (pe_ix ix_list (pv 2) pe_int (fun _ _ => rfl)) pa_nil))))) pss_nil) (
    pss_cons (ps_if (pt_cmpR op_eqN (pv 1) pe_int (nomark _)) (pss_one (ps_ret (pe_cal c17 (hr.mono (by decide)) rfl (pa_cons (pv 0) (pa_cons (pe_ix ix_list (pv 2) pe_int (fun _ _ => rfl)) (pa_cons (pe_tup (pa_cons (pe_ix ix_list (pv 2) pe_int (fun _ _ => rfl)) (pa_cons (pe_ix ix_list (pv 2) pe_int (fun _ _ => rfl)) pa_nil))) pa_nil)))))) pss_nil) (
    (pss_one (ps_ret (pe_cal cN (hr.mono (by decide)) rfl (pa_cons (pe_cal cF (hr.mono (by decide)) rfl (pa_cons (pe_cal cL (hr.mono (by decide)) rfl (pa_cons (pe_fld (pv 0) rfl) pa_nil)) (pa_cons (pe_fld (pv 0) rfl) pa_nil))) pa_nil)))))))))))))), ?_⟩)
  · obtain ⟨a, pn, pr, deed, ns, row, d, c, rfl, _⟩ := h
    rfl
  · obtain ⟨a, pn, pr, deed, ns, row, d, c, rfl, hD, ok, hn, hrow, hlen, ht, q⟩ := h
    cases ht with
    | is_ x y z =>
      refine ⟨_, rfl, 8, 8, rfl, rfl, _, rfl, iT rfl (?_)⟩
      refine ⟨_, rfl, _, rfl, pn, _, _, _, rfl, rfl, SqL.of hn, atI_nat (j := 0) rfl, _, rfl, pn, _, _, _, rfl, rfl, SqL.of hn, atI_nat (j := 1) rfl, _, rfl, pn, _, _, _, rfl, rfl, SqL.of hn, atI_nat (j := 2) rfl, by show 2 ≤ sizeLine; decide, fun t1 n1 => ?_⟩
      have s1 := Same.new (o := .tup [vi y, vi z]) n1
      exact ⟨a, x, .ref t1, y, z, d, rfl, hD.same s1, ok, ⟨t1, rfl, upd_same⟩, q.same s1⟩
    | who x y =>
      refine ⟨_, rfl, 9, 8, rfl, rfl, _, rfl, iF rfl (⟨_, rfl, 9, 9, rfl, rfl, _, rfl, iT rfl (?_)⟩)⟩
      refine ⟨_, rfl, _, rfl, pn, _, _, _, rfl, rfl, SqL.of hn, atI_nat (j := 0) rfl, _, rfl, pn, _, _, _, rfl, rfl, SqL.of hn, atI_nat (j := 1) rfl, by show 2 ≤ sizeLine; decide, fun t1 n1 => ?_⟩
      have s1 := Same.new (o := .tup [vi x, vi y]) n1
      exact ⟨a, .ref t1, x, y, d, rfl, hD.same s1, ok, ⟨t1, rfl, upd_same⟩, q.same s1⟩
    | edges x y =>
      refine ⟨_, rfl, 10, 8, rfl, rfl, _, rfl, iF rfl (⟨_, rfl, 10, 9, rfl, rfl, _, rfl, iF rfl (⟨_, rfl, 10, 10, rfl, rfl, _, rfl, iT rfl (?_)⟩)⟩)⟩
      exact ⟨_, rfl, _, rfl, pn, _, _, _, rfl, rfl, SqL.of hn, atI_nat (j := 0) rfl, _, rfl, pn, _, _, _, rfl, rfl, SqL.of hn, atI_nat (j := 1) rfl, a, x, y, d, rfl, hD, ok, q⟩
    | chain x l =>
      refine ⟨_, rfl, 11, 8, rfl, rfl, _, rfl, iF rfl (⟨_, rfl, 11, 9, rfl, rfl, _, rfl, iF rfl (⟨_, rfl, 11, 10, rfl, rfl, _, rfl, iF rfl (⟨_, rfl, 11, 11, rfl, rfl, _, rfl, iT rfl (?_)⟩)⟩)⟩)⟩
      exact ⟨_, rfl, _, rfl, pn, _, _, _, rfl, rfl, SqL.of hn, atI_nat (j := 0) rfl, _, rfl, a, pr, x, row, d, rfl, hD, ok, hrow, hlen, q⟩
    | all l =>
      refine ⟨_, rfl, 12, 8, rfl, rfl, _, rfl, iF rfl (⟨_, rfl, 12, 9, rfl, rfl, _, rfl, iF rfl (⟨_, rfl, 12, 10, rfl, rfl, _, rfl, iF rfl (⟨_, rfl, 12, 11, rfl, rfl, _, rfl, iF rfl (⟨_, rfl, 12, 12, rfl, rfl, _, rfl, iT rfl (?_)⟩)⟩)⟩)⟩)⟩
      exact ⟨_, rfl, _, rfl, a, pr, row, d, rfl, hD, ok, hrow, hlen, q⟩
    | sound  =>
      refine ⟨_, rfl, 13, 8, rfl, rfl, _, rfl, iF rfl (⟨_, rfl, 13, 9, rfl, rfl, _, rfl, iF rfl (⟨_, rfl, 13, 10, rfl, rfl, _, rfl, iF rfl (⟨_, rfl, 13, 11, rfl, rfl, _, rfl, iF rfl (⟨_, rfl, 13, 12, rfl, rfl, _, rfl, iF rfl (⟨_, rfl, 13, 13, rfl, rfl, _, rfl, iT rfl (?_)⟩)⟩)⟩)⟩)⟩)⟩
      exact ⟨_, rfl, a, d, rfl, hD, ok, q⟩
    | follows x y z t =>
      refine ⟨_, rfl, 14, 8, rfl, rfl, _, rfl, iF rfl (⟨_, rfl, 14, 9, rfl, rfl, _, rfl, iF rfl (⟨_, rfl, 14, 10, rfl, rfl, _, rfl, iF rfl (⟨_, rfl, 14, 11, rfl, rfl, _, rfl, iF rfl (⟨_, rfl, 14, 12, rfl, rfl, _, rfl, iF rfl (⟨_, rfl, 14, 13, rfl, rfl, _, rfl, iF rfl (⟨_, rfl, 14, 14, rfl, rfl, _, rfl, iT rfl (?_)⟩)⟩)⟩)⟩)⟩)⟩)⟩
      refine ⟨_, rfl, _, rfl, pn, _, _, _, rfl, rfl, SqL.of hn, atI_nat (j := 0) rfl, _, rfl, pn, _, _, _, rfl, rfl, SqL.of hn, atI_nat (j := 1) rfl, by show 2 ≤ sizeLine; decide, fun t1 n1 => ?_⟩
      have s1 := Same.new (o := .tup [vi x, vi y]) n1
      have hn1 := hn.same s1
      refine ⟨_, rfl, pn, _, _, _, rfl, rfl, SqL.of hn1, atI_nat (j := 2) rfl, _, rfl, pn, _, _, _, rfl, rfl, SqL.of hn1, atI_nat (j := 3) rfl, by show 2 ≤ sizeLine; decide, fun t2 n2 => ?_⟩
      have s2 := Same.new (o := .tup [vi z, vi t]) n2
      exact ⟨a, .ref t1, .ref t2, x, y, z, t, d, rfl, hD.same (s1.trans s2), ok, ⟨t1, rfl, s2 _ _ upd_same⟩, ⟨t2, rfl, upd_same⟩, q.same (s1.trans s2)⟩
    | bad  =>
      refine ⟨_, rfl, 15, 8, rfl, rfl, _, rfl, iF rfl (⟨_, rfl, 15, 9, rfl, rfl, _, rfl, iF rfl (⟨_, rfl, 15, 10, rfl, rfl, _, rfl, iF rfl (⟨_, rfl, 15, 11, rfl, rfl, _, rfl, iF rfl (⟨_, rfl, 15, 12, rfl, rfl, _, rfl, iF rfl (⟨_, rfl, 15, 13, rfl, rfl, _, rfl, iF rfl (⟨_, rfl, 15, 14, rfl, rfl, _, rfl, iF rfl (⟨_, rfl, 15, 15, rfl, rfl, _, rfl, iT rfl (?_)⟩)⟩)⟩)⟩)⟩)⟩)⟩)⟩
      exact ⟨_, rfl, a, d, rfl, hD, ok, q⟩
    | idle x =>
      refine ⟨_, rfl, 16, 8, rfl, rfl, _, rfl, iF rfl (⟨_, rfl, 16, 9, rfl, rfl, _, rfl, iF rfl (⟨_, rfl, 16, 10, rfl, rfl, _, rfl, iF rfl (⟨_, rfl, 16, 11, rfl, rfl, _, rfl, iF rfl (⟨_, rfl, 16, 12, rfl, rfl, _, rfl, iF rfl (⟨_, rfl, 16, 13, rfl, rfl, _, rfl, iF rfl (⟨_, rfl, 16, 14, rfl, rfl, _, rfl, iF rfl (⟨_, rfl, 16, 15, rfl, rfl, _, rfl, iF rfl (⟨_, rfl, 16, 16, rfl, rfl, _, rfl, iT rfl (?_)⟩)⟩)⟩)⟩)⟩)⟩)⟩)⟩)⟩
      exact ⟨_, rfl, _, rfl, pn, _, _, _, rfl, rfl, SqL.of hn, atI_nat (j := 0) rfl, a, x, d, rfl, hD, ok, q⟩
    | whence x y z =>
      refine ⟨_, rfl, 17, 8, rfl, rfl, _, rfl, iF rfl (⟨_, rfl, 17, 9, rfl, rfl, _, rfl, iF rfl (⟨_, rfl, 17, 10, rfl, rfl, _, rfl, iF rfl (⟨_, rfl, 17, 11, rfl, rfl, _, rfl, iF rfl (⟨_, rfl, 17, 12, rfl, rfl, _, rfl, iF rfl (⟨_, rfl, 17, 13, rfl, rfl, _, rfl, iF rfl (⟨_, rfl, 17, 14, rfl, rfl, _, rfl, iF rfl (⟨_, rfl, 17, 15, rfl, rfl, _, rfl, iF rfl (⟨_, rfl, 17, 16, rfl, rfl, _, rfl, iF rfl (⟨_, rfl, 17, 17, rfl, rfl, _, rfl, iT rfl (?_)⟩)⟩)⟩)⟩)⟩)⟩)⟩)⟩)⟩)⟩
      refine ⟨_, rfl, _, rfl, pn, _, _, _, rfl, rfl, SqL.of hn, atI_nat (j := 0) rfl, _, rfl, pn, _, _, _, rfl, rfl, SqL.of hn, atI_nat (j := 1) rfl, _, rfl, pn, _, _, _, rfl, rfl, SqL.of hn, atI_nat (j := 2) rfl, by show 2 ≤ sizeLine; decide, fun t1 n1 => ?_⟩
      have s1 := Same.new (o := .tup [vi y, vi z]) n1
      exact ⟨a, x, .ref t1, y, z, d, rfl, hD.same s1, ok, ⟨t1, rfl, upd_same⟩, q.same s1⟩
    | fewest  =>
      refine ⟨_, rfl, 18, 8, rfl, rfl, _, rfl, iF rfl (⟨_, rfl, 18, 9, rfl, rfl, _, rfl, iF rfl (⟨_, rfl, 18, 10, rfl, rfl, _, rfl, iF rfl (⟨_, rfl, 18, 11, rfl, rfl, _, rfl, iF rfl (⟨_, rfl, 18, 12, rfl, rfl, _, rfl, iF rfl (⟨_, rfl, 18, 13, rfl, rfl, _, rfl, iF rfl (⟨_, rfl, 18, 14, rfl, rfl, _, rfl, iF rfl (⟨_, rfl, 18, 15, rfl, rfl, _, rfl, iF rfl (⟨_, rfl, 18, 16, rfl, rfl, _, rfl, iF rfl (⟨_, rfl, 18, 17, rfl, rfl, _, rfl, iF rfl (?_)⟩)⟩)⟩)⟩)⟩)⟩)⟩)⟩)⟩)⟩
      obtain ⟨fs, rs⟩ := d
      obtain ⟨dx, tl, ar, ea, hF, hR⟩ := id hD
      have fl := fewest_len ⟨fs, rs⟩
      have f14 : fs.length ≤ 14 := ok.flen
      have q : Ans CD a H Q (⟨fs, rs⟩, Gq03.told (Gq03.fewest ⟨fs, rs⟩)) := q
      refine ⟨_, rfl, a, CD, dx, _, _, rfl, ea, T.cD, T.dR, dF_r, ar, rs, rfl, hR, ok.rules, ok.rlen, fun la H1 k B D s1 U Fu L => ?_⟩
      refine ⟨_, rfl, a, CD, dx, _, _, rfl, s1 _ _ ea, T.cD, T.dT, dF_t, la, tl, rs, k, B, D, fs, rfl, L, U, Fu, hF.same s1, ok.facts, f14, fun p H2 s2 hp => ?_⟩
      exact ⟨p, _, rfl, hp, Nat.le_trans fl (Nat.le_trans f14 (by decide)), fun p3 H3 s3 np3 o => q.ask hD ((s1.trans s2).trans s3) ((s1.trans s2).free np3) o⟩
end
end Wm

namespace Wm
open PySem PySem.Spec PyProof.Rows L2
open Gq03 (Basic Rule Fact)
theorem cut_at {A B C xs : List V} {i j : Int} (hx : xs = A ++ (B ++ C)) (hi : i = (A.length : Int)) (hj : j = ((A.length + B.length : Nat) : Int)) : cutV xs (some i) (some j) = B := by
  subst hx hi hj
  unfold cutV
  rw [HT.sIx_nat, HT.sIx_nat, Nat.min_eq_left (by simp only [List.length_append]; omega), Nat.min_eq_left (by simp only [List.length_append]; omega), List.drop_left, Nat.add_sub_cancel_left, List.take_left]
theorem sql_same {K : PySem.W.Frag} {H H' : Hp} {a : Addr} {xs : List V} (h : SqL K H a xs) (s : Same H H') : SqL K H' a xs :=
  h.elim (fun r => .inl (r.elim (fun e => .inl (s _ _ e)) (fun ⟨o, e⟩ => .inr ⟨o, s _ _ e⟩))) .inr
theorem vis_app (a b : List Nat) : vis (a ++ b) = vis a ++ vis b := List.map_append ..
theorem same_sb {a : Addr} {H H1 H2 : Hp} (s : Same H H1) (b : SB a H1 H2) (n : H a = none) : Same H H2 := fun q o e => b q o (s q o e) (ne_of_none e n)
theorem IL.sb {p a : Addr} {H H1 : Hp} {ns : List Nat} {C dx : Addr} {kv : List (Str × V)} (h : IL H a ns) (s : SB p H H1) (hp : H p = some (.ins C dx kv)) : IL H1 a ns := s _ _ h (ne_of h hp (by intro z; cases z))
/-- the desk stays where a list that is none of its own is written -/
theorem DeskAt.at {CD : Addr} {H : Hp} {a p : Addr} {d : Gq03.Desk} {xs : List V} {o : HO} (h : DeskAt CD H a d) (hp : H p = some (.lst xs)) (ns : ∀ dx tl ar, H a = some (.ins CD dx (dF tl ar)) → tl ≠ p ∧ ar ≠ p) : DeskAt CD (upd H p o) a d := by
  obtain ⟨dx, tl, ar, e, ⟨vs, hv, hpv⟩, r⟩ := h
  obtain ⟨n1, n2⟩ := ns dx tl ar e
  have nt : ∀ ys, HO.tup ys ≠ HO.lst xs := by intro ys z; cases z
  exact ⟨dx, tl, ar, upd_keep e hp (by intro z; cases z), ⟨vs, by rw [upd_ne n1]; exact hv, fvs_ts hpv (TupS.at hp nt)⟩, r.at hp n2 nt⟩
/-- where the next call begins -/
theorem next_at {l : List Nat} {k deed : Nat} {ns row r t : List Nat} {x : Gq03.Call} (hk : l.drop k = deed :: r) (h : One deed ns row r t x) : ∃ nx, k < nx ∧ nx ≤ l.length ∧ l.drop nx = t ∧
    ((deed ≤ 7 ∧ Tells deed ns x ∧ row = [] ∧ nx = k + 1 + ns.length ∧ l = (l.take k ++ [deed]) ++ (ns ++ t)) ∨ (8 ≤ deed ∧ deed ≠ 11 ∧ deed ≠ 12 ∧ Asks deed ns row x ∧ row = [] ∧ nx = k + 1 + ns.length ∧ l = (l.take k ++ [deed]) ++ (ns ++ t)) ∨
      ((deed = 11 ∨ deed = 12) ∧ Asks deed ns row x ∧ nx = k + 1 + ns.length + 1 + row.length ∧ l = (l.take k ++ [deed]) ++ (ns ++ row.length :: (row ++ t)))) := by
  have kl : k < l.length := by
    have := congrArg List.length hk
    rw [List.length_drop, List.length_cons] at this
    omega
  have el : l = l.take k ++ deed :: r := by rw [← hk, List.take_append_drop]
  have tk : (l.take k).length = k := by rw [List.length_take]; omega
  have ll : l.length = k + 1 + r.length := by
    have := congrArg List.length el
    rw [List.length_append, tk, List.length_cons] at this
    omega
  have e1 : ∀ z, l.take k ++ deed :: z = (l.take k ++ [deed]) ++ z := fun z => by rw [List.append_assoc]; rfl
  have dr : ∀ j, l.drop (k + 1 + j) = r.drop j := fun j => by
    have h1 : l.drop (k + 1) = r := by
      have := congrArg (List.drop 1) hk
      rw [List.drop_drop] at this
      exact this
    rw [← List.drop_drop, h1]
  rcases h with ⟨hn, ⟨h1, h2, h3, h4⟩ | ⟨h1, h5, h6, h2, h3, h4⟩ | ⟨h1, h2, h4⟩⟩
  · have hl := congrArg List.length h4
    rw [List.length_append] at hl
    refine ⟨k + 1 + ns.length, by omega, by omega, by rw [dr, h4, List.drop_left], .inl ⟨h1, h2, h3, rfl, ?_⟩⟩
    rw [← e1, ← h4]; exact el
  · have hl := congrArg List.length h4
    rw [List.length_append] at hl
    refine ⟨k + 1 + ns.length, by omega, by omega, by rw [dr, h4, List.drop_left], .inr (.inl ⟨h1, h5, h6, h2, h3, rfl, ?_⟩)⟩
    rw [← e1, ← h4]; exact el
  · have hl := congrArg List.length h4
    rw [List.length_append, List.length_cons, List.length_append] at hl
    refine ⟨k + 1 + ns.length + 1 + row.length, by omega, by omega, ?_, .inr (.inr ⟨h1, h2, rfl, ?_⟩)⟩
    · have e : k + 1 + ns.length + 1 + row.length = k + 1 + (ns.length + (1 + row.length)) := by omega
      rw [e, dr, h4, ← List.drop_drop, List.drop_left, ← List.drop_drop]
      show (row ++ t).drop row.length = t
      rw [List.drop_left]
    · rw [← e1, ← h4]; exact el
section
variable {P : Program} {w : World} {K : PySem.W.Frag} {mg : Str → Option Value} {base : Heap} {CL CD : Addr}
/-! ### answers -/
def spAns (K : PySem.W.Frag) : Sp := fun vs H Q _ => ∃ (p : Addr) (l : List Nat), vs = [.ref p] ∧ SqL K H p (vis l) ∧ l.length ≤ 100000 ∧ PyGq03.answers_asked (tI l) = true ∧ ∀ (H' : Hp) (q : Addr), OL H' q (PyGq03.answers (tI l)) → Q (.ref q) H'
abbrev nAns : List Str := ["calls", "desk", "found", "at", "deed", "behind", "numbers", "row", "said"]
theorem scAns : FnScope nAns ["calls"] (defScope (top 88)) := ⟨rfl, rfl, rfl, by decide +kernel, rfl, by decide +kernel, by decide +kernel⟩
theorem ok_answers (T : Txt K mg CL CD) (M : CalM P w K mg base 1 "Desk" CD ["self"] (spDI CD)) (cT : Cal P w K mg base 3 "answer_telling" ["desk", "deed", "n"] (spTelling CD)) (cA : Cal P w K mg base 10 "answer_asking" ["desk", "deed", "n", "row"] (spAsking CD))
    {f0 : Addr} {fd0 : FuncData} (F0 : Fun K "answers" "answers" (top 88) f0 fd0) : FnOk P w K mg base CX0 11 f0 fd0 ["calls"] (spAns K) := by
  refine F0.ok scAns (fun vs H Q E h => ?_) (fun cdv A outer s H vs Q E hr h => ⟨_,
    pss_cons (ps_set (i := 1) scAns.nd rfl (Or.inl rfl) (pe_new0 M (hr.mono (by decide)) rfl))
    (pss_cons (ps_set (i := 2) scAns.nd rfl (Or.inl rfl) (pe_lst pa_nil))
    (pss_cons (ps_set (i := 3) scAns.nd rfl (Or.inl rfl) pe_int)
    (pss_cons (ps_while PassesOwn.never (pt_cmpR op_lt (pv 3) (pe_callB call_len_seq (by rfl) T.len PySem.boot_len (pa_cons (pv 0) pa_nil)) (nomark _))
      (pss_cons (ps_set (i := 4) scAns.nd rfl (Or.inl rfl) (pe_ix ix_list (pv 0) (pv 3) (fun _ _ => rfl)))
      (pss_cons (ps_set (i := 5) scAns.nd rfl (Or.inl rfl) (pe_op op_addN (pe_op op_addN (pv 3) pe_int) (pe_ix ix_tup (pe_gt T.NUMBERS) (pv 4) (fun _ _ => rfl))))
      (pss_cons (ps_set (i := 6) scAns.nd rfl (Or.inl rfl) (pe_slice sl_list (pv 0) (po_some (pe_op op_addN (pv 3) pe_int)) (po_some (pv 5))))
      (pss_cons (ps_set (i := 7) scAns.nd rfl (Or.inl rfl) (pe_lst pa_nil))
      (pss_mid (ps_if (pt_cmpR op_inN (pv 4) (pe_gt T.WITH_ROW) rfl)
        (pss_cons (ps_set (i := 7) scAns.nd rfl (Or.inl rfl) (pe_slice sl_list (pv 0) (po_some (pe_op op_addN (pv 5) pe_int)) (po_some (pe_op op_addN (pe_op op_addN (pv 5) pe_int) (pe_ix ix_list (pv 0) (pv 5) (fun _ _ => rfl))))))
        (pss_one (ps_set (i := 5) scAns.nd rfl (Or.inl rfl) (pe_op op_addN (pe_op op_addN (pv 5) pe_int) (pe_callB call_len_seq (by rfl) T.len PySem.boot_len (pa_cons (pv 7) pa_nil)))))) pss_nil)
      (pss_mid (ps_set (i := 8) scAns.nd rfl (Or.inl rfl) (pe_ifExp (pt_cmpR op_le (pv 4) pe_int (nomark _)) (pe_cal cT (hr.mono (by decide)) rfl (pa_cons (pv 1) (pa_cons (pv 4) (pa_cons (pv 6) pa_nil)))) (pe_cal cA hr rfl (pa_cons (pv 1) (pa_cons (pv 4) (pa_cons (pv 6) (pa_cons (pv 7) pa_nil)))))))
      (pss_cons (ps_expr (pe_bm PySem.F.plainAttrs_list PySem.F.slot_list_append PySem.F.type_list_append mt_append (pv 2) (pa_cons (pe_callB call_len_seq (by rfl) T.len PySem.boot_len (pa_cons (pv 8) pa_nil)) pa_nil)))
      (pss_cons (ps_expr (pe_bm PySem.F.plainAttrs_list PySem.F.slot_list_extend PySem.F.type_list_extend mt_extend (pv 2) (pa_cons (pv 8) pa_nil)))
      (pss_one (ps_set (i := 3) scAns.nd rfl (Or.inl rfl) (pv 5))))))))))))
    (pss_one (ps_ret (pv 2)))))), ?_⟩)
  · obtain ⟨p, l, rfl, _⟩ := h
    rfl
  · obtain ⟨p, l, rfl, hl, hlen, hask, q⟩ := h
    obtain ⟨hL0, hB⟩ := left_all hask
    refine fun a dx na nd ne => ⟨a, dx, rfl, upd_same, fun H1 sb hD1 => ⟨rfl, ?_⟩⟩
    have s1 : Same H H1 := Same.made na nd sb
    refine ⟨by show 0 ≤ sizeLine; decide, fun fl nf' => ?_⟩
    have s2 := Same.new (o := .lst []) nf'
    have s12 := s1.trans s2
    have nfl := s1.free nf'
    have hN : ∀ dx tl ar, (upd H1 fl (.lst [])) a = some (.ins CD dx (dF tl ar)) → tl ≠ fl ∧ ar ≠ fl := fun dx' tl' ar' e => by
      obtain ⟨dx0, tl0, ar0, e0, ⟨_, f0, _⟩, ⟨_, r0, _⟩⟩ := id hD1
      rw [s2 _ _ e0] at e
      obtain ⟨p1, p2⟩ := ins_inj e
      rw [← p1, ← p2]
      exact ⟨ne_of_none f0 nf', ne_of_none r0 nf'⟩
    refine ⟨fun m σ H' => ∃ (k : Nat) (d : Gq03.Desk) (done out : List Int) (v4 v5 v6 v7 v8 : Option V), m = l.length - k ∧ k ≤ l.length ∧ σ = [some (.ref p), some (.ref a), some (.ref fl), some (vi k), v4, v5, v6, v7, v8] ∧ Same H H' ∧ DeskAt CD H' a d ∧ (∀ dx tl ar, H' a = some (.ins CD dx (dF tl ar)) → tl ≠ fl ∧ ar ≠ fl) ∧ OkDesk d ∧ OL H' fl done ∧ Left d (l.drop k) out ∧ PyGq03.answers (tI l) = done ++ out,
      ⟨_, 0, Gq03.init, [], _, none, none, none, none, none, rfl, Nat.zero_le _, rfl, s12, hD1.same s2, hN, OkDesk.init, upd_same, hL0, rfl⟩, ?_⟩
    rintro m σ H2 ⟨k, d, done, out, v4, v5, v6, v7, v8, rfl, hk, rfl, s3, hD, hN2, ok, hO, hLf, hAns⟩
    have hl2 := sql_same hl s3
    refine ⟨_, rfl, _, rfl, p, _, rfl, .inl hl2, (k : Int), ((vis l).length : Int), rfl, rfl, _, rfl, ?_⟩
    rw [vis_len]
    refine iB (fun hc => ?_) (fun hc => ?_)
    · have hkl : k < l.length := by have := of_decide_eq_true hc; omega
      obtain ⟨deed, r, hdr⟩ : ∃ deed r, l.drop k = deed :: r := ⟨_, _, List.drop_eq_getElem_cons hkl⟩
      rw [hdr] at hLf
      obtain ⟨x, ns, row, t, out', hd18, hOne, hLf', eout⟩ := hLf.cons
      obtain ⟨nx, hnx1, hnx2, hnx3, hway⟩ := next_at hdr hOne
      have hdeed : l[k]? = some deed := by
        have := congrArg List.head? hdr
        rw [List.head?_drop] at this
        exact this
      have okd := step_ok ok x
      generalize hres : Gq03.step d x = res at hLf' eout okd
      have hlenB : done.length + 1 + res.2.length + out'.length ≤ 10000000 := by
        rw [hAns, eout] at hB
        simp only [List.length_append, List.length_cons] at hB
        omega
      refine ⟨fun σ' H' => ∃ (k : Nat) (d : Gq03.Desk) (done out : List Int) (v4 v5 v6 v7 v8 : Option V), k = nx ∧ k ≤ l.length ∧ σ' = [some (.ref p), some (.ref a), some (.ref fl), some (vi k), v4, v5, v6, v7, v8] ∧ Same H H' ∧ DeskAt CD H' a d ∧ (∀ dx tl ar, H' a = some (.ins CD dx (dF tl ar)) → tl ≠ fl ∧ ar ≠ fl) ∧ OkDesk d ∧ OL H' fl done ∧ Left d (l.drop k) out ∧ PyGq03.answers (tI l) = done ++ out, ?_, ?_⟩
      · rintro σ' H' ⟨k', d', done', out2, w4, w5, w6, w7, w8, rfl, h1, h2, h3, h4, h9, h5, h6, h7, h8⟩
        exact ⟨_, by omega, k', d', done', out2, w4, w5, w6, w7, w8, rfl, h1, h2, h3, h4, h9, h5, h6, h7, h8⟩
      -- deed, behind
      refine ⟨_, rfl, _, rfl, p, _, _, _, rfl, rfl, hl2, atI_nat (by rw [List.getElem?_map, hdeed]; rfl), ?_⟩
      refine ⟨_, rfl, k, 1, rfl, rfl, fun an hn => ⟨_, rfl, an, _, (deed : Int), _, rfl, rfl, hn _, atI_nat (by rw [List.getElem?_map, show ([2, 3, 1, 4, 2, 4, 2, 1, 3, 2, 2, 1, 0, 0, 4, 0, 1, 3, 0] : List Nat)[deed]? = some ns.length from hOne.1]; rfl), k + 1, ns.length, rfl, rfl, ?_⟩⟩
      -- numbers
      have tk : (l.take k).length = k := by rw [List.length_take]; omega
      have hA : ∃ C, l = (l.take k ++ [deed]) ++ (ns ++ C) := by
        rcases hway with ⟨_, _, _, _, e⟩ | ⟨_, _, _, _, _, _, e⟩ | ⟨_, _, _, e⟩
        · exact ⟨_, e⟩
        · exact ⟨_, e⟩
        · exact ⟨_, e⟩
      obtain ⟨C0, hA⟩ := hA
      have Al : (l.take k ++ [deed]).length = k + 1 := by rw [List.length_append, tk]; rfl
      have ecut : cutV (vis l) (some ((k + 1 : Nat) : Int)) (some ((k + 1 + ns.length : Nat) : Int)) = vis ns := by
        refine cut_at (A := vis (l.take k ++ [deed])) (C := vis C0) ?_ ?_ ?_
        · rw [← vis_app, ← vis_app, ← hA]
        · rw [vis_len, Al]
        · rw [vis_len, vis_len, Al]
      refine ⟨_, rfl, _, rfl, k, 1, rfl, rfl, _, rfl, _, rfl, _, rfl, p, _, rfl, hl2, fun pn npn => ?_⟩
      rw [ecut]
      have s4 := Same.new (o := .lst (vis ns)) npn
      -- row
      refine ⟨by show 0 ≤ sizeLine; decide, fun pr0 npr => ?_⟩
      have s5 := Same.new (o := .lst []) npr
      have s45 := s4.trans s5
      have s35 := s3.trans s45
      generalize hH5 : upd (upd H2 pn (.lst (vis ns))) pr0 (.lst []) = H5 at s5 s45 s35
      have hn5 : IL H5 pn ns := s5 _ _ upd_same
      have hr5 : IL H5 pr0 [] := by rw [← hH5]; exact upd_same
      have hD5 := hD.same s45
      have hO5 : OL H5 fl done := s45 _ _ hO
      have hl5 := sql_same hl s35
      refine ⟨fun σ' H' => ∃ pr, σ' = [some (.ref p), some (.ref a), some (.ref fl), some (vi k), some (vi deed), some (vi nx), some (.ref pn), some (.ref pr), v8] ∧ Same H5 H' ∧ IL H' pr row, ?_, ?_⟩
      · refine ⟨_, rfl, fun aw hw => ⟨deed, _, aw, rfl, rfl, .inr (hw _), _, rfl, ?_⟩⟩
        refine iB (fun hc2 => ?_) (fun hc2 => ?_)
        · have h1112 : deed = 11 ∨ deed = 12 := by
            have := in_of hc2
            simp only [List.mem_cons, List.not_mem_nil, or_false] at this
            exact this
          rcases hway with ⟨z, _⟩ | ⟨_, z1, z2, _⟩ | ⟨_, hAs, enx, e⟩
          · omega
          · omega
          have A2l : (l.take k ++ [deed] ++ ns ++ [row.length]).length = k + 1 + ns.length + 1 := by rw [List.length_append, List.length_append, Al]; rfl
          have e2 : l = (l.take k ++ [deed] ++ ns ++ [row.length]) ++ (row ++ t) := by
            rw [List.append_assoc, List.append_assoc]
            exact e
          have eix : l[k + 1 + ns.length]? = some row.length := by
            rw [e, List.getElem?_append_right (by rw [Al]; omega), Al, List.getElem?_append_right (by omega)]
            rw [show k + 1 + ns.length - (k + 1) - ns.length = 0 by omega]
            rfl
          have ecut2 : cutV (vis l) (some ((k + 1 + ns.length + 1 : Nat) : Int)) (some ((k + 1 + ns.length + 1 + row.length : Nat) : Int)) = vis row := by
            refine cut_at (A := vis (l.take k ++ [deed] ++ ns ++ [row.length])) (C := vis t) ?_ ?_ ?_
            · rw [← vis_app, ← vis_app, ← e2]
            · rw [vis_len, A2l]
            · rw [vis_len, vis_len, A2l]
          refine ⟨_, rfl, _, rfl, k + 1 + ns.length, 1, rfl, rfl, _, rfl, _, rfl, k + 1 + ns.length, 1, rfl, rfl, _, rfl, _, rfl, p, _, _, _, rfl, rfl, hl5, atI_nat (by rw [List.getElem?_map, eix]; rfl), k + 1 + ns.length + 1, row.length, rfl, rfl, _, rfl, p, _, rfl, hl5, fun pr npr2 => ?_⟩
          rw [ecut2]
          have s6 := Same.new (o := .lst (vis row)) npr2
          refine ⟨_, rfl, k + 1 + ns.length, 1, rfl, rfl, _, rfl, pr, _, rfl, .inl (SqL.of upd_same), k + 1 + ns.length + 1, (vis row).length, rfl, rfl, ?_⟩
          have en : k + 1 + ns.length + 1 + (vis row).length = nx := by rw [vis_len]; omega
          rw [en]
          exact ⟨pr, rfl, s6, upd_same⟩
        · have hno : ¬ (deed = 11 ∨ deed = 12) := fun z => by
            have : ([11, 12] : List Nat).contains deed = true := by rcases z with rfl | rfl <;> rfl
            rw [hc2] at this
            cases this
          rcases hway with ⟨_, _, er, enx, _⟩ | ⟨_, _, _, _, er, enx, _⟩ | ⟨z, _⟩
          · rw [er, enx]
            exact ⟨pr0, rfl, Same.refl H5, hr5⟩
          · rw [er, enx]
            exact ⟨pr0, rfl, Same.refl H5, hr5⟩
          · exact absurd z hno
      · rintro σ' H6 ⟨pr, rfl, s6, hr6⟩
        have hD6 := hD5.same s6
        have hn6 := hn5.same s6
        have s36 := s35.trans s6
        have hO6 : OL H6 fl done := s6 _ _ hO5
        have rlen : row.length ≤ 100000 := by
          rcases hway with ⟨_, _, er, _, _⟩ | ⟨_, _, _, _, er, _, _⟩ | ⟨_, _, enx, _⟩
          · rw [er]; exact Nat.zero_le _
          · rw [er]; exact Nat.zero_le _
          · omega
        refine ⟨fun σ' H' => ∃ ps, σ' = [some (.ref p), some (.ref a), some (.ref fl), some (vi k), some (vi deed), some (vi nx), some (.ref pn), some (.ref pr), some (.ref ps)] ∧ SB a H6 H' ∧ DL CD a H6 H' ∧ DeskAt CD H' a res.1 ∧ H6 ps = none ∧ OL H' ps res.2, ?_, ?_⟩
        · have fin : Ans CD a H6 (fun v H' => ∃ ps, [some (.ref p), some (.ref a), some (.ref fl), some (vi k), some (vi deed), some (vi nx), some (.ref pn), some (.ref pr), some v] = [some (.ref p), some (.ref a), some (.ref fl), some (vi k), some (vi deed), some (vi nx), some (.ref pn), some (.ref pr), some (.ref ps)] ∧ SB a H6 H' ∧ DL CD a H6 H' ∧ DeskAt CD H' a res.1 ∧ H6 ps = none ∧ OL H' ps res.2) (Gq03.step d x) := by
            rw [hres]
            exact fun ps H' b1 b5 b2 b3 b4 => ⟨ps, rfl, b1, b5, b2, b3, b4⟩
          refine ⟨_, rfl, (deed : Int), 7, rfl, rfl, _, rfl, ?_⟩
          refine iB (fun hc3 => ?_) (fun hc3 => ?_)
          · have h7 := of_decide_eq_true hc3
            have hTl : Tells deed ns x := by
              rcases hway with ⟨_, h, _⟩ | ⟨z, _⟩ | ⟨z, _⟩
              · exact h
              · omega
              · omega
            exact ⟨_, rfl, _, rfl, _, rfl, a, pn, deed, ns, d, x, rfl, hD6, ok, hn6, hTl, fin⟩
          · have h7 := of_decide_eq_false hc3
            have hAs : Asks deed ns row x := by
              rcases hway with ⟨z, _⟩ | ⟨_, _, _, h, _⟩ | ⟨_, h, _⟩
              · omega
              · exact h
              · exact h
            exact ⟨_, rfl, _, rfl, _, rfl, _, rfl, a, pn, pr, deed, ns, row, d, x, rfl, hD6, ok, hn6, hr6, rlen, hAs, fin⟩
        · rintro σ' H7 ⟨ps, rfl, b7, dl7, hD7, nps, hS7⟩
          obtain ⟨dx6, tl6, ar6, ea6, _, _⟩ := hD6
          have nea : fl ≠ a := ne_of hO6 ea6 (by intro z; cases z)
          have hO7 : OL H7 fl done := b7 _ _ hO6 nea
          have s37 : Same H H7 := same_sb s36 b7 na
          have nfs : ps ≠ fl := Ne.symm (ne_of_none hO6 nps)
          have hS7' : H7 ps = some (.lst (res.2.map V.int)) := hS7
          have hO7' : H7 fl = some (.lst (done.map V.int)) := hO7
          refine ⟨_, rfl, .inl ⟨rfl, _, .inl (.inl hO7')⟩, _, rfl, ps, _, rfl, .inl (SqL.of hS7'), fl, _, _, rfl, rfl, hO7', ?_, ?_⟩
          · rw [List.length_map]
            exact Nat.lt_of_lt_of_le (show done.length < 10000001 by omega) (by decide)
          generalize hH8 : upd H7 fl (.lst (done.map V.int ++ [V.int ((res.2.map V.int).length : Int)])) = H8
          have hO8 : H8 fl = some (.lst (done.map V.int ++ [V.int ((res.2.map V.int).length : Int)])) := by rw [← hH8]; exact upd_same
          have hS8 : H8 ps = some (.lst (res.2.map V.int)) := by rw [← hH8, upd_ne nfs]; exact hS7'
          have s38 : Same H H8 := by rw [← hH8]; exact s37.past nfl
          refine ⟨_, rfl, .inl ⟨rfl, _, .inl (.inl hO8)⟩, _, rfl, fl, ps, _, _, rfl, rfl, hO8, hS8, ?_, ?_⟩
          · rw [List.length_append, List.length_map, List.length_map]
            exact Nat.le_trans (show done.length + 1 + res.2.length ≤ 10000000 by omega) (by decide)
          have hN6 : ∀ dx tl ar, H6 a = some (.ins CD dx (dF tl ar)) → tl ≠ fl ∧ ar ≠ fl := fun dx' tl' ar' e => by
            obtain ⟨dx0, tl0, ar0, e0, _⟩ := id hD
            have e6 := s6 _ _ (s45 _ _ e0)
            rw [e6] at e
            obtain ⟨p1, p2⟩ := ins_inj e
            rw [← p1, ← p2]
            exact hN2 _ _ _ e0
          have hN7 : ∀ dx tl ar, H7 a = some (.ins CD dx (dF tl ar)) → tl ≠ fl ∧ ar ≠ fl := fun dx' tl' ar' e => by
            obtain ⟨g1, g2⟩ := dl7 _ _ _ _ _ _ ea6 e
            obtain ⟨m1, m2⟩ := hN6 _ _ _ ea6
            exact ⟨g1.elim (fun z => by rw [z]; exact m1) fun z => Ne.symm (ne_of_none hO6 z), g2.elim (fun z => by rw [z]; exact m2) fun z => Ne.symm (ne_of_none hO6 z)⟩
          have hD8 : DeskAt CD H8 a res.1 := by rw [← hH8]; exact hD7.at hO7' hN7
          have hN8 : ∀ dx tl ar, H8 a = some (.ins CD dx (dF tl ar)) → tl ≠ fl ∧ ar ≠ fl := fun dx' tl' ar' e => by
            rw [← hH8, upd_ne (Ne.symm nea)] at e
            exact hN7 _ _ _ e
          have hD9 := DeskAt.at (o := .lst (done.map V.int ++ [V.int ((res.2.map V.int).length : Int)] ++ res.2.map V.int)) hD8 hO8 hN8
          refine ⟨_, rfl, nx, res.1, done ++ ((res.2.length : Int) :: res.2), out', _, _, _, _, _, rfl, hnx2, rfl, s38.past nfl, hD9, ?_, okd, ?_, by rw [hnx3]; exact hLf', ?_⟩
          · intro dx' tl' ar' e
            rw [upd_ne (Ne.symm nea)] at e
            exact hN8 _ _ _ e
          · unfold OL
            rw [upd_same, List.map_append, List.map_cons, List.length_map, List.append_assoc]
            rfl
          · rw [hAns, eout, List.append_assoc]
            rfl
    · have hkl : k = l.length := by have := of_decide_eq_false hc; omega
      rw [hkl, List.drop_length] at hLf
      have eo := hLf.nil
      rw [eo, List.append_nil] at hAns
      exact ⟨_, rfl, q H2 fl (by rw [hAns]; exact hO)⟩
end
end Wm

namespace Wm
open PySem PySem.Spec PyProof.Rows L2
/-! ### the end: what the top has written -/
section
variable {K : PySem.W.Frag} {h : Heap} {mg : Str → Option Value}
theorem gi_mk (X : K.In h) (G : h.Ns mainGlobals mg) {x : Str} {n : Int} {t : Tok} (a : PySem.W.nsIn K mainGlobals x = some (some (.int n t))) : GI mg x n := ⟨t, PySem.W.mg_of X G a⟩
theorem gt_mk (X : K.In h) (G : h.Ns mainGlobals mg) {x : Str} {ns : List Nat} {a : Addr} {o : Obj} {its : Array Value} {n : Nat} (e : PySem.W.nsIn K mainGlobals x = some (some (.ref a))) (l : K.lookup a = some o) (c : o.cls = .type "tuple") (d : o.data = .seq its n)
    (z : its.size ≤ sizeLine) (v : Vals (vis ns) its.toList) : GT K mg x ns := ⟨a, PySem.W.mg_of X G e, fun H => .inr ⟨o, its, n, l, c, d, z, v⟩⟩
theorem def_mk (X : K.In h) (G : h.Ns mainGlobals mg) {x : Str} {st : Stmt} {f : Addr} {oc : Value} {od an : Option Addr} {osl : Array (Option Value)} {kV doc pm cdv ct : Value} (a : PySem.W.nsIn K mainGlobals x = some (some (.ref f)))
    (l : K.lookup f = some ⟨oc, od, .func (PySem.W.fnOf x x (defArgs st) (defBody st) (defScope st) .none kV doc pm an cdv ct), osl⟩) (c : PySem.W.codeIn K cdv x = true) (k : PySem.W.keepIn K (.ref f) = true) : Def K mg x st := ⟨f, _, fun_mk l c k, PySem.W.mg_of X G a⟩
theorem na_mk {C : Addr} {f : Str} (a : PySem.W.findIn K (.ref C) f = some none) : NoAttr K C f := a
/-- a class's __init__ -/
structure Ini (K : PySem.W.Frag) (C : Addr) (q : Str) (st : Stmt) : Prop where
  ex : ∃ f fd, Fun K "__init__" q st f fd ∧ Mk K C f
theorem ini_mk {C : Addr} {q : Str} {st : Stmt} {f : Addr} {oc : Value} {od an : Option Addr} {osl : Array (Option Value)} {kV doc pm cdv ct : Value} (a : PySem.W.findIn K (.ref C) "__init__" = some (some (.ref f))) (i : PySem.W.isFn K (.ref f) = true)
    (l : K.lookup f = some ⟨oc, od, .func (PySem.W.fnOf "__init__" q (defArgs st) (defBody st) (defScope st) .none kV doc pm an cdv ct), osl⟩) (c : PySem.W.codeIn K cdv q = true) (k : PySem.W.keepIn K (.ref f) = true) (m : PySem.W.makesIn K C = true) (kc : PySem.W.keepIn K (.ref C) = true) : Ini K C q st := ⟨f, _, fun_mk l c k, m, a, i, kc⟩
end
theorem tI_vis (l : List Nat) : (tI l).map V.int = vis l := by
  unfold tI
  rw [List.map_map]; rfl
theorem nats_of : ∀ {l : List Int}, (∀ x ∈ l, 0 ≤ x) → ∃ m : List Nat, l = tI m
  | [], _ => ⟨[], rfl⟩
  | x :: l, h => by
    obtain ⟨m, e⟩ := nats_of (l := l) fun y hy => h y (List.mem_cons_of_mem _ hy)
    obtain ⟨n, en⟩ := Int.eq_ofNat_of_zero_le (h x List.mem_cons_self)
    exact ⟨n :: m, by rw [e, en]; rfl⟩
theorem nn_of {x : Int} (h : PySem.W.Codec.inInt (Int.ofNat 0) (Int.ofNat 4294967295) x = true) : 0 ≤ x := by
  unfold PySem.W.Codec.inInt at h
  simp only [Bool.and_eq_true, decide_eq_true_eq] at h
  exact h.1
theorem all_mk {P : Program} {w : World} {K : PySem.W.Frag} {mg : Str → Option Value} {fa CL CD : Addr} (hfa : mg "answers" = some (.ref fa)) (T : Txt K mg CL CD) (iL : Ini K CL "Lore.__init__" sLI) (iD : Ini K CD "Desk.__init__" sDI)
    (D9 : Def K mg "turned" (top 9))
    (D10 : Def K mg "all_basics" (top 10))
    (D11 : Def K mg "next_directions" (top 11))
    (D12 : Def K mg "direction_follow" (top 12))
    (D13 : Def K mg "next_basics" (top 13))
    (D14 : Def K mg "basic_follow" (top 14))
    (D16 : Def K mg "are_forbidden" (top 16))
    (D17 : Def K mg "are_role_forbidden" (top 17))
    (D18 : Def K mg "is_bad" (top 18))
    (D19 : Def K mg "is_bad_direction" (top 19))
    (D20 : Def K mg "add_bad" (top 20))
    (D21 : Def K mg "lore_of" (top 21))
    (D22 : Def K mg "is_wrong_being" (top 22))
    (D23 : Def K mg "are_wrong_edges" (top 23))
    (D28 : Def K mg "basics_told" (top 28))
    (D29 : Def K mg "all_of" (top 29))
    (D30 : Def K mg "directions_told" (top 30))
    (D31 : Def K mg "edges_of" (top 31))
    (D32 : Def K mg "is_wrong" (top 32))
    (D33 : Def K mg "wrong_nodes" (top 33))
    (D34 : Def K mg "clashes" (top 34))
    (D35 : Def K mg "rows_of" (top 35))
    (D36 : Def K mg "hits_all" (top 36))
    (D37 : Def K mg "fewest" (top 37))
    (D38 : Def K mg "all_at" (top 38))
    (D39 : Def K mg "told_ahead" (top 39))
    (D40 : Def K mg "places_ahead" (top 40))
    (D41 : Def K mg "is_of" (top 41))
    (D42 : Def K mg "leads" (top 42))
    (D44 : Def K mg "follows" (top 44))
    (D45 : Def K mg "joined" (top 45))
    (D46 : Def K mg "never_both" (top 46))
    (D47 : Def K mg "never_both_ways" (top 47))
    (D48 : Def K mg "is_idle" (top 48))
    (D49 : Def K mg "is_basic" (top 49))
    (D50 : Def K mg "bad_in_order" (top 50))
    (D64 : Def K mg "tell" (top 64))
    (D65 : Def K mg "tell_kind" (top 65))
    (D66 : Def K mg "tell_edge" (top 66))
    (D67 : Def K mg "drop" (top 67))
    (D68 : Def K mg "add_rule" (top 68))
    (D69 : Def K mg "rule_of_basics" (top 69))
    (D70 : Def K mg "rule_of_directions" (top 70))
    (D71 : Def K mg "strike" (top 71))
    (D72 : Def K mg "counted" (top 72))
    (D73 : Def K mg "is_certain" (top 73))
    (D74 : Def K mg "is_told" (top 74))
    (D75 : Def K mg "who" (top 75))
    (D76 : Def K mg "edges_told" (top 76))
    (D77 : Def K mg "steps_of" (top 77))
    (D78 : Def K mg "nodes_that_lead" (top 78))
    (D79 : Def K mg "chain" (top 79))
    (D80 : Def K mg "from_all" (top 80))
    (D81 : Def K mg "sound" (top 81))
    (D82 : Def K mg "follows_told" (top 82))
    (D83 : Def K mg "bad_told" (top 83))
    (D84 : Def K mg "idle" (top 84))
    (D85 : Def K mg "whence" (top 85))
    (D86 : Def K mg "answer_telling" (top 86))
    (D87 : Def K mg "answer_asking" (top 87))
    (D88 : Def K mg "answers" (top 88))
    : ∃ fd : FuncData, (∀ (s : Shared) (us : List Value), us.length = (["calls"] : List Str).length → BindsTo s fd ⟨us, []⟩ ((["calls"] : List Str).zip us)) ∧ ∀ base : Heap, K.In base → base.Ns mainGlobals mg → FnOk P w K mg base CX0 11 fa fd ["calls"] (spAns K) := by
  obtain ⟨fL, fdL, FL', ML⟩ := iL.ex
  obtain ⟨fD, fdD, FD', MD⟩ := iD.ex
  obtain ⟨f88, fd88, F88, h88⟩ := D88.ex
  have ef := Option.some.inj (hfa.symm.trans h88)
  have ef2 := Value.ref.inj ef
  subst ef2
  obtain ⟨oc, od, kV, doc, pm, an, cdv, ct, osl, efd, _⟩ := F88.ex
  refine ⟨fd88, fun s us hu => ?_, fun base _ _ => ?_⟩
  · subst efd
    exact match us, hu with | [_], _ => .of_eq rfl
  have bL := FL'.binds (ps := ["self", "rules"]) fun _ _ _ _ _ _ us hl => match us, hl with | [_, _], _ => rfl
  have bD := FD'.binds (ps := ["self"]) fun _ _ _ _ _ _ us hl => match us, hl with | [_], _ => rfl
  have r_turned : Cal P w K mg base 1 "turned" ["direction"] spTurned := ok_turned D9
  have r_allB : Cal P w K mg base 1 "all_basics" [] spAllB := ok_allB T D10
  have r_nextD : Cal P w K mg base 2 "next_directions" ["rules", "direction"] spNextD := ok_nextD T r_turned D11
  have r_dirF : Cal P w K mg base 3 "direction_follow" ["rules", "direction"] spDirF := ok_dirF T r_nextD D12
  have r_nextB : Cal P w K mg base 3 "next_basics" ["rules", "basic"] spNextB := ok_nextB T r_nextD D13
  have r_basF : Cal P w K mg base 4 "basic_follow" ["rules", "basic"] spBasF := ok_basF T r_nextB D14
  have m_lore : CalM P w K mg base 5 "Lore" CL ["self", "rules"] (spLI CL) := ⟨fL, fdL, ML, ok_LI FL' T r_allB r_dirF r_basF, T.gL, bL⟩
  have r_forb : Cal P w K mg base 1 "are_forbidden" ["lore", "found"] (spForb CL) := ok_forb T D16
  have r_rforb : Cal P w K mg base 1 "are_role_forbidden" ["lore", "found"] (spRForb CL) := ok_rforb T D17
  have r_isBad : Cal P w K mg base 2 "is_bad" ["lore", "basic"] (spIsBad CL) := ok_isBad T r_forb D18
  have r_isBadD : Cal P w K mg base 2 "is_bad_direction" ["lore", "direction"] (spIsBadD CL) := ok_isBadD T r_turned r_rforb D19
  have r_addB : Cal P w K mg base 3 "add_bad" ["lore"] (spAddB CL) := ok_addB T r_allB r_isBad r_isBadD D20
  have r_loreOf : Cal P w K mg base 7 "lore_of" ["rules"] (spLoreOf CL) := ok_loreOf T m_lore r_addB D21
  have r_WB : Cal P w K mg base 2 "is_wrong_being" ["lore", "found"] (spWB CL) := ok_WB T r_forb D22
  have r_WE : Cal P w K mg base 2 "are_wrong_edges" ["lore", "found"] (spWE CL) := ok_WE T r_turned r_rforb D23
  have r_BT : Cal P w K mg base 1 "basics_told" ["thing", "x"] spBT := ok_BT T D28
  have r_DT : Cal P w K mg base 1 "directions_told" ["thing", "x", "y"] spDT := ok_DT T D30
  have r_allOf : Cal P w K mg base 2 "all_of" ["lore", "told", "x"] (spAllOf CL) := ok_allOf T r_BT D29
  have r_edges : Cal P w K mg base 2 "edges_of" ["lore", "told", "x", "y"] (spEdges CL) := ok_edges T r_DT D31
  have r_isW : Cal P w K mg base 3 "is_wrong" ["lore", "told", "x"] (spIsW CL) := ok_isW T r_WB r_allOf r_WE r_edges D32
  have r_WN : Cal P w K mg base 4 "wrong_nodes" ["lore", "told"] (spWN CL) := ok_WN T r_isW D33
  have r_clash : Cal P w K mg base 5 "clashes" ["lore", "told"] (spClash CL) := ok_clash T r_WN D34
  have r_hits : Cal P w K mg base 1 "hits_all" ["row", "pairs"] spHits := ok_hits D36
  have r_rows : Cal P w K mg base 1 "rows_of" ["many", "size"] spRows := ok_rows T D35
  have r_few : Cal P w K mg base 6 "fewest" ["lore", "told"] (spFew CL) := ok_few T r_clash r_rows r_hits D37
  have r_allAt : Cal P w K mg base 3 "all_at" ["lore", "told", "place"] (spAllAt CL) := ok_allAt T r_allOf r_turned D38
  have r_TA : Cal P w K mg base 3 "told_ahead" ["lore", "told", "place", "direction"] (spTA CL) := ok_TA T r_edges r_turned D39
  have r_PA : Cal P w K mg base 4 "places_ahead" ["lore", "told", "place", "direction"] (spPA CL) := ok_PA T r_TA r_allAt D40
  have r_isOf : Cal P w K mg base 4 "is_of" ["lore", "told", "place", "kind"] (spIsOf CL) := ok_isOf T r_allAt D41
  have r_leads : Cal P w K mg base 5 "leads" ["lore", "told", "x", "steps"] (spLeads CL) := ok_leads T r_PA r_isOf D42
  have r_follows : Cal P w K mg base 1 "follows" ["lore", "b", "c"] (spFollows CL) := ok_follows T D44
  have r_joinB : Cal P w K mg base 1 "joined" ["one", "other"] spJoinB := ok_joinB D45
  have r_joinN : Cal P w K mg base 1 "joined" ["one", "other"] spJoinN := ok_joinN D45
  have r_NB : Cal P w K mg base 3 "never_both" ["lore", "b", "c"] (spNB CL) := ok_NB T r_WB r_joinB D46
  have r_NW : Cal P w K mg base 4 "never_both_ways" ["lore", "r", "s"] (spNW CL) := ok_NW T r_WE r_joinN r_NB r_turned D47
  have r_idle : Cal P w K mg base 8 "is_idle" ["rules", "n"] spIdle := ok_idle T r_loreOf r_follows r_NB r_NW D48
  have r_isBasic : Cal P w K mg base 1 "is_basic" ["b"] spIsBasic := ok_isBasic T D49
  have r_badO : Cal P w K mg base 1 "bad_in_order" ["lore"] (spBadO CL) := ok_badO T D50
  have m_desk : CalM P w K mg base 1 "Desk" CD ["self"] (spDI CD) := ⟨fD, fdD, MD, ok_DI FD' T, T.gD, bD⟩
  have r_tell : Cal P w K mg base 1 "tell" ["desk", "thing"] (spTell CD) := ok_tell T D64
  have r_tellK : Cal P w K mg base 2 "tell_kind" ["desk", "x", "k"] (spTellK CD) := ok_tellK T r_tell D65
  have r_tellE : Cal P w K mg base 2 "tell_edge" ["desk", "x", "a", "y"] (spTellE CD) := ok_tellE T r_tell D66
  have r_drop : Cal P w K mg base 1 "drop" ["desk", "n"] (spDrop CD) := ok_drop T D67
  have r_strike : Cal P w K mg base 1 "strike" ["desk", "n"] (spStrike CD) := ok_strike T D71
  have r_addR : Cal P w K mg base 1 "add_rule" ["desk", "rule"] (spAddR CD) := ok_addR T D68
  have r_roB : Cal P w K mg base 2 "rule_of_basics" ["desk", "sort", "b", "c"] (spRoB CD) := ok_roB T r_isBasic r_addR D69
  have r_roD : Cal P w K mg base 2 "rule_of_directions" ["desk", "sort", "r", "s"] (spRoD CD) := ok_roD T r_addR D70
  have r_counted : Cal P w K mg base 1 "counted" ["row"] spCounted := ok_counted T D72
  have r_isC : Cal P w K mg base 5 "is_certain" ["desk", "lore", "x", "b"] (spIsC CL CD) := ok_isC T r_WN r_allOf D73
  have r_isTold : Cal P w K mg base 8 "is_told" ["desk", "x", "b"] (spIsTold CD) := ok_isTold T r_isBasic r_loreOf r_isC D74
  have r_who : Cal P w K mg base 8 "who" ["desk", "b"] (spWho CD) := ok_who T r_isBasic r_loreOf r_isC r_counted D75
  have r_edgesT : Cal P w K mg base 8 "edges_told" ["desk", "x", "y"] (spEdgesT CD) := ok_edgesT T r_loreOf r_WN r_edges r_counted D76
  have r_steps : Cal P w K mg base 1 "steps_of" ["numbers"] spSteps := ok_steps T D77
  have r_NL : Cal P w K mg base 8 "nodes_that_lead" ["desk", "steps"] (spNL CD) := ok_NL T r_loreOf r_WN r_leads D78
  have r_chain : Cal P w K mg base 8 "chain" ["desk", "x", "numbers"] (spChain CD) := ok_chain T r_steps r_loreOf r_WN r_leads D79
  have r_from : Cal P w K mg base 9 "from_all" ["desk", "numbers"] (spFrom CD) := ok_from T r_steps r_counted r_NL D80
  have r_sound : Cal P w K mg base 8 "sound" ["desk"] (spSound CD) := ok_sound T r_loreOf r_WN D81
  have r_followsT : Cal P w K mg base 8 "follows_told" ["desk", "b", "c"] (spFollowsT CD) := ok_followsT T r_isBasic r_loreOf r_follows D82
  have r_badT : Cal P w K mg base 8 "bad_told" ["desk"] (spBadT CD) := ok_badT T r_loreOf r_badO D83
  have r_idleT : Cal P w K mg base 9 "idle" ["desk", "n"] (spIdleT CD) := ok_idleT T r_idle D84
  have r_whence : Cal P w K mg base 8 "whence" ["desk", "x", "b"] (spWhence CD) := ok_whence T r_isBasic r_loreOf r_BT D85
  have r_telling : Cal P w K mg base 3 "answer_telling" ["desk", "deed", "n"] (spTelling CD) := ok_telling T r_tellK r_tellE r_drop r_roB r_roD r_strike D86
  have r_asking : Cal P w K mg base 10 "answer_asking" ["desk", "deed", "n", "row"] (spAsking CD) := ok_asking T r_isTold r_who r_edgesT r_chain r_from r_sound r_followsT r_badT r_idleT r_whence r_counted r_few r_loreOf D87
  exact ok_answers T m_desk r_telling r_asking F88
end Wm

open PySem PySem.W PyProof.Rows
set_option maxRecDepth 100000 in
set_option maxHeartbeats 8000000 in
theorem PySem.Challenge.cw_whatmustbe_s01_answers_holds : PySem.Challenge.rw_whatmustbe_s01_answers.Holds := by
  w_on; k_headS; (case hw => exact ⟨[.list [.int 13]], by decide +kernel, by decide +kernel⟩)
  k_fillS
  refine L2.walk_specK (r := PySem.Challenge.rw_whatmustbe_s01_answers) (k := 11) (CX := L2.CX0) (ps := ["calls"]) (sp := Wm.spAns) (by decide +kernel) rfl rfl ⟨rfl, by decide, by decide⟩ (fun w h Y => PySem.W.kIn_of Y) ?F ?S (fun _ _ _ _ z => z)
  case F =>
    intro w mg fa h Y KX G hmg
    refine' Wm.all_mk hmg ?T ?iL ?iD ?D9 ?D10 ?D11 ?D12 ?D13 ?D14 ?D16 ?D17 ?D18 ?D19 ?D20 ?D21 ?D22 ?D23 ?D28 ?D29 ?D30 ?D31 ?D32 ?D33 ?D34 ?D35 ?D36 ?D37 ?D38 ?D39 ?D40 ?D41 ?D42 ?D44 ?D45 ?D46 ?D47 ?D48 ?D49 ?D50 ?D64 ?D65 ?D66 ?D67 ?D68 ?D69 ?D70 ?D71 ?D72 ?D73 ?D74 ?D75 ?D76 ?D77 ?D78 ?D79 ?D80 ?D81 ?D82 ?D83 ?D84 ?D85 ?D86 ?D87 ?D88
    case T =>
      refine' ⟨?gBEING, ?gHAVING, ?gSUB, ?gROLE, ?gNEVER, ?gNEVER_ROLE, ?gKIND, ?gEDGE, ?gBEYOND, ?gNO_SUCH, ?gNONE, ?gTOLD, ?gTOO_MANY, ?gMOST_TOLD, ?gMOST_RULES, ?gMOST_STEPS, ?tKINDS, ?tDIRECTIONS, ?tNODES, ?tLABELS, ?tNUMBERS, ?tWITH_ROW, ?nlen, ?nrange, ?nsorted, ?nlist, ?nenumerate, ?nint, ?gL, ?gD, ?cL, ?cD, ?a1, ?a2, ?a3, ?a4, ?a5, ?a6, ?a7⟩
      (case gBEING => refine' Wm.gi_mk KX G ?a; (case a => k_is))
      (case gHAVING => refine' Wm.gi_mk KX G ?a; (case a => k_is))
      (case gSUB => refine' Wm.gi_mk KX G ?a; (case a => k_is))
      (case gROLE => refine' Wm.gi_mk KX G ?a; (case a => k_is))
      (case gNEVER => refine' Wm.gi_mk KX G ?a; (case a => k_is))
      (case gNEVER_ROLE => refine' Wm.gi_mk KX G ?a; (case a => k_is))
      (case gKIND => refine' Wm.gi_mk KX G ?a; (case a => k_is))
      (case gEDGE => refine' Wm.gi_mk KX G ?a; (case a => k_is))
      (case gBEYOND => refine' Wm.gi_mk KX G ?a; (case a => k_is))
      (case gNO_SUCH => refine' Wm.gi_mk KX G ?a; (case a => k_is))
      (case gNONE => refine' Wm.gi_mk KX G ?a; (case a => k_is))
      (case gTOLD => refine' Wm.gi_mk KX G ?a; (case a => k_is))
      (case gTOO_MANY => refine' Wm.gi_mk KX G ?a; (case a => k_is))
      (case gMOST_TOLD => refine' Wm.gi_mk KX G ?a; (case a => k_is))
      (case gMOST_RULES => refine' Wm.gi_mk KX G ?a; (case a => k_is))
      (case gMOST_STEPS => refine' Wm.gi_mk KX G ?a; (case a => k_is))
      (case tKINDS => refine' Wm.gt_mk KX G ?e ?l ?c ?d ?z ?v; (case e => k_is); (case l => k_is); (case c => rfl); (case d => rfl); (case z => decide); (case v => repeat' first | exact .nil | refine .cons ⟨_, rfl⟩ ?_))
      (case tDIRECTIONS => refine' Wm.gt_mk KX G ?e ?l ?c ?d ?z ?v; (case e => k_is); (case l => k_is); (case c => rfl); (case d => rfl); (case z => decide); (case v => repeat' first | exact .nil | refine .cons ⟨_, rfl⟩ ?_))
      (case tNODES => refine' Wm.gt_mk KX G ?e ?l ?c ?d ?z ?v; (case e => k_is); (case l => k_is); (case c => rfl); (case d => rfl); (case z => decide); (case v => repeat' first | exact .nil | refine .cons ⟨_, rfl⟩ ?_))
      (case tLABELS => refine' Wm.gt_mk KX G ?e ?l ?c ?d ?z ?v; (case e => k_is); (case l => k_is); (case c => rfl); (case d => rfl); (case z => decide); (case v => repeat' first | exact .nil | refine .cons ⟨_, rfl⟩ ?_))
      (case tNUMBERS => refine' Wm.gt_mk KX G ?e ?l ?c ?d ?z ?v; (case e => k_is); (case l => k_is); (case c => rfl); (case d => rfl); (case z => decide); (case v => repeat' first | exact .nil | refine .cons ⟨_, rfl⟩ ?_))
      (case tWITH_ROW => refine' Wm.gt_mk KX G ?e ?l ?c ?d ?z ?v; (case e => k_is); (case l => k_is); (case c => rfl); (case d => rfl); (case z => decide); (case v => repeat' first | exact .nil | refine .cons ⟨_, rfl⟩ ?_))
      (case nlen => refine' PySem.W.mg_none_of KX G ?a; (case a => k_is))
      (case nrange => refine' PySem.W.mg_none_of KX G ?a; (case a => k_is))
      (case nsorted => refine' PySem.W.mg_none_of KX G ?a; (case a => k_is))
      (case nlist => refine' PySem.W.mg_none_of KX G ?a; (case a => k_is))
      (case nenumerate => refine' PySem.W.mg_none_of KX G ?a; (case a => k_is))
      (case nint => refine' PySem.W.mg_none_of KX G ?a; (case a => k_is))
      (case gL => refine' PySem.W.mg_of KX G ?a; (case a => k_is))
      (case gD => refine' PySem.W.mg_of KX G ?a; (case a => k_is))
      (case cL => refine' ⟨?pg, ?hd, ?po, ?sa⟩; (case pg => k_is); (case hd => k_is); (case po => k_is); (case sa => k_is))
      (case cD => refine' ⟨?pg, ?hd, ?po, ?sa⟩; (case pg => k_is); (case hd => k_is); (case po => k_is); (case sa => k_is))
      (case a1 => refine' Wm.na_mk ?a; (case a => k_is))
      (case a2 => refine' Wm.na_mk ?a; (case a => k_is))
      (case a3 => refine' Wm.na_mk ?a; (case a => k_is))
      (case a4 => refine' Wm.na_mk ?a; (case a => k_is))
      (case a5 => refine' Wm.na_mk ?a; (case a => k_is))
      (case a6 => refine' Wm.na_mk ?a; (case a => k_is))
      (case a7 => refine' Wm.na_mk ?a; (case a => k_is))
    (case iL => refine' Wm.ini_mk ?a ?i ?l ?c ?k ?m ?kc; (case a => k_is); (case i => k_is); (case l => k_is); (case c => k_is); (case k => k_is); (case m => k_is); (case kc => k_is))
    (case iD => refine' Wm.ini_mk ?a ?i ?l ?c ?k ?m ?kc; (case a => k_is); (case i => k_is); (case l => k_is); (case c => k_is); (case k => k_is); (case m => k_is); (case kc => k_is))
    (case D9 => refine' Wm.def_mk KX G ?a ?l ?c ?k; (case a => k_is); (case l => k_is); (case c => k_is); (case k => k_is))
    (case D10 => refine' Wm.def_mk KX G ?a ?l ?c ?k; (case a => k_is); (case l => k_is); (case c => k_is); (case k => k_is))
    (case D11 => refine' Wm.def_mk KX G ?a ?l ?c ?k; (case a => k_is); (case l => k_is); (case c => k_is); (case k => k_is))
    (case D12 => refine' Wm.def_mk KX G ?a ?l ?c ?k; (case a => k_is); (case l => k_is); (case c => k_is); (case k => k_is))
    (case D13 => refine' Wm.def_mk KX G ?a ?l ?c ?k; (case a => k_is); (case l => k_is); (case c => k_is); (case k => k_is))
    (case D14 => refine' Wm.def_mk KX G ?a ?l ?c ?k; (case a => k_is); (case l => k_is); (case c => k_is); (case k => k_is))
    (case D16 => refine' Wm.def_mk KX G ?a ?l ?c ?k; (case a => k_is); (case l => k_is); (case c => k_is); (case k => k_is))
    (case D17 => refine' Wm.def_mk KX G ?a ?l ?c ?k; (case a => k_is); (case l => k_is); (case c => k_is); (case k => k_is))
    (case D18 => refine' Wm.def_mk KX G ?a ?l ?c ?k; (case a => k_is); (case l => k_is); (case c => k_is); (case k => k_is))
    (case D19 => refine' Wm.def_mk KX G ?a ?l ?c ?k; (case a => k_is); (case l => k_is); (case c => k_is); (case k => k_is))
    (case D20 => refine' Wm.def_mk KX G ?a ?l ?c ?k; (case a => k_is); (case l => k_is); (case c => k_is); (case k => k_is))
    (case D21 => refine' Wm.def_mk KX G ?a ?l ?c ?k; (case a => k_is); (case l => k_is); (case c => k_is); (case k => k_is))
    (case D22 => refine' Wm.def_mk KX G ?a ?l ?c ?k; (case a => k_is); (case l => k_is); (case c => k_is); (case k => k_is))
    (case D23 => refine' Wm.def_mk KX G ?a ?l ?c ?k; (case a => k_is); (case l => k_is); (case c => k_is); (case k => k_is))
    (case D28 => refine' Wm.def_mk KX G ?a ?l ?c ?k; (case a => k_is); (case l => k_is); (case c => k_is); (case k => k_is))
    (case D29 => refine' Wm.def_mk KX G ?a ?l ?c ?k; (case a => k_is); (case l => k_is); (case c => k_is); (case k => k_is))
    (case D30 => refine' Wm.def_mk KX G ?a ?l ?c ?k; (case a => k_is); (case l => k_is); (case c => k_is); (case k => k_is))
    (case D31 => refine' Wm.def_mk KX G ?a ?l ?c ?k; (case a => k_is); (case l => k_is); (case c => k_is); (case k => k_is))
    (case D32 => refine' Wm.def_mk KX G ?a ?l ?c ?k; (case a => k_is); (case l => k_is); (case c => k_is); (case k => k_is))
    (case D33 => refine' Wm.def_mk KX G ?a ?l ?c ?k; (case a => k_is); (case l => k_is); (case c => k_is); (case k => k_is))
    (case D34 => refine' Wm.def_mk KX G ?a ?l ?c ?k; (case a => k_is); (case l => k_is); (case c => k_is); (case k => k_is))
    (case D35 => refine' Wm.def_mk KX G ?a ?l ?c ?k; (case a => k_is); (case l => k_is); (case c => k_is); (case k => k_is))
    (case D36 => refine' Wm.def_mk KX G ?a ?l ?c ?k; (case a => k_is); (case l => k_is); (case c => k_is); (case k => k_is))
    (case D37 => refine' Wm.def_mk KX G ?a ?l ?c ?k; (case a => k_is); (case l => k_is); (case c => k_is); (case k => k_is))
    (case D38 => refine' Wm.def_mk KX G ?a ?l ?c ?k; (case a => k_is); (case l => k_is); (case c => k_is); (case k => k_is))
    (case D39 => refine' Wm.def_mk KX G ?a ?l ?c ?k; (case a => k_is); (case l => k_is); (case c => k_is); (case k => k_is))
    (case D40 => refine' Wm.def_mk KX G ?a ?l ?c ?k; (case a => k_is); (case l => k_is); (case c => k_is); (case k => k_is))
    (case D41 => refine' Wm.def_mk KX G ?a ?l ?c ?k; (case a => k_is); (case l => k_is); (case c => k_is); (case k => k_is))
    (case D42 => refine' Wm.def_mk KX G ?a ?l ?c ?k; (case a => k_is); (case l => k_is); (case c => k_is); (case k => k_is))
    (case D44 => refine' Wm.def_mk KX G ?a ?l ?c ?k; (case a => k_is); (case l => k_is); (case c => k_is); (case k => k_is))
    (case D45 => refine' Wm.def_mk KX G ?a ?l ?c ?k; (case a => k_is); (case l => k_is); (case c => k_is); (case k => k_is))
    (case D46 => refine' Wm.def_mk KX G ?a ?l ?c ?k; (case a => k_is); (case l => k_is); (case c => k_is); (case k => k_is))
    (case D47 => refine' Wm.def_mk KX G ?a ?l ?c ?k; (case a => k_is); (case l => k_is); (case c => k_is); (case k => k_is))
    (case D48 => refine' Wm.def_mk KX G ?a ?l ?c ?k; (case a => k_is); (case l => k_is); (case c => k_is); (case k => k_is))
    (case D49 => refine' Wm.def_mk KX G ?a ?l ?c ?k; (case a => k_is); (case l => k_is); (case c => k_is); (case k => k_is))
    (case D50 => refine' Wm.def_mk KX G ?a ?l ?c ?k; (case a => k_is); (case l => k_is); (case c => k_is); (case k => k_is))
    (case D64 => refine' Wm.def_mk KX G ?a ?l ?c ?k; (case a => k_is); (case l => k_is); (case c => k_is); (case k => k_is))
    (case D65 => refine' Wm.def_mk KX G ?a ?l ?c ?k; (case a => k_is); (case l => k_is); (case c => k_is); (case k => k_is))
    (case D66 => refine' Wm.def_mk KX G ?a ?l ?c ?k; (case a => k_is); (case l => k_is); (case c => k_is); (case k => k_is))
    (case D67 => refine' Wm.def_mk KX G ?a ?l ?c ?k; (case a => k_is); (case l => k_is); (case c => k_is); (case k => k_is))
    (case D68 => refine' Wm.def_mk KX G ?a ?l ?c ?k; (case a => k_is); (case l => k_is); (case c => k_is); (case k => k_is))
    (case D69 => refine' Wm.def_mk KX G ?a ?l ?c ?k; (case a => k_is); (case l => k_is); (case c => k_is); (case k => k_is))
    (case D70 => refine' Wm.def_mk KX G ?a ?l ?c ?k; (case a => k_is); (case l => k_is); (case c => k_is); (case k => k_is))
    (case D71 => refine' Wm.def_mk KX G ?a ?l ?c ?k; (case a => k_is); (case l => k_is); (case c => k_is); (case k => k_is))
    (case D72 => refine' Wm.def_mk KX G ?a ?l ?c ?k; (case a => k_is); (case l => k_is); (case c => k_is); (case k => k_is))
    (case D73 => refine' Wm.def_mk KX G ?a ?l ?c ?k; (case a => k_is); (case l => k_is); (case c => k_is); (case k => k_is))
    (case D74 => refine' Wm.def_mk KX G ?a ?l ?c ?k; (case a => k_is); (case l => k_is); (case c => k_is); (case k => k_is))
    (case D75 => refine' Wm.def_mk KX G ?a ?l ?c ?k; (case a => k_is); (case l => k_is); (case c => k_is); (case k => k_is))
    (case D76 => refine' Wm.def_mk KX G ?a ?l ?c ?k; (case a => k_is); (case l => k_is); (case c => k_is); (case k => k_is))
    (case D77 => refine' Wm.def_mk KX G ?a ?l ?c ?k; (case a => k_is); (case l => k_is); (case c => k_is); (case k => k_is))
    (case D78 => refine' Wm.def_mk KX G ?a ?l ?c ?k; (case a => k_is); (case l => k_is); (case c => k_is); (case k => k_is))
    (case D79 => refine' Wm.def_mk KX G ?a ?l ?c ?k; (case a => k_is); (case l => k_is); (case c => k_is); (case k => k_is))
    (case D80 => refine' Wm.def_mk KX G ?a ?l ?c ?k; (case a => k_is); (case l => k_is); (case c => k_is); (case k => k_is))
    (case D81 => refine' Wm.def_mk KX G ?a ?l ?c ?k; (case a => k_is); (case l => k_is); (case c => k_is); (case k => k_is))
    (case D82 => refine' Wm.def_mk KX G ?a ?l ?c ?k; (case a => k_is); (case l => k_is); (case c => k_is); (case k => k_is))
    (case D83 => refine' Wm.def_mk KX G ?a ?l ?c ?k; (case a => k_is); (case l => k_is); (case c => k_is); (case k => k_is))
    (case D84 => refine' Wm.def_mk KX G ?a ?l ?c ?k; (case a => k_is); (case l => k_is); (case c => k_is); (case k => k_is))
    (case D85 => refine' Wm.def_mk KX G ?a ?l ?c ?k; (case a => k_is); (case l => k_is); (case c => k_is); (case k => k_is))
    (case D86 => refine' Wm.def_mk KX G ?a ?l ?c ?k; (case a => k_is); (case l => k_is); (case c => k_is); (case k => k_is))
    (case D87 => refine' Wm.def_mk KX G ?a ?l ?c ?k; (case a => k_is); (case l => k_is); (case c => k_is); (case k => k_is))
    (case D88 => refine' Wm.def_mk KX G ?a ?l ?c ?k; (case a => k_is); (case l => k_is); (case c => k_is); (case k => k_is))
  case S =>
    intro K H xs a hO hwi hask hx
    cases hx with
    | cons h1 h2 =>
      cases h2
      cases h1 with
      | lst hs ha =>
        have e := L2.ints_dw a.1 _ ha
        subst e
        have q : ((Codec.inLen 0 1140 a.1 && a.1.all (Codec.inInt (Int.ofNat 0) (Int.ofNat 4294967295))) && true) = true := hwi
        rw [Bool.and_eq_true, Bool.and_eq_true] at q
        obtain ⟨l, el⟩ := Wm.nats_of (l := a.1) fun x hx => Wm.nn_of (List.all_eq_true.mp q.1.2 x hx)
        have hs : L2.SqL K H _ (a.1.map L2.V.int) := hs
        rw [el, Wm.tI_vis] at hs
        have hl : a.1.length ≤ 1140 := (Codec.inNat_iff.mp q.1.1).2
        have hk : PyGq03.answers_asked a.1 = true := hask
        rw [el] at hk hl
        refine ⟨_, l, rfl, hs, by rw [Wm.tI_len] at hl; omega, hk, fun H' p hp => ?_⟩
        have ef : PyGq03.answers a.1 = PyGq03.answers (Wm.tI l) := by rw [el]
        show L2.Dw K H' (.ref p) (.list ((PyGq03.answers a.1).map WData.int))
        rw [ef]
        exact .lst (L2.SqL.of hp) (L2.dw_ints _)
