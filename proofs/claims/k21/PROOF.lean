import PyProof.Rows.All
import Wide.All
import OpenK.AllK
import Wide.FinOn
import HandS.ForMost
import HandS.Set
import HandS.Strs
import HandS.SetFor
import HandS.SortInts
import HandS.Conv
import HandS.IsInst
import HandS.Defaults
import HandS.Walk
import HandS.More
import PySem.Challenge.RW_rankgarth_k21_whole_drawn_plays
set_option Elab.async false
set_option linter.all false
set_option maxRecDepth 100000
set_option maxHeartbeats 4000000
/-! The plain law: games won by ranks, cut off by pulling; no program in sight. -/
namespace Rg

/-- a place: its hand, its rank, its ways out -/
structure Pl where
  hand : Int
  rank : Int
  ways : List Nat
abbrev Gm := List Pl
def dPl : Pl := ⟨0, 0, []⟩
def ow (G : Gm) (v : Nat) : Int := (G.getD v dPl).hand
def rk (G : Gm) (v : Nat) : Int := (G.getD v dPl).rank
def wy (G : Gm) (v : Nat) : List Nat := (G.getD v dPl).ways
/-- what is told: hand and way of each place -/
abbrev Tab := Nat → Option (Int × Option Nat)

/-! ### pulling -/
structure Pull (G : Gm) (h : Int) (P goal : List Nat) (d : Nat → Option Nat) : Prop where
  sub : ∀ x k, d x = some k → x ∈ P
  zero : ∀ x, d x = some 0 ↔ (x ∈ goal ∧ x ∈ P)
  own : ∀ x k, d x = some (k + 1) → ow G x = h → ∃ w, w ∈ wy G x ∧ d w = some k
  oth : ∀ x k, d x = some (k + 1) → ow G x ≠ h → ∀ w, w ∈ wy G x → w ∈ P → ∃ j, j ≤ k ∧ d w = some j
  cloO : ∀ x, x ∈ P → d x = none → ow G x = h → ∀ w, w ∈ wy G x → d w = none
  cloN : ∀ x, x ∈ P → d x = none → ow G x ≠ h → (∃ w, w ∈ wy G x ∧ w ∈ P) → ∃ w, w ∈ wy G x ∧ w ∈ P ∧ d w = none
/-- the layers so far (d, K of them) and the next one -/
structure PInv (G : Gm) (h : Int) (P goal : List Nat) (d : Nat → Option Nat) (layer : List Nat) (K : Nat) : Prop where
  lt : ∀ x k, d x = some k → k < K ∧ x ∈ P
  lay : ∀ x, x ∈ layer → x ∈ P ∧ d x = none
  zero : ∀ x, (if x ∈ layer then some K else d x) = some 0 ↔ (x ∈ goal ∧ x ∈ P)
  own : ∀ x k, (if x ∈ layer then some K else d x) = some (k + 1) → ow G x = h → ∃ w, w ∈ wy G x ∧ d w = some k
  oth : ∀ x k, (if x ∈ layer then some K else d x) = some (k + 1) → ow G x ≠ h → ∀ w, w ∈ wy G x → w ∈ P → ∃ j, j ≤ k ∧ d w = some j
  cloO : ∀ x, x ∈ P → x ∉ layer → d x = none → ow G x = h → ∀ w, w ∈ wy G x → d w = none
  cloN : ∀ x, x ∈ P → x ∉ layer → d x = none → ow G x ≠ h → (∃ w, w ∈ wy G x ∧ w ∈ P) → ∃ w, w ∈ wy G x ∧ w ∈ P ∧ d w = none
theorem PInv.start {G : Gm} {h : Int} {P goal layer : List Nat} (hl : ∀ x, x ∈ layer ↔ (x ∈ goal ∧ x ∈ P)) : PInv G h P goal (fun _ => none) layer 0 := by
  constructor <;> grind
theorem PInv.done {G : Gm} {h : Int} {P goal : List Nat} {d : Nat → Option Nat} {K : Nat} (I : PInv G h P goal d [] K) : Pull G h P goal d := by
  obtain ⟨a, b, c, e, f, g, i⟩ := I
  have nn : ∀ x : Nat, ¬ x ∈ ([] : List Nat) := fun x z => by cases z
  simp only [nn, if_false] at c e f
  exact ⟨fun x k hx => (a x k hx).2, c, e, f, fun x hP hx => g x hP (nn x) hx, fun x hP hx => i x hP (nn x) hx⟩
theorem PInv.turn {G : Gm} {h : Int} {P goal layer next : List Nat} {d : Nat → Option Nat} {K : Nat} (I : PInv G h P goal d layer K)
    (hn : ∀ x, x ∈ next ↔ (x ∈ P ∧ d x = none ∧ x ∉ layer ∧ (∃ w, w ∈ wy G x ∧ w ∈ layer) ∧ (ow G x = h ∨ ∀ w, w ∈ wy G x → w ∈ P → d w ≠ none ∨ w ∈ layer))) :
    PInv G h P goal (fun x => if x ∈ layer then some K else d x) next (K + 1) := by
  obtain ⟨a, b, c, e, f, g, i⟩ := I
  constructor
  · grind
  · grind
  · grind
  · intro x k hx ho
    by_cases hxn : x ∈ next
    · rw [if_pos hxn] at hx
      obtain ⟨_, _, _, ⟨w, h1, h2⟩, _⟩ := (hn x).1 hxn
      exact ⟨w, h1, by simp only [if_pos h2]; simp at hx; rw [hx]⟩
    · rw [if_neg hxn] at hx
      obtain ⟨w, h1, h2⟩ := e x k hx ho
      refine ⟨w, h1, ?_⟩
      have : w ∉ layer := fun z => by have := (b w z).2; rw [h2] at this; cases this
      simp only [if_neg this, h2]
  · intro x k hx ho w hw hP
    by_cases hxn : x ∈ next
    · rw [if_pos hxn] at hx
      obtain ⟨_, _, _, _, hc⟩ := (hn x).1 hxn
      have hk : K = k := by simpa using hx
      have hc' := (hc.resolve_left ho) w hw hP
      by_cases hl : w ∈ layer
      · exact ⟨K, by omega, by simp only [if_pos hl]⟩
      · simp only [if_neg hl]
        have h3 := hc'.resolve_right hl
        cases hd : d w with
        | none => exact absurd hd h3
        | some j => exact ⟨j, by have := (a w j hd).1; omega, rfl⟩
    · rw [if_neg hxn] at hx
      obtain ⟨j, h1, h2⟩ := f x k hx ho w hw hP
      refine ⟨j, h1, ?_⟩
      have : w ∉ layer := fun z => by have := (b w z).2; rw [h2] at this; cases this
      simp only [if_neg this, h2]
  · grind
  · intro x hP hxn hx ho ⟨w, hw, hwP⟩
    have hxl : x ∉ layer := fun z => by simp [z] at hx
    simp only [if_neg hxl] at hx
    by_cases hq : ∃ w, w ∈ wy G x ∧ w ∈ P ∧ d w = none ∧ w ∉ layer
    · obtain ⟨u, h1, h2, h3, h4⟩ := hq
      exact ⟨u, h1, h2, by simp only [if_neg h4, h3]⟩
    · exfalso
      have hall : ∀ u, u ∈ wy G x → u ∈ P → d u ≠ none ∨ u ∈ layer := fun u h1 h2 => by
        by_cases hu : u ∈ layer
        · exact .inr hu
        · exact .inl fun z => hq ⟨u, h1, h2, z, hu⟩
      obtain ⟨u, h1, h2, h3⟩ := i x hP hxl hx ho ⟨w, hw, hwP⟩
      exact hxn ((hn x).2 ⟨hP, hx, hxl, ⟨u, h1, (hall u h1 h2).resolve_left fun z => z h3⟩, .inr hall⟩)
/-- two pullings of the same pull the same places -/
theorem Pull.le {G : Gm} {h : Int} {P goal : List Nat} {d e : Nat → Option Nat} (A : Pull G h P goal d) (B : Pull G h P goal e)
    (tot : ∀ v, v ∈ P → ∃ w, w ∈ wy G v ∧ w ∈ P) : ∀ n k x, k ≤ n → d x = some k → e x ≠ none := by
  intro n
  induction n with
  | zero =>
    intro k x hk hd
    have hk0 : k = 0 := by omega
    subst hk0
    rw [(B.zero x).2 ((A.zero x).1 hd)]
    simp
  | succ n ih =>
    intro k x hk hd
    rcases Nat.lt_or_ge k (n + 1) with hlt | hge
    · exact ih k x (by omega) hd
    · have hkn : k = n + 1 := by omega
      subst hkn
      have hP := A.sub x _ hd
      intro he
      by_cases ho : ow G x = h
      · obtain ⟨w, h1, h2⟩ := A.own x n hd ho
        exact ih n w (Nat.le_refl _) h2 (B.cloO x hP he ho w h1)
      · obtain ⟨w, h1, h2, h3⟩ := B.cloN x hP he ho (tot x hP)
        obtain ⟨j, h4, h5⟩ := A.oth x n hd ho w h1 h2
        exact ih j w h4 h5 h3
theorem Pull.iff {G : Gm} {h : Int} {P goal : List Nat} {d e : Nat → Option Nat} (A : Pull G h P goal d) (B : Pull G h P goal e)
    (tot : ∀ v, v ∈ P → ∃ w, w ∈ wy G v ∧ w ∈ P) (x : Nat) : d x = none ↔ e x = none := by
  constructor
  · intro hd
    cases he : e x with
    | none => rfl
    | some k => exact absurd hd (B.le A tot k k x (Nat.le_refl _) he)
  · intro he
    cases hd : d x with
    | none => rfl
    | some k => exact absurd he (A.le B tot k k x (Nat.le_refl _) hd)

/-! ### walks -/
inductive Walk (R : Nat → Nat → Prop) : Nat → List Nat → Nat → Prop where
  | nil (a : Nat) : Walk R a [] a
  | cons {a c b : Nat} {l : List Nat} : R a c → Walk R c l b → Walk R a (a :: l) b
section
variable {R S : Nat → Nat → Prop}
theorem Walk.head {a b x : Nat} {l : List Nat} (w : Walk R a (x :: l) b) : x = a := by cases w; rfl
theorem Walk.append {a b c : Nat} {l r : List Nat} (u : Walk R a l b) (v : Walk R b r c) : Walk R a (l ++ r) c := by
  induction u with
  | nil _ => exact v
  | cons h _ ih => exact .cons h (ih v)
theorem Walk.snoc {a b c : Nat} {l : List Nat} (u : Walk R a l b) (h : R b c) : Walk R a (l ++ [b]) c := u.append (.cons h (.nil c))
theorem Walk.split {b : Nat} {r : List Nat} {x : Nat} : ∀ {l : List Nat} {a : Nat}, Walk R a (l ++ x :: r) b → Walk R a l x ∧ Walk R x (x :: r) b
  | [], a, u => by
    have e := u.head
    subst e
    exact ⟨.nil _, u⟩
  | y :: l, a, u => by
    cases u with
    | cons h v =>
      obtain ⟨v1, v2⟩ := Walk.split v
      exact ⟨.cons h v1, v2⟩
theorem Walk.imp {a b : Nat} {l : List Nat} (u : Walk R a l b) (h : ∀ x y, x ∈ l → R x y → (y ∈ l ∨ y = b) → S x y) : Walk S a l b := by
  induction u with
  | nil a => exact .nil a
  | cons h1 v ih =>
    rename_i a c b l
    refine .cons (h a c (by simp) h1 ?_) (ih fun x y hx hr hy => h x y (List.mem_cons_of_mem _ hx) hr ?_)
    · cases l with
      | nil => cases v; exact .inr rfl
      | cons y l => have := v.head; subst this; simp
    · rcases hy with hy | hy
      · exact .inl (List.mem_cons_of_mem _ hy)
      · exact .inr hy
theorem Walk.succ {a b x : Nat} {l : List Nat} (u : Walk R a l b) (hx : x ∈ l) : ∃ y, R x y ∧ (y ∈ l ∨ y = b) := by
  induction u with
  | nil a => cases hx
  | cons h1 v ih =>
    rename_i a c b l
    rcases List.mem_cons.mp hx with rfl | hx
    · refine ⟨c, h1, ?_⟩
      cases l with
      | nil => cases v; exact .inr rfl
      | cons y l => have := v.head; subst this; simp
    · obtain ⟨y, h2, h3⟩ := ih hx
      refine ⟨y, h2, ?_⟩
      rcases h3 with h3 | h3
      · exact .inl (List.mem_cons_of_mem _ h3)
      · exact .inr h3
/-- what never rises along a walk -/
theorem Walk.mono (f : Nat → Nat) {a b : Nat} {l : List Nat} (u : Walk R a l b) (h : ∀ x y, x ∈ l → R x y → f y ≤ f x) : ∀ x, x ∈ l → f b ≤ f x ∧ f x ≤ f a := by
  induction u with
  | nil a => intro x hx; cases hx
  | cons h1 v ih =>
    rename_i a c b l
    have h2 := h a c (by simp) h1
    have ih' := ih fun x y hx hr => h x y (List.mem_cons_of_mem _ hx) hr
    have hb : f b ≤ f c := by
      cases l with
      | nil => cases v; exact Nat.le_refl _
      | cons y l =>
        have := v.head
        subst this
        exact (ih' y (by simp)).1
    intro x hx
    rcases List.mem_cons.mp hx with rfl | hx
    · exact ⟨by omega, Nat.le_refl _⟩
    · have := ih' x hx
      omega
theorem Walk.const (f : Nat → Nat) {a : Nat} {l : List Nat} (u : Walk R a l a) (h : ∀ x y, x ∈ l → R x y → f y ≤ f x) : ∀ x, x ∈ l → f x = f a := fun x hx => by
  have := u.mono f h x hx
  omega
theorem Walk.succC {a x : Nat} {l : List Nat} (u : Walk R a l a) (hx : x ∈ l) : ∃ y, R x y ∧ y ∈ l := by
  obtain ⟨y, h1, h2⟩ := u.succ hx
  refine ⟨y, h1, ?_⟩
  rcases h2 with h2 | rfl
  · exact h2
  · cases l with
    | nil => cases hx
    | cons z l => have := u.head; subst this; simp
theorem Walk.impC {a : Nat} {l : List Nat} (u : Walk R a l a) (h : ∀ x y, x ∈ l → y ∈ l → R x y → S x y) : Walk S a l a := by
  refine u.imp fun x y hx hr hy => h x y hx ?_ hr
  rcases hy with hy | rfl
  · exact hy
  · cases l with
    | nil => cases hx
    | cons z l => have := u.head; subst this; simp
end

/-! ### what is good -/
/-- a step of a play that keeps to what is told -/
def Step (G : Gm) (P : List Nat) (T : Tab) (h : Int) (v u : Nat) : Prop :=
  (ow G v = h ∧ T v = some (h, some u)) ∨ (ow G v ≠ h ∧ (∃ w, T v = some (h, w)) ∧ u ∈ wy G v ∧ u ∈ P)
/-- each ring has its greatest rank of the hand -/
def Rings (G : Gm) (R : Nat → Nat → Prop) (h : Int) : Prop :=
  ∀ v l, Walk R v l v → l ≠ [] → ∀ m, (∃ x, x ∈ l ∧ rk G x = m) → (∀ x, x ∈ l → rk G x ≤ m) → m % 2 = h
structure Good (G : Gm) (P : List Nat) (T : Tab) : Prop where
  dom : ∀ v, v ∈ P ↔ T v ≠ none
  hands : ∀ v a w, T v = some (a, w) → a = 0 ∨ a = 1
  own : ∀ v a w, T v = some (a, w) → ow G v = a → ∃ u, w = some u ∧ u ∈ wy G v ∧ u ∈ P ∧ ∃ z, T u = some (a, z)
  oth : ∀ v a w, T v = some (a, w) → ow G v ≠ a → w = none ∧ ∀ u, u ∈ wy G v → u ∈ P → ∃ z, T u = some (a, z)
  cyc : ∀ h, Rings G (Step G P T h) h
theorem Good.nil (G : Gm) : Good G [] (fun _ => none) := by
  refine ⟨by simp, by simp, by simp, by simp, fun h v l w hl => ?_⟩
  cases w with
  | nil => exact absurd rfl hl
  | cons s _ =>
    rcases s with ⟨_, s⟩ | ⟨_, ⟨_, s⟩, _⟩ <;> cases s
/-- while pieces of the other hand (b = 1 - h) are cut off -/
structure CutInv (G : Gm) (P : List Nat) (b : Int) (left : List Nat) (T : Tab) : Prop where
  sub : ∀ v, v ∈ left → v ∈ P
  val : ∀ v a w, T v = some (a, w) → a = b ∧ v ∈ P ∧ v ∉ left
  all : ∀ v, v ∈ P → v ∉ left → ∃ w, T v = some (b, w)
  own : ∀ v w, T v = some (b, w) → ow G v = b → ∃ u, w = some u ∧ u ∈ wy G v ∧ u ∈ P ∧ u ∉ left
  oth : ∀ v w, T v = some (b, w) → ow G v ≠ b → w = none ∧ ∀ u, u ∈ wy G v → u ∈ P → u ∉ left
  trap : ∀ v, v ∈ left → ow G v = b → ∀ u, u ∈ wy G v → u ∈ P → u ∈ left
  tot : ∀ v, v ∈ left → ∃ u, u ∈ wy G v ∧ u ∈ left
  cyc : Rings G (Step G P T b) b
theorem CutInv.start {G : Gm} {P : List Nat} {b : Int} (tot : ∀ v, v ∈ P → ∃ w, w ∈ wy G v ∧ w ∈ P) : CutInv G P b P (fun _ => none) := by
  refine ⟨fun _ h => h, by simp, fun v h n => absurd h n, by simp, by simp, fun _ _ _ _ _ h => h, tot, fun v l w hl => ?_⟩
  cases w with
  | nil => exact absurd rfl hl
  | cons s _ =>
    rcases s with ⟨_, s⟩ | ⟨_, ⟨_, s⟩, _⟩ <;> cases s
/-- a rule of pulling -/
structure RuleOf (G : Gm) (h : Int) (d : Nat → Option Nat) (r : Nat → Option Nat) : Prop where
  yes : ∀ x k, d x = some (k + 1) → ow G x = h → ∃ u, r x = some u ∧ u ∈ wy G x ∧ d u = some k
  no : ∀ x, (d x = none ∨ d x = some 0 ∨ ow G x ≠ h) → r x = none
/-- what is left of a part of which the hand b's other pulls to heads: where it goes on -/
theorem inner_tot {G : Gm} {h : Int} {left goal Q : List Nat} {d : Nat → Option Nat} (A : Pull G h left goal d) (hQ : ∀ v, v ∈ Q ↔ (v ∈ left ∧ d v = none))
    (tot : ∀ v, v ∈ left → ∃ w, w ∈ wy G v ∧ w ∈ left) : ∀ v, v ∈ Q → ∃ w, w ∈ wy G v ∧ w ∈ Q := by
  intro v hv
  obtain ⟨h1, h2⟩ := (hQ v).1 hv
  by_cases ho : ow G v = h
  · obtain ⟨w, h3, h4⟩ := tot v h1
    exact ⟨w, h3, (hQ w).2 ⟨h4, A.cloO v h1 h2 ho w h3⟩⟩
  · obtain ⟨w, h3, h4, h5⟩ := A.cloN v h1 h2 ho (tot v h1)
    exact ⟨w, h3, (hQ w).2 ⟨h4, h5⟩⟩
/-- one piece more -/
theorem CutInv.turn {G : Gm} {P left left2 goal lost Q : List Nat} {h b : Int} {T T2 TI : Tab} {dA d : Nat → Option Nat} {r : Nat → Option Nat} (hb : b ≠ h) (hands : ∀ v, v ∈ P → ow G v = h ∨ ow G v = b)
    (I : CutInv G P b left T) (A : Pull G h left goal dA) (hQ : ∀ v, v ∈ Q ↔ (v ∈ left ∧ dA v = none)) (W : Good G Q TI) (hl : ∀ x, x ∈ lost ↔ ∃ w, TI x = some (b, w))
    (B : Pull G b left lost d) (hr : RuleOf G b d r) (h2 : ∀ v, T2 v = if d v = none then T v else if v ∈ lost then TI v else some (b, r v)) (hl2 : ∀ v, v ∈ left2 ↔ (v ∈ left ∧ d v = none)) :
    CutInv G P b left2 T2 := by
  have lostQ : ∀ x, x ∈ lost → x ∈ Q := fun x hx => by
    obtain ⟨w, hw⟩ := (hl x).1 hx
    exact (W.dom x).2 (by rw [hw]; simp)
  have lostL : ∀ x, x ∈ lost → x ∈ left := fun x hx => ((hQ x).1 (lostQ x hx)).1
  have lost0 : ∀ x, x ∈ lost ↔ d x = some 0 := fun x => ⟨fun hx => (B.zero x).2 ⟨hx, lostL x hx⟩, fun hx => ((B.zero x).1 hx).1⟩
  have pieceL : ∀ x, d x ≠ none → x ∈ left := fun x hx => by
    cases e : d x with
    | none => exact absurd e hx
    | some k => exact B.sub x k e
  have vT : ∀ v, d v = none → T2 v = T v := fun v e => by rw [h2, if_pos e]
  have vL : ∀ v, v ∈ lost → T2 v = TI v := fun v e => by rw [h2, if_neg (by rw [(lost0 v).1 e]; simp), if_pos e]
  have vR : ∀ v k, d v = some (k + 1) → T2 v = some (b, r v) := fun v k e => by
    rw [h2, if_neg (by rw [e]; simp), if_neg fun z => by rw [(lost0 v).1 z] at e; simp at e]
  have dcase : ∀ v, d v = none ∨ v ∈ lost ∨ ∃ k, d v = some (k + 1) := fun v => by
    cases e : d v with
    | none => exact .inl rfl
    | some k =>
      cases k with
      | zero => exact .inr (.inl ((lost0 v).2 e))
      | succ k => exact .inr (.inr ⟨k, rfl⟩)
  have nl : ∀ v, v ∉ left → v ∉ left2 := fun v n z => n ((hl2 v).1 z).1
  have pl : ∀ v, d v ≠ none → v ∉ left2 := fun v n z => n ((hl2 v).1 z).2
  -- where a lost place leads
  have lostOwn : ∀ v w, v ∈ lost → TI v = some (b, w) → ow G v = b → ∃ u, w = some u ∧ u ∈ wy G v ∧ u ∈ lost := fun v w hv hw ho => by
    obtain ⟨u, h3, h4, h5, z, h6⟩ := W.own v b w hw ho
    exact ⟨u, h3, h4, (hl u).2 ⟨z, h6⟩⟩
  have lostOth : ∀ v w, v ∈ lost → TI v = some (b, w) → ow G v ≠ b → w = none ∧ ∀ u, u ∈ wy G v → u ∈ left → u ∈ lost := fun v w hv hw ho => by
    obtain ⟨h3, h4⟩ := W.oth v b w hw ho
    refine ⟨h3, fun u h5 h6 => ?_⟩
    have hvQ := (hQ v).1 (lostQ v hv)
    have hoh : ow G v = h := (hands v (I.sub v hvQ.1)).resolve_right ho
    obtain ⟨z, h7⟩ := h4 u h5 ((hQ u).2 ⟨h6, A.cloO v hvQ.1 hvQ.2 hoh u h5⟩)
    exact (hl u).2 ⟨z, h7⟩
  have handb : ∀ v a w, T2 v = some (a, w) → a = b ∧ v ∈ P ∧ v ∉ left2 := fun v a w hv => by
    rcases dcase v with e | e | ⟨k, e⟩
    · rw [vT v e] at hv
      obtain ⟨h3, h4, h5⟩ := I.val v a w hv
      exact ⟨h3, h4, nl v h5⟩
    · rw [vL v e] at hv
      obtain ⟨w', hw'⟩ := (hl v).1 e
      rw [hw'] at hv
      simp only [Option.some.injEq, Prod.mk.injEq] at hv
      exact ⟨hv.1.symm, I.sub v (lostL v e), pl v (by rw [(lost0 v).1 e]; simp)⟩
    · rw [vR v k e] at hv
      simp only [Option.some.injEq, Prod.mk.injEq] at hv
      exact ⟨hv.1.symm, I.sub v (B.sub v _ e), pl v (by rw [e]; simp)⟩
  refine ⟨fun v hv => I.sub v ((hl2 v).1 hv).1, handb, fun v hP hn => ?_, fun v w hv ho => ?_, fun v w hv ho => ?_, fun v hv ho u hu hP => ?_, fun v hv => ?_, ?_⟩
  · rcases dcase v with e | e | ⟨k, e⟩
    · rw [vT v e]
      exact I.all v hP fun z => hn ((hl2 v).2 ⟨z, e⟩)
    · rw [vL v e]
      exact (hl v).1 e
    · exact ⟨_, vR v k e⟩
  · rcases dcase v with e | e | ⟨k, e⟩
    · rw [vT v e] at hv
      obtain ⟨u, h3, h4, h5, h6⟩ := I.own v w hv ho
      exact ⟨u, h3, h4, h5, nl u h6⟩
    · rw [vL v e] at hv
      obtain ⟨u, h3, h4, h5⟩ := lostOwn v w e hv ho
      exact ⟨u, h3, h4, I.sub u (lostL u h5), pl u (by rw [(lost0 u).1 h5]; simp)⟩
    · rw [vR v k e] at hv
      obtain ⟨u, h3, h4, h5⟩ := hr.yes v k e ho
      simp only [Option.some.injEq, Prod.mk.injEq] at hv
      exact ⟨u, by rw [← hv.2, h3], h4, I.sub u (B.sub u k h5), pl u (by rw [h5]; simp)⟩
  · rcases dcase v with e | e | ⟨k, e⟩
    · rw [vT v e] at hv
      obtain ⟨h3, h4⟩ := I.oth v w hv ho
      exact ⟨h3, fun u h5 h6 => nl u (h4 u h5 h6)⟩
    · rw [vL v e] at hv
      obtain ⟨h3, h4⟩ := lostOth v w e hv ho
      refine ⟨h3, fun u h5 h6 z => ?_⟩
      have hu := (hl2 u).1 z
      have := (lost0 u).1 (h4 u h5 hu.1)
      rw [hu.2] at this
      cases this
    · rw [vR v k e] at hv
      simp only [Option.some.injEq, Prod.mk.injEq] at hv
      refine ⟨by rw [← hv.2]; exact hr.no v (.inr (.inr ho)), fun u h5 h6 z => ?_⟩
      have hu := (hl2 u).1 z
      obtain ⟨j, _, h7⟩ := B.oth v k e ho u h5 hu.1
      rw [hu.2] at h7
      cases h7
  · obtain ⟨h3, h4⟩ := (hl2 v).1 hv
    exact (hl2 u).2 ⟨I.trap v h3 ho u hu hP, B.cloO v h3 h4 ho u hu⟩
  · obtain ⟨h3, h4⟩ := (hl2 v).1 hv
    exact inner_tot B hl2 I.tot v hv
  · -- the rings
    intro v l wk hne m hm1 hm2
    -- first: within the new piece, or behind it
    have st : ∀ x y, Step G P T2 b x y → (if d y = none then 0 else 1) ≤ (if d x = none then 0 else 1) := by
      intro x y s
      by_cases ex : d x = none
      · have : d y = none := by
          rcases s with ⟨ho, s⟩ | ⟨ho, ⟨w, s⟩, hy, hyP⟩
          · rw [vT x ex] at s
            obtain ⟨u, h3, _, _, h4⟩ := I.own x _ s ho
            simp only [Option.some.injEq] at h3
            subst h3
            cases e : d y with
            | none => rfl
            | some k => exact absurd (B.sub y k e) h4
          · rw [vT x ex] at s
            cases e : d y with
            | none => rfl
            | some k => exact absurd (B.sub y k e) ((I.oth x w s ho).2 y hy hyP)
        rw [if_pos this]
        exact Nat.zero_le _
      · rw [if_neg ex]
        split <;> omega
    have c1 := wk.const (fun x => if d x = none then 0 else 1) fun x y _ s => st x y s
    by_cases ev : d v = none
    · have all0 : ∀ x, x ∈ l → d x = none := fun x hx => by
        have := c1 x hx
        simp only [if_pos ev] at this
        cases e : d x with
        | none => rfl
        | some k => rw [e] at this; simp at this
      refine I.cyc v l (wk.impC fun x y hx hy s => ?_) hne m hm1 hm2
      unfold Step at s ⊢
      rw [vT x (all0 x hx)] at s
      exact s
    · have all1 : ∀ x, x ∈ l → d x ≠ none := fun x hx e => by
        have := c1 x hx
        simp only [if_neg ev, e] at this
        simp at this
      -- depth never rises
      have dn : ∀ x y, x ∈ l → y ∈ l → Step G P T2 b x y → (x ∈ lost ∧ y ∈ lost ∧ Step G Q TI b x y) ∨ ∃ k j, d x = some (k + 1) ∧ d y = some j ∧ j ≤ k := by
        intro x y hx hy s
        have hyL := pieceL y (all1 y hy)
        rcases dcase x with e | e | ⟨k, e⟩
        · exact absurd e (all1 x hx)
        · left
          rcases s with ⟨ho, s⟩ | ⟨ho, ⟨w, s⟩, hy2, hyP⟩
          · rw [vL x e] at s
            obtain ⟨u, h3, h4, h5⟩ := lostOwn x _ e s ho
            simp only [Option.some.injEq] at h3
            subst h3
            exact ⟨e, h5, .inl ⟨ho, s⟩⟩
          · rw [vL x e] at s
            have h5 := (lostOth x w e s ho).2 y hy2 hyL
            exact ⟨e, h5, .inr ⟨ho, ⟨w, s⟩, hy2, lostQ y h5⟩⟩
        · right
          rcases s with ⟨ho, s⟩ | ⟨ho, ⟨w, s⟩, hy2, hyP⟩
          · rw [vR x k e] at s
            obtain ⟨u, h3, h4, h5⟩ := hr.yes x k e ho
            rw [h3] at s
            simp only [Option.some.injEq, Prod.mk.injEq, true_and] at s
            subst s
            exact ⟨k, k, e, h5, Nat.le_refl _⟩
          · obtain ⟨j, h3, h4⟩ := B.oth x k e ho y hy2 hyL
            exact ⟨k, j, e, h4, h3⟩
      have wk2 : Walk (fun x y => x ∈ l ∧ y ∈ l ∧ Step G P T2 b x y) v l v := wk.impC fun x y hx hy s => ⟨hx, hy, s⟩
      have c2 := wk2.const (fun x => (d x).getD 0) fun x y _ s => by
        rcases dn x y s.1 s.2.1 s.2.2 with ⟨h3, h4, _⟩ | ⟨k, j, h3, h4, h5⟩
        · simp [(lost0 x).1 h3, (lost0 y).1 h4]
        · simp only [h3, h4, Option.getD_some]
          omega
      have allL : ∀ x y, x ∈ l → y ∈ l → Step G P T2 b x y → Step G Q TI b x y := fun x y hx hy s => by
        rcases dn x y hx hy s with ⟨_, _, h3⟩ | ⟨k, j, h3, h4, h5⟩
        · exact h3
        · have e1 := c2 x hx
          have e2 := c2 y hy
          simp only [h3, h4, Option.getD_some] at e1 e2
          omega
      exact W.cyc b v l (wk.impC fun x y hx hy s => allL x y hx hy s) hne m hm1 hm2
/-- the rest is the greatest rank's hand's -/
theorem CutInv.rest {G : Gm} {P left goal Q : List Nat} {h b top : Int} {T T2 TI : Tab} {d : Nat → Option Nat} {r : Nat → Option Nat} {f : Nat → Nat} (hb : b ≠ h) (hh : h = 0 ∨ h = 1) (hb1 : b = 0 ∨ b = 1)
    (hands : ∀ v, v ∈ P → ow G v = h ∨ ow G v = b) (I : CutInv G P b left T) (A : Pull G h left goal d) (hg : ∀ v, v ∈ goal ↔ (v ∈ left ∧ rk G v = top)) (hQ : ∀ v, v ∈ Q ↔ (v ∈ left ∧ d v = none)) (W : Good G Q TI)
    (no : ∀ x w, TI x ≠ some (b, w)) (hr : RuleOf G h d r) (htop : ∀ v, v ∈ P → rk G v ≤ top) (ht2 : top % 2 = h) (hf : ∀ v, v ∈ left → ow G v = h → f v ∈ wy G v ∧ f v ∈ left)
    (h2 : ∀ v, T2 v = if v ∈ left then (if v ∈ Q then TI v else if ow G v ≠ h then some (h, none) else match r v with | some u => some (h, some u) | none => some (h, some (f v))) else T v) : Good G P T2 := by
  have handI : ∀ v a w, TI v = some (a, w) → a = h := fun v a w e => by
    have hvQ := (W.dom v).2 (by rw [e]; simp)
    have hab : a ≠ b := fun z => no v w (by rw [e, z])
    have h01 := W.hands v a w e
    omega
  have vT : ∀ v, v ∉ left → T2 v = T v := fun v n => by rw [h2, if_neg n]
  have vQ : ∀ v, v ∈ Q → T2 v = TI v := fun v hv => by rw [h2, if_pos ((hQ v).1 hv).1, if_pos hv]
  have vN : ∀ v, v ∈ left → v ∉ Q → ow G v ≠ h → T2 v = some (h, none) := fun v hv n ho => by rw [h2, if_pos hv, if_neg n, if_pos ho]
  have vO : ∀ v, v ∈ left → v ∉ Q → ow G v = h → ∃ u, T2 v = some (h, some u) ∧ u ∈ wy G v ∧ u ∈ left ∧ (d v = some 0 ∨ ∃ k, d v = some (k + 1) ∧ d u = some k) := fun v hv n ho => by
    have hd : d v ≠ none := fun z => n ((hQ v).2 ⟨hv, z⟩)
    cases e : d v with
    | none => exact absurd e hd
    | some k =>
      cases k with
      | zero =>
        refine ⟨f v, ?_, (hf v hv ho).1, (hf v hv ho).2, .inl rfl⟩
        rw [h2, if_pos hv, if_neg n, if_neg (fun z => z ho), hr.no v (.inr (.inl e))]
      | succ k =>
        obtain ⟨u, h3, h4, h5⟩ := hr.yes v k e ho
        refine ⟨u, ?_, h4, A.sub u k h5, .inr ⟨k, rfl, h5⟩⟩
        rw [h2, if_pos hv, if_neg n, if_neg (fun z => z ho), h3]
  have hl : ∀ v, v ∈ left → ∃ w, T2 v = some (h, w) := fun v hv => by
    by_cases hq : v ∈ Q
    · rw [vQ v hq]
      cases e : TI v with
      | none => exact absurd e ((W.dom v).1 hq)
      | some p => exact ⟨p.2, by have := handI v p.1 p.2 e; rw [← this]⟩
    · by_cases ho : ow G v = h
      · obtain ⟨u, h3, _⟩ := vO v hv hq ho
        exact ⟨_, h3⟩
      · exact ⟨_, vN v hv hq ho⟩
  have hcase : ∀ v a w, T2 v = some (a, w) → (v ∈ left ∧ a = h) ∨ (v ∉ left ∧ a = b ∧ v ∈ P ∧ T v = some (b, w)) := fun v a w e => by
    by_cases hv : v ∈ left
    · obtain ⟨w', e'⟩ := hl v hv
      rw [e'] at e
      simp only [Option.some.injEq, Prod.mk.injEq] at e
      exact .inl ⟨hv, e.1.symm⟩
    · rw [vT v hv] at e
      obtain ⟨h3, h4, _⟩ := I.val v a w e
      exact .inr ⟨hv, h3, h4, by rw [e, h3]⟩
  have hh2 : ∀ u, u ∈ P → u ∉ left → ∃ z, T2 u = some (b, z) := fun u h3 h4 => by rw [vT u h4]; exact I.all u h3 h4
  -- steps of h stay in left
  have hstep : ∀ x y, Step G P T2 h x y → x ∈ left ∧ y ∈ left ∧ ((x ∈ Q ∧ (y ∈ Q → Step G Q TI h x y)  ∧ (y ∈ Q ∨ ow G x ≠ h)) ∨ d x = some 0 ∨ ∃ k j, d x = some (k + 1) ∧ d y = some j ∧ j ≤ k) := by
    intro x y s
    have hx : x ∈ left := by
      have : ∃ w, T2 x = some (h, w) := by
        rcases s with ⟨_, s⟩ | ⟨_, s, _⟩
        · exact ⟨_, s⟩
        · exact s
      obtain ⟨w, e⟩ := this
      rcases hcase x h w e with z | z
      · exact z.1
      · exact absurd z.2.1.symm hb
    refine ⟨hx, ?_⟩
    rcases s with ⟨ho, s⟩ | ⟨ho, s, hy, hyP⟩
    · by_cases hq : x ∈ Q
      · rw [vQ x hq] at s
        obtain ⟨u, h3, h4, h5, _⟩ := W.own x h _ s ho
        simp only [Option.some.injEq] at h3
        subst h3
        exact ⟨((hQ y).1 h5).1, .inl ⟨hq, fun _ => .inl ⟨ho, s⟩, .inl h5⟩⟩
      · obtain ⟨u, h3, h4, h5, h6⟩ := vO x hx hq ho
        rw [h3] at s
        simp only [Option.some.injEq, Prod.mk.injEq, true_and] at s
        subst s
        refine ⟨h5, .inr ?_⟩
        rcases h6 with h6 | ⟨k, h6, h7⟩
        · exact .inl h6
        · exact .inr ⟨k, k, h6, h7, Nat.le_refl _⟩
    · have hob : ow G x = b := (hands x (I.sub x hx)).resolve_left ho
      have hyl : y ∈ left := I.trap x hx hob y hy hyP
      refine ⟨hyl, ?_⟩
      by_cases hq : x ∈ Q
      · refine .inl ⟨hq, fun hyq => .inr ⟨ho, ?_, hy, hyq⟩, .inr ho⟩
        rw [vQ x hq] at s
        exact s
      · right
        have hd : d x ≠ none := fun z => hq ((hQ x).2 ⟨hx, z⟩)
        cases e : d x with
        | none => exact absurd e hd
        | some k =>
          cases k with
          | zero => exact .inl rfl
          | succ k =>
            obtain ⟨j, h3, h4⟩ := A.oth x k e ho y hy hyl
            exact .inr ⟨k, j, rfl, h4, h3⟩
  refine ⟨fun v => ⟨fun hP => ?_, fun hn => ?_⟩, fun v a w e => ?_, fun v a w e ho => ?_, fun v a w e ho => ?_, fun a => ?_⟩
  · by_cases hv : v ∈ left
    · obtain ⟨w, e⟩ := hl v hv
      rw [e]; simp
    · obtain ⟨w, e⟩ := hh2 v hP hv
      rw [e]; simp
  · cases e : T2 v with
    | none => exact absurd e hn
    | some p =>
      rcases hcase v p.1 p.2 e with z | z
      · exact I.sub v z.1
      · exact z.2.2.1
  · rcases hcase v a w e with z | z
    · rw [z.2]; exact hh
    · rw [z.2.1]; exact hb1
  · rcases hcase v a w e with ⟨hv, rfl⟩ | ⟨hv, rfl, hP, eT⟩
    · by_cases hq : v ∈ Q
      · rw [vQ v hq] at e
        obtain ⟨u, h3, h4, h5, z, h6⟩ := W.own v a w e ho
        exact ⟨u, h3, h4, I.sub u ((hQ u).1 h5).1, hl u ((hQ u).1 h5).1⟩
      · obtain ⟨u, h3, h4, h5, h6⟩ := vO v hv hq ho
        rw [h3] at e
        simp only [Option.some.injEq, Prod.mk.injEq, true_and] at e
        exact ⟨u, e.symm, h4, I.sub u h5, hl u h5⟩
    · obtain ⟨u, h3, h4, h5, h6⟩ := I.own v w eT ho
      exact ⟨u, h3, h4, h5, hh2 u h5 h6⟩
  · rcases hcase v a w e with ⟨hv, rfl⟩ | ⟨hv, rfl, hP, eT⟩
    · have hob : ow G v = b := (hands v (I.sub v hv)).resolve_left ho
      refine ⟨?_, fun u hu huP => hl u (I.trap v hv hob u hu huP)⟩
      by_cases hq : v ∈ Q
      · rw [vQ v hq] at e
        exact (W.oth v a w e ho).1
      · rw [vN v hv hq ho] at e
        simp only [Option.some.injEq, Prod.mk.injEq, true_and] at e
        exact e.symm
    · obtain ⟨h3, h4⟩ := I.oth v w eT ho
      exact ⟨h3, fun u hu huP => hh2 u huP (h4 u hu huP)⟩
  · -- the rings
    intro v l wk hne m hm1 hm2
    have hv0 : v ∈ l := by
      cases l with
      | nil => exact absurd rfl hne
      | cons z l => have := wk.head; subst this; simp
    have hnv : ∃ y, Step G P T2 a v y ∧ y ∈ l := wk.succC hv0
    have hav : ∃ w, T2 v = some (a, w) := by
      obtain ⟨y, s, _⟩ := hnv
      rcases s with ⟨_, s⟩ | ⟨_, s, _⟩
      · exact ⟨_, s⟩
      · exact s
    obtain ⟨wv, ev⟩ := hav
    rcases hcase v a wv ev with ⟨_, rfl⟩ | ⟨_, rfl, _, _⟩
    · by_cases hx : ∃ x, x ∈ l ∧ rk G x = top
      · obtain ⟨x, h3, h4⟩ := hx
        obtain ⟨y, h5, h6⟩ := hm1
        have h7 := hm2 x h3
        have h8 : y ∈ P := by
          obtain ⟨z, s, _⟩ := wk.succC h5
          exact I.sub y (hstep y z s).1
        have h9 := htop y h8
        have : m = top := by omega
        rw [this, ht2]
      · have nod : ∀ n k x, k ≤ n → x ∈ l → d x ≠ some k := by
          intro n
          induction n with
          | zero =>
            intro k x hk hxl e
            have hk0 : k = 0 := by omega
            subst hk0
            exact hx ⟨x, hxl, ((hg x).1 ((A.zero x).1 e).1).2⟩
          | succ n ih =>
            intro k x hk hxl e
            rcases Nat.lt_or_ge k (n + 1) with hlt | hge
            · exact ih k x (by omega) hxl e
            · have hkn : k = n + 1 := by omega
              subst hkn
              obtain ⟨y, s, hyl⟩ := wk.succC hxl
              obtain ⟨_, _, z⟩ := hstep x y s
              rcases z with ⟨hq, _⟩ | z | ⟨k', j, z1, z2, z3⟩
              · have := ((hQ x).1 hq).2
                rw [e] at this
                cases this
              · rw [e] at z
                simp at z
              · rw [e] at z1
                simp only [Option.some.injEq, Nat.add_right_cancel_iff] at z1
                subst z1
                exact ih j y z3 hyl z2
        have allQ : ∀ x, x ∈ l → x ∈ Q := fun x hxl => by
          obtain ⟨y, s, _⟩ := wk.succC hxl
          refine (hQ x).2 ⟨(hstep x y s).1, ?_⟩
          cases e : d x with
          | none => rfl
          | some k => exact absurd e (nod k k x (Nat.le_refl _) hxl)
        refine W.cyc a v l (wk.impC fun x y h3 h4 s => ?_) hne m hm1 hm2
        obtain ⟨_, _, z⟩ := hstep x y s
        rcases z with ⟨_, z, _⟩ | z | ⟨k', j, z1, z2, z3⟩
        · exact z (allQ y h4)
        · exact absurd z (nod 0 0 x (Nat.le_refl _) h3)
        · exact absurd z1 (nod _ _ x (Nat.le_refl _) h3)
    · refine I.cyc v l (wk.impC fun x y h3 h4 s => ?_) hne m hm1 hm2
      have hxl : x ∉ left := fun z => by
        obtain ⟨w, e⟩ := hl x z
        have : ∃ w, T2 x = some (a, w) := by
          rcases s with ⟨_, s⟩ | ⟨_, s, _⟩
          · exact ⟨_, s⟩
          · exact s
        obtain ⟨w', e'⟩ := this
        rw [e] at e'
        simp only [Option.some.injEq, Prod.mk.injEq] at e'
        exact hb e'.1.symm
      unfold Step at s ⊢
      rw [vT x hxl] at s
      exact s
end Rg
namespace Rg
/-! ### counting the ways that are left -/
structure FI (own free : Nat → Bool) (L0 : List Int) (PR : List Nat) (LF : List Int) (FU : List Nat) : Prop where
  len : LF.length = L0.length
  val : ∀ b, LF.getD b 0 = L0.getD b 0 - (PR.count b : Int)
  mem : ∀ b, b ∈ FU ↔ b ∈ PR ∧ free b = true ∧ (own b = true ∨ L0.getD b 0 = (PR.count b : Int))
  flen : FU.length ≤ PR.length
theorem FI.nil {own free : Nat → Bool} {L0 : List Int} : FI own free L0 [] L0 [] := ⟨rfl, by simp, by simp, by simp⟩
theorem FI.step {own free : Nat → Bool} {L0 LF : List Int} {PR FU : List Nat} {b : Nat} (I : FI own free L0 PR LF FU) (hb : b < L0.length) (hc : ((PR.count b : Nat) : Int) + 1 ≤ L0.getD b 0) :
    FI own free L0 (PR ++ [b]) (LF.set b (LF.getD b 0 - 1)) (if free b = true ∧ (own b = true ∨ LF.getD b 0 - 1 = 0) then FU ++ [b] else FU) := by
  obtain ⟨h1, h2, h3, h4⟩ := I
  have hv := h2 b
  refine ⟨by simpa using h1, fun c => ?_, fun c => ?_, ?_⟩
  · by_cases e : c = b
    · subst e
      rw [List.getD_eq_getElem?_getD, List.getElem?_set_self (by omega), hv]
      simp
      omega
    · rw [List.getD_eq_getElem?_getD, List.getElem?_set_ne (Ne.symm e), ← List.getD_eq_getElem?_getD, h2 c, List.count_append]
      simp [Ne.symm e]
  · by_cases e : c = b
    · subst e
      have hcnt : (PR ++ [c]).count c = PR.count c + 1 := by simp
      rw [hcnt]
      split
      · rename_i hx
        simp only [List.mem_append, List.mem_singleton, or_true, true_and, true_iff]
        refine ⟨hx.1, ?_⟩
        rcases hx.2 with z | z
        · exact .inl z
        · right; omega
      · rename_i hx
        rw [h3 c]
        simp only [List.mem_append, List.mem_singleton, or_true, true_and]
        constructor
        · rintro ⟨_, z1, z2⟩
          exfalso
          rcases z2 with z2 | z2
          · exact hx ⟨z1, .inl z2⟩
          · omega
        · rintro ⟨z1, z2⟩
          exfalso
          refine hx ⟨z1, ?_⟩
          rcases z2 with z2 | z2
          · exact .inl z2
          · right; omega
    · have hcnt : (PR ++ [b]).count c = PR.count c := by simp [Ne.symm e]
      rw [hcnt]
      have : c ∈ (if free b = true ∧ (own b = true ∨ LF.getD b 0 - 1 = 0) then FU ++ [b] else FU) ↔ c ∈ FU := by
        split <;> simp [e]
      rw [this, h3 c]
      simp [e]
  · rw [List.length_append]
    split <;> simp <;> omega
theorem filter_split {α : Type} (p q : α → Bool) : ∀ l : List α, (l.filter p).length = (l.filter fun x => p x && q x).length + (l.filter fun x => p x && !q x).length
  | [] => rfl
  | a :: l => by
    have ih := filter_split p q l
    simp only [List.filter_cons]
    cases p a <;> cases q a <;> simp <;> omega
theorem nodup_leN {α : Type} [DecidableEq α] : ∀ {l B : List α}, l.Nodup → (∀ x, x ∈ l → x ∈ B) → l.length ≤ B.length
  | [], B, _, _ => Nat.zero_le _
  | a :: l, B, nd, h => by
    have hn := List.nodup_cons.mp nd
    have ha := h a (by simp)
    have ih := nodup_leN (l := l) (B := B.erase a) hn.2 fun x hx => by
      have hxa : x ≠ a := fun z => hn.1 (z ▸ hx)
      exact (List.mem_erase_of_ne hxa).mpr (h x (by simp [hx]))
    have e := List.length_erase_of_mem ha
    have hp : 0 < B.length := List.length_pos_of_mem ha
    rw [List.length_cons]
    omega
/-- the places with a way out to w -/
def comeTo (G : Gm) (w : Nat) : List Nat := (List.range G.length).filter fun a => decide (w ∈ wy G a)
theorem mem_comeTo {G : Gm} {w a : Nat} : a ∈ comeTo G w ↔ a < G.length ∧ w ∈ wy G a := by simp [comeTo]
theorem comeTo_nodup (G : Gm) (w : Nat) : (comeTo G w).Nodup := List.Pairwise.filter _ List.nodup_range
theorem comeTo_len (G : Gm) (w : Nat) : (comeTo G w).length ≤ G.length := by
  have := List.length_filter_le (fun a => decide (w ∈ wy G a)) (List.range G.length)
  rw [List.length_range] at this
  exact this
theorem comeTo_count (G : Gm) (w b : Nat) (hb : b < G.length) : (comeTo G w).count b = if w ∈ wy G b then 1 else 0 := by
  rw [(comeTo_nodup G w).count]
  simp only [mem_comeTo, hb, true_and]
theorem flat_count {G : Gm} {b : Nat} (hb : b < G.length) : ∀ layer : List Nat, (layer.flatMap (comeTo G)).count b = (layer.filter fun w => decide (w ∈ wy G b)).length
  | [] => rfl
  | w :: l => by
    rw [List.flatMap_cons, List.count_append, flat_count hb l, comeTo_count G w b hb, List.filter_cons]
    by_cases h : w ∈ wy G b <;> simp [h] <;> omega
theorem flat_len {G : Gm} : ∀ layer : List Nat, (layer.flatMap (comeTo G)).length ≤ layer.length * G.length
  | [] => by simp
  | w :: l => by
    rw [List.flatMap_cons, List.length_append, List.length_cons, Nat.succ_mul]
    have h1 := comeTo_len G w
    have h2 := flat_len (G := G) l
    omega
/-- how many ways lead to places of P that are not in d -/
def leftOf (G : Gm) (P : List Nat) (d : Nat → Option Nat) (b : Nat) : Nat := ((wy G b).filter fun w => decide (w ∈ P) && decide (d w = none)).length
theorem leftOf_layer {G : Gm} {P layer : List Nat} {d : Nat → Option Nat} {K b : Nat} (hb : b < G.length) (nd : (wy G b).Nodup) (nl : layer.Nodup) (hl : ∀ x, x ∈ layer → x ∈ P ∧ d x = none) :
    leftOf G P d b = (layer.flatMap (comeTo G)).count b + leftOf G P (fun x => if x ∈ layer then some K else d x) b := by
  unfold leftOf
  rw [filter_split _ (fun w => decide (w ∈ layer)) (wy G b), flat_count hb]
  congr 1
  · refine Nat.le_antisymm (nodup_leN (List.Pairwise.filter _ nd) fun x hx => ?_) (nodup_leN (List.Pairwise.filter _ nl) fun x hx => ?_)
    · simp only [List.mem_filter, Bool.and_eq_true, decide_eq_true_eq] at hx ⊢
      exact ⟨hx.2.2, hx.1⟩
    · simp only [List.mem_filter, Bool.and_eq_true, decide_eq_true_eq] at hx ⊢
      exact ⟨hx.2, hl x hx.1, hx.1⟩
  · congr 1
    refine List.filter_congr fun x hx => ?_
    by_cases h : x ∈ layer <;> simp [h]
theorem leftOf_zero {G : Gm} {P : List Nat} {d : Nat → Option Nat} {b : Nat} : leftOf G P d b = 0 ↔ ∀ w, w ∈ wy G b → w ∈ P → d w ≠ none := by
  unfold leftOf
  rw [List.length_eq_zero_iff, List.filter_eq_nil_iff]
  simp
/-- the next layer's places, as the loops find them -/
theorem next_mem {G : Gm} {h : Int} {P layer FU : List Nat} {d : Nat → Option Nat} {K : Nat} {own free : Nat → Bool} {L0 LF : List Int} (I : FI own free L0 (layer.flatMap (comeTo G)) LF FU)
    (hP : ∀ x, x ∈ P → x < G.length) (nw : ∀ b, (wy G b).Nodup) (nl : layer.Nodup) (hl : ∀ x, x ∈ layer → x ∈ P ∧ d x = none)
    (hown : ∀ b, b < G.length → (own b = true ↔ ow G b = h)) (hfree : ∀ b, b < G.length → (free b = true ↔ (b ∈ P ∧ d b = none ∧ b ∉ layer))) (hL : ∀ b, b < G.length → L0.getD b 0 = (leftOf G P d b : Int)) (x : Nat) :
    x ∈ FU ↔ (x ∈ P ∧ d x = none ∧ x ∉ layer ∧ (∃ w, w ∈ wy G x ∧ w ∈ layer) ∧ (ow G x = h ∨ ∀ w, w ∈ wy G x → w ∈ P → d w ≠ none ∨ w ∈ layer)) := by
  rw [I.mem x]
  have e1 : x ∈ layer.flatMap (comeTo G) ↔ x < G.length ∧ ∃ w, w ∈ wy G x ∧ w ∈ layer := by
    simp only [List.mem_flatMap, mem_comeTo]
    constructor
    · rintro ⟨w, h1, h2, h3⟩; exact ⟨h2, w, h3, h1⟩
    · rintro ⟨h2, w, h3, h1⟩; exact ⟨w, h1, h2, h3⟩
  rw [e1]
  constructor
  · rintro ⟨⟨hx, hw⟩, hf, ho⟩
    obtain ⟨f1, f2, f3⟩ := (hfree x hx).1 hf
    refine ⟨f1, f2, f3, hw, ?_⟩
    rcases ho with ho | ho
    · exact .inl ((hown x hx).1 ho)
    · right
      rw [hL x hx, leftOf_layer (K := K) hx (nw x) nl hl] at ho
      have hz : leftOf G P (fun x => if x ∈ layer then some K else d x) x = 0 := by omega
      intro w h1 h2
      have := leftOf_zero.1 hz w h1 h2
      by_cases hwl : w ∈ layer
      · exact .inr hwl
      · simp only [if_neg hwl] at this
        exact .inl this
  · rintro ⟨f1, f2, f3, hw, ho⟩
    have hx := hP x f1
    refine ⟨⟨hx, hw⟩, (hfree x hx).2 ⟨f1, f2, f3⟩, ?_⟩
    rcases ho with ho | ho
    · exact .inl ((hown x hx).2 ho)
    · right
      rw [hL x hx, leftOf_layer (K := K) hx (nw x) nl hl]
      have hz : leftOf G P (fun x => if x ∈ layer then some K else d x) x = 0 := by
        refine leftOf_zero.2 fun w h1 h2 => ?_
        by_cases hwl : w ∈ layer
        · simp [hwl]
        · simp only [if_neg hwl]
          exact (ho w h1 h2).resolve_right hwl
      omega
/-- the bound that the loops lean on -/
theorem count_le {G : Gm} {P layer PR : List Nat} {d : Nat → Option Nat} {b : Nat} (hb : b < G.length) (nw : (wy G b).Nodup) (nl : layer.Nodup) (hl : ∀ x, x ∈ layer → x ∈ P ∧ d x = none)
    (hp : (PR ++ [b]) <+: layer.flatMap (comeTo G)) : PR.count b + 1 ≤ leftOf G P d b := by
  have h1 := hp.sublist.count_le b
  rw [leftOf_layer (K := 0) hb nw nl hl]
  simp at h1
  omega
/-! ### a play taken apart -/
def lpStep (s : List (List Nat) × List Nat) (x : Nat) : List (List Nat) × List Nat :=
  if x ∈ s.2 then (s.1 ++ [s.2.drop (s.2.idxOf x)], s.2.take (s.2.idxOf x + 1)) else (s.1, s.2 ++ [x])
def lp (play : List Nat) : List (List Nat) × List Nat := play.foldl lpStep ([], [])
theorem lp_snoc (l : List Nat) (x : Nat) : lp (l ++ [x]) = lpStep (lp l) x := by simp [lp, List.foldl_append]
structure LpInv (R : Nat → Nat → Prop) (last : Nat) (s : List (List Nat) × List Nat) : Prop where
  pile : ∃ a pre, s.2 = pre ++ [last] ∧ Walk R a pre last
  nd : s.2.Nodup
  rings : ∀ r, r ∈ s.1 → r ≠ [] ∧ ∃ a, Walk R a r a
theorem LpInv.one (R : Nat → Nat → Prop) (x : Nat) : LpInv R x (lpStep ([], []) x) := by
  refine ⟨⟨x, [], ?_, .nil x⟩, ?_, ?_⟩ <;> simp [lpStep]
theorem split_at {x : Nat} : ∀ {l : List Nat}, x ∈ l → l = l.take (l.idxOf x) ++ x :: l.drop (l.idxOf x + 1)
  | [], h => by cases h
  | y :: l, h => by
    by_cases e : y = x
    · subst e; simp
    · have hm : x ∈ l := by simpa [Ne.symm e] using h
      have ih := split_at hm
      have : (y :: l).idxOf x = l.idxOf x + 1 := by
        have e2 : (y == x) = false := beq_eq_false_iff_ne.mpr e
        simp [List.idxOf_cons, e2]
      rw [this, List.take_succ_cons, List.drop_succ_cons, List.cons_append, ← ih]
theorem idx_lt {x : Nat} {l : List Nat} (h : x ∈ l) : l.idxOf x < l.length := List.idxOf_lt_length_iff.mpr h
theorem drop_at {x : Nat} {l : List Nat} (h : x ∈ l) : l.drop (l.idxOf x) = x :: l.drop (l.idxOf x + 1) := by
  have hl := idx_lt h
  rw [List.drop_eq_getElem_cons hl, List.getElem_idxOf hl]
theorem take_at {x : Nat} {l : List Nat} (h : x ∈ l) : l.take (l.idxOf x + 1) = l.take (l.idxOf x) ++ [x] := by
  have hl := idx_lt h
  rw [List.take_succ_eq_append_getElem hl, List.getElem_idxOf hl]
theorem LpInv.step {R : Nat → Nat → Prop} {last x : Nat} {s : List (List Nat) × List Nat} (I : LpInv R last s) (h : R last x) : LpInv R x (lpStep s x) := by
  obtain ⟨⟨a, pre, hp, wk⟩, nd, hr⟩ := I
  have w2 : Walk R a s.2 x := by rw [hp]; exact wk.snoc h
  unfold lpStep
  split
  · rename_i hx
    have e := split_at hx
    have w3 : Walk R a (s.2.take (s.2.idxOf x) ++ x :: s.2.drop (s.2.idxOf x + 1)) x := by rw [← e]; exact w2
    obtain ⟨w4, w5⟩ := w3.split
    refine ⟨⟨a, s.2.take (s.2.idxOf x), take_at hx, w4⟩, nd.sublist (List.take_sublist _ _), fun r hm => ?_⟩
    rcases List.mem_append.mp hm with hm | hm
    · exact hr r hm
    · have er := List.mem_singleton.mp hm
      subst er
      rw [drop_at hx]
      exact ⟨by simp, x, w5⟩
  · rename_i hx
    refine ⟨⟨a, s.2, rfl, w2⟩, ?_, hr⟩
    rw [List.nodup_append]
    refine ⟨nd, by simp, fun b hb c hc => ?_⟩
    have : c = x := List.mem_singleton.mp hc
    subst this
    exact fun z => hx (z ▸ hb)
theorem lp_inv {R : Nat → Nat → Prop} (x : Nat) : ∀ (l : List Nat) (last : Nat) (s : List (List Nat) × List Nat), LpInv R last s → (∀ (i u v : Nat), (last :: l)[i]? = some u → l[i]? = some v → R u v) → ∃ z, LpInv R z (l.foldl lpStep s)
  | [], last, s, I, _ => ⟨last, I⟩
  | y :: l, last, s, I, h => lp_inv x l y (lpStep s y) (I.step (h 0 last y rfl rfl)) fun i u v h1 h2 => h (i + 1) u v (by simpa using h1) (by simpa using h2)
/-- the rings of a play are closed walks -/
theorem lp_rings {R : Nat → Nat → Prop} {play : List Nat} (h : ∀ (i u v : Nat), play[i]? = some u → play[i + 1]? = some v → R u v) : ∀ r, r ∈ (lp play).1 → r ≠ [] ∧ ∃ a, Walk R a r a := by
  cases play with
  | nil => intro r hr; simp [lp] at hr
  | cons x l =>
    obtain ⟨z, I⟩ := lp_inv (R := R) x l x _ (LpInv.one R x) fun i u v h1 h2 => h i u v h1 (by simpa using h2)
    exact I.rings
theorem lp_nodup : ∀ play : List Nat, (lp play).2.Nodup := by
  intro play
  have : ∀ (l : List Nat) (s : List (List Nat) × List Nat), s.2.Nodup → (l.foldl lpStep s).2.Nodup := by
    intro l
    induction l with
    | nil => intro s h; exact h
    | cons y l ih =>
      intro s h
      refine ih _ ?_
      unfold lpStep
      split
      · exact h.sublist (List.take_sublist _ _)
      · rename_i hx
        rw [List.nodup_append]
        refine ⟨h, by simp, fun b hb c hc => ?_⟩
        have : c = y := List.mem_singleton.mp hc
        subst this
        exact fun z => hx (z ▸ hb)
  exact this play _ (by simp)
end Rg
/-! Two rules: set(a list of ints), d.update(another dict). -/
namespace Rg
open PySem L2
/-! ### two rules more: set(a list of ints), d.update(another dict) -/
theorem nodup_le {α : Type} [DecidableEq α] : ∀ {l B : List α}, l.Nodup → (∀ x, x ∈ l → x ∈ B) → l.length ≤ B.length
  | [], B, _, _ => Nat.zero_le _
  | a :: l, B, nd, h => by
    have hn := List.nodup_cons.mp nd
    have ha := h a (by simp)
    have ih := nodup_le (l := l) (B := B.erase a) hn.2 fun x hx => by
      have hxa : x ≠ a := fun z => hn.1 (z ▸ hx)
      exact (List.mem_erase_of_ne hxa).mpr (h x (by simp [hx]))
    have e := List.length_erase_of_mem ha
    have hp : 0 < B.length := List.length_pos_of_mem ha
    rw [List.length_cons]
    omega
theorem setR_card {w : World} {h : Heap} {a : Addr} {S : Int → Bool} {n : Nat} (R : SetR w h a S n) {B : List Int} (hB : ∀ k, S k = true → k ∈ B) : n ≤ B.length := by
  obtain ⟨o, es, ep, t, _, _, _, _, nd, hm, _, _, hn, _⟩ := R
  have := nodup_le nd fun x hx => hB x ((hm x).2 hx)
  rw [List.length_map, Array.length_toList] at this
  omega
section
open PySem.Spec PyProof.Rows
variable {P : Program} {w : World} {A : Around} {E : Value → Shared → Prop} {s : Shared}
abbrev newSet (w : World) : Obj := { cls := .type "set", dict := none, data := .set #[] 0 (.fresh 0 0 (!w.params.followText "set-order")) }
set_option maxHeartbeats 3200000 in
theorem call_set_ints {l : Addr} {items : Array Value} (ns : List Int) {Q : Value → Shared → Prop} (hh : A.handled = none) (hl : s.heap.IsList l items) (hit : IntsAre items.toList ns) (hb : ns.length + 1 < scanBound)
    (h : ∀ (h' : Heap) (tk c : Nat), SetR w h' s.heap.objs.size (fun j => decide (j ∈ ns)) c → (∀ b o, s.heap.get? b = some o → h'.get? b = some o) → Q (.ref s.heap.objs.size) { s with heap := h', toks := tk }) :
    wpAny (model P w) A (call (.type "set") [.ref l]) Q E s := by
  have hisz : items.size = ns.length := (Array.length_toList (xs := items)).symm.trans (IntsAre.length hit)
  obtain ⟨c, tl, hmro⟩ := F.called_set.mro
  have hmade := F.called_set.made
  have hsub := F.called_set.sub
  refine wpAny_call (codeAny_of_tree ?_)
  show wpAny _ _ (callAny (.type "set") _) _ _ _
  refine wpAny_pure ⟨Code.quiet_builtin _ (by decide +kernel), codeAny_builtin F.entry_type_call ?_⟩
  rw [Around.under_plain (weight_type_call_type "set" [.ref l] []) rfl]
  have h1 := F.called_set.notType
  have h2 := F.called_set.canCreate
  have hct := F.typeCall_set_1 (.ref l)
  repeat (any_goals (first | assumption | wp_step))
  refine codeAny_mono (code_set_led1 (.ref l) (E := E) (Q₁ := fun v s₁ => v = .ref s.heap.objs.size ∧ s₁ = { s with heap := s.heap.push (newSet w) }) ⟨rfl, rfl⟩) fun r s₁ hr => ?_
  cases r with
  | error e => exact hr
  | ok fl =>
    cases fl with
    | ret v =>
      obtain ⟨rfl, rfl⟩ := hr
      have gS : (s.heap.push (newSet w)).get? s.heap.objs.size = some (newSet w) := Heap.get?_push_size _ rfl
      have hT : Shared.TypeIs { s with heap := s.heap.push (newSet w) } (.ref s.heap.objs.size) "set" := ⟨_, gS, rfl⟩
      have hli := F.called_set.init.lookup
      have hbi := F.called_set.init.bind (.ref s.heap.objs.size)
      repeat (any_goals (first | assumption | wp_step))
      refine codeAny_mono (codeAny_call_builtin (R := wants (fun r s₂ => r = .none ∧ ∃ h' tk c, s₂ = { s with heap := h', toks := tk } ∧ SetR w h' s.heap.objs.size (fun j => decide (j ∈ ns)) c ∧
          (∀ b o, s.heap.get? b = some o → h'.get? b = some o)) E) F.called_set.init.plain F.entry_set_init (check_set_init_1 hT ?_)) fun r₂ s₂ hr₂ => ?_
      · obtain ⟨⟨ocls, odict, odata, oslots⟩, hol, hcl, nl, hdl⟩ := hl
        simp only at hcl hdl
        subst hcl; subst hdl
        have gL : (s.heap.push (newSet w)).get? l = some { cls := .type "list", dict := odict, data := .seq items nl, slots := oslots } := Heap.get?_push_of_some _ hol
        have hsls := F.sub_list_set
        have hslf := F.sub_list_frozenset
        have hne : (Value.type "list" == Value.type "dict") = false := by decide
        have isL : (s.heap.push (newSet w)).IsList l items := ⟨_, gL, rfl, nl, rfl⟩
        have hlS : l < s.heap.objs.size := Heap.lt_size hol
        have hneI : l ≠ (s.heap.push (newSet w)).objs.size := by rw [Heap.size_push]; exact Nat.ne_of_lt (Nat.lt_succ_of_lt hlS)
        have hSf : s.heap.objs.size ∉ [(s.heap.push (newSet w)).objs.size, l] := by
          rw [Heap.size_push]
          simp only [List.mem_cons, List.not_mem_nil, or_false, not_or]
          exact ⟨Nat.ne_of_lt (Nat.lt_succ_self _), Nat.ne_of_gt hlS⟩
        have hval : ∀ (i : Nat) (v : Value), items[i]? = some v → ∃ k t, ns[i]? = some k ∧ v = .int k t := fun i v hv => by
          have hi : i < ns.length := hisz ▸ (Array.getElem?_eq_some_iff.mp hv).1
          obtain ⟨t, e⟩ := PyProof.Rows.IntsAre.int_at hit i v (by rw [Array.getElem?_toList]; exact hv)
          exact ⟨ns[i], t, List.getElem?_eq_getElem hi, by rw [e, List.getD_eq_getElem?_getD, List.getElem?_eq_getElem hi] <;> rfl⟩
        unfold Builtin.«set.__init__» noKeywords Builtin.Frozenset.updateFrom
        generalize hPI : pyIter = PI
        wp_walk
        subst hPI
        refine wpAny_pyIter_list isL ?_
        refine wpAny_bind (wpAny_runValue ?_)
        have hh3 : A.in1.in1.in1.handled = none := by simp [hh]
        refine set_update_ints ((Walks.list hh3 _ l hneI items).toS) s.heap.objs.size hSf ns hisz hb hval (items.size - 0) 0 _ (by omega) (Nat.zero_le _)
          ⟨⟨_, Heap.get?_push_size _ rfl, rfl, rfl⟩, (isL.push _)⟩ ⟨0, Nat.le_refl 0, setR_new_at (Heap.get?_push_of_some _ gS)⟩ fun s' c' hm _ hS' => ?_
        obtain ⟨h', g2, d', tk', os'⟩ := s'
        have eg : g2 = s.gens := hm.gens
        have ed : d' = s.drawn := hm.drawn
        have eo : os' = s.os := hm.os
        subst eg; subst ed; subst eo
        show wpAny _ _ _ _ _ _
        refine wpAny_pure ?_
        show wpAny _ _ (ret Value.none) _ _ _
        refine wpAny_pure ⟨rfl, h', tk', c', rfl, hS', fun b o e => ?_⟩
        have hb0 : b < s.heap.objs.size := Heap.lt_size e
        refine hm.heap b o ?_ (Heap.get?_push_of_some _ (Heap.get?_push_of_some _ e))
        rw [Heap.size_push]
        simp only [List.mem_cons, List.not_mem_nil, or_false, not_or]
        exact ⟨Nat.ne_of_lt hb0, Nat.ne_of_lt (Nat.lt_succ_of_lt hb0)⟩
      · cases r₂ with
        | error e => exact hr₂
        | ok fl₂ =>
          cases fl₂ with
          | ret r =>
            obtain ⟨rfl, h', tk, c', rfl, hS', hk'⟩ := hr₂
            repeat (any_goals (first | assumption | wp_step))
            exact h _ _ _ hS' hk'
          | _ => exact hr₂.elim
    | _ => exact hr.elim
end
/-- set(l) of a list of ints -/
def rSetI (K : PySem.W.Frag) (w : World) : List V → Hp → VK → Prop := fun xs H Q => ∃ (l : Addr) (ns : List Int), xs = [V.ref l] ∧ SqL K H l (ns.map V.int) ∧ ns.length + 1 < scanBound ∧
  ∀ a c, H a = none → (∀ B : List Int, (∀ k, k ∈ ns → k ∈ B) → c ≤ B.length) → Q (.ref a) (upd H a (SetO w a (fun j => decide (j ∈ ns)) c))
theorem cr_setI {X : Cx} (hc : X.calm = true) : CallR X (.type "set") (rSetI X.K X.w) := by
  intro pins s σ H xs us Q I r h
  obtain ⟨l, ns, rfl, hl, hb, q⟩ := h
  obtain ⟨u, rfl, ru⟩ := r.one
  obtain rfl : u = Value.ref l := ru
  obtain ⟨its, rv, pl, hlen⟩ := I.list hl
  have hi : PyProof.Rows.IntsAre its.toArray.toList ns := by simpa using rv.ints
  refine call_set_ints ns (I.ok.hd hc) pl.isList hi hb fun h' tk c R k => ?_
  exact ⟨.ref _, upd H s.heap.objs.size (SetO X.w s.heap.objs.size (fun j => decide (j ∈ ns)) c), I.laid (t' := tk) k (Nat.le_refl _) (setO_new R), rfl,
    q _ c (I.hok.fresh (Nat.le_refl _)) fun B hB => setR_card R fun j hj => hB j (of_decide_eq_true hj)⟩
/-- d.update(o) -/
def rUpd : V → List V → Hp → VK → Prop := fun x xs H Q => ∃ (d o : Addr) (kvs more : List (Key × V)), x = .ref d ∧ xs = [.ref o] ∧ d ≠ o ∧ H d = some (.dK kvs) ∧ H o = some (.dK more) ∧ kvs.length + more.length ≤ sizeLine ∧
  Q .non (upd H d (.dK (mergeK kvs more)))
theorem mt_update {X : Cx} : MtR X "dict.update" rUpd := by
  intro pins s σ H x xs v us Q I rx rxs h
  obtain ⟨d, o, kvs, more, rfl, rfl, hne, hd, ho, hlen, q⟩ := h
  obtain rfl : v = Value.ref d := rx
  obtain ⟨u, rfl, ru⟩ := rxs.one
  obtain rfl : u = Value.ref o := ru
  obtain ⟨z1, s1, vs1, rel1, dd1⟩ := dk_of I.hok hd
  obtain ⟨z2, s2, vs2, rel2, dd2⟩ := dk_of I.hok ho
  have e1 : kvs.length = vs1.length := Paired.length rel1
  have e2 : more.length = vs2.length := Paired.length rel2
  refine call_meetsIn PySem.F.slot_dict_update dd1.typeIs PySem.F.entry_dict_update (PySem.F.args_dict_update_2 _ _) (meets_dict_update (mixKind X.prog X.w) d o hne s2) ⟨vs1, vs2, dd1, dd2, by omega, fun h' dd' _ hs => ?_⟩
  have he : ∃ q, h'.get? d = some q := let ⟨q, _, _, hq, _⟩ := dd'; ⟨q, hq⟩
  have hl : (mergeK kvs more).length ≤ sizeLine := Nat.le_trans (length_mergeK more kvs) hlen
  exact ⟨.non, _, d_write (t' := s.toks) I (by rw [hd]; exact True.intro) hs he (dk_new hl s1 (KV.merge rel2 rel1) dd'), rfl, q⟩
theorem mergeK_fresh : ∀ {more kvs : List (Key × V)}, ((kvs ++ more).map (·.1)).Nodup → mergeK kvs more = kvs ++ more
  | [], kvs, _ => by simp [mergeK]
  | p :: more, kvs, h => by
    have hn : valV kvs p.1 = none := by
      cases e : valV kvs p.1 with
      | none => rfl
      | some v =>
        have hm := valV_in e
        rw [List.map_append, List.map_cons, List.nodup_append] at h
        exact absurd rfl (h.2.2 p.1 hm p.1 (by simp))
    have e1 : mergeK kvs (p :: more) = mergeK (kvs ++ [(p.1, p.2)]) more := by
      show mergeK (putK kvs p.1 p.2) more = _
      rw [putK_new _ hn]
    rw [e1, mergeK_fresh (by simpa using h)]
    simp
end Rg
/-! What the walk leans on: the text by places, the built-in names, calls, two rules more. -/
namespace Rg
open PySem L2
def topS (i : Nat) : Stmt := PySem.Challenge.pw_rankgarth_k21_whole_drawn_plays.main.body.getD i (.Pass ⟨0, 0, 0, 0⟩)
/-- the built-in names that stand for themselves -/
structure Gs (mg : Str → Option Value) : Prop where
  nlen : mg "len" = none
  nrange : mg "range" = none
  nsorted : mg "sorted" = none
  nset : mg "set" = none
  nmax : mg "max" = none
  nmin : mg "min" = none
  nint : mg "int" = none
  nbool : mg "bool" = none
  nlist : mg "list" = none
  ntuple : mg "tuple" = none
  nisinstance : mg "isinstance" = none
/-- a def of the text, called by its name with all its arguments -/
structure DefOk (P : Program) (w : World) (K : PySem.W.Frag) (mg : Str → Option Value) (base : Heap) (x : Str) (k : Nat) (ps : List Str) (sp : Sp) : Prop where
  ex : ∃ f fd, FnOk P w K mg base CX0 k f fd ps sp ∧ mg x = some (.ref f) ∧ PySem.W.keepIn K (.ref f) = true ∧ Binds K fd ps []
theorem DefOk.mono {P : Program} {w : World} {K : PySem.W.Frag} {mg : Str → Option Value} {base : Heap} {x : Str} {j k : Nat} {ps : List Str} {sp : Sp} (D : DefOk P w K mg base x j ps sp) (h : j ≤ k) : DefOk P w K mg base x k ps sp := by
  obtain ⟨f, fd, F, r⟩ := D.ex
  exact ⟨f, fd, F.mono h, r⟩
section
variable {X : Cx} {x : Str} {e : Expr} {es : List Expr} {t : TA} {p pos : Pos} {k : Nat} {ps : List Str} {sp : Sp}
theorem pe_cd (D : DefOk X.prog X.w X.K X.mg X.base x k ps sp) (hr : Room k X.A) (hg : Gl X x) (ha : PA X (e :: es) t)
    (hd : (x == ("__debug__" : Str)) = false := by decide) (hs : starEach (e :: es) X.env = (false, eval e X.env) :: starEach es X.env := by rfl) (hp : (backTo pos (starEach es X.env)).any (·.1) = false := by rfl) :
    PE X (.Call (.Name x p) (e :: es) [] pos) (tCall sp [] E0 t) := by
  refine PE.mk fun pins s σ H Q I h => ?_
  obtain ⟨f, fd, F, hm, hk, hb⟩ := D.ex
  exact (pe_call F hr hg hm hk hb .nil pass0 ha hd hs hp).run pins s σ H Q I h
end

/-! ### rules whose written part is named (within a comprehension) -/
section
variable {X : Cx} {K : PySem.W.Frag}
theorem ixL (e : X.K = K := by rfl) : IxR X (rIxL K) := by subst e; exact ix_list
theorem ixT (e : X.K = K := by rfl) : IxR X (rIxT K) := by subst e; exact ix_tup
theorem inSeq (e : X.K = K := by rfl) : OpR X (compareOp .In) (rIn K false) := by subst e; exact op_in_seq
theorem notInSeq (e : X.K = K := by rfl) : OpR X (compareOp .NotIn) (rIn K true) := by subst e; exact op_notIn_seq
def rListOf (K : PySem.W.Frag) : List V → Hp → VK → Prop := fun xs H Q => ∃ p ys, xs = [.ref p] ∧ (SqL K H p ys ∨ SqT K H p ys) ∧ ∀ l, H l = none → Q (.ref l) (upd H l (.lst ys))
theorem listOf (e : X.K = K := by rfl) : CallR X (.type "list") (rListOf K) := by subst e; exact call_list_of
end
end Rg
/-! How games, lists, tables lie in the heap. -/
namespace Rg
open PySem L2
abbrev nV (n : Nat) : V := .int (n : Int)
def oV : Option Nat → V
  | none => .non
  | some n => nV n
theorem nV_inj {a b : Nat} (h : nV a = nV b) : a = b := by
  have := V.int.inj h
  omega
theorem nV_dec (a b : Nat) : decide (nV a = nV b) = decide (a = b) := by
  by_cases h : a = b
  · subst h; simp
  · rw [decide_eq_false h, decide_eq_false fun z => h (nV_inj z)]
theorem iV_dec (a b : Int) : decide (V.int a = V.int b) = decide (a = b) := by
  by_cases h : a = b
  · subst h; simp
  · rw [decide_eq_false h, decide_eq_false fun z => h (V.int.inj z)]
/-! ### heaps -/
theorem same_new {H : Hp} {p : Addr} {o : HO} (h : H p = none) : Same H (upd H p o) := fun b u e => by rw [upd_ne (ne_of_none e h)]; exact e
theorem sNew {H0 H : Hp} {p : Addr} {o : HO} (s : Same H0 H) (h : H p = none) : Same H0 (upd H p o) := s.trans (same_new h)
/-- what the entry doesn't know may change -/
theorem sMut {H0 H : Hp} {p : Addr} {o : HO} (s : Same H0 H) (h : H0 p = none) : Same H0 (upd H p o) := fun b u e => by rw [upd_ne (ne_of_none e h)]; exact s b u e
theorem sTup {K : PySem.W.Frag} {H H' : Hp} {a : Addr} {xs : List V} (e : Same H H') (h : SqT K H a xs) : SqT K H' a xs := by
  rcases h with (h | ⟨o, h⟩) | h
  · exact .inl (.inl (e _ _ h))
  · exact .inl (.inr ⟨o, e _ _ h⟩)
  · exact .inr h
theorem none_of_upd {H : Hp} {p q : Addr} {o : HO} (h : upd H p o q = none) : H q = none ∧ q ≠ p := by
  by_cases e : q = p
  · subst e; rw [upd_same] at h; cases h
  · rw [upd_ne e] at h; exact ⟨h, e⟩
theorem small {n : Nat} (h : n ≤ 5000) : n ≤ sizeLine := Nat.le_trans h (by decide)
theorem smallL {n : Nat} (h : n < 5000) : n < sizeLine := Nat.lt_of_lt_of_le h (by decide)
/-! ### lists -/
theorem map_get {α β : Type} {f : α → β} {xs : List α} {i : Nat} {y : β} (h : (xs.map f)[i]? = some y) : ∃ x, xs[i]? = some x ∧ y = f x := by
  rw [List.getElem?_map] at h
  cases e : xs[i]? with
  | none => rw [e] at h; cases h
  | some x => rw [e] at h; exact ⟨x, rfl, (Option.some.inj h).symm⟩
theorem get_map {α β : Type} {f : α → β} {xs : List α} {i : Nat} {x : α} (h : xs[i]? = some x) : (xs.map f)[i]? = some (f x) := by rw [List.getElem?_map, h]; rfl
theorem get_lt {α : Type} {xs : List α} {i : Nat} {x : α} (h : xs[i]? = some x) : i < xs.length := (List.getElem?_eq_some_iff.mp h).1
theorem get_of_lt {α : Type} {xs : List α} {i : Nat} (h : i < xs.length) : ∃ x, xs[i]? = some x := ⟨_, List.getElem?_eq_getElem h⟩
theorem atI_map {α : Type} {f : α → V} {xs : List α} {i : Nat} {x : α} (h : xs[i]? = some x) : atI (xs.map f) (i : Int) = some (f x) := atI_nat (get_map h)
theorem take_snoc {α : Type} {xs : List α} {i : Nat} {x : α} (h : xs[i]? = some x) : xs.take (i + 1) = xs.take i ++ [x] := by rw [List.take_add_one, h]; rfl
theorem take_all {α : Type} {xs : List α} : xs.take xs.length = xs := List.take_length
theorem ixN_nat {n j : Nat} (h : j < n) : ixN n (j : Int) = some j := by
  unfold ixN
  rw [if_pos (by omega), if_pos (by omega)]
  rfl
theorem pre_flat {α β : Type} {f : α → List β} {l : List α} {i : Nat} {u : α} (h : l[i]? = some u) (j : Nat) : ((l.take i).flatMap f ++ (f u).take j) <+: l.flatMap f := by
  have hi := get_lt h
  have e : l[i] = u := by
    have := List.getElem?_eq_getElem hi
    rw [h] at this
    exact (Option.some.inj this).symm
  have h2 : l.flatMap f = (l.take i).flatMap f ++ (f u ++ (l.drop (i + 1)).flatMap f) := by
    conv => lhs; rw [← List.take_append_drop i l, List.drop_eq_getElem_cons hi, e]
    rw [List.flatMap_append, List.flatMap_cons]
  rw [h2]
  exact (List.prefix_append_right_inj _).mpr ((List.take_prefix _ _).trans (List.prefix_append _ _))
theorem perm_cast {xs ys : List Nat} (h : (xs.map fun n : Nat => (n : Int)).Perm (ys.map fun n : Nat => (n : Int))) : xs.Perm ys := by
  have := h.map Int.toNat
  simp only [List.map_map] at this
  have e : (Int.toNat ∘ fun n : Nat => (n : Int)) = id := funext fun n => by simp
  rw [e, List.map_id, List.map_id] at this
  exact this
theorem nVs (xs : List Nat) : xs.map nV = (xs.map fun n : Nat => (n : Int)).map V.int := by rw [List.map_map]; rfl
/-- ints that are places -/
theorem to_nats : ∀ {ns : List Int}, (∀ k, k ∈ ns → ∃ m : Nat, k = (m : Int)) → ∃ xs : List Nat, ns = xs.map (fun n : Nat => (n : Int))
  | [], _ => ⟨[], rfl⟩
  | a :: l, h => by
    obtain ⟨m, e⟩ := h a (by simp)
    obtain ⟨xs, e2⟩ := to_nats (ns := l) fun k hk => h k (by simp [hk])
    exact ⟨m :: xs, by rw [e, e2]; rfl⟩
theorem cast_mem {xs : List Nat} {x : Nat} : ((x : Int) ∈ xs.map (fun n : Nat => (n : Int))) ↔ x ∈ xs := by
  rw [List.mem_map]
  constructor
  · rintro ⟨y, hy, e⟩
    have : y = x := by omega
    exact this ▸ hy
  · exact fun h => ⟨x, h, rfl⟩
theorem nodup_of_cast {xs : List Nat} (h : (xs.map fun n : Nat => (n : Int)).Pairwise (· < ·)) : xs.Nodup := by
  rw [List.pairwise_map] at h
  exact h.imp fun {a b} z e => by omega
theorem flat_nV : ∀ xs : List Nat, (xs.map nV).all flatV = true
  | [] => rfl
  | x :: l => by rw [List.map_cons, List.all_cons, flat_nV l]; rfl
theorem inV_nV (x : Nat) : ∀ xs : List Nat, inV (nV x) (xs.map nV) = decide (x ∈ xs)
  | [] => rfl
  | y :: l => by
    have ih := inV_nV x l
    unfold inV at ih ⊢
    rw [List.map_cons, List.any_cons, ih]
    have : eqV (nV y) (nV x) = decide (y = x) := by
      show ((y : Int) == (x : Int)) = decide (y = x)
      by_cases e : y = x
      · subst e; simp
      · have : ¬ (y : Int) = (x : Int) := by omega
        simp [e, this]
    rw [this]
    by_cases e : y = x
    · subst e; simp
    · simp [e, Ne.symm e]
theorem t_c {v : V} {σ : St} {H : Hp} {Q : VK} (q : Q v H) : tC v σ H Q := q
theorem t_v {i : Nat} {v : V} {σ : St} {H : Hp} {Q : VK} (h : σ[i]? = some (some v)) (q : Q v H) : tVar i σ H Q := ⟨v, h, q⟩
/-! ### a game in the heap -/
structure GmOk (G : Gm) : Prop where
  n : G.length ≤ 63
  hand : ∀ p, p ∈ G → p.hand = 0 ∨ p.hand = 1
  rank : ∀ p, p ∈ G → 0 ≤ p.rank ∧ p.rank ≤ 40
  ways : ∀ p, p ∈ G → ∀ w, w ∈ p.ways → w < G.length
  nd : ∀ p, p ∈ G → p.ways.Nodup
  ne : ∀ p, p ∈ G → p.ways ≠ []
theorem pl_mem {G : Gm} {v : Nat} (h : v < G.length) : G.getD v dPl ∈ G := by
  rw [List.getD_eq_getElem?_getD, List.getElem?_eq_getElem h]
  exact List.getElem_mem h
theorem pl_get {G : Gm} {v : Nat} (h : v < G.length) : G[v]? = some (G.getD v dPl) := by
  rw [List.getD_eq_getElem?_getD, List.getElem?_eq_getElem h]; rfl
section
variable {G : Gm} (O : GmOk G) {v : Nat}
include O
theorem GmOk.ow (h : v < G.length) : ow G v = 0 ∨ ow G v = 1 := O.hand _ (pl_mem h)
theorem GmOk.rk (h : v < G.length) : 0 ≤ rk G v ∧ rk G v ≤ 40 := O.rank _ (pl_mem h)
theorem GmOk.wy (h : v < G.length) : ∀ w, w ∈ wy G v → w < G.length := O.ways _ (pl_mem h)
theorem wy_out (h : ¬ v < G.length) : Rg.wy G v = [] := by
  unfold Rg.wy
  rw [List.getD_eq_getElem?_getD, List.getElem?_eq_none (by omega)]
  rfl
theorem GmOk.wnd (v : Nat) : (Rg.wy G v).Nodup := by
  by_cases h : v < G.length
  · exact O.nd _ (pl_mem h)
  · rw [wy_out O h]; exact List.nodup_nil
theorem GmOk.wlen (v : Nat) : (Rg.wy G v).length ≤ 63 := by
  by_cases h : v < G.length
  · have := nodup_leN (B := List.range G.length) (O.wnd v) fun x hx => List.mem_range.mpr (O.wy h x hx)
    rw [List.length_range] at this
    exact Nat.le_trans this O.n
  · rw [wy_out O h]; exact Nat.zero_le _
theorem GmOk.wne (h : v < G.length) : Rg.wy G v ≠ [] := O.ne _ (pl_mem h)
end
structure GmAt (K : PySem.W.Frag) (H : Hp) (g : Addr) (G : Gm) : Prop where
  ex : ∃ rs : List Addr, SqL K H g (rs.map V.ref) ∧ rs.length = G.length ∧ ∀ v, v < G.length → ∃ r wa, rs[v]? = some r ∧ SqT K H r [.int (ow G v), .int (rk G v), .ref wa] ∧ SqL K H wa ((wy G v).map nV)
section
variable {K : PySem.W.Frag} {H H' : Hp} {g : Addr} {G : Gm} {ta tb tc : TE} {σ : St} {Q : VK} {v : Nat}
theorem GmAt.same (A : GmAt K H g G) (s : Same H H') : GmAt K H' g G := by
  obtain ⟨rs, h1, h2, h3⟩ := A.ex
  refine ⟨rs, s.seq h1, h2, fun v hv => ?_⟩
  obtain ⟨r, wa, h4, h5, h6⟩ := h3 v hv
  exact ⟨r, wa, h4, sTup s h5, s.seq h6⟩
/-- game[v] -/
theorem rd_row {x y : V} (A : GmAt K H g G) (hv : v < G.length) (ex : x = .ref g) (ey : y = nV v) (q : ∀ r wa, SqT K H r [.int (ow G v), .int (rk G v), .ref wa] → SqL K H wa ((wy G v).map nV) → Q (.ref r) H) : rIxL K x y H Q := by
  obtain ⟨rs, h1, h2, h3⟩ := A.ex
  obtain ⟨r, wa, h4, h5, h6⟩ := h3 v hv
  exact ⟨g, _, v, .ref r, ex, ey, h1, atI_map h4, q r wa h5 h6⟩
theorem rd_0 {a b c x : V} {r : Addr} (h : SqT K H r [a, b, c]) (ex : x = .ref r) (q : Q a H) : rIxT K x (.int 0) H Q := ⟨r, _, 0, a, ex, rfl, h, rfl, q⟩
theorem rd_1 {a b c x : V} {r : Addr} (h : SqT K H r [a, b, c]) (ex : x = .ref r) (q : Q b H) : rIxT K x (.int 1) H Q := ⟨r, _, 1, b, ex, rfl, h, rfl, q⟩
theorem rd_2 {a b c x : V} {r : Addr} (h : SqT K H r [a, b, c]) (ex : x = .ref r) (q : Q c H) : rIxT K x (.int 2) H Q := ⟨r, _, 2, c, ex, rfl, h, rfl, q⟩
/-- game[v][0], [1], [2]: by values -/
theorem rd_ow {x y : V} (A : GmAt K H g G) (hv : v < G.length) (ex : x = .ref g) (ey : y = nV v) (q : Q (.int (ow G v)) H) : rIxL K x y H fun z H1 => rIxT K z (.int 0) H1 Q :=
  rd_row A hv ex ey fun r wa h1 _ => rd_0 h1 rfl q
theorem rd_rk {x y : V} (A : GmAt K H g G) (hv : v < G.length) (ex : x = .ref g) (ey : y = nV v) (q : Q (.int (rk G v)) H) : rIxL K x y H fun z H1 => rIxT K z (.int 1) H1 Q :=
  rd_row A hv ex ey fun r wa h1 _ => rd_1 h1 rfl q
theorem rd_wy {x y : V} (A : GmAt K H g G) (hv : v < G.length) (ex : x = .ref g) (ey : y = nV v) (q : ∀ wa, SqL K H wa ((wy G v).map nV) → Q (.ref wa) H) : rIxL K x y H fun z H1 => rIxT K z (.int 2) H1 Q :=
  rd_row A hv ex ey fun r wa h1 h2 => rd_2 h1 rfl (q wa h2)
/-- the ways as they stood at the entry -/
theorem rd_wy0 {H0 : Hp} {x y : V} (A : GmAt K H0 g G) (s : Same H0 H) (hv : v < G.length) (ex : x = .ref g) (ey : y = nV v) (q : ∀ wa, SqL K H0 wa ((wy G v).map nV) → Q (.ref wa) H) : rIxL K x y H fun z H1 => rIxT K z (.int 2) H1 Q := by
  obtain ⟨rs, h1, h2, h3⟩ := A.ex
  obtain ⟨r, wa, h4, h5, h6⟩ := h3 v hv
  exact ⟨g, _, v, .ref r, ex, ey, s.seq h1, atI_map h4, rd_2 (sTup s h5) rfl (q wa h6)⟩
/-- xs[i] of a list -/
theorem rd_at {α : Type} {f : α → V} {xs : List α} {p : Addr} {i : Nat} {a : α} {x y : V} (h : SqL K H p (xs.map f)) (hi : xs[i]? = some a) (ex : x = .ref p) (ey : y = nV i) (q : Q (f a) H) : rIxL K x y H Q :=
  ⟨p, _, i, f a, ex, ey, h, atI_map hi, q⟩
end
theorem GmAt.len {K : PySem.W.Frag} {H : Hp} {g : Addr} {G : Gm} (A : GmAt K H g G) : ∃ xs : List V, SqL K H g xs ∧ xs.length = G.length := by
  obtain ⟨rs, h1, h2, _⟩ := A.ex
  exact ⟨_, h1, by rw [List.length_map]; exact h2⟩
/-! ### a list of lists of places -/
structure LLAt (K : PySem.W.Frag) (H : Hp) (p : Addr) (LL : List (List Nat)) : Prop where
  ex : ∃ as : List Addr, SqL K H p (as.map V.ref) ∧ as.length = LL.length ∧ ∀ (i : Nat) (l : List Nat), LL[i]? = some l → ∃ a, as[i]? = some a ∧ SqL K H a (l.map nV)
theorem LLAt.same {K : PySem.W.Frag} {H H' : Hp} {p : Addr} {LL : List (List Nat)} (A : LLAt K H p LL) (s : Same H H') : LLAt K H' p LL := by
  obtain ⟨as, h1, h2, h3⟩ := A.ex
  refine ⟨as, s.seq h1, h2, fun i l hl => ?_⟩
  obtain ⟨a, h4, h5⟩ := h3 i l hl
  exact ⟨a, h4, s.seq h5⟩
/-! ### a heap without what is going to change -/
def hide (H : Hp) (p : Addr) : Hp := fun b => if b = p then none else H b
theorem hide_self {H : Hp} {p : Addr} : hide H p p = none := by unfold hide; rw [if_pos rfl]
theorem hide_ne {H : Hp} {p q : Addr} (h : q ≠ p) : hide H p q = H q := by unfold hide; rw [if_neg h]
theorem hide_le {H : Hp} {p : Addr} : Same (hide H p) H := fun b o e => by
  by_cases h : b = p
  · subst h; rw [hide_self] at e; cases e
  · rw [hide_ne h] at e; exact e
theorem hide_of {H0 H : Hp} {p : Addr} (s : Same H0 H) (h : H0 p = none) : Same H0 (hide H p) := fun b o e => by
  rw [hide_ne (ne_of_none e h)]; exact s b o e
theorem hide_none {H : Hp} {p q : Addr} (h : H q = none) : hide H p q = none := by
  by_cases e : q = p
  · subst e; exact hide_self
  · rw [hide_ne e]; exact h
/-- .. all of them tracked -/
structure LLH (H : Hp) (p : Addr) (LL : List (List Nat)) : Prop where
  ex : ∃ as : List Addr, H p = some (.lst (as.map V.ref)) ∧ as.length = LL.length ∧ ∀ (i : Nat) (l : List Nat), LL[i]? = some l → ∃ a, as[i]? = some a ∧ H a = some (.lst (l.map nV))
theorem LLH.at {K : PySem.W.Frag} {H : Hp} {p : Addr} {LL : List (List Nat)} (A : LLH H p LL) : LLAt K H p LL := by
  obtain ⟨as, h1, h2, h3⟩ := A.ex
  refine ⟨as, .inl (.inl h1), h2, fun i l hl => ?_⟩
  obtain ⟨a, h4, h5⟩ := h3 i l hl
  exact ⟨a, h4, .inl (.inl h5)⟩
/-- a new list of new lists -/
structure LLNew (H H' : Hp) (p : Addr) (LL : List (List Nat)) : Prop where
  ex : ∃ as : List Addr, H p = none ∧ H' p = some (.lst (as.map V.ref)) ∧ as.length = LL.length ∧ ∀ (i : Nat) (l : List Nat), LL[i]? = some l → ∃ a, as[i]? = some a ∧ H a = none ∧ H' a = some (.lst (l.map nV))
theorem LLNew.at {K : PySem.W.Frag} {H H' Hb : Hp} {p : Addr} {LL : List (List Nat)} (A : LLNew H H' p LL) (s : ∀ b o, H b = none → H' b = some o → Hb b = some o) : LLAt K Hb p LL := by
  obtain ⟨as, h0, h1, h2, h3⟩ := A.ex
  refine ⟨as, .inl (.inl (s _ _ h0 h1)), h2, fun i l hl => ?_⟩
  obtain ⟨a, h4, h5, h6⟩ := h3 i l hl
  exact ⟨a, h4, .inl (.inl (s _ _ h5 h6))⟩
/-- the lists in a list, each read by its place -/
theorem rd_LL {K : PySem.W.Frag} {H : Hp} {p : Addr} {LL : List (List Nat)} {i : Nat} {l : List Nat} {x y : V} {Q : VK} {H0 : Hp} (A : LLAt K H0 p LL) (sm : Same H0 H) (hi : LL[i]? = some l) (ex : x = .ref p) (ey : y = nV i)
    (q : ∀ a, SqL K H0 a (l.map nV) → Q (.ref a) H) : rIxL K x y H Q := by
  obtain ⟨as, h1, h2, h3⟩ := A.ex
  obtain ⟨a, h4, h5⟩ := h3 i l hi
  exact ⟨p, _, i, .ref a, ex, ey, sm.seq h1, atI_map h4, q a h5⟩
/-! ### data that is compared -/
structure Sh (k : Nat) (d : PyData) : Prop where
  lay : d.canLay0 = true
  dep : d.depth ≤ k
theorem Sh.int (i : Int) (k : Nat) : Sh k (.int i) := ⟨rfl, Nat.zero_le _⟩
theorem sh_all {k : Nat} : ∀ {ds : List PyData}, (∀ d, d ∈ ds → Sh k d) → PyData.canLayAll0 ds = true ∧ PyData.depthAll ds ≤ k
  | [], _ => ⟨rfl, Nat.zero_le _⟩
  | d :: ds, h => by
    have h1 := h d (by simp)
    have h2 := sh_all (ds := ds) fun e he => h e (by simp [he])
    refine ⟨?_, Nat.max_le.mpr ⟨h1.dep, h2.2⟩⟩
    show (d.canLay0 && PyData.canLayAll0 ds) = true
    rw [h1.lay, h2.1]; rfl
theorem Sh.list {k : Nat} {ds : List PyData} (h : ∀ d, d ∈ ds → Sh k d) : Sh (k + 1) (.list ds) := ⟨(sh_all h).1, Nat.succ_le_succ (sh_all h).2⟩
theorem Sh.tup {k : Nat} {ds : List PyData} (h : ∀ d, d ∈ ds → Sh k d) : Sh (k + 1) (.tuple ds) := ⟨(sh_all h).1, Nat.succ_le_succ (sh_all h).2⟩
theorem Sh.ok {k : Nat} {d : PyData} (h : Sh k d) (hk : k ≤ 64) : SeqAt.shaped d = true := by
  unfold SeqAt.shaped
  rw [h.lay, decide_eq_true (Nat.le_trans h.dep hk)]; rfl
theorem dp_nats {K : PySem.W.Frag} {H : Hp} : ∀ xs : List Nat, DpAll K H (xs.map nV) (xs.map fun n : Nat => PyData.int (n : Int))
  | [] => .nil
  | x :: l => .cons (.int _) (dp_nats l)
theorem sh_nats (xs : List Nat) : Sh 1 (.list (xs.map fun n : Nat => PyData.int (n : Int))) := Sh.list fun d hd => by
  obtain ⟨x, _, rfl⟩ := List.mem_map.mp hd
  exact Sh.int _ _
end Rg
/-! ways_in, marks_of, open_ways -/
namespace Rg
open PySem L2
abbrev s_ways_in : Stmt := topS 4
theorem sc_ways_in : FnScope ["game", "found", "at", "way", "place"] ["game"] (defScope s_ways_in) := ⟨rfl, rfl, rfl, by decide +kernel, rfl, by decide +kernel, by decide +kernel⟩
abbrev s_marks_of : Stmt := topS 6
theorem sc_marks_of : FnScope ["game", "some", "found", "at", "place"] ["game", "some"] (defScope s_marks_of) := ⟨rfl, rfl, rfl, by decide +kernel, rfl, by decide +kernel, by decide +kernel⟩
abbrev s_open_ways : Stmt := topS 7
theorem sc_open_ways : FnScope ["game", "inside", "found", "place", "way"] ["game", "inside"] (defScope s_open_ways) := ⟨rfl, rfl, rfl, by decide +kernel, rfl, by decide +kernel, by decide +kernel⟩
section
variable {P : Program} {w : World} {K : PySem.W.Frag} {mg : Str → Option Value} {base : Heap}
/-! ### ways_in -/
def waysIn (G : Gm) : List (List Nat) := (List.range G.length).map (comeTo G)
def spWaysIn (K : PySem.W.Frag) : Sp := fun vs H Q _ => ∃ g G, vs = [.ref g] ∧ GmAt K H g G ∧ GmOk G ∧
  ∀ p H', Same H H' → LLNew H H' p (waysIn G) → Q (.ref p) H'
/-- n lists in a list, all of them new since H0 -/
structure Boxes (H0 H : Hp) (p : Addr) (n : Nat) (f : Nat → List Nat) : Prop where
  ex : ∃ as : List Addr, H p = some (.lst (as.map V.ref)) ∧ H0 p = none ∧ as.length = n ∧ as.Nodup ∧ ∀ (i : Nat) (a : Addr), as[i]? = some a → a ≠ p ∧ H0 a = none ∧ H a = some (.lst ((f i).map nV))
def wiF (G : Gm) (i j : Nat) (w : Nat) : List Nat := ((List.range i).filter fun a => decide (w ∈ wy G a)) ++ (if w ∈ (wy G i).take j then [i] else [])
theorem wiF_next {G : Gm} {i w : Nat} : wiF G i (wy G i).length w = wiF G (i + 1) 0 w := by
  unfold wiF
  rw [List.take_length, List.range_succ, List.filter_append]
  by_cases h : w ∈ wy G i <;> simp [h]
theorem wiF_step {G : Gm} {i j u : Nat} (nd : (wy G i).Nodup) (hu : (wy G i)[j]? = some u) (w : Nat) : wiF G i (j + 1) w = if w = u then wiF G i j w ++ [i] else wiF G i j w := by
  unfold wiF
  rw [take_snoc hu]
  have hn : u ∉ (wy G i).take j := by
    have h1 := take_snoc hu
    have h2 := nd.sublist (List.take_sublist (j + 1) (wy G i))
    rw [h1, List.nodup_append] at h2
    exact fun z => h2.2.2 u z u (by simp) rfl
  by_cases e : w = u
  · subst e; simp [hn]
  · simp [e]
theorem ok_ways_in {f : Addr} {fd : FuncData} (F : Fun K "ways_in" "ways_in" s_ways_in f fd) (T : Gs mg) : FnOk P w K mg base CX0 1 f fd ["game"] (spWaysIn K) := by
  refine F.ok sc_ways_in (fun vs H Q E h => ?_) (fun cdv A outer s H vs Q E hr h => ?_)
  · obtain ⟨g, G, rfl, _⟩ := h
    rfl
  obtain ⟨g, G, rfl, A, O, q⟩ := h
  have hu := hu_of hr
  refine ⟨_,       (pss_cons (ps_setLc (i := 1) (own := [("place", 4)]) (g := gName 4) (tt := tYes) rfl sc_ways_in.nd rfl rfl (sw_true rfl rfl rfl (by decide +kernel)) (pi_list (pv 0)) (blkOk_by (N := ["game", "found", "at", "way", "place"]) (sc := defScope s_ways_in) (by decide +kernel)) (fun _ _ _ _ _ => pg_name (i := 4) sc_ways_in.nd rfl (Or.inl rfl)) (fun _ _ _ _ _ => pts_nil) (fun _ _ _ _ _ => (pe_lst pa_nil)))
      (pss_cons (ps_for PassesOwn.never rfl (pi_range1 (by rfl) T.nrange (pa_cons (pe_callB call_len_seq (by rfl) T.nlen PySem.boot_len (pa_cons (pv 0) pa_nil)) pa_nil)) (pg_name (i := 2) sc_ways_in.nd rfl (Or.inl rfl)) 
        (pss_one (ps_for PassesOwn.never rfl (pi_list (pe_ix ix_tup (pe_ix ix_list (pv 0) (pv 2) (fun _ _ => rfl)) pe_int (fun _ _ => rfl))) (pg_name (i := 3) sc_ways_in.nd rfl (Or.inl rfl)) 
          (pss_one (ps_expr (pe_bm PySem.F.plainAttrs_list PySem.F.slot_list_append PySem.F.type_list_append mt_append (pe_ix ix_list (pv 1) (pv 3) (fun _ _ => rfl)) (pa_cons (pv 2) pa_nil)))))))
      (pss_one (ps_ret (pv 1))))), ?_⟩
  obtain ⟨rs, hrs, hlen, _⟩ := A.ex
  refine ⟨_, rfl, g, rfl, ⟨_, hrs⟩, fun D hD => ?_⟩
  refine lc_list (K := K) (a := g) (xs := rs.map V.ref) (fun i H' => Same H H' ∧ Boxes H H' D i (fun _ => [])) ?_ (fun i H' _ h => h.1.seq hrs) ?_ ?_
  · exact ⟨same_new hD, [], upd_same, hD, rfl, List.nodup_nil, fun i a h => by simp at h⟩
  · rintro i x H' hi ⟨sm, as, h1, h2, h3, h4, h5⟩
    refine ⟨rfl, ?_⟩
    refine ⟨by show 0 ≤ sizeLine; decide, fun a ha => ?_⟩
    have hDa : D ≠ a := ne_of_none h1 ha
    have hna : a ∉ as := fun z => by
      obtain ⟨j, hj⟩ := List.getElem?_of_mem z
      rw [(h5 j a hj).2.2] at ha
      cases ha
    refine ⟨as.map V.ref, by rw [upd_ne hDa]; exact h1, smallL (by have := get_lt hi; rw [List.length_map] at this ⊢; have := O.n; omega), sMut (sNew sm ha) hD, as ++ [a], ?_, hD, by simp [h3], ?_, fun j b hj => ?_⟩
    · rw [upd_same, List.map_append]; rfl
    · rw [List.nodup_append]
      exact ⟨h4, by simp, fun b hb c hc => by rw [List.mem_singleton.mp hc]; exact fun z => hna (z ▸ hb)⟩
    · rcases Nat.lt_or_ge j as.length with hl | hl
      · rw [List.getElem?_append_left hl] at hj
        obtain ⟨e1, e2, e3⟩ := h5 j b hj
        exact ⟨e1, e2, by rw [upd_ne e1, upd_ne (ne_of_none e3 ha)]; exact e3⟩
      · rw [List.getElem?_append_right hl] at hj
        have : a = b := by
          have := get_lt hj
          have e0 : j - as.length = 0 := by simp at this; omega
          rw [e0] at hj
          simpa using hj
        subst this
        exact ⟨hDa.symm, sm.free ha, by rw [upd_ne hDa.symm, upd_same]; rfl⟩
  rintro H1 ⟨sm1, B1⟩
  rw [List.length_map, hlen] at B1
  refine ⟨_, rfl, g, _, rfl, .inl (sm1.seq hrs), G.length, by rw [List.length_map, hlen], by omega, by have := O.n; omega, ?_⟩
  refine for_range (lo := 0) (n := ((G.length : Nat) : Int).toNat) (fun i σ H' => ∃ v2 v3 v4, σ = [some (.ref g), some (.ref D), v2, v3, v4] ∧ Same H H' ∧ Boxes H H' D G.length (wiF G i 0)) ?_ ?_ ?_
  · exact ⟨_, _, _, rfl, sm1, by rw [show wiF G 0 0 = fun _ => [] from funext fun w => by simp [wiF]]; exact B1⟩
  · rintro i σ H2 hi ⟨v2, v3, v4, rfl, sm2, B2⟩
    have hi' : i < G.length := by omega
    have ei : (V.int (0 + (i : Int))) = nV i := by rw [Int.zero_add]
    rw [ei]
    refine ⟨_, rfl, _, rfl, rd_wy0 A sm2 hi' rfl rfl fun wa hwa => ⟨wa, rfl, ⟨_, sm2.seq hwa⟩, ?_⟩⟩
    refine for_list (K := K) (a := wa) (xs := (wy G i).map nV) (fun j σ H' => ∃ v3 v4, σ = [some (.ref g), some (.ref D), some (nV i), v3, v4] ∧ Same H H' ∧ Boxes H H' D G.length (wiF G i j)) ⟨_, _, rfl, sm2, B2⟩ (fun j σ H' _ ⟨_, _, _, s, _⟩ => s.seq hwa) ?_ ?_
    · rintro j x σ H3 hj ⟨v3, v4, rfl, sm3, as, h1, h2, h3, h4, h5⟩
      obtain ⟨u, hu1, rfl⟩ := map_get hj
      have hul := O.wy hi' u (List.mem_of_getElem? hu1)
      obtain ⟨a, ha⟩ := get_of_lt (xs := as) (i := u) (by omega)
      obtain ⟨e1, e2, e3⟩ := h5 u a ha
      have hla : (wiF G i j u).length ≤ 64 := by
        unfold wiF
        have l1 := List.length_filter_le (fun a => decide (u ∈ wy G a)) (List.range i)
        rw [List.length_range] at l1
        have := O.n
        rw [List.length_append]
        split <;> simp <;> omega
      refine ⟨_, rfl, _, rfl, rd_at (f := V.ref) (.inl (.inl h1)) ha rfl rfl ⟨.inl ⟨rfl, _, .inl (.inl e3)⟩, _, rfl, a, _, _, rfl, rfl, e3, smallL (by rw [List.length_map]; omega), ?_⟩⟩
      refine ⟨_, _, rfl, sMut sm3 e2, as, by rw [upd_ne e1.symm]; exact h1, h2, h3, h4, fun k b hb => ?_⟩
      · obtain ⟨d1, d2, d3⟩ := h5 k b hb
        refine ⟨d1, d2, ?_⟩
        rw [wiF_step (O.wnd i) hu1]
        by_cases e : k = u
        · subst e
          rw [ha] at hb
          cases hb
          rw [upd_same, if_pos rfl, List.map_append]; rfl
        · rw [if_neg e, upd_ne (fun z => e (nd_ix h4 (by rw [← z]; exact hb) ha))]
          exact d3
    · rintro σ H3 ⟨v3, v4, rfl, sm3, B3⟩
      rw [List.length_map] at B3
      refine ⟨_, _, _, rfl, sm3, ?_⟩
      obtain ⟨as, h1, h2, h3, h4, h5⟩ := B3
      exact ⟨as, h1, h2, h3, h4, fun k b hb => by rw [← wiF_next]; exact h5 k b hb⟩
  · rintro σ H2 ⟨v2, v3, v4, rfl, sm2, as, h1, h2, h3, h4, h5⟩
    refine ⟨_, rfl, q D H2 sm2 ⟨as, h2, h1, by simp [waysIn, h3], fun i l hl => ?_⟩⟩
    obtain ⟨i', hi', rfl⟩ := map_get hl
    have hil := get_lt hl
    simp [waysIn] at hil
    have : i' = i := by
      rw [List.getElem?_range hil] at hi'
      exact (Option.some.inj hi').symm
    subst this
    obtain ⟨a, ha⟩ := get_of_lt (xs := as) (i := i') (by omega)
    refine ⟨a, ha, (h5 i' a ha).2.1, ?_⟩
    rw [(h5 i' a ha).2.2]
    have e : ((G.length : Nat) : Int).toNat = G.length := by omega
    rw [e]
    simp [wiF, comeTo]
end
end Rg
/-! marks_of, open_ways -/
namespace Rg
open PySem L2
section
variable {P : Program} {w : World} {K : PySem.W.Frag} {mg : Str → Option Value} {base : Heap}
theorem range_get {n i : Nat} (h : i < n) : (List.range n)[i]? = some i := List.getElem?_range h
def marksM (n : Nat) (part : List Nat) : List Bool := (List.range n).map fun i => decide (i ∈ part)
theorem marksM_len (n : Nat) (part : List Nat) : (marksM n part).length = n := by simp [marksM]
theorem marksM_set {n at' : Nat} {part : List Nat} : ((marksM n part).map V.bl).set at' (V.bl true) = (marksM n (part ++ [at'])).map V.bl := by
  refine List.ext_getElem? fun i => ?_
  rw [List.getElem?_set]
  simp only [List.length_map, marksM_len]
  by_cases hi : i < n
  · have e2 : ((marksM n (part ++ [at'])).map V.bl)[i]? = some (V.bl (decide (i ∈ part ++ [at']))) := get_map (get_map (range_get hi))
    have e3 : ((marksM n part).map V.bl)[i]? = some (V.bl (decide (i ∈ part))) := get_map (get_map (range_get hi))
    rw [e2, e3]
    by_cases e : at' = i
    · subst e; simp [hi]
    · simp [e, Ne.symm e]
  · have e2 : ((marksM n (part ++ [at'])).map V.bl)[i]? = none := List.getElem?_eq_none (by simp [marksM_len]; omega)
    have e3 : ((marksM n part).map V.bl)[i]? = none := List.getElem?_eq_none (by simp [marksM_len]; omega)
    rw [e2, e3]
    by_cases e : at' = i
    · subst e; simp [hi]
    · simp [e]
theorem marksM_get {n i : Nat} {part : List Nat} (h : i < n) : (marksM n part)[i]? = some (decide (i ∈ part)) := get_map (range_get h)
def spMarksOf (K : PySem.W.Frag) : Sp := fun vs H Q _ => ∃ g G a part, vs = [.ref g, .ref a] ∧ GmAt K H g G ∧ GmOk G ∧ SqL K H a (part.map nV) ∧ (∀ x, x ∈ part → x < G.length) ∧
  ∀ p H', Same H H' → H p = none → H' p = some (.lst ((marksM G.length part).map V.bl)) → Q (.ref p) H'
theorem ok_marks_of {f : Addr} {fd : FuncData} (F : Fun K "marks_of" "marks_of" s_marks_of f fd) (T : Gs mg) : FnOk P w K mg base CX0 1 f fd ["game", "some"] (spMarksOf K) := by
  refine F.ok sc_marks_of (fun vs H Q E h => ?_) (fun cdv A outer s H vs Q E hr h => ?_)
  · obtain ⟨g, G, a, part, rfl, _⟩ := h
    rfl
  obtain ⟨g, G, a, part, rfl, A, O, hp, hlt, q⟩ := h
  have hu := hu_of hr
  refine ⟨_,       (pss_cons (ps_if (pt_cmpR op_isN (pv 1) pe_non (nomark _)) 
        (pss_one (ps_ret (pe_lc (own := [("place", 4)]) (g := gName 4) (tt := tYes) rfl sc_marks_of.nd (pi_list (pv 0)) (blkOk_by (N := ["game", "some", "found", "at", "place"]) (sc := defScope s_marks_of) (by decide +kernel)) (fun _ _ _ _ _ => pg_name (i := 4) sc_marks_of.nd rfl (Or.inl rfl)) (fun _ _ _ _ _ => pts_nil) (fun _ _ _ _ _ => pe_bl)))) pss_nil)
      (pss_cons (ps_setLc (i := 2) (own := [("place", 4)]) (g := gName 4) (tt := tYes) rfl sc_marks_of.nd rfl rfl (sw_true rfl rfl rfl (by decide +kernel)) (pi_list (pv 0)) (blkOk_by (N := ["game", "some", "found", "at", "place"]) (sc := defScope s_marks_of) (by decide +kernel)) (fun _ _ _ _ _ => pg_name (i := 4) sc_marks_of.nd rfl (Or.inl rfl)) (fun _ _ _ _ _ => pts_nil) (fun _ _ _ _ _ => pe_bl))
      (pss_cons (ps_for PassesOwn.never rfl (pi_list (pv 1)) (pg_name (i := 3) sc_marks_of.nd rfl (Or.inl rfl)) 
        (pss_one (ps_asg pe_bl (pg_sub (pv 2) (pv 3) set_list))))
      (pss_one (ps_ret (pv 2)))))), ?_⟩
  obtain ⟨rs, hrs, hlen, _⟩ := A.ex
  refine ⟨_, rfl, rfl, _, rfl, iteF ?_⟩
  refine ⟨_, rfl, g, rfl, ⟨_, hrs⟩, fun D hD => ?_⟩
  refine lc_list (K := K) (a := g) (xs := rs.map V.ref) (fun i H' => Same H H' ∧ H' D = some (.lst (List.replicate i (V.bl false)))) ⟨same_new hD, upd_same⟩ (fun i H' _ h => h.1.seq hrs) ?_ ?_
  · rintro i x H' hi ⟨sm, h1⟩
    refine ⟨rfl, _, h1, smallL (by have := get_lt hi; rw [List.length_map] at this; have := O.n; rw [List.length_replicate]; omega), sMut sm hD, ?_⟩
    rw [upd_same, List.replicate_succ']
  rintro H1 ⟨sm1, h1⟩
  rw [List.length_map, hlen] at h1
  refine ⟨_, rfl, a, rfl, ⟨_, sm1.seq hp⟩, ?_⟩
  refine for_list (K := K) (a := a) (xs := part.map nV) (fun j σ H' => ∃ v3 v4, σ = [some (.ref g), some (.ref a), some (.ref D), v3, v4] ∧ Same H H' ∧ H' D = some (.lst ((marksM G.length (part.take j)).map V.bl))) ⟨_, _, rfl, sm1, ?_⟩ (fun j σ H' _ ⟨_, _, _, s, _⟩ => s.seq hp) ?_ ?_
  · rw [h1]
    congr 2
    refine List.ext_getElem? fun i => ?_
    by_cases hi : i < G.length
    · rw [List.getElem?_replicate, if_pos hi, get_map (marksM_get hi)]
      simp
    · rw [List.getElem?_eq_none (by simp; omega), List.getElem?_eq_none (by simp [marksM_len]; omega)]
  · rintro j x σ H2 hj ⟨v3, v4, rfl, sm2, h2⟩
    obtain ⟨u, hu1, rfl⟩ := map_get hj
    have hul := hlt u (List.mem_of_getElem? hu1)
    refine ⟨_, rfl, _, rfl, D, _, (u : Int), u, rfl, rfl, h2, ixN_nat (by simp [marksM_len]; exact hul), _, _, rfl, sMut sm2 hD, ?_⟩
    rw [upd_same, marksM_set, take_snoc hu1]
  · rintro σ H2 ⟨v3, v4, rfl, sm2, h2⟩
    rw [List.length_map, take_all] at h2
    exact ⟨_, rfl, q D H2 sm2 hD h2⟩
/-! ### open_ways -/
def openM (G : Gm) (bs : List Bool) : List Int := (List.range G.length).map fun i => (((wy G i).filter fun x => bs.getD x false).length : Int)
def spOpenWays (K : PySem.W.Frag) : Sp := fun vs H Q _ => ∃ g G a bs, vs = [.ref g, .ref a] ∧ GmAt K H g G ∧ GmOk G ∧ SqL K H a (bs.map V.bl) ∧ bs.length = G.length ∧
  ∀ p H', Same H H' → H p = none → H' p = some (.lst ((openM G bs).map V.int)) → Q (.ref p) H'
theorem ok_open_ways {f : Addr} {fd : FuncData} (F : Fun K "open_ways" "open_ways" s_open_ways f fd) (T : Gs mg) : FnOk P w K mg base CX0 1 f fd ["game", "inside"] (spOpenWays K) := by
  refine F.ok sc_open_ways (fun vs H Q E h => ?_) (fun cdv A outer s H vs Q E hr h => ?_)
  · obtain ⟨g, G, a, bs, rfl, _⟩ := h
    rfl
  obtain ⟨g, G, a, bs, rfl, A, O, hb, hlb, q⟩ := h
  have hu := hu_of hr
  refine ⟨_,       (pss_cons (ps_set (i := 2) sc_open_ways.nd rfl (Or.inl rfl) (pe_lst pa_nil))
      (pss_cons (ps_for PassesOwn.never rfl (pi_list (pv 0)) (pg_name (i := 3) sc_open_ways.nd rfl (Or.inl rfl)) 
        (pss_one (ps_expr (pe_bm PySem.F.plainAttrs_list PySem.F.slot_list_append PySem.F.type_list_append mt_append (pv 2) (pa_cons (pe_callB call_len_seq (by rfl) T.nlen PySem.boot_len (pa_cons (pe_lc (own := [("way", 4)]) (g := gName 4) rfl sc_open_ways.nd (pi_list (pe_ix ix_tup (pv 3) pe_int (fun _ _ => rfl))) (blkOk_by (N := ["game", "inside", "found", "place", "way"]) (sc := defScope s_open_ways) (by decide +kernel)) (fun _ _ _ _ _ => pg_name (i := 4) sc_open_ways.nd rfl (Or.inl rfl)) (fun _ _ _ _ _ => (pts_one (pt_val (pe_ix (ixL (K := K)) (pv 1) (pv 4) (fun _ _ => rfl))))) (fun _ _ _ _ _ => (pv 4))) pa_nil)) pa_nil)))))
      (pss_one (ps_ret (pv 2))))), ?_⟩
  obtain ⟨rs, hrs, hlen, hrow⟩ := A.ex
  refine ⟨by show 0 ≤ sizeLine; decide, fun D hD => ?_⟩
  refine ⟨_, rfl, g, rfl, ⟨_, (same_new hD).seq hrs⟩, ?_⟩
  refine for_list (K := K) (a := g) (xs := rs.map V.ref) (fun i σ H' => ∃ v3 v4, σ = [some (.ref g), some (.ref a), some (.ref D), v3, v4] ∧ Same H H' ∧ H' D = some (.lst (((openM G bs).take i).map V.int))) ⟨_, _, rfl, same_new hD, upd_same⟩ (fun j σ H' _ ⟨_, _, _, s, _⟩ => s.seq hrs) ?_ ?_
  · rintro i x σ H2 hi ⟨v3, v4, rfl, sm2, h2⟩
    obtain ⟨r, hr1, rfl⟩ := map_get hi
    have hil : i < G.length := by have := get_lt hr1; omega
    obtain ⟨r', wa, e1, e2, e3⟩ := hrow i hil
    rw [hr1] at e1
    cases e1
    refine ⟨_, rfl, .inl ⟨rfl, _, .inl (.inl h2)⟩, ?_⟩
    refine ⟨_, rfl, t_c (rd_2 (sTup sm2 e2) rfl ⟨wa, rfl, ⟨_, sm2.seq e3⟩, fun L hL => ?_⟩)⟩
    refine lc_list (K := K) (a := wa) (xs := (wy G i).map nV) (fun j H' => Same H2 H' ∧ H' L = some (.lst ((((wy G i).take j).filter fun x => bs.getD x false).map nV))) ⟨same_new hL, upd_same⟩ (fun j H' _ h => h.1.seq (sm2.seq e3)) ?_ ?_
    · rintro j x H3 hj ⟨sm3, h3⟩
      obtain ⟨u, hu1, rfl⟩ := map_get hj
      have hul := O.wy hil u (List.mem_of_getElem? hu1)
      obtain ⟨b, hb1⟩ := get_of_lt (xs := bs) (i := u) (by omega)
      have hbD : bs.getD u false = b := by rw [List.getD_eq_getElem?_getD, hb1]; rfl
      refine ⟨rfl, _, rfl, _, rfl, rd_at (f := V.bl) (sm3.seq (sm2.seq hb)) hb1 rfl rfl ⟨b, rfl, ?_⟩⟩
      rw [take_snoc hu1, List.filter_append]
      cases b with
      | true =>
        refine iteT ⟨_, rfl, _, h3, ?_, sMut sm3 hL, ?_⟩
        · rw [List.length_map]
          have l1 := List.length_filter_le (fun x => bs.getD x false) ((wy G i).take j)
          have l2 := O.wlen i
          rw [List.length_take] at l1
          exact smallL (by omega)
        · rw [upd_same, List.filter_cons, hbD]
          simp
      | false =>
        refine iteF ⟨sm3, ?_⟩
        rw [h3, List.filter_cons, hbD]
        simp
    · rintro H3 ⟨sm3, h3⟩
      rw [List.length_map, take_all] at h3
      refine ⟨L, _, rfl, .inl (.inl (.inl h3)), D, _, _, rfl, rfl, sm3 _ _ h2, ?_, _, _, rfl, sMut (sm2.trans sm3) hD, ?_⟩
      · rw [List.length_map, List.length_take]
        have := O.n
        exact smallL (by omega)
      · rw [upd_same]
        have : (openM G bs)[i]? = some (((wy G i).filter fun x => bs.getD x false).length : Int) := get_map (range_get hil)
        rw [take_snoc this, List.map_append, List.length_map]
        rfl
  · rintro σ H2 ⟨v3, v4, rfl, sm2, h2⟩
    rw [List.length_map, hlen, List.take_of_length_le (by simp [openM])] at h2
    exact ⟨_, rfl, q D H2 sm2 hD h2⟩
end
end Rg
/-! pulled -/
namespace Rg
open PySem L2
abbrev s_pulled : Stmt := topS 8
theorem sc_pulled : FnScope ["game", "hand", "goal", "part", "free", "left", "come", "layers", "layer", "at", "further", "back"] ["game", "hand", "goal", "part"] (defScope s_pulled) := ⟨rfl, rfl, rfl, by decide +kernel, rfl, by decide +kernel, by decide +kernel⟩
/-- what the layers are -/
structure Lay (G : Gm) (LL : List (List Nat)) (d : Nat → Option Nat) : Prop where
  dep : ∀ x k, d x = some k ↔ ∃ l, LL[k]? = some l ∧ x ∈ l
  nd : ∀ l, l ∈ LL → l.Nodup
  lt : ∀ l, l ∈ LL → ∀ x, x ∈ l → x < G.length
  few : LL.length + ((List.range G.length).filter fun x => decide (d x = none)).length ≤ G.length
theorem Lay.nil (G : Gm) : Lay G [] (fun _ => none) := by
  refine ⟨by simp, by simp, by simp, ?_⟩
  have := List.length_filter_le (fun x : Nat => decide ((none : Option Nat) = none)) (List.range G.length)
  rw [List.length_range] at this
  simpa using this
theorem filter_lt {d e : Nat → Option Nat} {x : Nat} : ∀ {l : List Nat}, x ∈ l → d x = none → e x ≠ none → (∀ y, e y = none → d y = none) →
    (l.filter fun y => decide (e y = none)).length < (l.filter fun y => decide (d y = none)).length
  | [], h, _, _, _ => by cases h
  | y :: l, h, h1, h2, h3 => by
    have hle : ∀ l : List Nat, (l.filter fun y => decide (e y = none)).length ≤ (l.filter fun y => decide (d y = none)).length := by
      intro l
      induction l with
      | nil => exact Nat.le_refl _
      | cons z l ih =>
        simp only [List.filter_cons]
        by_cases hz : e z = none
        · simp [hz, h3 z hz, ih]
        · by_cases hd : d z = none
          · simp [hz, hd]; omega
          · simp [hz, hd, ih]
    simp only [List.filter_cons]
    rcases List.mem_cons.mp h with rfl | hm
    · have := hle l
      simp [h1, h2]; omega
    · have ih := filter_lt hm h1 h2 h3
      by_cases hz : e y = none
      · simp [hz, h3 y hz, ih]
      · by_cases hd : d y = none
        · simp [hz, hd]; omega
        · simp [hz, hd, ih]
theorem Lay.snoc {G : Gm} {LL : List (List Nat)} {d : Nat → Option Nat} {layer : List Nat} (L : Lay G LL d) (nl : layer.Nodup) (hlt : ∀ x, x ∈ layer → x < G.length ∧ d x = none) (hne : layer ≠ []) :
    Lay G (LL ++ [layer]) (fun x => if x ∈ layer then some LL.length else d x) ∧
      ((List.range G.length).filter fun x => decide ((if x ∈ layer then some LL.length else d x) = none)).length < ((List.range G.length).filter fun x => decide (d x = none)).length := by
  have hf : ((List.range G.length).filter fun x => decide ((if x ∈ layer then some LL.length else d x) = none)).length < ((List.range G.length).filter fun x => decide (d x = none)).length := by
    obtain ⟨x, l, rfl⟩ : ∃ x l, layer = x :: l := by cases layer with
      | nil => exact absurd rfl hne
      | cons x l => exact ⟨x, l, rfl⟩
    have hx := hlt x (by simp)
    exact filter_lt (d := d) (e := fun y => if y ∈ x :: l then some LL.length else d y) (List.mem_range.mpr hx.1) hx.2 (by simp) fun y hy => by
      by_cases h : y ∈ x :: l
      · simp only [if_pos h] at hy; cases hy
      · simp only [if_neg h] at hy; exact hy
  refine ⟨⟨fun x k => ?_, fun l hl => ?_, fun l hl => ?_, ?_⟩, hf⟩
  · by_cases hx : x ∈ layer
    · simp only [if_pos hx, Option.some.injEq]
      constructor
      · rintro rfl
        exact ⟨layer, by simp, hx⟩
      · rintro ⟨l, h1, h2⟩
        rcases Nat.lt_or_ge k LL.length with hk | hk
        · rw [List.getElem?_append_left hk] at h1
          have := (L.dep x k).2 ⟨l, h1, h2⟩
          rw [(hlt x hx).2] at this
          cases this
        · rw [List.getElem?_append_right hk] at h1
          have := get_lt h1
          simp at this
          omega
    · simp only [if_neg hx]
      rw [L.dep x k]
      constructor
      · rintro ⟨l, h1, h2⟩
        exact ⟨l, by rw [List.getElem?_append_left (get_lt h1)]; exact h1, h2⟩
      · rintro ⟨l, h1, h2⟩
        rcases Nat.lt_or_ge k LL.length with hk | hk
        · rw [List.getElem?_append_left hk] at h1
          exact ⟨l, h1, h2⟩
        · rw [List.getElem?_append_right hk] at h1
          have hz := get_lt h1
          simp at hz
          have e0 : k - LL.length = 0 := by omega
          rw [e0] at h1
          simp at h1
          subst h1
          exact absurd h2 hx
  · rcases List.mem_append.mp hl with h | h
    · exact L.nd l h
    · rw [List.mem_singleton.mp h]; exact nl
  · rcases List.mem_append.mp hl with h | h
    · exact L.lt l h
    · rw [List.mem_singleton.mp h]; exact fun x hx => (hlt x hx).1
  · have := L.few
    rw [List.length_append]
    simp only [List.length_singleton]
    omega
def frF (G : Gm) (part : List Nat) (d : Nat → Option Nat) (done : List Nat) : List Bool := (List.range G.length).map fun x => decide (x ∈ part ∧ d x = none ∧ x ∉ done)
def lfF (G : Gm) (part : List Nat) (d : Nat → Option Nat) : List Int := (List.range G.length).map fun b => ((leftOf G part d b : Nat) : Int)
theorem frF_get {G : Gm} {part done : List Nat} {d : Nat → Option Nat} {i : Nat} (h : i < G.length) : (frF G part d done)[i]? = some (decide (i ∈ part ∧ d i = none ∧ i ∉ done)) := get_map (range_get h)
theorem lfF_get {G : Gm} {part : List Nat} {d : Nat → Option Nat} {i : Nat} (h : i < G.length) : (lfF G part d)[i]? = some ((leftOf G part d i : Nat) : Int) := get_map (range_get h)
theorem lfF_getD {G : Gm} {part : List Nat} {d : Nat → Option Nat} {i : Nat} (h : i < G.length) : (lfF G part d).getD i 0 = ((leftOf G part d i : Nat) : Int) := by rw [List.getD_eq_getElem?_getD, lfF_get h]; rfl
theorem frF_set {G : Gm} {part done : List Nat} {d : Nat → Option Nat} {u : Nat} : ((frF G part d done).map V.bl).set u (V.bl false) = (frF G part d (done ++ [u])).map V.bl := by
  refine List.ext_getElem? fun i => ?_
  rw [List.getElem?_set]
  have hl : ((frF G part d done).map V.bl).length = G.length := by simp [frF]
  rw [hl]
  by_cases hi : i < G.length
  · rw [get_map (frF_get hi), get_map (frF_get hi)]
    by_cases e : u = i
    · subst e; simp [hi]
    · simp [e, Ne.symm e]
  · rw [List.getElem?_eq_none (show ((frF G part d (done ++ [u])).map V.bl).length ≤ i by simp [frF]; omega), List.getElem?_eq_none (by omega)]
    by_cases e : u = i
    · subst e; simp [hi]
    · simp [e]
theorem marks_fr (G : Gm) (part : List Nat) : marksM G.length part = frF G part (fun _ => none) [] := by simp [marksM, frF]
theorem open_lf {G : Gm} (O : GmOk G) (part : List Nat) : openM G (marksM G.length part) = lfF G part (fun _ => none) := by
  unfold openM lfF leftOf
  refine List.map_congr_left fun i hi => ?_
  have hil := List.mem_range.mp hi
  congr 2
  refine List.filter_congr fun x hx => ?_
  rw [List.getD_eq_getElem?_getD, marksM_get (O.wy hil x hx)]
  simp
theorem fr_next {G : Gm} {part layer : List Nat} {d : Nat → Option Nat} {k : Nat} : frF G part d layer = frF G part (fun x => if x ∈ layer then some k else d x) [] := by
  unfold frF
  refine List.map_congr_left fun x _ => ?_
  by_cases h : x ∈ layer <;> simp [h]
theorem fr_getD {G : Gm} {part layer : List Nat} {d : Nat → Option Nat} {i : Nat} (h : i < G.length) : (frF G part d layer).getD i false = decide (i ∈ part ∧ d i = none ∧ i ∉ layer) := by rw [List.getD_eq_getElem?_getD, frF_get h]; rfl
theorem lf_next {G : Gm} (O : GmOk G) {part layer : List Nat} {d : Nat → Option Nat} {k : Nat} {own free : Nat → Bool} {LF : List Int} {FU : List Nat} (I : FI own free (lfF G part d) (layer.flatMap (comeTo G)) LF FU) (nl : layer.Nodup) (hl : ∀ x, x ∈ layer → x ∈ part ∧ d x = none) :
    LF = lfF G part (fun x => if x ∈ layer then some k else d x) := by
  have hlen : LF.length = G.length := by rw [I.len]; simp [lfF]
  refine List.ext_getElem? fun i => ?_
  by_cases hi : i < G.length
  · have h1 := I.val i
    rw [lfF_getD hi, leftOf_layer (K := k) hi (O.wnd i) nl hl] at h1
    rw [lfF_get hi]
    have h2 : LF[i]? = some (LF.getD i 0) := by rw [List.getD_eq_getElem?_getD, List.getElem?_eq_getElem (by omega)]; rfl
    rw [h2, h1]
    congr 1
    omega
  · rw [List.getElem?_eq_none (by omega), List.getElem?_eq_none (by simp [lfF]; omega)]
section
variable {P : Program} {w : World} {K : PySem.W.Frag} {mg : Str → Option Value} {base : Heap}
def spPulled (K : PySem.W.Frag) : Sp := fun vs H Q _ => ∃ g G h ga goal pa part, vs = [.ref g, .int h, .ref ga, .ref pa] ∧ GmAt K H g G ∧ GmOk G ∧ SqL K H ga (goal.map nV) ∧ (∀ x, x ∈ goal → x < G.length) ∧ goal.length ≤ 63 ∧
  SqL K H pa (part.map nV) ∧ (∀ x, x ∈ part → x < G.length) ∧ ∀ p H' LL d, Same H H' → LLH H' p LL → Lay G LL d → Pull G h part goal d → Q (.ref p) H'
theorem ok_pulled {f : Addr} {fd : FuncData} {dvs : List V} (F : FunD K "pulled" "pulled" (defArgs s_pulled) (defBody s_pulled) (defScope s_pulled) dvs [] f fd) (T : Gs mg)
    (D_marks_of : DefOk P w K mg base "marks_of" 1 ["game", "some"] (spMarksOf K)) (D_open_ways : DefOk P w K mg base "open_ways" 1 ["game", "inside"] (spOpenWays K)) (D_ways_in : DefOk P w K mg base "ways_in" 1 ["game"] (spWaysIn K)) :
    FnOk P w K mg base CX0 2 f fd ["game", "hand", "goal", "part"] (spPulled K) := by
  refine F.ok sc_pulled (fun vs H Q E h => ?_) (fun cdv A outer s H vs Q E hr h => ?_)
  · obtain ⟨g, G, h, ga, goal, pa, part, rfl, _⟩ := h
    rfl
  obtain ⟨g, G, hd, ga, goal, pa, part, rfl, A, O, hg, hgl, hgn, hp, hpl, q⟩ := h
  have hu := hu_of hr
  refine ⟨_, PSs.nox (      (pss_cons (ps_set (i := 4) sc_pulled.nd rfl (Or.inr rfl) (pe_cd D_marks_of (hr.mono (by omega)) (by rfl) (pa_cons (pv 0) (pa_cons (pv 3) pa_nil))))
      (pss_cons (ps_set (i := 5) sc_pulled.nd rfl (Or.inl rfl) (pe_cd D_open_ways (hr.mono (by omega)) (by rfl) (pa_cons (pv 0) (pa_cons (pv 4) pa_nil))))
      (pss_cons (ps_set (i := 6) sc_pulled.nd rfl (Or.inl rfl) (pe_cd D_ways_in (hr.mono (by omega)) (by rfl) (pa_cons (pv 0) pa_nil)))
      (pss_cons (ps_set (i := 7) sc_pulled.nd rfl (Or.inl rfl) (pe_lst pa_nil))
      (pss_cons (ps_set (i := 8) sc_pulled.nd rfl (Or.inl rfl) (pe_callB (cr_sortedSet rfl) (by rfl) T.nsorted (by decide +kernel) (pa_cons (pe_callTy (cr_setI rfl) (by rfl) T.nset (by decide +kernel) (pa_cons (pe_lc (own := [("at", 9)]) (g := gName 9) rfl sc_pulled.nd (pi_list (pv 2)) (blkOk_by (N := ["game", "hand", "goal", "part", "free", "left", "come", "layers", "layer", "at", "further", "back"]) (sc := defScope s_pulled) (by decide +kernel)) (fun _ _ _ _ _ => pg_name (i := 9) sc_pulled.nd rfl (Or.inl rfl)) (fun _ _ _ _ _ => (pts_one (pt_val (pe_ix (ixL (K := K)) (pv 4) (pv 9) (fun _ _ => rfl))))) (fun _ _ _ _ _ => (pv 9))) pa_nil)) pa_nil)))
      (pss_cons (ps_while PassesOwn.never (pt_cmpR (op_neD hr.units) (pv 8) (pe_lst pa_nil) (nomark _)) 
        (pss_cons (ps_expr (pe_bm PySem.F.plainAttrs_list PySem.F.slot_list_append PySem.F.type_list_append mt_append (pv 7) (pa_cons (pv 8) pa_nil)))
        (pss_cons (ps_for PassesOwn.never rfl (pi_list (pv 8)) (pg_name (i := 9) sc_pulled.nd rfl (Or.inl rfl)) 
          (pss_one (ps_asg pe_bl (pg_sub (pv 4) (pv 9) set_list))))
        (pss_cons (ps_set (i := 10) sc_pulled.nd rfl (Or.inl rfl) (pe_lst pa_nil))
        (pss_cons (ps_for PassesOwn.never rfl (pi_list (pv 8)) (pg_name (i := 9) sc_pulled.nd rfl (Or.inl rfl)) 
          (pss_one (ps_for PassesOwn.never rfl (pi_list (pe_ix ix_list (pv 6) (pv 9) (fun _ _ => rfl))) (pg_name (i := 11) sc_pulled.nd rfl (Or.inl rfl)) 
            (pss_cons (ps_asg (pe_op op_sub (pe_ix ix_list (pv 5) (pv 11) (fun _ _ => rfl)) pe_int) (pg_sub (pv 5) (pv 11) set_list))
            (pss_one (ps_if (PW.pt (pw_and (pt_val (pe_ix ix_list (pv 4) (pv 11) (fun _ _ => rfl))) (pw_and1 (PW.pt (pw_or (pt_cmpR op_eq (pe_ix ix_tup (pe_ix ix_list (pv 0) (pv 11) (fun _ _ => rfl)) pe_int (fun _ _ => rfl)) (pv 1) (nomark _)) (pw_or1 (pt_cmpR op_eq (pe_ix ix_list (pv 5) (pv 11) (fun _ _ => rfl)) pe_int (nomark _)))))))) 
              (pss_one (ps_expr (pe_bm PySem.F.plainAttrs_list PySem.F.slot_list_append PySem.F.type_list_append mt_append (pv 10) (pa_cons (pv 11) pa_nil)))) pss_nil))))))
        (pss_one (ps_set (i := 8) sc_pulled.nd rfl (Or.inl rfl) (pe_callB (cr_sortedSet rfl) (by rfl) T.nsorted (by decide +kernel) (pa_cons (pe_callTy (cr_setI rfl) (by rfl) T.nset (by decide +kernel) (pa_cons (pv 10) pa_nil)) pa_nil)))))))))
      (pss_one (ps_ret (pv 7)))))))))), ?_⟩
  -- free, left, come
  refine ⟨_, rfl, _, rfl, g, G, pa, part, rfl, A, O, hp, hpl, fun fr H1 s1 n1 e1 => ?_⟩
  refine ⟨_, rfl, _, rfl, g, G, fr, _, rfl, A.same s1, O, .inl (.inl e1), marksM_len _ _, fun lf H2 s2 n2 e2 => ?_⟩
  refine ⟨_, rfl, g, G, rfl, A.same (s1.trans s2), O, fun cm H3 s3 cn => ?_⟩
  have f2 : H2 fr = some (.lst ((marksM G.length part).map V.bl)) := s2 _ _ e1
  have f3 := s3 _ _ f2
  have l3 := s3 _ _ e2
  have nfl : fr ≠ lf := ne_of_none e1 n2
  -- layers = []
  refine ⟨by show 0 ≤ sizeLine; decide, fun ly nly => ?_⟩
  have nfy : fr ≠ ly := ne_of_none f3 nly
  have nly' : lf ≠ ly := ne_of_none l3 nly
  let Hb : Hp := hide (hide H3 fr) lf
  have sHb3 : Same Hb H3 := hide_le.trans hide_le
  have sH0 : Same H Hb := hide_of (hide_of (s1.trans (s2.trans s3)) n1) (s1.free n2)
  have bfr : Hb fr = none := hide_none hide_self
  have blf : Hb lf = none := hide_self
  have bly : Hb ly = none := hide_none (hide_none nly)
  have cmb : LLAt K Hb cm (waysIn G) := cn.at fun b o h1 h2 => by
    have hb1 : b ≠ fr := fun z => by rw [z, f2] at h1; cases h1
    have hb2 : b ≠ lf := fun z => by rw [z, e2] at h1; cases h1
    show hide (hide H3 fr) lf b = _
    rw [hide_ne hb2, hide_ne hb1]; exact h2
  have s4 : Same Hb (upd H3 ly (.lst [])) := sNew sHb3 nly
  -- layer = sorted(set([..]))
  have f4 : upd H3 ly (.lst []) fr = some (.lst ((marksM G.length part).map V.bl)) := by rw [upd_ne nfy]; exact f3
  refine ⟨_, rfl, ga, rfl, ⟨_, s4.seq (sH0.seq hg)⟩, fun L hL => ?_⟩
  refine lc_list (K := K) (a := ga) (xs := goal.map nV) (fun j H' => Same (upd H3 ly (.lst [])) H' ∧ H' L = some (.lst (((goal.take j).filter fun x => decide (x ∈ part)).map nV))) ⟨same_new hL, by rw [upd_same]; simp⟩ (fun j H' _ h => h.1.seq (s4.seq (sH0.seq hg))) ?_ ?_
  · rintro j x H5 hj ⟨s5, h5⟩
    obtain ⟨u, hu1, rfl⟩ := map_get hj
    have hul := hgl u (List.mem_of_getElem? hu1)
    refine ⟨rfl, _, rfl, _, rfl, rd_at (f := V.bl) (.inl (.inl (s5 _ _ f4))) (marksM_get hul) rfl rfl ⟨_, rfl, ?_⟩⟩
    rw [take_snoc hu1, List.filter_append]
    by_cases hc : u ∈ part
    · rw [decide_eq_true hc]
      refine iteT ⟨_, rfl, _, h5, ?_, sMut s5 hL, ?_⟩
      · rw [List.length_map]
        have l1 := List.length_filter_le (fun x => decide (x ∈ part)) (goal.take j)
        rw [List.length_take] at l1
        exact smallL (by omega)
      · rw [upd_same, List.filter_cons, decide_eq_true hc]
        simp
    · rw [decide_eq_false hc]
      refine iteF ⟨s5, ?_⟩
      rw [h5, List.filter_cons, decide_eq_false hc]
      simp
  rintro H5 ⟨s5, h5⟩
  rw [List.length_map, take_all, nVs] at h5
  refine ⟨L, _, rfl, .inl (.inl h5), ?_, fun S c nS hc => ?_⟩
  · have l1 := List.length_filter_le (fun x => decide (x ∈ part)) goal
    rw [List.length_map]
    show _ < 4096
    omega
  have hc64 : c < 64 := by
    have := hc ((List.range G.length).map fun n : Nat => (n : Int)) fun k hk => by
      obtain ⟨x, hx, rfl⟩ := List.mem_map.mp hk
      exact List.mem_map.mpr ⟨x, List.mem_range.mpr (hgl x (List.mem_filter.mp hx).1), rfl⟩
    rw [List.length_map, List.length_range] at this
    have := O.n
    omega
  refine ⟨S, _, c, rfl, upd_same, hc64, fun ns la srt hmem hlen hla => ?_⟩
  obtain ⟨layer, rfl⟩ := to_nats (ns := ns) fun k hk => by
    have := of_decide_eq_true ((hmem k).1 hk)
    obtain ⟨x, _, rfl⟩ := List.mem_map.mp this
    exact ⟨x, rfl⟩
  have lmem : ∀ x, x ∈ layer ↔ (x ∈ goal ∧ x ∈ part) := fun x => by
    rw [← cast_mem, hmem, decide_eq_true_eq, cast_mem, List.mem_filter, decide_eq_true_eq]
  have lnd : layer.Nodup := nodup_of_cast srt
  have s6 : Same (upd H3 ly (.lst [])) (upd (upd H5 S (SetO w S (fun j => decide (j ∈ List.map (fun n : Nat => (n : Int)) (goal.filter fun x => decide (x ∈ part)))) c)) la (.lst ((layer.map fun n : Nat => (n : Int)).map V.int))) := sNew (sNew s5 nS) hla
  -- while
  let Ht0 : Hp := hide (hide (hide (upd (upd H5 S (SetO w S (fun j => decide (j ∈ List.map (fun n : Nat => (n : Int)) (goal.filter fun x => decide (x ∈ part)))) c)) la (.lst ((layer.map fun n : Nat => (n : Int)).map V.int))) fr) lf) ly
  refine ⟨fun m σ H' => ∃ (LL : List (List Nat)) (layer : List Nat) (d : Nat → Option Nat) (las : List Addr) (la : Addr) (v9 v10 v11 : Option V) (Ht : Hp),
      σ = [some (.ref g), some (.int hd), some (.ref ga), some (.ref pa), some (.ref fr), some (.ref lf), some (.ref cm), some (.ref ly), some (.ref la), v9, v10, v11] ∧
      Same Hb Ht ∧ Same Ht H' ∧ Ht fr = none ∧ Ht lf = none ∧ Ht ly = none ∧ Ht la = some (.lst (layer.map nV)) ∧
      (las.length = LL.length ∧ ∀ (i : Nat) (l : List Nat), LL[i]? = some l → ∃ a, las[i]? = some a ∧ Ht a = some (.lst (l.map nV))) ∧
      H' fr = some (.lst ((frF G part d []).map V.bl)) ∧ H' lf = some (.lst ((lfF G part d).map V.int)) ∧ H' ly = some (.lst (las.map V.ref)) ∧
      PInv G hd part goal d layer LL.length ∧ Lay G LL d ∧ layer.Nodup ∧ m = ((List.range G.length).filter fun x => decide (d x = none)).length, ⟨((List.range G.length).filter fun x => decide ((fun _ : Nat => (none : Option Nat)) x = none)).length, [], layer, fun _ => none, [], la, none, none, none, Ht0, rfl, ?_⟩, ?_⟩
  · have gfr := s6 _ _ f4
    have l4 : upd H3 ly (.lst []) lf = some (.lst ((openM G (marksM G.length part)).map V.int)) := by rw [upd_ne nly']; exact l3
    have glf := s6 _ _ l4
    have gly := s6 ly _ upd_same
    have n0 : ∀ {b : Addr} {o : HO}, upd H3 ly (.lst []) b = some o → b ≠ la := fun e => ne_of_none (sNew s5 nS _ _ e) hla
    refine ⟨hide_of (hide_of (hide_of (s4.trans s6) bfr) blf) bly, hide_le.trans (hide_le.trans hide_le), hide_none (hide_none hide_self), hide_none hide_self, hide_self, ?_, ⟨rfl, fun i l h => by simp at h⟩, ?_, ?_, gly, PInv.start lmem, Lay.nil G, lnd, rfl⟩
    · show hide (hide (hide _ fr) lf) ly la = _
      rw [hide_ne (n0 upd_same).symm, hide_ne (n0 l4).symm, hide_ne (n0 f4).symm, upd_same, nVs]
    · exact gfr.trans (by rw [marks_fr])
    · exact glf.trans (by rw [open_lf O])
  rintro m σ H7 ⟨LL, layer, d, las, la, v9, v10, v11, Ht, rfl, sb, st, tfr, tlf, tly, tla, ⟨lasl, lasv⟩, ffr, flf, fly, PI, LY, lnd, rfl⟩
  have hln : layer.length ≤ 63 := by
    have := nodup_leN (B := List.range G.length) lnd fun x hx => List.mem_range.mpr (hpl x (PI.lay x hx).1)
    rw [List.length_range] at this
    exact Nat.le_trans this O.n
  -- while layer != []
  refine ⟨_, rfl, by show 0 ≤ sizeLine; decide, fun e0 ne0 => ?_⟩
  refine ⟨_, _, .lst (.inl (.inl (sNew st ne0 _ _ tla))) (dp_nats layer), .lst (.inl (.inl upd_same)) .nil, (sh_nats layer).ok (by decide), rfl, _, rfl, ?_⟩
  have st1 : Same Ht (upd H7 e0 (.lst [])) := sNew st ne0
  cases layer with
  | nil =>
    refine iteF ?_
    refine ⟨_, rfl, q ly _ LL d (sH0.trans (sb.trans st1)) ⟨las, sNew (Same.refl _) ne0 _ _ fly, lasl, fun i l hl => ?_⟩ LY PI.done⟩
    obtain ⟨a, h1, h2⟩ := lasv i l hl
    exact ⟨a, h1, st1 _ _ h2⟩
  | cons x0 lr =>
    refine iteT ?_
    generalize hlay : x0 :: lr = layer at *
    have hne : layer ≠ [] := by rw [← hlay]; simp
    have hLL : LL.length ≤ 63 := by have := LY.few; have := O.n; omega
    have g0 : Same H7 (upd H7 e0 (.lst [])) := same_new ne0
    have ffr0 := g0 _ _ ffr
    have flf0 := g0 _ _ flf
    have fly0 := g0 _ _ fly
    have nla : ∀ {b : Addr}, Ht b = none → la ≠ b := fun h => ne_of_none tla h
    refine ⟨fun σ' H' => ∃ m', m' < _ ∧ _, fun σ' H' h => h, ?_⟩
    -- layers.append(layer)
    refine ⟨_, rfl, .inl ⟨rfl, _, .inl (.inl fly0)⟩, _, rfl, ly, _, _, rfl, rfl, fly0, smallL (by rw [List.length_map]; omega), ?_⟩
    -- for at in layer: free[at] = False
    refine ⟨_, rfl, la, rfl, ⟨_, .inl (.inl (sMut st1 tly _ _ tla))⟩, ?_⟩
    refine for_list (K := K) (a := la) (xs := layer.map nV) (fun j σ H' => ∃ v9 v10 v11, σ = [some (.ref g), some (.int hd), some (.ref ga), some (.ref pa), some (.ref fr), some (.ref lf), some (.ref cm), some (.ref ly), some (.ref la), v9, v10, v11] ∧
      Same Ht H' ∧ H' fr = some (.lst ((frF G part d (layer.take j)).map V.bl)) ∧ H' lf = some (.lst ((lfF G part d).map V.int)) ∧ H' ly = some (.lst ((las ++ [la]).map V.ref))) ⟨_, _, _, rfl, sMut st1 tly, by rw [upd_ne nfy, List.take_zero]; exact ffr0, by rw [upd_ne nly']; exact flf0, by rw [upd_same, List.map_append]; rfl⟩ (fun j σ H' _ ⟨_, _, _, _, s, _⟩ => .inl (.inl (s _ _ tla))) ?_ ?_
    · rintro j x σ H8 hj ⟨v9, v10, v11, rfl, s8, e8, e8l, e8y⟩
      obtain ⟨u, hu1, rfl⟩ := map_get hj
      have hul := hpl u (PI.lay u (List.mem_of_getElem? hu1)).1
      refine ⟨_, rfl, _, rfl, fr, _, (u : Int), u, rfl, rfl, e8, ixN_nat (by simp [frF]; exact hul), _, _, _, rfl, sMut s8 tfr, ?_, ?_, ?_⟩
      · rw [upd_same, frF_set, take_snoc hu1]
      · rw [upd_ne nfl.symm]; exact e8l
      · rw [upd_ne nfy.symm]; exact e8y
    rintro σ H8 ⟨v9, v10, v11, rfl, s8, e8, e8l, e8y⟩
    rw [List.length_map, take_all] at e8
    -- further = []
    refine ⟨by show 0 ≤ sizeLine; decide, fun fu nfu => ?_⟩
    have ufr : fr ≠ fu := ne_of_none e8 nfu
    have ulf : lf ≠ fu := ne_of_none e8l nfu
    have uly : ly ≠ fu := ne_of_none e8y nfu
    have tfu : Ht fu = none := s8.free nfu
    have s9 : Same Ht (upd H8 fu (.lst [])) := sNew s8 nfu
    -- for at in layer: for back in come[at]
    refine ⟨_, rfl, la, rfl, ⟨_, .inl (.inl (s9 _ _ tla))⟩, ?_⟩
    refine for_list (K := K) (a := la) (xs := layer.map nV) (fun i σ H' => ∃ v9 v11 LF FU, σ = [some (.ref g), some (.int hd), some (.ref ga), some (.ref pa), some (.ref fr), some (.ref lf), some (.ref cm), some (.ref ly), some (.ref la), v9, some (.ref fu), v11] ∧
      Same Ht H' ∧ H' fr = some (.lst ((frF G part d layer).map V.bl)) ∧ H' lf = some (.lst (LF.map V.int)) ∧ H' ly = some (.lst ((las ++ [la]).map V.ref)) ∧ H' fu = some (.lst (FU.map nV)) ∧
      FI (fun b => decide (ow G b = hd)) (fun b => (frF G part d layer).getD b false) (lfF G part d) ((layer.take i).flatMap (comeTo G)) LF FU)
      ⟨_, _, _, [], rfl, s9, by rw [upd_ne ufr]; exact e8, by rw [upd_ne ulf]; exact e8l, by rw [upd_ne uly]; exact e8y, upd_same, by rw [List.take_zero]; exact FI.nil⟩ (fun j σ H' _ ⟨_, _, _, _, _, s, _⟩ => .inl (.inl (s _ _ tla))) ?_ ?_
    · rintro i x σ H10 hi ⟨v9, v11, LF, FU, rfl, s10, e10, e10l, e10y, e10u, I10⟩
      obtain ⟨u, hu1, rfl⟩ := map_get hi
      have hul := hpl u (PI.lay u (List.mem_of_getElem? hu1)).1
      have hcu : (waysIn G)[u]? = some (comeTo G u) := get_map (range_get hul)
      refine ⟨_, rfl, _, rfl, rd_LL cmb (sb.trans s10) hcu rfl rfl fun ca hca => ⟨ca, rfl, ⟨_, (sb.trans s10).seq hca⟩, ?_⟩⟩
      refine for_list (K := K) (a := ca) (xs := (comeTo G u).map nV) (fun j σ H' => ∃ v11 LF FU, σ = [some (.ref g), some (.int hd), some (.ref ga), some (.ref pa), some (.ref fr), some (.ref lf), some (.ref cm), some (.ref ly), some (.ref la), some (nV u), some (.ref fu), v11] ∧
        Same Ht H' ∧ H' fr = some (.lst ((frF G part d layer).map V.bl)) ∧ H' lf = some (.lst (LF.map V.int)) ∧ H' ly = some (.lst ((las ++ [la]).map V.ref)) ∧ H' fu = some (.lst (FU.map nV)) ∧
        FI (fun b => decide (ow G b = hd)) (fun b => (frF G part d layer).getD b false) (lfF G part d) ((layer.take i).flatMap (comeTo G) ++ (comeTo G u).take j) LF FU)
        ⟨_, LF, FU, rfl, s10, e10, e10l, e10y, e10u, by rw [List.take_zero, List.append_nil]; exact I10⟩ (fun j σ H' _ ⟨_, _, _, _, s, _⟩ => (sb.trans s).seq hca) ?_ ?_
      · rintro j x σ H11 hj ⟨v11, LF, FU, rfl, s11, e11, e11l, e11y, e11u, I11⟩
        obtain ⟨b, hb1, rfl⟩ := map_get hj
        have hbc := mem_comeTo.mp (List.mem_of_getElem? hb1)
        have hbl := hbc.1
        have lLF : LF.length = G.length := by rw [I11.len]; simp [lfF]
        have eP : (layer.take i).flatMap (comeTo G) ++ (comeTo G u).take (j + 1) = (layer.take i).flatMap (comeTo G) ++ (comeTo G u).take j ++ [b] := by rw [take_snoc hb1, List.append_assoc]
        have pre := eP ▸ pre_flat (f := comeTo G) hu1 (j + 1)
        have hcnt := count_le (d := d) hbl (O.wnd b) lnd PI.lay pre
        have J := I11.step (b := b) (by simp [lfF]; exact hbl) (by rw [lfF_getD hbl]; omega)
        rw [← eP] at J
        have hLF : LF[b]? = some (LF.getD b 0) := by rw [List.getD_eq_getElem?_getD, List.getElem?_eq_getElem (by omega)]; rfl
        -- left[back] = left[back] - 1
        refine ⟨_, rfl, _, rfl, rd_at (f := V.int) (.inl (.inl e11l)) hLF rfl rfl (t_c ⟨_, _, rfl, rfl, ?_⟩)⟩
        refine ⟨_, rfl, _, rfl, lf, _, (b : Int), b, rfl, rfl, e11l, ixN_nat (by rw [List.length_map]; omega), ?_⟩
        generalize hH12 : upd H11 lf (HO.lst ((LF.map V.int).set b (V.int (LF.getD b 0 - 1)))) = H12
        have s12 : Same Ht H12 := by rw [← hH12]; exact sMut s11 tlf
        have e12 : H12 fr = some (.lst ((frF G part d layer).map V.bl)) := by rw [← hH12, upd_ne nfl]; exact e11
        have e12l : H12 lf = some (.lst ((LF.set b (LF.getD b 0 - 1)).map V.int)) := by rw [← hH12, upd_same, List.map_set]
        have e12y : H12 ly = some (.lst ((las ++ [la]).map V.ref)) := by rw [← hH12, upd_ne nly'.symm]; exact e11y
        have e12u : H12 fu = some (.lst (FU.map nV)) := by rw [← hH12, upd_ne ulf.symm]; exact e11u
        have hLF2 : (LF.set b (LF.getD b 0 - 1))[b]? = some (LF.getD b 0 - 1) := List.getElem?_set_self (by omega)
        have hFU : FU.length ≤ 4000 := by
          have h1 := J.flen
          have h2 := pre.length_le
          rw [← eP] at h2
          have h3 := flat_len (G := G) layer
          have h4 : layer.length * G.length ≤ 63 * 63 := Nat.mul_le_mul hln O.n
          have h5 := I11.flen
          rw [eP, List.length_append] at h2
          omega
        rw [fr_getD hbl] at J
        -- if free[back] and (game[back][0] == hand or left[back] == 0)
        refine ⟨_, rfl, _, rfl, rd_at (f := V.bl) (.inl (.inl e12)) (frF_get hbl) rfl rfl ⟨_, rfl, ?_⟩⟩
        have no : ¬ (decide (b ∈ part ∧ d b = none ∧ b ∉ layer) = true ∧ (decide (ow G b = hd) = true ∨ LF.getD b 0 - 1 = 0)) → _ := fun hc => (by
          rw [if_neg hc] at J
          exact (⟨_, _, FU, rfl, s12, e12, e12l, e12y, e12u, J⟩ : ∃ v11 LF FU, [some (V.ref g), some (.int hd), some (.ref ga), some (.ref pa), some (.ref fr), some (.ref lf), some (.ref cm), some (.ref ly), some (.ref la), some (nV u), some (.ref fu), some (nV b)] =
            [some (V.ref g), some (.int hd), some (.ref ga), some (.ref pa), some (.ref fr), some (.ref lf), some (.ref cm), some (.ref ly), some (.ref la), some (nV u), some (.ref fu), v11] ∧ Same Ht H12 ∧ H12 fr = some (.lst ((frF G part d layer).map V.bl)) ∧ H12 lf = some (.lst (LF.map V.int)) ∧ H12 ly = some (.lst ((las ++ [la]).map V.ref)) ∧ H12 fu = some (.lst (FU.map nV)) ∧
            FI (fun b => decide (ow G b = hd)) (fun b => (frF G part d layer).getD b false) (lfF G part d) ((layer.take i).flatMap (comeTo G) ++ (comeTo G u).take (j + 1)) LF FU))
        have yes : (decide (b ∈ part ∧ d b = none ∧ b ∉ layer) = true ∧ (decide (ow G b = hd) = true ∨ LF.getD b 0 - 1 = 0)) → _ := fun hc => (by
          rw [if_pos hc] at J
          exact (⟨_, _, FU ++ [b], rfl, sMut s12 tfu, by rw [upd_ne ufr]; exact e12, by rw [upd_ne ulf]; exact e12l, by rw [upd_ne uly]; exact e12y, by rw [upd_same, List.map_append]; rfl, J⟩ : ∃ v11 LF FU', [some (V.ref g), some (.int hd), some (.ref ga), some (.ref pa), some (.ref fr), some (.ref lf), some (.ref cm), some (.ref ly), some (.ref la), some (nV u), some (.ref fu), some (nV b)] =
            [some (V.ref g), some (.int hd), some (.ref ga), some (.ref pa), some (.ref fr), some (.ref lf), some (.ref cm), some (.ref ly), some (.ref la), some (nV u), some (.ref fu), v11] ∧ Same Ht (upd H12 fu (.lst (FU.map nV ++ [nV b]))) ∧ (upd H12 fu (.lst (FU.map nV ++ [nV b]))) fr = some (.lst ((frF G part d layer).map V.bl)) ∧ (upd H12 fu (.lst (FU.map nV ++ [nV b]))) lf = some (.lst (LF.map V.int)) ∧ (upd H12 fu (.lst (FU.map nV ++ [nV b]))) ly = some (.lst ((las ++ [la]).map V.ref)) ∧ (upd H12 fu (.lst (FU.map nV ++ [nV b]))) fu = some (.lst (FU'.map nV)) ∧
            FI (fun b => decide (ow G b = hd)) (fun b => (frF G part d layer).getD b false) (lfF G part d) ((layer.take i).flatMap (comeTo G) ++ (comeTo G u).take (j + 1)) LF FU'))
        by_cases hf : b ∈ part ∧ d b = none ∧ b ∉ layer
        · rw [decide_eq_true hf]
          refine iteT ?_
          refine ⟨_, rfl, _, rfl, rd_ow (A.same (sH0.trans (sb.trans s12))) hbl rfl rfl ⟨_, rfl, rfl, _, rfl, ?_⟩⟩
          rw [iV_dec]
          by_cases ho : ow G b = hd
          · rw [decide_eq_true ho]
            refine iteT (iteT ?_)
            exact ⟨_, rfl, .inl ⟨rfl, _, .inl (.inl e12u)⟩, _, rfl, fu, _, _, rfl, rfl, e12u, smallL (by rw [List.length_map]; omega), yes ⟨decide_eq_true hf, .inl (decide_eq_true ho)⟩⟩
          · rw [decide_eq_false ho]
            refine iteF ⟨_, rfl, _, rfl, rd_at (f := V.int) (.inl (.inl e12l)) hLF2 rfl rfl (t_c ⟨rfl, _, rfl, ?_⟩)⟩
            rw [iV_dec]
            by_cases hz : LF.getD b 0 - 1 = 0
            · rw [decide_eq_true hz]
              refine iteT ?_
              exact ⟨_, rfl, .inl ⟨rfl, _, .inl (.inl e12u)⟩, _, rfl, fu, _, _, rfl, rfl, e12u, smallL (by rw [List.length_map]; omega), yes ⟨decide_eq_true hf, .inr hz⟩⟩
            · rw [decide_eq_false hz]
              refine iteF ?_
              exact no fun ⟨_, z⟩ => z.elim (fun z => ho (of_decide_eq_true z)) hz
        · rw [decide_eq_false hf]
          refine iteF (iteF ?_)
          exact no fun ⟨z, _⟩ => hf (of_decide_eq_true z)
      · rintro σ H11 ⟨v11, LF, FU, rfl, s11, e11, e11l, e11y, e11u, I11⟩
        rw [List.length_map, take_all] at I11
        refine ⟨_, _, LF, FU, rfl, s11, e11, e11l, e11y, e11u, ?_⟩
        rw [take_snoc hu1, List.flatMap_append]
        simpa using I11
    rintro σ H10 ⟨v9, v11, LF, FU, rfl, s10, e10, e10l, e10y, e10u, I10⟩
    rw [List.length_map, take_all] at I10
    -- layer = sorted(set(further))
    have hmemF := fun x => next_mem (K := LL.length) I10 hpl O.wnd lnd PI.lay (h := hd) (fun b _ => decide_eq_true_iff) (fun b hb => by rw [fr_getD hb]; exact decide_eq_true_iff) (fun b hb => lfF_getD hb) x
    have hFU : FU.length ≤ 4000 := by
      have h2 := I10.flen
      have h3 := flat_len (G := G) layer
      have h4 : layer.length * G.length ≤ 63 * 63 := Nat.mul_le_mul hln O.n
      omega
    have eLF := lf_next (k := LL.length) O I10 lnd PI.lay
    rw [nVs] at e10u
    refine ⟨_, rfl, fu, _, rfl, .inl (.inl e10u), ?_, fun S c nS hc => ?_⟩
    · rw [List.length_map]
      show _ < 4096
      omega
    have hc64 : c < 64 := by
      have := hc ((List.range G.length).map fun n : Nat => (n : Int)) fun k hk => by
        obtain ⟨x, hx, rfl⟩ := List.mem_map.mp hk
        exact List.mem_map.mpr ⟨x, List.mem_range.mpr (hpl x ((hmemF x).1 hx).1), rfl⟩
      rw [List.length_map, List.length_range] at this
      have := O.n
      omega
    refine ⟨S, _, c, rfl, upd_same, hc64, fun ns la' srt hmem _ hla' => ?_⟩
    obtain ⟨layer', rfl⟩ := to_nats (ns := ns) fun k hk => by
      have := of_decide_eq_true ((hmem k).1 hk)
      obtain ⟨x, _, rfl⟩ := List.mem_map.mp this
      exact ⟨x, rfl⟩
    have lmem' : ∀ x, x ∈ layer' ↔ x ∈ FU := fun x => by rw [← cast_mem, hmem, decide_eq_true_eq, cast_mem]
    obtain ⟨LY', hlt'⟩ := LY.snoc lnd (fun x hx => ⟨hpl x (PI.lay x hx).1, (PI.lay x hx).2⟩) hne
    have s13 : Same H10 (upd (upd H10 S (SetO w S (fun j => decide (j ∈ FU.map fun n : Nat => (n : Int))) c)) la' (.lst ((layer'.map fun n : Nat => (n : Int)).map V.int))) := sNew (sNew (Same.refl H10) nS) hla'
    have nn : ∀ {b : Addr} {o : HO}, H10 b = some o → b ≠ la' := fun e => ne_of_none (sNew (Same.refl H10) nS _ _ e) hla'
    refine ⟨_, hlt', LL ++ [layer], layer', fun x => if x ∈ layer then some LL.length else d x, las ++ [la], la', _, _, _, hide (hide (hide _ fr) lf) ly, rfl, sb.trans (hide_of (hide_of (hide_of (s10.trans s13) tfr) tlf) tly),
      hide_le.trans (hide_le.trans hide_le), hide_none (hide_none hide_self), hide_none hide_self, hide_self, ?_, ⟨by simp [lasl], fun i l hl => ?_⟩, ?_, ?_, s13 _ _ e10y, ?_, LY', nodup_of_cast srt, rfl⟩
    · rw [hide_ne (nn e10y).symm, hide_ne (nn e10l).symm, hide_ne (nn e10).symm, upd_same, nVs]
    · have hgo : ∀ {b : Addr} {o : HO}, Ht b = some o → hide (hide (hide (upd (upd H10 S (SetO w S (fun j => decide (j ∈ FU.map fun n : Nat => (n : Int))) c)) la' (.lst ((layer'.map fun n : Nat => (n : Int)).map V.int))) fr) lf) ly b = some o := fun e =>
        hide_of (hide_of (hide_of (s10.trans s13) tfr) tlf) tly _ _ e
      rcases Nat.lt_or_ge i LL.length with hi | hi
      · rw [List.getElem?_append_left hi] at hl
        obtain ⟨a, h1, h2⟩ := lasv i l hl
        exact ⟨a, by rw [List.getElem?_append_left (by omega)]; exact h1, hgo h2⟩
      · rw [List.getElem?_append_right hi] at hl
        have hz := get_lt hl
        simp at hz
        have e0 : i - LL.length = 0 := by omega
        rw [e0] at hl
        simp at hl
        subst hl
        refine ⟨la, ?_, hgo tla⟩
        rw [List.getElem?_append_right (by omega)]
        have : i - las.length = 0 := by omega
        rw [this]; rfl
    · exact (s13 _ _ e10).trans (by rw [fr_next])
    · exact (s13 _ _ e10l).trans (by rw [eLF])
    · rw [List.length_append]
      exact PI.turn fun x => by rw [lmem']; exact hmemF x
end
end Rg
/-! depths_of, pull_ways, pulled_list, heads_of -/
namespace Rg
open PySem L2
abbrev s_depths_of : Stmt := topS 9
theorem sc_depths_of : FnScope ["layers", "found", "k", "at"] ["layers"] (defScope s_depths_of) := ⟨rfl, rfl, rfl, by decide +kernel, rfl, by decide +kernel, by decide +kernel⟩
abbrev s_pull_ways : Stmt := topS 10
theorem sc_pull_ways : FnScope ["game", "hand", "goal", "part", "depths", "rule", "at", "place", "way"] ["game", "hand", "goal", "part"] (defScope s_pull_ways) := ⟨rfl, rfl, rfl, by decide +kernel, rfl, by decide +kernel, by decide +kernel⟩
abbrev s_pulled_list : Stmt := topS 12
theorem sc_pulled_list : FnScope ["game", "hand", "goal", "part", "some", "layer"] ["game", "hand", "goal", "part"] (defScope s_pulled_list) := ⟨rfl, rfl, rfl, by decide +kernel, rfl, by decide +kernel, by decide +kernel⟩
abbrev s_heads_of : Stmt := topS 13
theorem sc_heads_of : FnScope ["game", "top", "part", "place"] ["game", "top", "part"] (defScope s_heads_of) := ⟨rfl, rfl, rfl, by decide +kernel, rfl, by decide +kernel, by decide +kernel⟩
def kvsD (d : Nat → Option Nat) (ks : List Nat) : List (Key × V) := ks.map fun x : Nat => ((Sum.inl (x : Int) : Key), nV ((d x).getD 0))
theorem valV_kvsD {d : Nat → Option Nat} {x : Nat} : ∀ ks : List Nat, valV (kvsD d ks) (Sum.inl (x : Int)) = if x ∈ ks then some (nV ((d x).getD 0)) else none
  | [] => rfl
  | y :: ks => by
    show valV (((Sum.inl (y : Int) : Key), nV ((d y).getD 0)) :: kvsD d ks) (Sum.inl (x : Int)) = _
    by_cases e : y = x
    · subst e
      rw [valV_pos rfl]
      simp
    · rw [valV_neg (by simpa using fun z : (y : Int) = x => e (by omega)), valV_kvsD ks]
      simp [Ne.symm e]
structure DepAt (H : Hp) (p : Addr) (n : Nat) (d : Nat → Option Nat) : Prop where
  ex : ∃ ks : List Nat, H p = some (.dK (kvsD d ks)) ∧ ks.Nodup ∧ (∀ x, x ∈ ks ↔ d x ≠ none) ∧ ks.length ≤ 63 ∧ ∀ x, x ∈ ks → x < n
section
variable {P : Program} {w : World} {K : PySem.W.Frag} {mg : Str → Option Value} {base : Heap}
def spDepthsOf (K : PySem.W.Frag) : Sp := fun vs H Q _ => ∃ p G LL d, vs = [.ref p] ∧ LLAt K H p LL ∧ GmOk G ∧ Lay G LL d ∧
  ∀ r H', Same H H' → H r = none → DepAt H' r G.length d → Q (.ref r) H'
/-- the places met so far are all unlike -/
theorem Lay.keys {G : Gm} {LL : List (List Nat)} {d : Nat → Option Nat} (L : Lay G LL d) {i j : Nat} {l : List Nat} (hi : LL[i]? = some l) : ((LL.take i).flatten ++ l.take j).Nodup := by
  have hflat : ∀ i, i ≤ LL.length → (LL.take i).flatten.Nodup := by
    intro i
    induction i with
    | zero => intro _; simp
    | succ i ih =>
      intro hl
      obtain ⟨m, hm⟩ := get_of_lt (xs := LL) (i := i) (by omega)
      rw [take_snoc hm, List.flatten_append, List.nodup_append]
      refine ⟨ih (by omega), by simpa using L.nd m (List.mem_of_getElem? hm), fun x hx y hy e => ?_⟩
      subst e
      have hy' : x ∈ m := by simpa using hy
      obtain ⟨t, ht, hxt⟩ := List.mem_flatten.mp hx
      obtain ⟨j, hj⟩ := List.getElem?_of_mem ht
      have hji := get_lt hj
      rw [List.length_take] at hji
      rw [List.getElem?_take] at hj
      split at hj
      · have e1 := (L.dep x j).2 ⟨t, hj, hxt⟩
        have e2 := (L.dep x i).2 ⟨m, hm, hy'⟩
        rw [e1] at e2
        have := Option.some.inj e2
        omega
      · cases hj
  have h1 := hflat (i + 1) (get_lt hi)
  rw [take_snoc hi, List.flatten_append] at h1
  refine h1.sublist ?_
  simp only [List.flatten_cons, List.flatten_nil, List.append_nil]
  exact List.Sublist.append_left (List.take_sublist _ _) _
theorem ok_depths_of {f : Addr} {fd : FuncData} (F : Fun K "depths_of" "depths_of" s_depths_of f fd) (T : Gs mg) : FnOk P w K mg base CX0 1 f fd ["layers"] (spDepthsOf K) := by
  refine F.ok sc_depths_of (fun vs H Q E h => ?_) (fun cdv A outer s H vs Q E hr h => ?_)
  · obtain ⟨p, G, LL, d, rfl, _⟩ := h
    rfl
  obtain ⟨p, G, LL, d, rfl, A, O, LY, q⟩ := h
  have hu := hu_of hr
  refine ⟨_,       (pss_cons (ps_set (i := 1) sc_depths_of.nd rfl (Or.inl rfl) pe_dnewK)
      (pss_cons (ps_for PassesOwn.never rfl (pi_range1 (by rfl) T.nrange (pa_cons (pe_callB call_len_seq (by rfl) T.nlen PySem.boot_len (pa_cons (pv 0) pa_nil)) pa_nil)) (pg_name (i := 2) sc_depths_of.nd rfl (Or.inl rfl)) 
        (pss_one (ps_for PassesOwn.never rfl (pi_list (pe_ix ix_list (pv 0) (pv 2) (fun _ _ => rfl))) (pg_name (i := 3) sc_depths_of.nd rfl (Or.inl rfl)) 
          (pss_one (ps_dput hu (pv 1) (pv 3) (pv 2) rfl)))))
      (pss_one (ps_ret (pv 1))))), ?_⟩
  have hLL : LL.length ≤ 63 := by have := LY.few; have := O.n; omega
  intro D hD
  have hall : ∀ {ks : List Nat}, ks.Nodup → (∀ x, x ∈ ks → ∃ l, l ∈ LL ∧ x ∈ l) → ks.length ≤ 63 := fun {ks} h1 h2 => by
    have := nodup_leN (B := List.range G.length) h1 fun x hx => by
      obtain ⟨l, h3, h4⟩ := h2 x hx
      exact List.mem_range.mpr (LY.lt l h3 x h4)
    rw [List.length_range] at this
    exact Nat.le_trans this O.n
  obtain ⟨as, hs, hl, hv⟩ := id A.ex
  refine ⟨_, rfl, p, _, rfl, .inl ((same_new hD).seq hs), (LL.length : Int), by rw [List.length_map, hl], by omega, by omega, ?_⟩
  refine for_range (lo := 0) (n := ((LL.length : Nat) : Int).toNat) (fun i σ H' => ∃ v2 v3, σ = [some (.ref p), some (.ref D), v2, v3] ∧ Same H H' ∧ H' D = some (.dK (kvsD d (LL.take i).flatten))) ⟨_, _, rfl, same_new hD, by rw [upd_same]; simp [kvsD]⟩ ?_ ?_
  · rintro i σ H2 hi ⟨v2, v3, rfl, s2, h2⟩
    have hi' : i < LL.length := by omega
    have ei : (V.int (0 + (i : Int))) = nV i := by rw [Int.zero_add]
    rw [ei]
    obtain ⟨l, hl⟩ := get_of_lt hi'
    refine ⟨_, rfl, _, rfl, rd_LL A s2 hl rfl rfl fun a ha => ⟨a, rfl, ⟨_, s2.seq ha⟩, ?_⟩⟩
    refine for_list (K := K) (a := a) (xs := l.map nV) (fun j σ H' => ∃ v3, σ = [some (.ref p), some (.ref D), some (nV i), v3] ∧ Same H H' ∧ H' D = some (.dK (kvsD d ((LL.take i).flatten ++ l.take j)))) ⟨_, rfl, s2, by rw [List.take_zero, List.append_nil]; exact h2⟩ (fun j σ H' _ ⟨_, _, s, _⟩ => s.seq ha) ?_ ?_
    · rintro j x σ H3 hj ⟨v3, rfl, s3, h3⟩
      obtain ⟨u, hu1, rfl⟩ := map_get hj
      have hd := (LY.dep u i).2 ⟨l, hl, List.mem_of_getElem? hu1⟩
      have nd := LY.keys (j := j + 1) hl
      rw [take_snoc hu1, ← List.append_assoc] at nd
      have hnew : u ∉ (LL.take i).flatten ++ l.take j := fun z => (List.nodup_append.mp nd).2.2 u z u (by simp) rfl
      have hlen : ((LL.take i).flatten ++ l.take j).length ≤ 63 := hall (List.nodup_append.mp nd).1 fun x hx => by
        rcases List.mem_append.mp hx with hx | hx
        · obtain ⟨t, ht, hxt⟩ := List.mem_flatten.mp hx
          exact ⟨t, List.mem_of_mem_take ht, hxt⟩
        · exact ⟨l, List.mem_of_getElem? hl, List.mem_of_mem_take hx⟩
      refine ⟨_, rfl, _, rfl, _, rfl, D, _, rfl, DPut.k (k := Sum.inl (u : Int)) h3 (smallL (by simp only [kvsD, List.length_map]; omega)), _, rfl, sMut s3 hD, ?_⟩
      rw [upd_same, putK_new _ (by rw [valV_kvsD, if_neg hnew]), take_snoc hu1, ← List.append_assoc]
      simp [kvsD, hd]
    · rintro σ H3 ⟨v3, rfl, s3, h3⟩
      rw [List.length_map, take_all] at h3
      refine ⟨_, _, rfl, s3, ?_⟩
      rw [take_snoc hl, List.flatten_append]
      simpa using h3
  · rintro σ H2 ⟨v2, v3, rfl, s2, h2⟩
    have e : ((LL.length : Nat) : Int).toNat = LL.length := by omega
    rw [e, take_all] at h2
    have nd : LL.flatten.Nodup := by
      cases hz : LL.length with
      | zero => rw [List.length_eq_zero_iff.mp hz]; simp
      | succ n =>
        obtain ⟨l, hl⟩ := get_of_lt (xs := LL) (i := n) (by omega)
        have := LY.keys (j := l.length) hl
        rw [take_all] at this
        have e2 : LL = LL.take n ++ [l] := by rw [← take_snoc hl, List.take_of_length_le (by omega)]
        rw [e2, List.flatten_append]
        simpa using this
    refine ⟨_, rfl, q D H2 s2 hD ⟨LL.flatten, h2, nd, fun x => ?_, hall nd fun x hx => ?_, fun x hx => ?_⟩⟩
    · constructor
      · intro hx
        obtain ⟨t, ht, hxt⟩ := List.mem_flatten.mp hx
        obtain ⟨k, hk⟩ := List.getElem?_of_mem ht
        rw [(LY.dep x k).2 ⟨t, hk, hxt⟩]; simp
      · intro hx
        cases e : d x with
        | none => exact absurd e hx
        | some k =>
          obtain ⟨l, h3, h4⟩ := (LY.dep x k).1 e
          exact List.mem_flatten.mpr ⟨l, List.mem_of_getElem? h3, h4⟩
    · obtain ⟨t, ht, hxt⟩ := List.mem_flatten.mp hx
      exact ⟨t, ht, hxt⟩
    · obtain ⟨t, ht, hxt⟩ := List.mem_flatten.mp hx
      exact LY.lt t ht x hxt
/-! ### pulled_list -/
def spPulledList (K : PySem.W.Frag) : Sp := fun vs H Q _ => ∃ g G h ga goal pa part, vs = [.ref g, .int h, .ref ga, .ref pa] ∧ GmAt K H g G ∧ GmOk G ∧ SqL K H ga (goal.map nV) ∧ (∀ x, x ∈ goal → x < G.length) ∧ goal.length ≤ 63 ∧
  SqL K H pa (part.map nV) ∧ (∀ x, x ∈ part → x < G.length) ∧ ∀ p H' (L : List Nat) d, Same H H' → H p = none → H' p = some (.lst (L.map nV)) → L.Nodup → (∀ x, x ∈ L ↔ d x ≠ none) → Pull G h part goal d → Q (.ref p) H'
theorem ok_pulled_list {f : Addr} {fd : FuncData} (F : Fun K "pulled_list" "pulled_list" s_pulled_list f fd) (T : Gs mg) (D_pulled : DefOk P w K mg base "pulled" 2 ["game", "hand", "goal", "part"] (spPulled K)) :
    FnOk P w K mg base CX0 3 f fd ["game", "hand", "goal", "part"] (spPulledList K) := by
  refine F.ok sc_pulled_list (fun vs H Q E h => ?_) (fun cdv A outer s H vs Q E hr h => ?_)
  · obtain ⟨g, G, h, ga, goal, pa, part, rfl, _⟩ := h
    rfl
  obtain ⟨g, G, hd, ga, goal, pa, part, rfl, A, O, hg, hgl, hgn, hp, hpl, q⟩ := h
  have hu := hu_of hr
  refine ⟨_,       (pss_cons (ps_set (i := 4) sc_pulled_list.nd rfl (Or.inl rfl) (pe_lst pa_nil))
      (pss_cons (ps_for PassesOwn.never rfl (pi_list (pe_cd D_pulled (hr.mono (by omega)) (by rfl) (pa_cons (pv 0) (pa_cons (pv 1) (pa_cons (pv 2) (pa_cons (pv 3) pa_nil)))))) (pg_name (i := 5) sc_pulled_list.nd rfl (Or.inl rfl)) 
        (pss_one (ps_set (i := 4) sc_pulled_list.nd rfl (Or.inl rfl) (pe_op op_cat (pv 4) (pv 5)))))
      (pss_one (ps_ret (pe_callB cr_sortedI (by rfl) T.nsorted (by decide +kernel) (pa_cons (pv 4) pa_nil)))))), ?_⟩
  refine ⟨by show 0 ≤ sizeLine; decide, fun D0 hD0 => ?_⟩
  have s0 : Same H (upd H D0 (.lst [])) := same_new hD0
  refine ⟨_, rfl, _, rfl, _, rfl, _, rfl, g, G, hd, ga, goal, pa, part, rfl, A.same s0, O, s0.seq hg, hgl, hgn, s0.seq hp, hpl, fun ly H1 LL d s1 hLL LY PU => ?_⟩
  obtain ⟨as, hs0, hal, hv⟩ := id hLL.ex
  have hs : SqL K H1 ly (as.map V.ref) := .inl (.inl hs0)
  have nd : ∀ i, (LL.take i).flatten.Nodup := fun i => by
    rcases Nat.lt_or_ge i LL.length with hi | hi
    · obtain ⟨l, hl⟩ := get_of_lt hi
      have := LY.keys (j := 0) hl
      simpa using this
    · rw [List.take_of_length_le hi]
      cases hz : LL.length with
      | zero => rw [List.length_eq_zero_iff.mp hz]; simp
      | succ n =>
        obtain ⟨l, hl⟩ := get_of_lt (xs := LL) (i := n) (by omega)
        have := LY.keys (j := l.length) hl
        rw [take_all] at this
        have e2 : LL = LL.take n ++ [l] := by rw [← take_snoc hl, List.take_of_length_le (by omega)]
        rw [e2, List.flatten_append]
        simpa using this
  have hflt : ∀ x, x ∈ LL.flatten → x < G.length := fun x hx => by
    obtain ⟨t, ht, hxt⟩ := List.mem_flatten.mp hx
    exact LY.lt t ht x hxt
  have hlen : ∀ i, (LL.take i).flatten.length ≤ 63 := fun i => by
    have := nodup_leN (B := List.range G.length) (nd i) fun x hx => by
      obtain ⟨t, ht, hxt⟩ := List.mem_flatten.mp hx
      exact List.mem_range.mpr (LY.lt t (List.mem_of_mem_take ht) x hxt)
    rw [List.length_range] at this
    exact Nat.le_trans this O.n
  refine ⟨ly, rfl, ⟨_, hs⟩, ?_⟩
  refine for_list (K := K) (a := ly) (xs := as.map V.ref) (fun i σ H' => ∃ D v5, σ = [some (.ref g), some (.int hd), some (.ref ga), some (.ref pa), some (.ref D), v5] ∧ Same H1 H' ∧ H' D = some (.lst ((LL.take i).flatten.map nV)))
    ⟨D0, _, rfl, Same.refl _, by rw [s1 _ _ upd_same]; simp⟩ (fun i σ H' _ ⟨_, _, _, s, _⟩ => s.seq hs) ?_ ?_
  · rintro i x σ H2 hi ⟨D, v5, rfl, s2, h2⟩
    obtain ⟨a, ha, rfl⟩ := map_get hi
    obtain ⟨l, hl⟩ := get_of_lt (xs := LL) (i := i) (by have := get_lt ha; omega)
    obtain ⟨a', e1, e2⟩ := hv i l hl
    rw [ha] at e1
    cases e1
    have l1 := hlen i
    have l2 := hlen (i + 1)
    rw [take_snoc hl, List.flatten_append, List.length_append] at l2
    have l3 : l.length ≤ 63 := by simp at l2; omega
    refine ⟨_, rfl, _, rfl, D, a, _, _, rfl, rfl, h2, s2 _ _ e2, small (by rw [List.length_map, List.length_map]; omega), fun D' nD' => ?_⟩
    refine ⟨D', _, rfl, sNew s2 nD', ?_⟩
    rw [upd_same, take_snoc hl, List.flatten_append, List.map_append]
    simp
  · rintro σ H2 ⟨D, v5, rfl, s2, h2⟩
    rw [List.length_map, hal, take_all, nVs] at h2
    have hnd : LL.flatten.Nodup := by have := nd LL.length; rwa [take_all] at this
    refine ⟨_, rfl, D, _, rfl, .inl (.inl h2), fun ns p pm srt np => ?_⟩
    obtain ⟨L, rfl⟩ := to_nats (ns := ns) fun k hk => by
      have := pm.mem_iff.mp hk
      obtain ⟨x, _, rfl⟩ := List.mem_map.mp this
      exact ⟨x, rfl⟩
    have pm2 : L.Perm LL.flatten := perm_cast pm
    refine q p _ L d ((s0.trans s1).trans (sNew s2 np)) ((s0.trans (s1.trans s2)).free np) (by rw [upd_same, nVs]) (pm2.nodup_iff.mpr hnd) (fun x => ?_) PU
    rw [pm2.mem_iff]
    constructor
    · intro hx
      obtain ⟨t, ht, hxt⟩ := List.mem_flatten.mp hx
      obtain ⟨k, hk⟩ := List.getElem?_of_mem ht
      rw [(LY.dep x k).2 ⟨t, hk, hxt⟩]; simp
    · intro hx
      cases e : d x with
      | none => exact absurd e hx
      | some k =>
        obtain ⟨l, h3, h4⟩ := (LY.dep x k).1 e
        exact List.mem_flatten.mpr ⟨l, List.mem_of_getElem? h3, h4⟩
end
end Rg
/-! pull_ways, heads_of -/
namespace Rg
open PySem L2
section
variable {P : Program} {w : World} {K : PySem.W.Frag} {mg : Str → Option Value} {base : Heap}
def spPullWays (K : PySem.W.Frag) : Sp := fun vs H Q _ => ∃ g G h ga goal pa part, vs = [.ref g, .int h, .ref ga, .ref pa] ∧ GmAt K H g G ∧ GmOk G ∧ SqL K H ga (goal.map nV) ∧ (∀ x, x ∈ goal → x < G.length) ∧ goal.length ≤ 63 ∧
  SqL K H pa (part.map nV) ∧ (∀ x, x ∈ part → x < G.length) ∧ ∀ p H' (rl : List (Option Nat)) d, Same H H' → H p = none → H' p = some (.lst (rl.map oV)) → rl.length = G.length → Pull G h part goal d → RuleOf G h d (fun x => rl.getD x none) → Q (.ref p) H'
theorem ok_pull_ways {f : Addr} {fd : FuncData} {dvs : List V} (F : FunD K "pull_ways" "pull_ways" (defArgs s_pull_ways) (defBody s_pull_ways) (defScope s_pull_ways) dvs [] f fd) (T : Gs mg)
    (D_pulled : DefOk P w K mg base "pulled" 2 ["game", "hand", "goal", "part"] (spPulled K)) (D_depths_of : DefOk P w K mg base "depths_of" 1 ["layers"] (spDepthsOf K)) :
    FnOk P w K mg base CX0 3 f fd ["game", "hand", "goal", "part"] (spPullWays K) := by
  refine F.ok sc_pull_ways (fun vs H Q E h => ?_) (fun cdv A outer s H vs Q E hr h => ?_)
  · obtain ⟨g, G, h, ga, goal, pa, part, rfl, _⟩ := h
    rfl
  obtain ⟨g, G, hd, ga, goal, pa, part, rfl, A, O, hg, hgl, hgn, hp, hpl, q⟩ := h
  have hu := hu_of hr
  refine ⟨_, PSs.nox (      (pss_cons (ps_set (i := 4) sc_pull_ways.nd rfl (Or.inr rfl) (pe_cd D_depths_of (hr.mono (by omega)) (by rfl) (pa_cons (pe_cd D_pulled (hr.mono (by omega)) (by rfl) (pa_cons (pv 0) (pa_cons (pv 1) (pa_cons (pv 2) (pa_cons (pv 3) pa_nil))))) pa_nil)))
      (pss_cons (ps_setLc (i := 5) (own := [("place", 7)]) (g := gName 7) (tt := tYes) rfl sc_pull_ways.nd rfl rfl (sw_true rfl rfl rfl (by decide +kernel)) (pi_list (pv 0)) (blkOk_by (N := ["game", "hand", "goal", "part", "depths", "rule", "at", "place", "way"]) (sc := defScope s_pull_ways) (by decide +kernel)) (fun _ _ _ _ _ => pg_name (i := 7) sc_pull_ways.nd rfl (Or.inl rfl)) (fun _ _ _ _ _ => pts_nil) (fun _ _ _ _ _ => pe_non))
      (pss_cons (ps_lock (ps_for PassesOwn.never rfl (pi_keys (pv 4)) (pg_name (i := 6) sc_pull_ways.nd rfl (Or.inr rfl)) 
        (pss_one (ps_if (PW.pt (pw_and (pt_cmpR op_eq (pe_ix ix_tup (pe_ix ix_list (pv 0) (pv 6) (fun _ _ => rfl)) pe_int (fun _ _ => rfl)) (pv 1) (nomark _)) (pw_and1 (pt_cmpR op_gt (pe_dget hu (pv 4) (pv 6) (fun _ _ => rfl)) pe_int (nomark _))))) 
          (pss_one (ps_asg (pe_callB (cr_min rfl) (by rfl) T.nmin (by decide +kernel) (pa_cons (pe_lc (own := [("way", 8)]) (g := gName 8) rfl sc_pull_ways.nd (pi_list (pe_ix ix_tup (pe_ix ix_list (pv 0) (pv 6) (fun _ _ => rfl)) pe_int (fun _ _ => rfl))) (blkOk_by (N := ["game", "hand", "goal", "part", "depths", "rule", "at", "place", "way"]) (sc := defScope s_pull_ways) (by decide +kernel)) (fun _ _ _ _ _ => pg_name (i := 8) sc_pull_ways.nd rfl (Or.inl rfl)) (fun _ _ _ _ _ => (pts_one (pt_cmpR op_eq (pe_dget1 hu (pv 4) (pv 8) ⟨by rfl, by rfl, by rfl, by rfl⟩) (pe_op op_sub (pe_dget hu (pv 4) (pv 6) (fun _ _ => rfl)) pe_int) (nomark _)))) (fun _ _ _ _ _ => (pv 8))) pa_nil)) (pg_sub (pv 5) (pv 6) set_list))) pss_nil))))
      (pss_one (ps_ret (pv 5))))))), ?_⟩
  -- depths = depths_of(pulled(..))
  refine ⟨_, rfl, _, rfl, _, rfl, _, rfl, g, G, hd, ga, goal, pa, part, rfl, A, O, hg, hgl, hgn, hp, hpl, fun ly H1 LL d s1 hLL LY PU => ?_⟩
  refine ⟨ly, G, LL, d, rfl, hLL.at, O, LY, fun dd H2 s2 n2 ⟨ks, e2, knd, kmem, klen, klt⟩ => ?_⟩
  have s02 : Same H H2 := s1.trans s2
  have ndd : H dd = none := s1.free n2
  obtain ⟨rs, hrs, hlen, hrow⟩ := A.ex
  -- rule = [None for place in game]
  refine ⟨_, rfl, g, rfl, ⟨_, s02.seq hrs⟩, fun D hD => ?_⟩
  have nDd : dd ≠ D := ne_of_none e2 hD
  have ndD : H D = none := s02.free hD
  refine lc_list (K := K) (a := g) (xs := rs.map V.ref) (fun i H' => Same H2 H' ∧ H' D = some (.lst (List.replicate i V.non))) ⟨same_new hD, upd_same⟩ (fun i H' _ h => h.1.seq (s02.seq hrs)) ?_ ?_
  · rintro i x H' hi ⟨sm, h1⟩
    refine ⟨rfl, _, h1, smallL (by have := get_lt hi; rw [List.length_map] at this; have := O.n; rw [List.length_replicate]; omega), sMut sm hD, ?_⟩
    rw [upd_same, List.replicate_succ']
  rintro H3 ⟨s3, h3⟩
  rw [List.length_map, hlen] at h3
  have e3 := s3 _ _ e2
  have s03 := s02.trans s3
  -- for at in depths
  refine ⟨dd, _, e3, trivial, fun od => ?_⟩
  refine ⟨_, rfl, dd, od, rfl, .inl ⟨_, upd_same, ?_⟩⟩
  refine for_it walk_keys (fun j σ H' => ∃ v6 v7 v8 rl, σ = [some (.ref g), some (.int hd), some (.ref ga), some (.ref pa), some (.ref dd), some (.ref D), v6, v7, v8] ∧ Same H H' ∧ H' dd = some (.frz od (.dK (kvsD d ks))) ∧
    H' D = some (.lst ((rl : List (Option Nat)).map oV)) ∧ rl.length = G.length ∧ (∀ x k, x ∈ ks.take j → d x = some (k + 1) → ow G x = hd → ∃ u, rl.getD x none = some u ∧ u ∈ wy G x ∧ d u = some k) ∧ (∀ x, (x ∉ ks.take j ∨ d x = some 0 ∨ ow G x ≠ hd) → rl.getD x none = none))
    ⟨_, _, _, List.replicate G.length none, rfl, sMut s03 ndd, upd_same, ?_, by simp, fun x k hx => by simp at hx, fun x _ => ?_⟩ (fun j σ H' _ ⟨_, _, _, _, _, _, h, _⟩ => h) ?_ ?_
  · rw [upd_ne nDd.symm, h3, List.map_replicate]; rfl
  · rw [List.getD_eq_getElem?_getD, List.getElem?_replicate]
    split <;> rfl
  · rintro j x σ H4o H4 hj ⟨v6, w7, w8, rl, rfl, s4, e4, h4, hrl, hy, hn⟩ ⟨rfl, k, v, hk, rfl⟩
    obtain ⟨u, hu1, hpr⟩ := map_get hk
    have hku : k = Sum.inl (u : Int) := by cases hpr; rfl
    subst hku
    have hul := klt u (List.mem_of_getElem? hu1)
    have hdu : ∃ k, d u = some k := by
      cases e : d u with
      | none => exact absurd e ((kmem u).1 (List.mem_of_getElem? hu1))
      | some k => exact ⟨k, rfl⟩
    obtain ⟨k, hdk⟩ := hdu
    have tk : ks.take (j + 1) = ks.take j ++ [u] := take_snoc hu1
    have hnot : u ∉ ks.take j := by
      have h1 := knd.sublist (List.take_sublist (j + 1) ks)
      rw [tk, List.nodup_append] at h1
      exact fun z => h1.2.2 u z u (by simp) rfl
    have dget : ∀ {H' : Hp} (x : Nat), H' dd = some (.frz od (.dK (kvsD d ks))) → DGet H' dd (nV x) (if x ∈ ks then some (nV ((d x).getD 0)) else none) := fun x e => .inl ⟨_, Sum.inl (x : Int), .inr ⟨_, e⟩, rfl, (valV_kvsD ks).symm⟩
    have hmu : u ∈ ks := List.mem_of_getElem? hu1
    have dgu : ∀ {H' : Hp}, H' dd = some (.frz od (.dK (kvsD d ks))) → DGet H' dd (nV u) (some (nV k)) := fun e => by
      have := dget u e
      rw [if_pos hmu, hdk] at this
      exact this
    have no : (d u = some 0 ∨ ow G u ≠ hd) → ∃ v6 v7 v8 rl, [some (V.ref g), some (.int hd), some (.ref ga), some (.ref pa), some (.ref dd), some (.ref D), some (nV u), w7, w8] = [some (.ref g), some (.int hd), some (.ref ga), some (.ref pa), some (.ref dd), some (.ref D), v6, v7, v8] ∧ Same H H4 ∧ H4 dd = some (.frz od (.dK (kvsD d ks))) ∧
        H4 D = some (.lst ((rl : List (Option Nat)).map oV)) ∧ rl.length = G.length ∧ (∀ x k, x ∈ ks.take (j + 1) → d x = some (k + 1) → ow G x = hd → ∃ u, rl.getD x none = some u ∧ u ∈ wy G x ∧ d u = some k) ∧ (∀ x, (x ∉ ks.take (j + 1) ∨ d x = some 0 ∨ ow G x ≠ hd) → rl.getD x none = none) := fun hc => by
      refine ⟨_, w7, w8, rl, rfl, s4, e4, h4, hrl, fun x k' hx hxk ho => ?_, fun x hx => ?_⟩
      · rw [tk] at hx
        rcases List.mem_append.mp hx with hx | hx
        · exact hy x k' hx hxk ho
        · have : x = u := List.mem_singleton.mp hx
          subst this
          rcases hc with hc | hc
          · rw [hxk] at hc; simp at hc
          · exact absurd ho hc
      · refine hn x ?_
        rcases hx with hx | hx
        · exact .inl fun z => hx (by rw [tk]; exact List.mem_append_left _ z)
        · exact .inr hx
    refine ⟨_, rfl, _, rfl, rd_ow (A.same s4) hul rfl rfl ⟨_, rfl, rfl, _, rfl, ?_⟩⟩
    rw [iV_dec]
    by_cases ho : ow G u = hd
    · rw [decide_eq_true ho]
      refine iteT ?_
      refine ⟨_, rfl, _, rfl, dd, _, rfl, dgu e4, (k : Int), 0, rfl, rfl, _, rfl, ?_⟩
      by_cases hk0 : k = 0
      · subst hk0
        refine iteF ?_
        exact no (.inl hdk)
      · have hkp : decide ((0 : Int) < (k : Int)) = true := decide_eq_true (by omega)
        rw [hkp]
        refine iteT ?_
        obtain ⟨k', rfl⟩ : ∃ k', k = k' + 1 := ⟨k - 1, by omega⟩
        -- [way for way in game[at][2] if depths.get(way) == depths[at] - 1]
        refine ⟨_, rfl, _, rfl, rd_wy0 A s4 hul rfl rfl fun wa hwa => ⟨wa, rfl, ⟨_, s4.seq hwa⟩, fun L hL => ?_⟩⟩
        have hLD : D ≠ L := ne_of_none h4 hL
        have hLd : dd ≠ L := ne_of_none e4 hL
        refine lc_list (K := K) (a := wa) (xs := (wy G u).map nV) (fun i H' => Same H4 H' ∧ H' L = some (.lst ((((wy G u).take i).filter fun x => decide (d x = some k')).map nV))) ⟨same_new hL, by rw [upd_same]; simp⟩ (fun i H' _ h => h.1.seq (s4.seq hwa)) ?_ ?_
        · rintro i x H5 hi ⟨s5, h5⟩
          obtain ⟨z, hz1, rfl⟩ := map_get hi
          refine ⟨rfl, _, rfl, dd, rfl, .inl ⟨_, .inr ⟨_, s5 _ _ e4⟩⟩, _, rfl, _, dget z (s5 _ _ e4), ?_⟩
          refine ⟨_, rfl, _, rfl, dd, _, rfl, dgu (s5 _ _ e4), _, _, rfl, rfl, ?_⟩
          have hdec : scal ((if z ∈ ks then some (nV ((d z).getD 0)) else none : Option V).getD V.non) (V.int (((k' + 1 : Nat) : Int) - 1)) = true ∧ decide ((if z ∈ ks then some (nV ((d z).getD 0)) else none : Option V).getD V.non = V.int (((k' + 1 : Nat) : Int) - 1)) = decide (d z = some k') := by
            by_cases hzk : z ∈ ks
            · cases e : d z with
              | none => exact absurd e ((kmem z).1 hzk)
              | some m =>
                rw [if_pos hzk]
                refine ⟨rfl, ?_⟩
                show decide (V.int (m : Int) = V.int (((k' + 1 : Nat) : Int) - 1)) = _
                rw [iV_dec]
                by_cases hm : m = k'
                · subst hm; simp
                · rw [decide_eq_false (by omega), decide_eq_false (by simpa using hm)]
            · have e : d z = none := by
                cases e : d z with
                | none => rfl
                | some m => exact absurd ((kmem z).2 (by rw [e]; simp)) hzk
              rw [if_neg hzk, e]
              exact ⟨rfl, rfl⟩
          refine ⟨hdec.1, _, rfl, ?_⟩
          rw [hdec.2, take_snoc hz1, List.filter_append]
          by_cases hc : d z = some k'
          · rw [decide_eq_true hc]
            refine iteT ⟨_, rfl, _, h5, ?_, sMut s5 hL, ?_⟩
            · rw [List.length_map]
              have l1 := List.length_filter_le (fun x => decide (d x = some k')) ((wy G u).take i)
              have l2 := O.wlen u
              rw [List.length_take] at l1
              exact smallL (by omega)
            · rw [upd_same, List.filter_cons, decide_eq_true hc]
              simp
          · rw [decide_eq_false hc]
            refine iteF ⟨s5, ?_⟩
            rw [h5, List.filter_cons, decide_eq_false hc]
            simp
        rintro H5 ⟨s5, h5⟩
        rw [List.length_map, take_all, nVs] at h5
        obtain ⟨u0, hu0, hu0d⟩ := PU.own u k' hdk ho
        refine ⟨L, _, rfl, .inl (.inl h5), ?_, fun m hm hle => ?_⟩
        · rw [List.length_map]
          exact List.length_pos_of_mem (List.mem_filter.mpr ⟨hu0, decide_eq_true hu0d⟩)
        obtain ⟨mu, hmu2, rfl⟩ := List.mem_map.mp hm
        obtain ⟨hm1, hm2⟩ := List.mem_filter.mp hmu2
        have hm2 := of_decide_eq_true hm2
        refine ⟨_, rfl, _, rfl, D, _, (u : Int), u, rfl, rfl, s5 _ _ h4, ixN_nat (by rw [List.length_map]; omega), ?_⟩
        refine ⟨_, w7, w8, rl.set u (some mu), rfl, sMut (s4.trans s5) ndD, by rw [upd_ne nDd]; exact s5 _ _ e4, by rw [upd_same, List.map_set]; rfl, by simpa using hrl, fun x k'' hx hxk hox => ?_, fun x hx => ?_⟩
        · by_cases e : x = u
          · subst e
            rw [hdk] at hxk
            have : k' = k'' := by simpa using hxk
            subst this
            exact ⟨mu, by rw [List.getD_eq_getElem?_getD, List.getElem?_set_self (by omega)]; rfl, hm1, hm2⟩
          · rw [tk] at hx
            rcases List.mem_append.mp hx with hx | hx
            · obtain ⟨y, h6, h7⟩ := hy x k'' hx hxk hox
              exact ⟨y, by rw [List.getD_eq_getElem?_getD, List.getElem?_set_ne (Ne.symm e), ← List.getD_eq_getElem?_getD]; exact h6, h7⟩
            · exact absurd (List.mem_singleton.mp hx) e
        · have e : x ≠ u := by
            rintro rfl
            rcases hx with hx | hx | hx
            · exact hx (by rw [tk]; simp)
            · rw [hdk] at hx; simp at hx
            · exact hx ho
          rw [List.getD_eq_getElem?_getD, List.getElem?_set_ne (Ne.symm e), ← List.getD_eq_getElem?_getD]
          refine hn x ?_
          rcases hx with hx | hx
          · exact .inl fun z => hx (by rw [tk]; exact List.mem_append_left _ z)
          · exact .inr hx
    · rw [decide_eq_false ho]
      refine iteF (iteF ?_)
      exact no (.inr ho)
  · rintro σ H4 ⟨v6, v7, v8, rl, rfl, s4, e4, h4, hrl, hy, hn⟩
    have hkl : (kvsD d ks).length = ks.length := by simp [kvsD]
    rw [hkl, take_all] at hy hn
    refine ⟨e4, _, rfl, q D _ rl d (sMut s4 ndd) ndD (by rw [upd_ne nDd.symm]; exact h4) hrl PU ⟨fun x k hx ho => hy x k ((kmem x).2 (by rw [hx]; simp)) hx ho, fun x hx => hn x ?_⟩⟩
    rcases hx with hx | hx
    · exact .inl fun z => (kmem x).1 z hx
    · exact .inr hx
/-! ### heads_of -/
def spHeadsOf (K : PySem.W.Frag) : Sp := fun vs H Q _ => ∃ g G t pa, ∃ part : List Nat, vs = [.ref g, .int t, .ref pa] ∧ GmAt K H g G ∧ GmOk G ∧ SqL K H pa (part.map nV) ∧ (∀ x, x ∈ part → x < G.length) ∧ part.length ≤ 63 ∧
  ∀ p H', Same H H' → H p = none → H' p = some (.lst ((part.filter fun x => decide (rk G x = t)).map nV)) → Q (.ref p) H'
theorem ok_heads_of {f : Addr} {fd : FuncData} (F : Fun K "heads_of" "heads_of" s_heads_of f fd) (T : Gs mg) : FnOk P w K mg base CX0 1 f fd ["game", "top", "part"] (spHeadsOf K) := by
  refine F.ok sc_heads_of (fun vs H Q E h => ?_) (fun cdv A outer s H vs Q E hr h => ?_)
  · obtain ⟨g, G, t, pa, part, rfl, _⟩ := h
    rfl
  obtain ⟨g, G, t, pa, part, rfl, A, O, hp, hpl, hpn, q⟩ := h
  have hu := hu_of hr
  refine ⟨_,       (pss_one (ps_ret (pe_lc (own := [("place", 3)]) (g := gName 3) rfl sc_heads_of.nd (pi_list (pv 2)) (blkOk_by (N := ["game", "top", "part", "place"]) (sc := defScope s_heads_of) (by decide +kernel)) (fun _ _ _ _ _ => pg_name (i := 3) sc_heads_of.nd rfl (Or.inl rfl)) (fun _ _ _ _ _ => (pts_one (pt_cmpR op_eq (pe_ix (ixT (K := K)) (pe_ix (ixL (K := K)) (pv 0) (pv 3) (fun _ _ => rfl)) pe_int (fun _ _ => rfl)) (pv 1) (nomark _)))) (fun _ _ _ _ _ => (pv 3))))), ?_⟩
  refine ⟨_, rfl, pa, rfl, ⟨_, hp⟩, fun L hL => ?_⟩
  refine lc_list (K := K) (a := pa) (xs := part.map nV) (fun i H' => Same H H' ∧ H' L = some (.lst (((part.take i).filter fun x => decide (rk G x = t)).map nV))) ⟨same_new hL, by rw [upd_same]; simp⟩ (fun i H' _ h => h.1.seq hp) ?_ ?_
  · rintro i x H5 hi ⟨s5, h5⟩
    obtain ⟨z, hz1, rfl⟩ := map_get hi
    have hzl := hpl z (List.mem_of_getElem? hz1)
    refine ⟨rfl, _, rfl, _, rfl, rd_rk (A.same s5) hzl rfl rfl ⟨_, rfl, rfl, _, rfl, ?_⟩⟩
    rw [iV_dec, take_snoc hz1, List.filter_append]
    by_cases hc : rk G z = t
    · rw [decide_eq_true hc]
      refine iteT ⟨_, rfl, _, h5, ?_, sMut s5 hL, ?_⟩
      · rw [List.length_map]
        have l1 := List.length_filter_le (fun x => decide (rk G x = t)) (part.take i)
        rw [List.length_take] at l1
        exact smallL (by omega)
      · rw [upd_same, List.filter_cons, decide_eq_true hc]
        simp
    · rw [decide_eq_false hc]
      refine iteF ⟨s5, ?_⟩
      rw [h5, List.filter_cons, decide_eq_false hc]
      simp
  · rintro H5 ⟨s5, h5⟩
    rw [List.length_map, take_all] at h5
    exact q L H5 s5 hL h5
end
end Rg
/-! tables; lost_in, tell_cut, tell_rest -/
namespace Rg
open PySem L2
abbrev s_lost_in : Stmt := topS 15
theorem sc_lost_in : FnScope ["inner", "hand", "place"] ["inner", "hand"] (defScope s_lost_in) := ⟨rfl, rfl, rfl, by decide +kernel, rfl, by decide +kernel, by decide +kernel⟩
abbrev s_tell_cut : Stmt := topS 16
theorem sc_tell_cut : FnScope ["game", "hand", "inner", "lost", "part", "ways", "told", "place"] ["game", "hand", "inner", "lost", "part"] (defScope s_tell_cut) := ⟨rfl, rfl, rfl, by decide +kernel, rfl, by decide +kernel, by decide +kernel⟩
abbrev s_tell_rest : Stmt := topS 17
theorem sc_tell_rest : FnScope ["game", "top", "inner", "part", "hand", "ways", "told", "place", "way"] ["game", "top", "inner", "part"] (defScope s_tell_rest) := ⟨rfl, rfl, rfl, by decide +kernel, rfl, by decide +kernel, by decide +kernel⟩
def kvsT (kt : List (Nat × Addr)) : List (Key × V) := kt.map fun q : Nat × Addr => ((Sum.inl (q.1 : Int) : Key), V.ref q.2)
theorem kvsT_len (kt : List (Nat × Addr)) : (kvsT kt).length = kt.length := by simp [kvsT]
theorem kvsT_keys (kt : List (Nat × Addr)) : (kvsT kt).map (·.1) = (kt.map (·.1)).map fun n : Nat => (Sum.inl (n : Int) : Key) := by simp [kvsT, Function.comp_def]
theorem valV_kvsT_none {x : Nat} : ∀ {kt : List (Nat × Addr)}, x ∉ kt.map (·.1) → valV (kvsT kt) (Sum.inl (x : Int)) = none
  | [], _ => rfl
  | q :: kt, h => by
    show valV (((Sum.inl (q.1 : Int) : Key), V.ref q.2) :: kvsT kt) (Sum.inl (x : Int)) = _
    have h1 : ¬ q.1 = x := fun z => h (by simp [z])
    rw [valV_neg (by simpa using fun z : (q.1 : Int) = x => h1 (by omega))]
    exact valV_kvsT_none fun z => h (by rw [List.map_cons]; exact List.mem_cons_of_mem _ z)
theorem valV_kvsT {x : Nat} {t : Addr} : ∀ {kt : List (Nat × Addr)}, (kt.map (·.1)).Nodup → (x, t) ∈ kt → valV (kvsT kt) (Sum.inl (x : Int)) = some (.ref t)
  | [], _, h => by cases h
  | q :: kt, nd, h => by
    show valV (((Sum.inl (q.1 : Int) : Key), V.ref q.2) :: kvsT kt) (Sum.inl (x : Int)) = _
    rw [List.map_cons, List.nodup_cons] at nd
    rcases List.mem_cons.mp h with rfl | h
    · rw [valV_pos rfl]
    · have h1 : ¬ q.1 = x := fun z => nd.1 (by rw [z]; exact List.mem_map.mpr ⟨_, h, rfl⟩)
      rw [valV_neg (by simpa using fun z : (q.1 : Int) = x => h1 (by omega))]
      exact valV_kvsT nd.2 h
/-- a table that is made: its keys in their turn -/
structure TB (H : Hp) (D : Addr) (T : Tab) (keys : List Nat) : Prop where
  ex : ∃ kt : List (Nat × Addr), H D = some (.dK (kvsT kt)) ∧ kt.map (·.1) = keys ∧ ∀ (x : Nat) (t : Addr), (x, t) ∈ kt → ∃ a w, T x = some (a, w) ∧ H t = some (.tup [.int a, oV w])
theorem TB.nil {H : Hp} {D : Addr} {T : Tab} : TB (upd H D (.dK [])) D T [] := ⟨[], upd_same, rfl, fun x t h => by cases h⟩
theorem TB.same {H H' : Hp} {D : Addr} {T : Tab} {keys : List Nat} (B : TB H D T keys) (s : Same H H') : TB H' D T keys := by
  obtain ⟨kt, h1, h2, h3⟩ := B.ex
  refine ⟨kt, s _ _ h1, h2, fun x t h => ?_⟩
  obtain ⟨a, w, h4, h5⟩ := h3 x t h
  exact ⟨a, w, h4, s _ _ h5⟩
/-- another object is changed -/
theorem TB.else {H : Hp} {D q : Addr} {T : Tab} {keys : List Nat} {o : HO} (B : TB H D T keys) (hq : D ≠ q) (hn : ∀ xs, H q ≠ some (.tup xs)) : TB (upd H q o) D T keys := by
  obtain ⟨kt, h1, h2, h3⟩ := B.ex
  refine ⟨kt, by rw [upd_ne hq]; exact h1, h2, fun x t h => ?_⟩
  obtain ⟨a, w, h4, h5⟩ := h3 x t h
  exact ⟨a, w, h4, by rw [upd_ne fun z => hn _ (z ▸ h5)]; exact h5⟩
theorem TB.congr {H : Hp} {D : Addr} {T T' : Tab} {keys : List Nat} (B : TB H D T keys) (e : ∀ x, x ∈ keys → T' x = T x) : TB H D T' keys := by
  obtain ⟨kt, h1, h2, h3⟩ := B.ex
  refine ⟨kt, h1, h2, fun x t h => ?_⟩
  obtain ⟨a, w, h4, h5⟩ := h3 x t h
  exact ⟨a, w, by rw [e x (by rw [← h2]; exact List.mem_map.mpr ⟨_, h, rfl⟩)]; exact h4, h5⟩
theorem TB.put {H : Hp} {D t : Addr} {T : Tab} {keys : List Nat} {x : Nat} {a : Int} {w : Option Nat} (B : TB H D T keys) (hx : x ∉ keys) (hl : keys.length ≤ 63) (hT : T x = some (a, w)) (ht : H t = some (.tup [.int a, oV w])) :
    ∃ H', DPut H D (nV x) (.ref t) H' ∧ TB H' D T (keys ++ [x]) ∧ ∃ o, H' = upd H D o := by
  obtain ⟨kt, h1, h2, h3⟩ := B.ex
  have htD : ∀ {b : Addr} {xs : List V}, H b = some (.tup xs) → b ≠ D := fun e => ne_of e h1 (by intro z; cases z)
  refine ⟨_, DPut.k (k := Sum.inl (x : Int)) h1 (smallL (by rw [kvsT_len]; have := congrArg List.length h2; rw [List.length_map] at this; omega)), ⟨kt ++ [(x, t)], ?_, by rw [List.map_append, h2]; rfl, fun y u h => ?_⟩, _, rfl⟩
  · rw [upd_same, putK_new _ (valV_kvsT_none (by rw [h2]; exact hx))]
    simp [kvsT]
  · rcases List.mem_append.mp h with h | h
    · obtain ⟨a', w', h4, h5⟩ := h3 y u h
      exact ⟨a', w', h4, by rw [upd_ne (htD h5)]; exact h5⟩
    · have e := List.mem_singleton.mp h
      cases e
      exact ⟨a, w, hT, by rw [upd_ne (htD ht)]; exact ht⟩
structure TabAt (H : Hp) (p : Addr) (T : Tab) (n : Nat) : Prop where
  ex : ∃ keys, TB H p T keys ∧ keys.Nodup ∧ (∀ x, T x ≠ none → x ∈ keys) ∧ ∀ x, x ∈ keys → x < n
theorem TabAt.same {H H' : Hp} {p : Addr} {T : Tab} {n : Nat} (A : TabAt H p T n) (s : Same H H') : TabAt H' p T n := by
  obtain ⟨keys, h1, h2, h3, h4⟩ := A.ex
  exact ⟨keys, h1.same s, h2, h3, h4⟩
theorem TabAt.klen {keys : List Nat} {n : Nat} (hn : n ≤ 63) (nd : keys.Nodup) (h : ∀ x, x ∈ keys → x < n) : keys.length ≤ 63 := by
  have := nodup_leN (B := List.range n) nd fun x hx => List.mem_range.mpr (h x hx)
  rw [List.length_range] at this
  omega
/-- what the table says of a place -/
theorem TabAt.get {H : Hp} {p : Addr} {T : Tab} {n x : Nat} {a : Int} {w : Option Nat} (A : TabAt H p T n) (hT : T x = some (a, w)) : ∃ t, DGet H p (nV x) (some (.ref t)) ∧ H t = some (.tup [.int a, oV w]) := by
  obtain ⟨keys, ⟨kt, h1, h2, h3⟩, nd, h4, h5⟩ := A.ex
  have hx := h4 x (by rw [hT]; simp)
  rw [← h2] at hx nd
  obtain ⟨⟨y, t⟩, hm, e⟩ := List.mem_map.mp hx
  have e : y = x := e
  subst e
  obtain ⟨a', w', h6, h7⟩ := h3 y t hm
  rw [hT] at h6
  cases h6
  refine ⟨t, ?_, h7⟩
  have := DGet.k (k := Sum.inl (y : Int)) h1
  rw [valV_kvsT nd hm] at this
  exact this
theorem TabAt.no {H : Hp} {p : Addr} {T : Tab} {n x : Nat} (A : TabAt H p T n) (hT : T x = none) : DGet H p (nV x) none := by
  obtain ⟨keys, ⟨kt, h1, h2, h3⟩, nd, h4, h5⟩ := A.ex
  have := DGet.k (k := Sum.inl (x : Int)) h1
  rw [valV_kvsT_none fun z => by
    obtain ⟨⟨y, t⟩, hm, e⟩ := List.mem_map.mp z
    have e : y = x := e
    subst e
    obtain ⟨a', w', h6, _⟩ := h3 y t hm
    rw [hT] at h6
    cases h6] at this
  exact this
theorem TabAt.dk {H : Hp} {p : Addr} {T : Tab} {n : Nat} (A : TabAt H p T n) : ∃ kvs, H p = some (.dK kvs) := by
  obtain ⟨keys, ⟨kt, h1, _⟩, _⟩ := A.ex
  exact ⟨_, h1⟩
section
variable {P : Program} {w : World} {K : PySem.W.Frag} {mg : Str → Option Value} {base : Heap}
/-! ### lost_in -/
def spLostIn (K : PySem.W.Frag) : Sp := fun vs H Q _ => ∃ p h T n, vs = [.ref p, .int h] ∧ TabAt H p T n ∧ n ≤ 63 ∧
  ∀ r H' (L : List Nat), Same H H' → H r = none → H' r = some (.lst (L.map nV)) → (∀ x, x ∈ L ↔ ∃ a w, T x = some (a, w) ∧ a ≠ h) → L.length ≤ 63 → Q (.ref r) H'
theorem ok_lost_in {f : Addr} {fd : FuncData} (F : Fun K "lost_in" "lost_in" s_lost_in f fd) (T : Gs mg) : FnOk P w K mg base CX0 1 f fd ["inner", "hand"] (spLostIn K) := by
  refine F.ok sc_lost_in (fun vs H Q E h => ?_) (fun cdv A outer s H vs Q E hr h => ?_)
  · obtain ⟨p, h, T, n, rfl, _⟩ := h
    rfl
  obtain ⟨p, hd, TT, n, rfl, A, hn, q⟩ := h
  have hu := hu_of hr
  refine ⟨_,       (pss_one (ps_ret (pe_lc (own := [("place", 2)]) (g := gName 2) rfl sc_lost_in.nd (pi_list (pe_callB (call_sortedDI rfl) (by rfl) T.nsorted (by decide +kernel) (pa_cons (pv 0) pa_nil))) (blkOk_by (N := ["inner", "hand", "place"]) (sc := defScope s_lost_in) (by decide +kernel)) (fun _ _ _ _ _ => pg_name (i := 2) sc_lost_in.nd rfl (Or.inl rfl)) (fun _ _ _ _ _ => (pts_one (pt_cmpR op_ne (pe_ix (ixT (K := K)) (pe_dget hu (pv 0) (pv 2) (fun _ _ => rfl)) pe_int (fun _ _ => rfl)) (pv 1) (nomark _)))) (fun _ _ _ _ _ => (pv 2))))), ?_⟩
  obtain ⟨keys, ⟨kt, h1, h2, h3⟩, nd, h4, h5⟩ := id A.ex
  have hkl := TabAt.klen hn nd h5
  refine ⟨_, rfl, p, _, keys.map fun n : Nat => (n : Int), rfl, .inl h1, by rw [kvsT_keys, h2, List.map_map]; rfl, by rw [List.length_map]; omega, fun ys l pm _ hl => ?_⟩
  obtain ⟨ks, rfl⟩ := to_nats (ns := ys) fun k hk => by
    have := pm.mem_iff.mp hk
    obtain ⟨x, _, rfl⟩ := List.mem_map.mp this
    exact ⟨x, rfl⟩
  have pm2 : ks.Perm keys := perm_cast pm
  have s1 := same_new (o := HO.lst ((ks.map fun n : Nat => (n : Int)).map V.int)) hl
  refine ⟨l, rfl, ⟨_, .inl (.inl upd_same)⟩, fun D hD => ?_⟩
  refine lc_list (K := K) (a := l) (xs := (ks.map fun n : Nat => (n : Int)).map V.int) (fun i H' => Same (upd H l (HO.lst ((ks.map fun n : Nat => (n : Int)).map V.int))) H' ∧ H' D = some (.lst (((ks.take i).filter fun x => match TT x with | some (a, _) => decide (a ≠ hd) | none => false).map nV))) ⟨same_new hD, by rw [upd_same]; simp⟩ (fun i H' _ h => h.1.seq (.inl (.inl upd_same))) ?_ ?_
  · rintro i x H5 hi ⟨s5, h5⟩
    rw [← nVs] at hi
    obtain ⟨z, hz1, rfl⟩ := map_get hi
    have hzk : z ∈ keys := pm2.mem_iff.mp (List.mem_of_getElem? hz1)
    have hTz : ∃ a w, TT z = some (a, w) := by
      rw [← h2] at hzk
      obtain ⟨⟨y, t⟩, hm, e⟩ := List.mem_map.mp hzk
      have e : y = z := e
      subst e
      obtain ⟨a', w', h6, _⟩ := h3 y t hm
      exact ⟨a', w', h6⟩
    obtain ⟨a, w', hT⟩ := hTz
    obtain ⟨t, g1, g2⟩ := (A.same (s1.trans s5)).get hT
    refine ⟨rfl, _, rfl, _, rfl, p, _, rfl, g1, t_c ⟨t, _, 0, .int a, rfl, rfl, SqT.of g2, rfl, _, rfl, rfl, _, rfl, ?_⟩⟩
    rw [iV_dec, take_snoc hz1, List.filter_append]
    by_cases hc : a = hd
    · rw [decide_eq_true hc]
      refine iteF ⟨s5, ?_⟩
      rw [h5, List.filter_cons]
      simp [hT, hc]
    · rw [decide_eq_false hc]
      refine iteT ⟨_, rfl, _, h5, ?_, sMut s5 hD, ?_⟩
      · rw [List.length_map]
        have l1 := List.length_filter_le (fun x => match TT x with | some (a, _) => decide (a ≠ hd) | none => false) (ks.take i)
        have l2 := pm2.length_eq
        rw [List.length_take] at l1
        exact smallL (by omega)
      · rw [upd_same, List.filter_cons]
        simp [hT, hc]
  · rintro H5 ⟨s5, h5⟩
    rw [List.length_map, List.length_map, take_all] at h5
    refine q D H5 _ (s1.trans s5) (s1.free hD) h5 (fun x => ?_) ?_
    · rw [List.mem_filter, pm2.mem_iff]
      constructor
      · rintro ⟨_, hx⟩
        cases e : TT x with
        | none => rw [e] at hx; cases hx
        | some q => rw [e] at hx; exact ⟨q.1, q.2, rfl, of_decide_eq_true hx⟩
      · rintro ⟨a, w', hT, hne⟩
        refine ⟨h4 x (by rw [hT]; simp), ?_⟩
        rw [hT]
        exact decide_eq_true hne
    · have l1 := List.length_filter_le (fun x => match TT x with | some (a, _) => decide (a ≠ hd) | none => false) ks
      have l2 := pm2.length_eq
      omega
/-! ### tell_cut -/
def spTellCut (K : PySem.W.Frag) : Sp := fun vs H Q _ => ∃ g G h inn TI lo lost pa part, vs = [.ref g, .int h, .ref inn, .ref lo, .ref pa] ∧ GmAt K H g G ∧ GmOk G ∧ TabAt H inn TI G.length ∧ SqL K H lo ((lost : List Nat).map nV) ∧ (∀ x, x ∈ lost → x < G.length ∧ TI x ≠ none) ∧ lost.length ≤ 63 ∧
  SqL K H pa ((part : List Nat).map nV) ∧ (∀ x, x ∈ part → x < G.length) ∧ (∀ v, v ∈ part → ∃ w, w ∈ wy G v ∧ w ∈ part) ∧
  ∀ p H' d r (T2 : Tab), Same H H' → H p = none → Pull G h part lost d → RuleOf G h d r → (∀ x, T2 x = if d x = none then none else if x ∈ lost then TI x else some (h, r x)) → TabAt H' p T2 G.length → Q (.ref p) H'
theorem ok_tell_cut {f : Addr} {fd : FuncData} (F : Fun K "tell_cut" "tell_cut" s_tell_cut f fd) (T : Gs mg) (D_pulled_list : DefOk P w K mg base "pulled_list" 3 ["game", "hand", "goal", "part"] (spPulledList K)) (D_pull_ways : DefOk P w K mg base "pull_ways" 3 ["game", "hand", "goal", "part"] (spPullWays K)) :
    FnOk P w K mg base CX0 4 f fd ["game", "hand", "inner", "lost", "part"] (spTellCut K) := by
  refine F.ok sc_tell_cut (fun vs H Q E h => ?_) (fun cdv A outer s H vs Q E hr h => ?_)
  · obtain ⟨g, G, h, inn, TI, lo, lost, pa, part, rfl, _⟩ := h
    rfl
  obtain ⟨g, G, hd, inn, TI, lo, lost, pa, part, rfl, A, O, B, hlo, hll, hln, hp, hpl, tot, q⟩ := h
  have hu := hu_of hr
  refine ⟨_,       (pss_cons (ps_set (i := 5) sc_tell_cut.nd rfl (Or.inl rfl) (pe_cd D_pull_ways (hr.mono (by omega)) (by rfl) (pa_cons (pv 0) (pa_cons (pv 1) (pa_cons (pv 3) (pa_cons (pv 4) pa_nil))))))
      (pss_cons (ps_set (i := 6) sc_tell_cut.nd rfl (Or.inl rfl) pe_dnewK)
      (pss_cons (ps_for PassesOwn.never rfl (pi_list (pe_cd D_pulled_list (hr.mono (by omega)) (by rfl) (pa_cons (pv 0) (pa_cons (pv 1) (pa_cons (pv 3) (pa_cons (pv 4) pa_nil)))))) (pg_name (i := 7) sc_tell_cut.nd rfl (Or.inl rfl)) 
        (pss_one (ps_if (pt_cmpR op_in_seq (pv 7) (pv 3) (by rfl)) 
          (pss_one (ps_dput hu (pv 6) (pv 7) (pe_dget hu (pv 2) (pv 7) (fun _ _ => rfl)) rfl)) 
          (pss_one (ps_dput hu (pv 6) (pv 7) (pe_tup (pa_cons (pv 1) (pa_cons (pe_ix ix_list (pv 5) (pv 7) (fun _ _ => rfl)) pa_nil))) rfl)))))
      (pss_one (ps_ret (pv 6)))))), ?_⟩
  refine ⟨_, rfl, _, rfl, _, rfl, _, rfl, g, G, hd, lo, lost, pa, part, rfl, A, O, hlo, (fun x hx => (hll x hx).1), hln, hp, hpl, fun wl H1 rl d s1 n1 e1 hrl PU RU => ?_⟩
  intro D hD
  have s2 : Same H (upd H1 D (.dK [])) := sNew s1 hD
  have nD : H D = none := s1.free hD
  refine ⟨_, rfl, _, rfl, _, rfl, _, rfl, g, G, hd, lo, lost, pa, part, rfl, A.same s2, O, s2.seq hlo, (fun x hx => (hll x hx).1), hln, s2.seq hp, hpl, fun l H3 L d2 s3 n3 e3 nd hL PU2 => ?_⟩
  have hLd : ∀ x, x ∈ L ↔ d x ≠ none := fun x => by
    rw [hL x]
    exact not_congr (PU2.iff PU tot x)
  have hLn : L.length ≤ 63 := TabAt.klen O.n nd fun x hx => by
    cases e : d x with
    | none => exact absurd e ((hLd x).1 hx)
    | some k => exact hpl x (PU.sub x k e)
  have s03 : Same H H3 := s2.trans s3
  have e31 := s3 _ _ (same_new (o := HO.dK []) hD _ _ e1)
  have nlD : l ≠ D := fun z => by rw [z, upd_same] at n3; cases n3
  have nwD : wl ≠ D := ne_of_none e1 hD
  -- what is told
  generalize hT2 : (fun x => if d x = none then none else if x ∈ lost then TI x else some (hd, rl.getD x none) : Tab) = T2
  refine ⟨l, rfl, ⟨_, .inl (.inl e3)⟩, ?_⟩
  refine for_list (K := K) (a := l) (xs := L.map nV) (fun j σ H' => ∃ v7, σ = [some (.ref g), some (.int hd), some (.ref inn), some (.ref lo), some (.ref pa), some (.ref wl), some (.ref D), v7] ∧ Same H H' ∧ H' l = some (.lst (L.map nV)) ∧ H' wl = some (.lst (rl.map oV)) ∧ TB H' D T2 (L.take j))
    ⟨_, rfl, s03, e3, e31, TB.same TB.nil s3⟩ (fun j σ H' _ ⟨_, _, _, h, _⟩ => .inl (.inl h)) ?_ ?_
  · rintro j x σ H4 hj ⟨v7, rfl, s4, e4, e4w, B4⟩
    obtain ⟨u, hu1, rfl⟩ := map_get hj
    have huL := List.mem_of_getElem? hu1
    have hud := (hLd u).1 huL
    have hul : u < G.length := by
      cases e : d u with
      | none => exact absurd e hud
      | some k => exact hpl u (PU.sub u k e)
    have tk : L.take (j + 1) = L.take j ++ [u] := take_snoc hu1
    have hnot : u ∉ L.take j := by
      have h1 := nd.sublist (List.take_sublist (j + 1) L)
      rw [tk, List.nodup_append] at h1
      exact fun z => h1.2.2 u z u (by simp) rfl
    have hjl : (L.take j).length ≤ 63 := by rw [List.length_take]; omega
    refine ⟨_, rfl, _, rfl, lo, _, rfl, .inl (s4.seq hlo), rfl, flat_nV _, _, rfl, ?_⟩
    rw [show inV (nV u) (lost.map nV) = _ from inV_nV u lost]
    by_cases hc : u ∈ lost
    · rw [decide_eq_true hc]
      refine iteT ?_
      cases eT : TI u with
      | none => exact absurd eT (hll u hc).2
      | some aw =>
        obtain ⟨a, w'⟩ := aw
        obtain ⟨t, g1, g2⟩ := (B.same s4).get eT
        refine ⟨_, rfl, _, rfl, inn, _, rfl, g1, _, rfl, _, rfl, D, ?_⟩
        obtain ⟨H5, p5, B5, o5, rfl⟩ := B4.put hnot hjl (show T2 u = some (a, w') by rw [← hT2]; simp [hud, hc, eT]) g2
        exact ⟨_, rfl, p5, _, rfl, sMut s4 nD, by rw [upd_ne nlD]; exact e4, by rw [upd_ne nwD]; exact e4w, by rw [tk]; exact B5⟩
    · rw [decide_eq_false hc]
      refine iteF ?_
      have hrg : rl[u]? = some (rl.getD u none) := by rw [List.getD_eq_getElem?_getD, List.getElem?_eq_getElem (by omega)]; rfl
      refine ⟨_, rfl, _, rfl, _, rfl, rd_at (f := oV) (.inl (.inl e4w)) hrg rfl rfl ⟨by show 2 ≤ sizeLine; decide, fun t ht => ?_⟩⟩
      refine ⟨_, rfl, _, rfl, D, ?_⟩
      obtain ⟨H5, p5, B5, o5, rfl⟩ := (B4.same (same_new ht)).put (t := t) hnot hjl (show T2 u = some (hd, rl.getD u none) by rw [← hT2]; simp [hud, hc]) upd_same
      exact ⟨_, rfl, p5, _, rfl, sMut (sNew s4 ht) nD, by rw [upd_ne nlD]; exact same_new ht _ _ e4, by rw [upd_ne nwD]; exact same_new ht _ _ e4w, by rw [tk]; exact B5⟩
  · rintro σ H4 ⟨v7, rfl, s4, e4, e4w, B4⟩
    rw [List.length_map, take_all] at B4
    refine ⟨_, rfl, q D H4 d (fun x => rl.getD x none) T2 s4 nD PU RU (fun x => by rw [← hT2]) ⟨L, B4, nd, fun x hx => (hLd x).2 fun e => hx ?_, fun x hx => ?_⟩⟩
    · rw [← hT2]; simp [e]
    · cases e : d x with
      | none => exact absurd e ((hLd x).1 hx)
      | some k => exact hpl x (PU.sub x k e)
end
end Rg
/-! tell_rest, inside -/
namespace Rg
open PySem L2
abbrev s_inside : Stmt := topS 14
theorem sc_inside : FnScope ["game", "top", "part", "gone", "place"] ["game", "top", "part"] (defScope s_inside) := ⟨rfl, rfl, rfl, by decide +kernel, rfl, by decide +kernel, by decide +kernel⟩
/-- the first way into a part -/
def firstIn (G : Gm) (part : List Nat) (x : Nat) : Nat := ((wy G x).filter fun w => decide (w ∈ part)).headD 0
theorem firstIn_ok {G : Gm} {part : List Nat} {x : Nat} (h : ∃ w, w ∈ wy G x ∧ w ∈ part) : firstIn G part x ∈ wy G x ∧ firstIn G part x ∈ part := by
  obtain ⟨w, h1, h2⟩ := h
  have hm : w ∈ (wy G x).filter fun w => decide (w ∈ part) := List.mem_filter.mpr ⟨h1, decide_eq_true h2⟩
  unfold firstIn
  cases e : (wy G x).filter fun w => decide (w ∈ part) with
  | nil => rw [e] at hm; cases hm
  | cons a l =>
    have : a ∈ (wy G x).filter fun w => decide (w ∈ part) := by rw [e]; simp
    obtain ⟨h3, h4⟩ := List.mem_filter.mp this
    exact ⟨h3, of_decide_eq_true h4⟩
section
variable {P : Program} {w : World} {K : PySem.W.Frag} {mg : Str → Option Value} {base : Heap}
/-! ### tell_rest -/
def restT (G : Gm) (h : Int) (part : List Nat) (TI : Tab) (r : Nat → Option Nat) : Tab := fun x =>
  if x ∈ part then (if TI x ≠ none then TI x else if ow G x ≠ h then some (h, none) else match r x with | some u => some (h, some u) | none => some (h, some (firstIn G part x))) else none
def spTellRest (K : PySem.W.Frag) : Sp := fun vs H Q _ => ∃ g G t inn TI pa part, vs = [.ref g, .int t, .ref inn, .ref pa] ∧ GmAt K H g G ∧ GmOk G ∧ TabAt H inn TI G.length ∧
  SqL K H pa ((part : List Nat).map nV) ∧ part.Nodup ∧ (∀ x, x ∈ part → x < G.length) ∧ (∀ v, v ∈ part → ∃ w, w ∈ wy G v ∧ w ∈ part) ∧
  ∀ p H' d r, Same H H' → H p = none → Pull G (t % 2) part (part.filter fun x => decide (rk G x = t)) d → RuleOf G (t % 2) d r → TabAt H' p (restT G (t % 2) part TI r) G.length → Q (.ref p) H'
theorem part_len {part : List Nat} {n : Nat} (hn : n ≤ 63) (nd : part.Nodup) (h : ∀ x, x ∈ part → x < n) : part.length ≤ 63 := TabAt.klen hn nd h
theorem ok_tell_rest {f : Addr} {fd : FuncData} (F : Fun K "tell_rest" "tell_rest" s_tell_rest f fd) (T : Gs mg) (D_heads_of : DefOk P w K mg base "heads_of" 1 ["game", "top", "part"] (spHeadsOf K)) (D_pull_ways : DefOk P w K mg base "pull_ways" 3 ["game", "hand", "goal", "part"] (spPullWays K)) :
    FnOk P w K mg base CX0 4 f fd ["game", "top", "inner", "part"] (spTellRest K) := by
  refine F.ok sc_tell_rest (fun vs H Q E h => ?_) (fun cdv A outer s H vs Q E hr h => ?_)
  · obtain ⟨g, G, t, inn, TI, pa, part, rfl, _⟩ := h
    rfl
  obtain ⟨g, G, top, inn, TI, pa, part, rfl, A, O, B, hp, pnd, hpl, tot, q⟩ := h
  have hu := hu_of hr
  have hpn := part_len O.n pnd hpl
  refine ⟨_,       (pss_cons (ps_set (i := 4) sc_tell_rest.nd rfl (Or.inl rfl) (pe_op op_mod (pv 1) pe_int))
      (pss_cons (ps_set (i := 5) sc_tell_rest.nd rfl (Or.inl rfl) (pe_cd D_pull_ways (hr.mono (by omega)) (by rfl) (pa_cons (pv 0) (pa_cons (pv 4) (pa_cons (pe_cd D_heads_of (hr.mono (by omega)) (by rfl) (pa_cons (pv 0) (pa_cons (pv 1) (pa_cons (pv 3) pa_nil)))) (pa_cons (pv 3) pa_nil))))))
      (pss_cons (ps_set (i := 6) sc_tell_rest.nd rfl (Or.inl rfl) pe_dnewK)
      (pss_cons (ps_for PassesOwn.never rfl (pi_list (pv 3)) (pg_name (i := 7) sc_tell_rest.nd rfl (Or.inl rfl)) 
        (pss_one (ps_if (pt_cmp (pc_din hu (pv 7) (pv 2))) 
          (pss_one (ps_dput hu (pv 6) (pv 7) (pe_dget hu (pv 2) (pv 7) (fun _ _ => rfl)) rfl)) 
          (pss_one (ps_if (pt_cmpR op_ne (pe_ix ix_tup (pe_ix ix_list (pv 0) (pv 7) (fun _ _ => rfl)) pe_int (fun _ _ => rfl)) (pv 4) (nomark _)) 
            (pss_one (ps_dput hu (pv 6) (pv 7) (pe_tup (pa_cons (pv 4) (pa_cons pe_non pa_nil))) rfl)) 
            (pss_one (ps_if (pt_cmpR op_notN (pe_ix ix_list (pv 5) (pv 7) (fun _ _ => rfl)) pe_non (nomark _)) 
              (pss_one (ps_dput hu (pv 6) (pv 7) (pe_tup (pa_cons (pv 4) (pa_cons (pe_ix ix_list (pv 5) (pv 7) (fun _ _ => rfl)) pa_nil))) rfl)) 
              (pss_one (ps_dput hu (pv 6) (pv 7) (pe_tup (pa_cons (pv 4) (pa_cons (pe_ix ix_list (pe_lc (own := [("way", 8)]) (g := gName 8) rfl sc_tell_rest.nd (pi_list (pe_ix ix_tup (pe_ix ix_list (pv 0) (pv 7) (fun _ _ => rfl)) pe_int (fun _ _ => rfl))) (blkOk_by (N := ["game", "top", "inner", "part", "hand", "ways", "told", "place", "way"]) (sc := defScope s_tell_rest) (by decide +kernel)) (fun _ _ _ _ _ => pg_name (i := 8) sc_tell_rest.nd rfl (Or.inl rfl)) (fun _ _ _ _ _ => (pts_one (pt_cmpR (inSeq (K := K)) (pv 8) (pv 3) (by rfl)))) (fun _ _ _ _ _ => (pv 8))) pe_int (fun _ _ => rfl)) pa_nil))) rfl)))))))))
      (pss_one (ps_ret (pv 6))))))), ?_⟩
  refine ⟨_, rfl, _, _, rfl, rfl, by show (0 : Int) < 2; decide, ?_⟩
  refine ⟨_, rfl, _, rfl, _, rfl, _, rfl, _, rfl, g, G, top, pa, part, rfl, A, O, hp, hpl, hpn, fun ha H1 s1 n1 e1 => ?_⟩
  have hfl : (part.filter fun x => decide (rk G x = top)).length ≤ 63 := Nat.le_trans (List.length_filter_le _ _) hpn
  refine ⟨_, rfl, g, G, top % 2, ha, _, pa, part, rfl, A.same s1, O, .inl (.inl e1), (fun x hx => hpl x (List.mem_filter.mp hx).1), hfl, s1.seq hp, hpl, fun wl H2 rl d s2 n2 e2 hrl PU RU => ?_⟩
  intro D hD
  have s12 := s1.trans s2
  have nD : H D = none := s12.free hD
  have nwD : wl ≠ D := ne_of_none e2 hD
  have s3 : Same H (upd H2 D (.dK [])) := sNew s12 hD
  generalize hT2 : restT G (top % 2) part TI (fun x => rl.getD x none) = T2
  refine ⟨_, rfl, pa, rfl, ⟨_, s3.seq hp⟩, ?_⟩
  refine for_list (K := K) (a := pa) (xs := part.map nV) (fun j σ H' => ∃ v7 v8, σ = [some (.ref g), some (.int top), some (.ref inn), some (.ref pa), some (.int (top % 2)), some (.ref wl), some (.ref D), v7, v8] ∧ Same H H' ∧ H' wl = some (.lst (rl.map oV)) ∧ TB H' D T2 (part.take j))
    ⟨_, _, rfl, s3, by rw [upd_ne nwD]; exact e2, TB.nil⟩ (fun j σ H' _ ⟨_, _, _, s, _⟩ => s.seq hp) ?_ ?_
  · rintro j x σ H4 hj ⟨v7, v8, rfl, s4, e4w, B4⟩
    obtain ⟨u, hu1, rfl⟩ := map_get hj
    have huP := List.mem_of_getElem? hu1
    have hul := hpl u huP
    have tk : part.take (j + 1) = part.take j ++ [u] := take_snoc hu1
    have hnot : u ∉ part.take j := by
      have h1 := pnd.sublist (List.take_sublist (j + 1) part)
      rw [tk, List.nodup_append] at h1
      exact fun z => h1.2.2 u z u (by simp) rfl
    have hjl : (part.take j).length ≤ 63 := by rw [List.length_take]; omega
    have hrg : rl[u]? = some (rl.getD u none) := by rw [List.getD_eq_getElem?_getD, List.getElem?_eq_getElem (by omega)]; rfl
    have hT2u : T2 u = (if TI u ≠ none then TI u else if ow G u ≠ top % 2 then some (top % 2, none) else match rl.getD u none with | some u => some (top % 2, some u) | none => some (top % 2, some (firstIn G part u))) := by rw [← hT2]; simp [restT, huP]
    cases eT : TI u with
    | some aw =>
      obtain ⟨a, w'⟩ := aw
      obtain ⟨t, g1, g2⟩ := (B.same s4).get eT
      refine ⟨_, rfl, _, rfl, inn, _, rfl, g1, _, rfl, iteT ?_⟩
      refine ⟨_, rfl, _, rfl, inn, _, rfl, g1, _, rfl, _, rfl, D, ?_⟩
      obtain ⟨H5, p5, B5, o5, rfl⟩ := B4.put hnot hjl (show T2 u = some (a, w') by rw [hT2u]; simp [eT]) g2
      exact ⟨_, rfl, p5, _, _, rfl, sMut s4 nD, by rw [upd_ne nwD]; exact e4w, by rw [tk]; exact B5⟩
    | none =>
      refine ⟨_, rfl, _, rfl, inn, _, rfl, (B.same s4).no eT, _, rfl, iteF ?_⟩
      refine ⟨_, rfl, _, rfl, rd_ow (A.same s4) hul rfl rfl ⟨_, rfl, rfl, _, rfl, ?_⟩⟩
      rw [iV_dec]
      by_cases ho : ow G u = top % 2
      · rw [decide_eq_true ho]
        refine iteF ?_
        refine ⟨_, rfl, _, rfl, rd_at (f := oV) (.inl (.inl e4w)) hrg rfl rfl ⟨rfl, _, rfl, ?_⟩⟩
        cases er : rl.getD u none with
        | some y =>
          refine iteT ?_
          refine ⟨_, rfl, _, rfl, _, rfl, rd_at (f := oV) (.inl (.inl e4w)) hrg rfl rfl ⟨by show 2 ≤ sizeLine; decide, fun t ht => ?_⟩⟩
          refine ⟨_, rfl, _, rfl, D, ?_⟩
          obtain ⟨H5, p5, B5, o5, rfl⟩ := (B4.same (same_new ht)).put (t := t) (a := top % 2) (w := rl.getD u none) hnot hjl (by rw [hT2u, if_neg (by simp [eT]), if_neg (by simp [ho]), er]) upd_same
          exact ⟨_, rfl, p5, _, _, rfl, sMut (sNew s4 ht) nD, by rw [upd_ne nwD]; exact same_new ht _ _ e4w, by rw [tk]; exact B5⟩
        | none =>
          refine iteF ?_
          -- (hand, [way for way in game[place][2] if way in part][0])
          refine ⟨_, rfl, _, rfl, _, rfl, rd_wy0 A s4 hul rfl rfl fun wa hwa => ⟨wa, rfl, ⟨_, s4.seq hwa⟩, fun L hL => ?_⟩⟩
          refine lc_list (K := K) (a := wa) (xs := (wy G u).map nV) (fun i H' => Same H4 H' ∧ H' L = some (.lst ((((wy G u).take i).filter fun x => decide (x ∈ part)).map nV))) ⟨same_new hL, by rw [upd_same]; simp⟩ (fun i H' _ h => h.1.seq (s4.seq hwa)) ?_ ?_
          · rintro i x H5 hi ⟨s5, h5⟩
            obtain ⟨z, hz1, rfl⟩ := map_get hi
            refine ⟨rfl, _, rfl, _, rfl, pa, _, rfl, .inl (s5.seq (s4.seq hp)), rfl, flat_nV _, _, rfl, ?_⟩
            rw [show inV (nV z) (part.map nV) = _ from inV_nV z part, take_snoc hz1, List.filter_append]
            by_cases hc : z ∈ part
            · rw [decide_eq_true hc]
              refine iteT ⟨_, rfl, _, h5, ?_, sMut s5 hL, ?_⟩
              · rw [List.length_map]
                have l1 := List.length_filter_le (fun x => decide (x ∈ part)) ((wy G u).take i)
                have l2 := O.wlen u
                rw [List.length_take] at l1
                exact smallL (by omega)
              · rw [upd_same, List.filter_cons, decide_eq_true hc]
                simp
            · rw [decide_eq_false hc]
              refine iteF ⟨s5, ?_⟩
              rw [h5, List.filter_cons, decide_eq_false hc]
              simp
          rintro H5 ⟨s5, h5⟩
          rw [List.length_map, take_all] at h5
          have h0 : ((wy G u).filter fun x => decide (x ∈ part))[0]? = some (firstIn G part u) := by
            obtain ⟨w0, hw1, hw2⟩ := tot u huP
            unfold firstIn
            cases e : (wy G u).filter fun w => decide (w ∈ part) with
            | nil =>
              have : w0 ∈ (wy G u).filter fun w => decide (w ∈ part) := List.mem_filter.mpr ⟨hw1, decide_eq_true hw2⟩
              rw [e] at this; cases this
            | cons a l => rfl
          refine t_c (rd_at (f := nV) (i := 0) (.inl (.inl h5)) h0 rfl rfl ⟨by show 2 ≤ sizeLine; decide, fun t ht => ?_⟩)
          refine ⟨_, rfl, _, rfl, D, ?_⟩
          obtain ⟨H6, p6, B6, o6, rfl⟩ := ((B4.same s5).same (same_new (o := HO.tup [.int (top % 2), oV (some (firstIn G part u))]) ht)).put (t := t) (a := top % 2) (w := some (firstIn G part u)) hnot hjl (by rw [hT2u, if_neg (by simp [eT]), if_neg (by simp [ho]), er]) upd_same
          exact ⟨_, rfl, p6, _, _, rfl, sMut (sNew (s4.trans s5) ht) nD, by rw [upd_ne nwD]; exact same_new ht _ _ (s5 _ _ e4w), by rw [tk]; exact B6⟩
      · rw [decide_eq_false ho]
        refine iteT ?_
        refine ⟨_, rfl, by show 2 ≤ sizeLine; decide, fun t ht => ?_⟩
        refine ⟨_, rfl, _, rfl, D, ?_⟩
        obtain ⟨H5, p5, B5, o5, rfl⟩ := (B4.same (same_new (o := HO.tup [.int (top % 2), oV none]) ht)).put (t := t) (a := top % 2) (w := none) hnot hjl (by rw [hT2u]; simp [eT, ho]) upd_same
        exact ⟨_, rfl, p5, _, _, rfl, sMut (sNew s4 ht) nD, by rw [upd_ne nwD]; exact same_new ht _ _ e4w, by rw [tk]; exact B5⟩
  · rintro σ H4 ⟨v7, v8, rfl, s4, e4w, B4⟩
    rw [List.length_map, take_all] at B4
    refine ⟨_, rfl, q D H4 d (fun x => rl.getD x none) s4 nD PU RU ?_⟩
    rw [hT2]
    refine ⟨part, B4, pnd, fun x hx => ?_, hpl⟩
    rw [← hT2] at hx
    unfold restT at hx
    by_cases h : x ∈ part
    · exact h
    · rw [if_neg h] at hx; exact absurd rfl hx
/-! ### inside, over what is solved with lower ranks -/
def spSolve (K : PySem.W.Frag) (m : Nat) : Sp := fun vs H Q _ => ∃ g G pa part, vs = [.ref g, .ref pa] ∧ GmAt K H g G ∧ GmOk G ∧
  SqL K H pa ((part : List Nat).map nV) ∧ part.Nodup ∧ (∀ x, x ∈ part → x < G.length) ∧ (∀ v, v ∈ part → ∃ w, w ∈ wy G v ∧ w ∈ part) ∧ (∀ v, v ∈ part → rk G v < (m : Int)) ∧
  ∀ p H' TT, Same H H' → H p = none → TabAt H' p TT G.length → Good G part TT → Q (.ref p) H'
def spInside (K : PySem.W.Frag) (m : Nat) : Sp := fun vs H Q _ => ∃ g G t pa part, vs = [.ref g, .int t, .ref pa] ∧ GmAt K H g G ∧ GmOk G ∧
  SqL K H pa ((part : List Nat).map nV) ∧ part.Nodup ∧ (∀ x, x ∈ part → x < G.length) ∧ (∀ v, v ∈ part → ∃ w, w ∈ wy G v ∧ w ∈ part) ∧ (∀ v, v ∈ part → rk G v ≤ t) ∧ t ≤ (m : Int) ∧
  ∀ p H' TT d Q', Same H H' → H p = none → TabAt H' p TT G.length → Pull G (t % 2) part (part.filter fun x => decide (rk G x = t)) d → (∀ v, v ∈ Q' ↔ (v ∈ part ∧ d v = none)) → Good G Q' TT → Q (.ref p) H'
theorem ok_inside {f : Addr} {fd : FuncData} {m k : Nat} (hk : 3 ≤ k) (F : Fun K "inside" "inside" s_inside f fd) (T : Gs mg) (D_heads_of : DefOk P w K mg base "heads_of" 1 ["game", "top", "part"] (spHeadsOf K)) (D_pulled_list : DefOk P w K mg base "pulled_list" 3 ["game", "hand", "goal", "part"] (spPulledList K))
    (D_solve_part : DefOk P w K mg base "solve_part" k ["game", "part"] (spSolve K m)) : FnOk P w K mg base CX0 (k + 1) f fd ["game", "top", "part"] (spInside K m) := by
  refine F.ok sc_inside (fun vs H Q E h => ?_) (fun cdv A outer s H vs Q E hr h => ?_)
  · obtain ⟨g, G, t, pa, part, rfl, _⟩ := h
    rfl
  obtain ⟨g, G, top, pa, part, rfl, A, O, hp, pnd, hpl, tot, hrk, htm, q⟩ := h
  have hu := hu_of hr
  have hpn := part_len O.n pnd hpl
  refine ⟨_,       (pss_cons (ps_set (i := 3) sc_inside.nd rfl (Or.inr rfl) (pe_cd D_pulled_list (hr.mono (by omega)) (by rfl) (pa_cons (pv 0) (pa_cons (pe_op op_mod (pv 1) pe_int) (pa_cons (pe_cd D_heads_of (hr.mono (by omega)) (by rfl) (pa_cons (pv 0) (pa_cons (pv 1) (pa_cons (pv 2) pa_nil)))) (pa_cons (pv 2) pa_nil))))))
      (pss_one (ps_ret (pe_cd D_solve_part (hr.mono (by omega)) (by rfl) (pa_cons (pv 0) (pa_cons (pe_lc (own := [("place", 4)]) (g := gName 4) rfl sc_inside.nd (pi_list (pv 2)) (blkOk_by (N := ["game", "top", "part", "gone", "place"]) (sc := defScope s_inside) (by decide +kernel)) (fun _ _ _ _ _ => pg_name (i := 4) sc_inside.nd rfl (Or.inl rfl)) (fun _ _ _ _ _ => (pts_one (pt_cmpR (notInSeq (K := K)) (pv 4) (pv 3) (by rfl)))) (fun _ _ _ _ _ => (pv 4))) pa_nil)))))), ?_⟩
  refine ⟨_, rfl, _, rfl, _, _, rfl, rfl, by show (0 : Int) < 2; decide, ?_⟩
  refine ⟨_, rfl, _, rfl, _, rfl, g, G, top, pa, part, rfl, A, O, hp, hpl, hpn, fun ha H1 s1 n1 e1 => ?_⟩
  have hfl : (part.filter fun x => decide (rk G x = top)).length ≤ 63 := Nat.le_trans (List.length_filter_le _ _) hpn
  refine ⟨_, rfl, g, G, top % 2, ha, _, pa, part, rfl, A.same s1, O, .inl (.inl e1), (fun x hx => hpl x (List.mem_filter.mp hx).1), hfl, s1.seq hp, hpl, fun gl H2 L d s2 n2 e2 Lnd hL PU => ?_⟩
  have s12 := s1.trans s2
  refine ⟨_, rfl, _, rfl, pa, rfl, ⟨_, s12.seq hp⟩, fun D hD => ?_⟩
  refine lc_list (K := K) (a := pa) (xs := part.map nV) (fun i H' => Same H2 H' ∧ H' D = some (.lst (((part.take i).filter fun x => decide (d x = none)).map nV))) ⟨same_new hD, by rw [upd_same]; simp⟩ (fun i H' _ h => h.1.seq (s12.seq hp)) ?_ ?_
  · rintro i x H5 hi ⟨s5, h5⟩
    obtain ⟨z, hz1, rfl⟩ := map_get hi
    refine ⟨rfl, _, rfl, _, rfl, gl, _, rfl, .inl (.inl (.inl (s5 _ _ e2))), rfl, flat_nV _, _, rfl, ?_⟩
    rw [show inV (nV z) (L.map nV) = _ from inV_nV z L, take_snoc hz1, List.filter_append]
    by_cases hc : d z = none
    · have hzL : z ∉ L := fun h => (hL z).1 h hc
      rw [decide_eq_false hzL]
      refine iteT ⟨_, rfl, _, h5, ?_, sMut s5 hD, ?_⟩
      · rw [List.length_map]
        have l1 := List.length_filter_le (fun x => decide (d x = none)) (part.take i)
        rw [List.length_take] at l1
        exact smallL (by omega)
      · rw [upd_same, List.filter_cons, decide_eq_true hc]
        simp
    · have hzL : z ∈ L := (hL z).2 hc
      rw [decide_eq_true hzL]
      refine iteF ⟨s5, ?_⟩
      rw [h5, List.filter_cons, decide_eq_false hc]
      simp
  rintro H5 ⟨s5, h5⟩
  rw [List.length_map, take_all] at h5
  have s05 := s12.trans s5
  have hQ : ∀ v, v ∈ (part.filter fun x => decide (d x = none)) ↔ (v ∈ part ∧ d v = none) := fun v => by rw [List.mem_filter, decide_eq_true_eq]
  refine ⟨g, G, D, part.filter fun x => decide (d x = none), rfl, A.same s05, O, .inl (.inl h5), List.Pairwise.filter _ pnd, (fun x hx => hpl x ((hQ x).1 hx).1), inner_tot PU hQ tot, (fun v hv => ?_), fun p H' TT s6 n6 B6 W6 => ?_⟩
  · obtain ⟨h1, h2⟩ := (hQ v).1 hv
    have h3 := hrk v h1
    have h4 : rk G v ≠ top := fun e => by
      have := (PU.zero v).2 ⟨List.mem_filter.mpr ⟨h1, decide_eq_true e⟩, h1⟩
      rw [h2] at this
      cases this
    omega
  · exact q p H' TT d _ (s05.trans s6) (s05.free n6) B6 PU hQ W6
end
end Rg
/-! cut_part, solve_part -/
namespace Rg
open PySem L2
abbrev s_cut_part : Stmt := topS 18
theorem sc_cut_part : FnScope ["game", "part", "top", "hand", "told", "pieces", "left", "inner", "lost", "piece", "place"] ["game", "part"] (defScope s_cut_part) := ⟨rfl, rfl, rfl, by decide +kernel, rfl, by decide +kernel, by decide +kernel⟩
abbrev s_solve_part : Stmt := topS 19
theorem sc_solve_part : FnScope ["game", "part"] ["game", "part"] (defScope s_solve_part) := ⟨rfl, rfl, rfl, by decide +kernel, rfl, by decide +kernel, by decide +kernel⟩
theorem nodup_keys {ks : List Nat} (h : ks.Nodup) : (ks.map fun n : Nat => (Sum.inl (n : Int) : Key)).Nodup := by
  unfold List.Nodup
  rw [List.pairwise_map]
  exact h.imp fun {a b} hab z => hab (by have := Sum.inl.inj z; omega)
theorem TB.merge {H : Hp} {D o : Addr} {T T' T2 : Tab} {keys keys' : List Nat} (B : TB H D T keys) (C : TB H o T' keys') (nd : (keys ++ keys').Nodup) (e1 : ∀ x, x ∈ keys → T2 x = T x) (e2 : ∀ x, x ∈ keys' → T2 x = T' x) :
    ∃ kvs more, H D = some (.dK kvs) ∧ H o = some (.dK more) ∧ kvs.length = keys.length ∧ more.length = keys'.length ∧ TB (upd H D (.dK (mergeK kvs more))) D T2 (keys ++ keys') := by
  obtain ⟨kt, h1, h2, h3⟩ := B.ex
  obtain ⟨kt', h4, h5, h6⟩ := C.ex
  refine ⟨_, _, h1, h4, by rw [kvsT_len, ← h2, List.length_map], by rw [kvsT_len, ← h5, List.length_map], kt ++ kt', ?_, by rw [List.map_append, h2, h5], fun x t h => ?_⟩
  · rw [upd_same, mergeK_fresh]
    · simp [kvsT]
    · rw [List.map_append, kvsT_keys, kvsT_keys, h2, h5, ← List.map_append]
      exact nodup_keys nd
  · have htD : ∀ {b : Addr} {xs : List V}, H b = some (.tup xs) → b ≠ D := fun e => ne_of e h1 (by intro z; cases z)
    rcases List.mem_append.mp h with h | h
    · obtain ⟨a, w, h7, h8⟩ := h3 x t h
      exact ⟨a, w, by rw [e1 x (by rw [← h2]; exact List.mem_map.mpr ⟨_, h, rfl⟩)]; exact h7, by rw [upd_ne (htD h8)]; exact h8⟩
    · obtain ⟨a, w, h7, h8⟩ := h6 x t h
      exact ⟨a, w, by rw [e2 x (by rw [← h5]; exact List.mem_map.mpr ⟨_, h, rfl⟩)]; exact h7, by rw [upd_ne (htD h8)]; exact h8⟩
section
variable {P : Program} {w : World} {K : PySem.W.Frag} {mg : Str → Option Value} {base : Heap}
def spCut (K : PySem.W.Frag) (m : Nat) : Sp := fun vs H Q _ => ∃ g G pa part, vs = [.ref g, .ref pa] ∧ GmAt K H g G ∧ GmOk G ∧
  SqL K H pa ((part : List Nat).map nV) ∧ part ≠ [] ∧ part.Nodup ∧ (∀ x, x ∈ part → x < G.length) ∧ (∀ v, v ∈ part → ∃ w, w ∈ wy G v ∧ w ∈ part) ∧ (∀ v, v ∈ part → rk G v ≤ (m : Int)) ∧
  ∀ p H' TT h pc lf D, Same H H' → H' p = some (.tup [h, pc, lf, .ref D]) → H D = none → TabAt H' D TT G.length → Good G part TT → Q (.ref p) H'
theorem ok_cut_part {f : Addr} {fd : FuncData} {m k : Nat} (hk : 4 ≤ k) (F : Fun K "cut_part" "cut_part" s_cut_part f fd) (T : Gs mg) (D_inside : DefOk P w K mg base "inside" k ["game", "top", "part"] (spInside K m)) (D_lost_in : DefOk P w K mg base "lost_in" 1 ["inner", "hand"] (spLostIn K))
    (D_tell_cut : DefOk P w K mg base "tell_cut" 4 ["game", "hand", "inner", "lost", "part"] (spTellCut K)) (D_tell_rest : DefOk P w K mg base "tell_rest" 4 ["game", "top", "inner", "part"] (spTellRest K)) : FnOk P w K mg base CX0 (k + 1) f fd ["game", "part"] (spCut K m) := by
  refine F.ok sc_cut_part (fun vs H Q E h => ?_) (fun cdv A outer s H vs Q E hr h => ?_)
  · obtain ⟨g, G, pa, part, rfl, _⟩ := h
    rfl
  obtain ⟨g, G, pa, part, rfl, A, O, hp, hne, pnd, hpl, tot, hrk, q⟩ := h
  have hu := hu_of hr
  have hpn := part_len O.n pnd hpl
  refine ⟨_,       (pss_cons (ps_set (i := 2) sc_cut_part.nd rfl (Or.inl rfl) (pe_callB (cr_max rfl) (by rfl) T.nmax (by decide +kernel) (pa_cons (pe_lc (own := [("place", 10)]) (g := gName 10) (tt := tYes) rfl sc_cut_part.nd (pi_list (pv 1)) (blkOk_by (N := ["game", "part", "top", "hand", "told", "pieces", "left", "inner", "lost", "piece", "place"]) (sc := defScope s_cut_part) (by decide +kernel)) (fun _ _ _ _ _ => pg_name (i := 10) sc_cut_part.nd rfl (Or.inl rfl)) (fun _ _ _ _ _ => pts_nil) (fun _ _ _ _ _ => (pe_ix (ixT (K := K)) (pe_ix (ixL (K := K)) (pv 0) (pv 10) (fun _ _ => rfl)) pe_int (fun _ _ => rfl)))) pa_nil)))
      (pss_cons (ps_set (i := 3) sc_cut_part.nd rfl (Or.inl rfl) (pe_op op_mod (pv 2) pe_int))
      (pss_cons (ps_set (i := 4) sc_cut_part.nd rfl (Or.inl rfl) pe_dnewK)
      (pss_cons (ps_set (i := 5) sc_cut_part.nd rfl (Or.inl rfl) (pe_lst pa_nil))
      (pss_cons (ps_set (i := 6) sc_cut_part.nd rfl (Or.inl rfl) (pe_callTy call_list_of (by rfl) T.nlist (by decide +kernel) (pa_cons (pv 1) pa_nil)))
      (pss_cons (ps_set (i := 7) sc_cut_part.nd rfl (Or.inl rfl) (pe_cd D_inside (hr.mono (by omega)) (by rfl) (pa_cons (pv 0) (pa_cons (pv 2) (pa_cons (pv 6) pa_nil)))))
      (pss_cons (ps_set (i := 8) sc_cut_part.nd rfl (Or.inl rfl) (pe_cd D_lost_in (hr.mono (by omega)) (by rfl) (pa_cons (pv 7) (pa_cons (pv 3) pa_nil))))
      (pss_cons (ps_while PassesOwn.never (pt_cmpR op_gt (pe_callB call_len_seq (by rfl) T.nlen PySem.boot_len (pa_cons (pv 8) pa_nil)) pe_int (nomark _)) 
        (pss_cons (ps_set (i := 9) sc_cut_part.nd rfl (Or.inr rfl) (pe_cd D_tell_cut (hr.mono (by omega)) (by rfl) (pa_cons (pv 0) (pa_cons (pe_op op_sub pe_int (pv 3)) (pa_cons (pv 7) (pa_cons (pv 8) (pa_cons (pv 6) pa_nil)))))))
        (pss_cons (ps_expr (pe_bm PySem.F.plainAttrs_dict PySem.F.slot_dict_update PySem.F.type_dict_update mt_update (pv 4) (pa_cons (pv 9) pa_nil)))
        (pss_cons (ps_expr (pe_bm PySem.F.plainAttrs_list PySem.F.slot_list_append PySem.F.type_list_append mt_append (pv 5) (pa_cons (pe_callB (call_sortedDI rfl) (by rfl) T.nsorted (by decide +kernel) (pa_cons (pv 9) pa_nil)) pa_nil)))
        (pss_cons (ps_setLc (i := 6) (own := [("place", 10)]) (g := gName 10) rfl sc_cut_part.nd rfl rfl (sw_true rfl rfl rfl (by decide +kernel)) (pi_list (pv 6)) (blkOk_by (N := ["game", "part", "top", "hand", "told", "pieces", "left", "inner", "lost", "piece", "place"]) (sc := defScope s_cut_part) (by decide +kernel)) (fun _ _ _ _ _ => pg_name (i := 10) sc_cut_part.nd rfl (Or.inl rfl)) (fun _ _ _ _ _ => (pts_one (pt_cmp (pc_dnotin hu (pv 10) (pv 9))))) (fun _ _ _ _ _ => (pv 10)))
        (pss_cons (ps_set (i := 7) sc_cut_part.nd rfl (Or.inl rfl) (pe_cd D_inside (hr.mono (by omega)) (by rfl) (pa_cons (pv 0) (pa_cons (pv 2) (pa_cons (pv 6) pa_nil)))))
        (pss_one (ps_set (i := 8) sc_cut_part.nd rfl (Or.inl rfl) (pe_cd D_lost_in (hr.mono (by omega)) (by rfl) (pa_cons (pv 7) (pa_cons (pv 3) pa_nil)))))))))))
      (pss_cons (ps_expr (pe_bm PySem.F.plainAttrs_dict PySem.F.slot_dict_update PySem.F.type_dict_update mt_update (pv 4) (pa_cons (pe_cd D_tell_rest (hr.mono (by omega)) (by rfl) (pa_cons (pv 0) (pa_cons (pv 2) (pa_cons (pv 7) (pa_cons (pv 6) pa_nil))))) pa_nil)))
      (pss_one (ps_ret (pe_tup (pa_cons (pv 3) (pa_cons (pv 5) (pa_cons (pv 6) (pa_cons (pv 4) pa_nil)))))))))))))))), ?_⟩
  -- top
  refine ⟨_, rfl, pa, rfl, ⟨_, hp⟩, fun L hL => ?_⟩
  refine lc_list (K := K) (a := pa) (xs := part.map nV) (fun i H' => Same H H' ∧ H' L = some (.lst (((part.take i).map (rk G)).map V.int))) ⟨same_new hL, by rw [upd_same]; simp⟩ (fun i H' _ h => h.1.seq hp) ?_ ?_
  · rintro i x H5 hi ⟨s5, h5⟩
    obtain ⟨z, hz1, rfl⟩ := map_get hi
    have hzl := hpl z (List.mem_of_getElem? hz1)
    refine ⟨rfl, _, rfl, _, rfl, rd_rk (A.same s5) hzl rfl rfl ⟨_, h5, smallL (by rw [List.length_map, List.length_map, List.length_take]; omega), sMut s5 hL, ?_⟩⟩
    rw [upd_same, take_snoc hz1]
    simp
  rintro H1 ⟨s1, h1⟩
  rw [List.length_map, take_all] at h1
  refine ⟨L, _, rfl, .inl (.inl h1), by rw [List.length_map]; exact List.length_pos_iff.mpr hne, fun top htop hle => ?_⟩
  have htop2 : ∀ v, v ∈ part → rk G v ≤ top := fun v hv => hle _ (List.mem_map.mpr ⟨v, hv, rfl⟩)
  have htm : top ≤ (m : Int) := by
    obtain ⟨v, hv, rfl⟩ := List.mem_map.mp htop
    exact hrk v hv
  refine ⟨_, rfl, _, _, rfl, rfl, by show (0 : Int) < 2; decide, ?_⟩
  have hh : top % 2 = 0 ∨ top % 2 = 1 := by omega
  have hb : (1 - top % 2) ≠ top % 2 := by omega
  have hb01 : (1 - top % 2) = 0 ∨ (1 - top % 2) = 1 := by omega
  have hands : ∀ v, v ∈ part → ow G v = top % 2 ∨ ow G v = 1 - top % 2 := fun v hv => by
    have := O.ow (hpl v hv)
    omega
  -- told, pieces, left
  intro D hD
  refine ⟨by show 0 ≤ sizeLine; decide, fun pc hpc => ?_⟩
  have nDp : D ≠ pc := fun z => by rw [← z, upd_same] at hpc; cases hpc
  have s3 : Same H (upd (upd H1 D (.dK [])) pc (.lst [])) := sNew (sNew s1 hD) hpc
  have nD : H D = none := s1.free hD
  have nP : H pc = none := (sNew s1 hD).free hpc
  refine ⟨_, rfl, pa, _, rfl, .inl (s3.seq hp), fun lf0 hlf0 => ?_⟩
  have e4p : upd (upd (upd H1 D (.dK [])) pc (.lst [])) lf0 (.lst (part.map nV)) pc = some (.lst []) := sNew (Same.refl _) hlf0 _ _ upd_same
  have s4 : Same H (upd (upd (upd H1 D (.dK [])) pc (.lst [])) lf0 (.lst (part.map nV))) := sNew s3 hlf0
  have nlp0 : lf0 ≠ pc := fun z => by rw [z, upd_same] at hlf0; cases hlf0
  have B4 : TB (upd (upd (upd H1 D (.dK [])) pc (.lst [])) lf0 (.lst (part.map nV))) D (fun _ => none) [] := (TB.nil.same (same_new hpc)).same (same_new hlf0)
  refine ⟨_, rfl, _, rfl, _, rfl, g, G, top, lf0, part, rfl, A.same s4, O, .inl (.inl upd_same), pnd, hpl, tot, htop2, htm, fun inn H5 TI dA Q' s5 n5 BI PA hQ WI => ?_⟩
  refine ⟨_, rfl, _, rfl, inn, top % 2, TI, G.length, rfl, BI, O.n, fun lo H6 lost s6 n6 e6 hlost hlostn => ?_⟩
  have s46 := s5.trans s6
  -- while len(lost) > 0
  refine ⟨fun mm σ H' => ∃ (left : List Nat) (TT TI : Tab) (keys lost : List Nat) (dA : Nat → Option Nat) (Q' : List Nat) (pcs : List V) (lf inn lo : Addr) (v9 v10 : Option V),
      σ = [some (.ref g), some (.ref pa), some (.int top), some (.int (top % 2)), some (.ref D), some (.ref pc), some (.ref lf), some (.ref inn), some (.ref lo), v9, v10] ∧
      Same H H' ∧ H' pc = some (.lst pcs) ∧ pcs.length + left.length ≤ 63 ∧ H' lf = some (.lst (left.map nV)) ∧ lf ≠ pc ∧ TB H' D TT keys ∧ keys.Nodup ∧ (∀ x, x ∈ keys ↔ (x ∈ part ∧ x ∉ left)) ∧ left.Nodup ∧
      TabAt H' inn TI G.length ∧ Pull G (top % 2) left (left.filter fun x => decide (rk G x = top)) dA ∧ (∀ v, v ∈ Q' ↔ (v ∈ left ∧ dA v = none)) ∧ Good G Q' TI ∧
      H' lo = some (.lst (lost.map nV)) ∧ (∀ x, x ∈ lost ↔ ∃ a w, TI x = some (a, w) ∧ a ≠ top % 2) ∧ lost.length ≤ 63 ∧ CutInv G part (1 - top % 2) left TT ∧ mm = left.length,
    ⟨part.length, part, fun _ => none, TI, [], lost, dA, Q', [], lf0, inn, lo, none, none, rfl, s4.trans s46, s46 _ _ e4p, by simpa using hpn, s46 _ _ upd_same, nlp0, B4.same s46, List.nodup_nil, fun x => ?_, pnd, BI.same s6, PA, hQ, WI, e6, hlost, hlostn, CutInv.start tot, rfl⟩, ?_⟩
  · simp
  rintro mm σ H7 ⟨left, TT, TI, keys, lost, dA, Q', pcs, lf, inn, lo, v9, v10, rfl, s7, e7p, hpcs, e7l, nlp, B7, knd, hkeys, lnd, BI7, PA7, hQ7, W7, e7o, hlost7, hlostn7, CI, rfl⟩
  have hll : ∀ x, x ∈ left → x < G.length := fun x hx => hpl x (CI.sub x hx)
  have hlost1 : ∀ x, x ∈ lost ↔ ∃ w, TI x = some (1 - top % 2, w) := fun x => by
    rw [hlost7 x]
    constructor
    · rintro ⟨a, w', h1, h2⟩
      have h3 := W7.hands x a w' h1
      have : a = 1 - top % 2 := by omega
      exact ⟨w', by rw [← this]; exact h1⟩
    · rintro ⟨w', h1⟩
      exact ⟨_, w', h1, hb⟩
  refine ⟨_, rfl, lo, _, rfl, .inl (.inl (.inl e7o)), _, _, rfl, rfl, _, rfl, ?_⟩
  rw [List.length_map]
  by_cases hl0 : lost = []
  · subst hl0
    refine iteF ?_
    -- told.update(tell_rest(..))
    refine ⟨_, rfl, .inr (.inr (.inl ⟨rfl, .inl (by obtain ⟨kt, h, _⟩ := B7.ex; exact ⟨_, h⟩)⟩)), ?_⟩
    refine ⟨_, rfl, _, rfl, _, rfl, _, rfl, g, G, top, inn, TI, lf, left, rfl, A.same s7, O, BI7, .inl (.inl e7l), lnd, hll, CI.tot, fun pR H8 d r s8 n8 PR RR TR => ?_⟩
    obtain ⟨keysR, BR, kndR, kR1, kR2⟩ := TR.ex
    have hkR : ∀ x, x ∈ keysR ↔ x ∈ left := fun x => by
      constructor
      · intro hx
        obtain ⟨kt, _, h2, h3⟩ := BR.ex
        rw [← h2] at hx
        obtain ⟨⟨y, t⟩, hm, e⟩ := List.mem_map.mp hx
        have e : y = x := e
        subst e
        obtain ⟨a, w', h4, _⟩ := h3 y t hm
        unfold restT at h4
        by_cases h : y ∈ left
        · exact h
        · rw [if_neg h] at h4; cases h4
      · intro hx
        refine kR1 x ?_
        unfold restT
        rw [if_pos hx]
        split
        · assumption
        · split
          · simp
          · split <;> simp
    obtain ⟨kt, hB7, _⟩ := id B7.ex
    have nDR : D ≠ pR := ne_of_none hB7 n8
    have ndall : (keys ++ keysR).Nodup := by
      rw [List.nodup_append]
      exact ⟨knd, kndR, fun a ha b hb' z => by subst z; exact ((hkeys a).1 ha).2 ((hkR a).1 hb')⟩
    obtain ⟨kvs, more, g1, g2, g3, g4, BM⟩ := (B7.same s8).merge BR (T2 := fun x => if x ∈ left then restT G (top % 2) left TI r x else TT x) ndall (fun x hx => by simp only [if_neg ((hkeys x).1 hx).2]) (fun x hx => by simp only [if_pos ((hkR x).1 hx)])
    have hmem : ∀ x, x ∈ keys ++ keysR ↔ x ∈ part := fun x => by
      rw [List.mem_append, hkeys, hkR]
      constructor
      · rintro (h | h)
        · exact h.1
        · exact CI.sub x h
      · intro h
        by_cases hx : x ∈ left
        · exact .inr hx
        · exact .inl ⟨h, hx⟩
    have hal : (keys ++ keysR).length ≤ 63 := TabAt.klen O.n ndall fun x hx => hpl x ((hmem x).1 hx)
    rw [List.length_append] at hal
    refine ⟨D, pR, kvs, more, rfl, rfl, nDR, g1, g2, small (by omega), ?_⟩
    have sF : Same H (upd H8 D (.dK (mergeK kvs more))) := sMut (s7.trans s8) nD
    refine ⟨_, rfl, _, rfl, _, rfl, _, rfl, by show 4 ≤ sizeLine; decide, fun p hp' => ?_⟩
    have hG : Good G part (fun x => if x ∈ left then restT G (top % 2) left TI r x else TT x) := by
      refine CutInv.rest (f := firstIn G left) hb hh hb01 hands CI PR (fun v => by rw [List.mem_filter, decide_eq_true_eq]) (Q := Q') (fun v => ?_) W7 (fun x w' e => ?_) RR htop2 rfl (fun v hv _ => firstIn_ok (CI.tot v hv)) (fun v => ?_)
      · rw [hQ7 v]
        exact and_congr_right fun _ => PA7.iff PR CI.tot v
      · have := (hlost1 x).2 ⟨w', e⟩
        cases this
      · by_cases hv : v ∈ left
        · simp only [if_pos hv]
          unfold restT
          rw [if_pos hv]
          by_cases hvQ : v ∈ Q'
          · rw [if_pos hvQ, if_pos ((W7.dom v).1 hvQ)]
          · rw [if_neg hvQ, if_neg fun z => hvQ ((W7.dom v).2 z)]
            all_goals rfl
        · simp only [if_neg hv]
    exact q p _ _ _ _ _ D (sNew sF hp') upd_same nD ⟨_, BM.same (same_new hp'), ndall, fun x hx => (hmem x).2 ((hG.dom x).2 hx), fun x hx => hpl x ((hmem x).1 hx)⟩ hG
  · have hpos : decide ((0 : Int) < ((lost.length : Nat) : Int)) = true := decide_eq_true (by have := List.length_pos_iff.mpr hl0; omega)
    rw [hpos]
    refine iteT ?_
    refine ⟨fun σ' H' => ∃ m', m' < left.length ∧ _, fun σ' H' h => h, ?_⟩
    -- piece = tell_cut(..)
    refine ⟨_, rfl, _, rfl, _, _, rfl, rfl, _, rfl, _, rfl, _, rfl, g, G, 1 - top % 2, inn, TI, lo, lost, lf, left, rfl, A.same s7, O, BI7, .inl (.inl e7o), (fun x hx => ?_), hlostn7, .inl (.inl e7l), hll, CI.tot, fun p1 H8 d r T2 s8 n8 PB RB hT2 BP => ?_⟩
    · obtain ⟨w', e⟩ := (hlost1 x).1 hx
      exact ⟨hll x ((hQ7 x).1 ((W7.dom x).2 (by rw [e]; simp))).1, by rw [e]; simp⟩
    obtain ⟨keysP, BPt, kndP, kP1, kP2⟩ := id BP.ex
    have hT2n : ∀ x, T2 x ≠ none ↔ d x ≠ none := fun x => by
      rw [hT2 x]
      by_cases e : d x = none
      · simp [e]
      · rw [if_neg e]
        refine ⟨fun _ => e, fun _ => ?_⟩
        split
        · rename_i hxl
          obtain ⟨w', e'⟩ := (hlost1 x).1 hxl
          rw [e']; simp
        · simp
    have hkP : ∀ x, x ∈ keysP ↔ d x ≠ none := fun x => by
      constructor
      · intro hx
        obtain ⟨kt, _, h2, h3⟩ := BPt.ex
        rw [← h2] at hx
        obtain ⟨⟨y, t⟩, hm, e⟩ := List.mem_map.mp hx
        have e : y = x := e
        subst e
        obtain ⟨a, w', h4, _⟩ := h3 y t hm
        exact (hT2n y).1 (by rw [h4]; simp)
      · intro hx
        exact kP1 x ((hT2n x).2 hx)
    have hdl : ∀ x, d x ≠ none → x ∈ left := fun x hx => by
      cases e : d x with
      | none => exact absurd e hx
      | some k => exact PB.sub x k e
    -- told.update(piece)
    obtain ⟨kt, hB7, _⟩ := id B7.ex
    have nDp1 : D ≠ p1 := ne_of_none hB7 n8
    have ndall : (keys ++ keysP).Nodup := by
      rw [List.nodup_append]
      exact ⟨knd, kndP, fun a ha b hb' z => by subst z; exact ((hkeys a).1 ha).2 (hdl a ((hkP a).1 hb'))⟩
    obtain ⟨kvs, more, g1, g2, g3, g4, BM⟩ := (B7.same s8).merge BPt (T2 := fun x => if d x = none then TT x else T2 x) ndall
      (fun x hx => by
        have : d x = none := by
          cases e : d x with
          | none => rfl
          | some k => exact absurd (PB.sub x k e) ((hkeys x).1 hx).2
        simp only [if_pos this]) (fun x hx => by simp only [if_neg ((hkP x).1 hx)])
    have hal : (keys ++ keysP).length ≤ 63 := TabAt.klen O.n ndall fun x hx => by
      rcases List.mem_append.mp hx with h | h
      · exact hpl x ((hkeys x).1 h).1
      · exact kP2 x h
    rw [List.length_append] at hal
    refine ⟨_, rfl, .inr (.inr (.inl ⟨rfl, .inl ⟨_, g1⟩⟩)), _, rfl, D, p1, kvs, more, rfl, rfl, nDp1, g1, g2, small (by omega), ?_⟩
    generalize hH9 : upd H8 D (.dK (mergeK kvs more)) = H9 at BM
    have s9 : Same H H9 := by rw [← hH9]; exact sMut (s7.trans s8) nD
    have e9p : H9 pc = some (.lst pcs) := by rw [← hH9, upd_ne nDp.symm]; exact s8 _ _ e7p
    have nDl : lf ≠ D := fun z => by rw [z] at e7l; rw [hB7] at e7l; cases e7l
    have e9l : H9 lf = some (.lst (left.map nV)) := by rw [← hH9, upd_ne nDl]; exact s8 _ _ e7l
    have BP9 : TabAt H9 p1 T2 G.length := ⟨keysP, by rw [← hH9]; exact BPt.else nDp1.symm (fun xs z => by rw [g1] at z; cases z), kndP, kP1, kP2⟩
    -- pieces.append(sorted(piece))
    obtain ⟨kvs9, hk9⟩ := BP9.dk
    obtain ⟨keys9, ⟨kt9, h91, h92, h93⟩, nd9, _, h95⟩ := id BP9.ex
    refine ⟨_, rfl, .inl ⟨rfl, _, .inl (.inl e9p)⟩, _, rfl, p1, _, keys9.map fun n : Nat => (n : Int), rfl, .inl h91, by rw [kvsT_keys, h92, List.map_map]; rfl, by rw [List.length_map]; have := TabAt.klen O.n nd9 h95; omega, fun ys sl pm srt hsl => ?_⟩
    have nps : pc ≠ sl := ne_of_none e9p hsl
    refine ⟨pc, _, _, rfl, rfl, sNew (Same.refl _) hsl _ _ e9p, smallL (by omega), ?_⟩
    generalize hH10 : upd (upd H9 sl (.lst (ys.map V.int))) pc (.lst (pcs ++ [.ref sl])) = H10
    have s10 : Same H H10 := by rw [← hH10]; exact sMut (sNew s9 hsl) nP
    have e10p : H10 pc = some (.lst (pcs ++ [.ref sl])) := by rw [← hH10, upd_same]
    have e10l : H10 lf = some (.lst (left.map nV)) := by rw [← hH10, upd_ne nlp]; exact sNew (Same.refl _) hsl _ _ e9l
    have ntp : ∀ xs, (upd H9 sl (.lst (ys.map V.int))) pc ≠ some (.tup xs) := fun xs z => by rw [sNew (Same.refl _) hsl _ _ e9p] at z; cases z
    have B10 : TB H10 D (fun x => if d x = none then TT x else T2 x) (keys ++ keysP) := by rw [← hH10]; exact (BM.same (same_new hsl)).else nDp ntp
    have np1 : p1 ≠ pc := ne_of hk9 e9p (by intro z; cases z)
    have BP10 : TabAt H10 p1 T2 G.length := by
      rw [← hH10]
      obtain ⟨ks, b1, b2, b3, b4⟩ := BP9.ex
      exact ⟨ks, (b1.same (same_new hsl)).else np1 ntp, b2, b3, b4⟩
    -- left = [place for place in left if place not in piece]
    refine ⟨_, rfl, lf, rfl, ⟨_, .inl (.inl e10l)⟩, fun L2 hL2 => ?_⟩
    refine lc_list (K := K) (a := lf) (xs := left.map nV) (fun i H' => Same H10 H' ∧ H' L2 = some (.lst (((left.take i).filter fun x => decide (d x = none)).map nV))) ⟨same_new hL2, by rw [upd_same]; simp⟩ (fun i H' _ h => .inl (.inl (h.1 _ _ e10l))) ?_ ?_
    · rintro i x H11 hi ⟨s11, h11⟩
      obtain ⟨z, hz1, rfl⟩ := map_get hi
      rw [take_snoc hz1, List.filter_append]
      by_cases hc : d z = none
      · have : T2 z = none := by rw [hT2 z, if_pos hc]
        refine ⟨rfl, _, rfl, _, rfl, p1, none, rfl, (BP10.same s11).no this, _, rfl, iteT ⟨_, rfl, _, h11, ?_, sMut s11 hL2, ?_⟩⟩
        · rw [List.length_map]
          have l1 := List.length_filter_le (fun x => decide (d x = none)) (left.take i)
          rw [List.length_take] at l1
          exact smallL (by omega)
        · rw [upd_same, List.filter_cons, decide_eq_true hc]
          simp
      · cases eT : T2 z with
        | none => exact absurd eT ((hT2n z).2 hc)
        | some aw =>
          obtain ⟨t, k1, _⟩ := (BP10.same s11).get eT
          refine ⟨rfl, _, rfl, _, rfl, p1, some (.ref t), rfl, k1, _, rfl, iteF ⟨s11, ?_⟩⟩
          rw [h11, List.filter_cons, decide_eq_false hc]
          simp
    rintro H11 ⟨s11, h11⟩
    rw [List.length_map, take_all] at h11
    have hL2pc : L2 ≠ pc := (ne_of_none e10p hL2).symm
    have hl2 : ∀ v, v ∈ (left.filter fun x => decide (d x = none)) ↔ (v ∈ left ∧ d v = none) := fun v => by rw [List.mem_filter, decide_eq_true_eq]
    have CI2 : CutInv G part (1 - top % 2) (left.filter fun x => decide (d x = none)) (fun x => if d x = none then TT x else T2 x) := by
      refine CI.turn (h := top % 2) hb hands PA7 hQ7 W7 hlost1 PB RB (fun v => ?_) hl2
      by_cases e : d v = none
      · simp only [if_pos e]
      · simp only [if_neg e]
        rw [hT2 v, if_neg e]
    have s011 := s10.trans s11
    have hlt : (left.filter fun x => decide (d x = none)).length < left.length := by
      obtain ⟨x, l, e⟩ : ∃ x l, lost = x :: l := by cases lost with
        | nil => exact absurd rfl hl0
        | cons x l => exact ⟨x, l, rfl⟩
      have hx : x ∈ lost := by rw [e]; simp
      have hxQ : x ∈ Q' := by
        obtain ⟨w', e'⟩ := (hlost1 x).1 hx
        exact (W7.dom x).2 (by rw [e']; simp)
      have hxl := ((hQ7 x).1 hxQ).1
      have hd0 := (PB.zero x).2 ⟨hx, hxl⟩
      exact List.length_filter_lt_length_iff_exists.mpr ⟨x, hxl, by rw [hd0]; simp⟩
    have lnd2 : (left.filter fun x => decide (d x = none)).Nodup := List.Pairwise.filter _ lnd
    -- inner = inside(..), lost = lost_in(..)
    refine ⟨_, rfl, _, rfl, _, rfl, g, G, top, L2, _, rfl, A.same s011, O, .inl (.inl h11), lnd2, (fun x hx => hll x ((hl2 x).1 hx).1), CI2.tot, (fun v hv => htop2 v (CI2.sub v hv)), htm, fun inn2 H12 TI2 dA2 Q2 s12 n12 BI12 PA12 hQ12 W12 => ?_⟩
    refine ⟨_, rfl, _, rfl, inn2, top % 2, TI2, G.length, rfl, BI12, O.n, fun lo2 H13 lost2 s13 n13 e13 hlost13 hlostn13 => ?_⟩
    have s1013 := s11.trans (s12.trans s13)
    refine ⟨_, hlt, left.filter fun x => decide (d x = none), fun x => if d x = none then TT x else T2 x, TI2, keys ++ keysP, lost2, dA2, Q2, pcs ++ [.ref sl], L2, inn2, lo2, _, _, rfl, s10.trans s1013, s1013 _ _ e10p, ?_, (s12.trans s13) _ _ h11, hL2pc, B10.same s1013, ndall, fun x => ?_, lnd2, BI12.same s13, PA12, hQ12, W12, e13, hlost13, hlostn13, CI2, rfl⟩
    · rw [List.length_append, List.length_singleton]
      omega
    · rw [List.mem_append, hkeys, hkP, hl2]
      constructor
      · rintro (h | h)
        · exact ⟨h.1, fun z => h.2 z.1⟩
        · exact ⟨CI.sub x (hdl x h), fun z => h z.2⟩
      · rintro ⟨h1, h2⟩
        by_cases hx : x ∈ left
        · exact .inr fun z => h2 ⟨hx, z⟩
        · exact .inl ⟨h1, hx⟩
/-! ### solve_part -/
theorem ok_solve_part {f : Addr} {fd : FuncData} {m k : Nat} {spC : Sp} (F : Fun K "solve_part" "solve_part" s_solve_part f fd) (T : Gs mg) (D_cut_part : DefOk P w K mg base "cut_part" k ["game", "part"] spC)
    (hC : ∀ vs H Q E, (m = 0 → False) → spCut K (m - 1) vs H Q E → spC vs H Q E) : FnOk P w K mg base CX0 (k + 1) f fd ["game", "part"] (spSolve K m) := by
  refine F.ok sc_solve_part (fun vs H Q E h => ?_) (fun cdv A outer s H vs Q E hr h => ?_)
  · obtain ⟨g, G, pa, part, rfl, _⟩ := h
    rfl
  obtain ⟨g, G, pa, part, rfl, A, O, hp, pnd, hpl, tot, hrk, q⟩ := h
  have hu := hu_of hr
  refine ⟨_,       (pss_cons (ps_if (pt_cmpR op_eq (pe_callB call_len_seq (by rfl) T.nlen PySem.boot_len (pa_cons (pv 1) pa_nil)) pe_int (nomark _)) 
        (pss_one (ps_ret pe_dnewK)) pss_nil)
      (pss_one (ps_ret (pe_ix ix_tup (pe_cd D_cut_part (hr.mono (by omega)) (by rfl) (pa_cons (pv 0) (pa_cons (pv 1) pa_nil))) pe_int (fun _ _ => rfl))))), ?_⟩
  refine ⟨_, rfl, pa, _, rfl, .inl hp, rfl, _, rfl, ?_⟩
  rw [List.length_map, iV_dec]
  cases part with
  | nil =>
    refine iteT ?_
    intro D hD
    exact q D _ (fun _ => none) (same_new hD) hD ⟨[], TB.nil, List.nodup_nil, fun x hx => absurd rfl hx, fun x hx => by cases hx⟩ (Good.nil G)
  | cons x l =>
    refine iteF ?_
    have hm : m = 0 → False := fun z => by
      have h1 := hrk x (by simp)
      have h2 := (O.rk (hpl x (by simp))).1
      subst z
      omega
    refine ⟨_, rfl, _, rfl, hC _ _ _ _ hm ⟨g, G, pa, x :: l, rfl, A, O, hp, by simp, pnd, hpl, tot, fun v hv => ?_, fun p H1 TT h pc lf D s1 e1 nD B1 W1 => ?_⟩⟩
    · have := hrk v hv
      omega
    · exact t_c ⟨p, _, 3, .ref D, rfl, rfl, SqT.of e1, rfl, q D H1 TT s1 nD B1 W1⟩
end
end Rg
/-! solved, hand_rule, is_rule, ring_hand, loops, played -/
namespace Rg
open PySem L2
abbrev s_solved : Stmt := topS 20
theorem sc_solved : FnScope ["game", "told", "won", "ways", "place"] ["game"] (defScope s_solved) := ⟨rfl, rfl, rfl, by decide +kernel, rfl, by decide +kernel, by decide +kernel⟩
abbrev s_hand_rule : Stmt := topS 21
theorem sc_hand_rule : FnScope ["game", "ways", "hand", "rule", "place", "way"] ["game", "ways", "hand"] (defScope s_hand_rule) := ⟨rfl, rfl, rfl, by decide +kernel, rfl, by decide +kernel, by decide +kernel⟩
abbrev s_is_rule : Stmt := topS 23
theorem sc_is_rule : FnScope ["game", "hand", "rule", "place", "way"] ["game", "hand", "rule"] (defScope s_is_rule) := ⟨rfl, rfl, rfl, by decide +kernel, rfl, by decide +kernel, by decide +kernel⟩
abbrev s_ring_hand : Stmt := topS 24
theorem sc_ring_hand : FnScope ["game", "ring", "place"] ["game", "ring"] (defScope s_ring_hand) := ⟨rfl, rfl, rfl, by decide +kernel, rfl, by decide +kernel, by decide +kernel⟩
abbrev s_loops : Stmt := topS 25
theorem sc_loops : FnScope ["play", "rings", "pile", "place", "at"] ["play"] (defScope s_loops) := ⟨rfl, rfl, rfl, by decide +kernel, rfl, by decide +kernel, by decide +kernel⟩
abbrev s_played : Stmt := topS 26
theorem sc_played : FnScope ["game", "hand", "rule", "start", "picks", "play", "pick", "ways", "way"] ["game", "hand", "rule", "start", "picks"] (defScope s_played) := ⟨rfl, rfl, rfl, by decide +kernel, rfl, by decide +kernel, by decide +kernel⟩
theorem rgV_nat (n : Nat) : rgV 0 (n : Int) = (List.range n).map nV := by
  unfold rgV
  have e : ((n : Int) - 0).toNat = n := by omega
  rw [e]
  refine List.map_congr_left fun i _ => ?_
  rw [Int.zero_add]
theorem cut_drop {xs : List V} {j : Nat} (h : j ≤ xs.length) : cutV xs (some (j : Int)) none = xs.drop j := by
  unfold cutV
  rw [HT.sIx_nat, HT.sIx_none, Nat.min_eq_left h, List.take_of_length_le (by rw [List.length_drop]; omega)]
theorem cut_take {xs : List V} {j : Nat} : cutV xs none (some (j : Int)) = xs.take j := by
  unfold cutV
  rw [HT.sIx_nat, HT.sIx_none, List.drop_zero, Nat.sub_zero]
  rcases Nat.le_total j xs.length with h | h
  · rw [Nat.min_eq_left h]
  · rw [Nat.min_eq_right h, List.take_of_length_le (Nat.le_refl _), List.take_of_length_le h]
theorem cut_mid {xs : List V} {j : Nat} (h : j ≤ xs.length) (h0 : 0 < xs.length) : cutV xs (some (j : Int)) (some (-1)) = (xs.drop j).take (xs.length - 1 - j) := by
  unfold cutV
  have e : HT.sIx xs.length xs.length (some (-1)) = xs.length - 1 := by
    show (if (-1 : Int) < 0 then ((-1 : Int) + (xs.length : Int)).toNat else min (-1 : Int).toNat xs.length) = _
    rw [if_pos (by omega)]
    omega
  rw [HT.sIx_nat, e, Nat.min_eq_left h]
theorem eqV_nV (a b : Nat) : eqV (nV a) (nV b) = decide (a = b) := by
  show ((a : Int) == (b : Int)) = decide (a = b)
  by_cases e : a = b
  · subst e; simp
  · have : ¬ (a : Int) = (b : Int) := by omega
    simp [e, this]
section
variable {P : Program} {w : World} {K : PySem.W.Frag} {mg : Str → Option Value} {base : Heap}
/-! ### solved -/
def spSolved (K : PySem.W.Frag) : Sp := fun vs H Q _ => ∃ g G, vs = [.ref g] ∧ GmAt K H g G ∧ GmOk G ∧
  ∀ p H' wa ya (W : List Int) (Y : List (Option Nat)) TT, Same H H' → H' p = some (.tup [.ref wa, .ref ya]) → H' wa = some (.lst (W.map V.int)) → H' ya = some (.lst (Y.map oV)) → W.length = G.length → Y.length = G.length → Good G (List.range G.length) TT →
    (∀ v, v < G.length → TT v = some (W.getD v 0, Y.getD v none)) → Q (.ref p) H'
def tW (TT : Tab) (v : Nat) : Int := match TT v with | some (a, _) => a | none => 0
def tY (TT : Tab) (v : Nat) : Option Nat := match TT v with | some (_, y) => y | none => none
theorem ok_solved {f : Addr} {fd : FuncData} {k : Nat} (F : Fun K "solved" "solved" s_solved f fd) (T : Gs mg) (D_solve_part : DefOk P w K mg base "solve_part" k ["game", "part"] (spSolve K 41)) : FnOk P w K mg base CX0 (k + 1) f fd ["game"] (spSolved K) := by
  refine F.ok sc_solved (fun vs H Q E h => ?_) (fun cdv A outer s H vs Q E hr h => ?_)
  · obtain ⟨g, G, rfl, _⟩ := h
    rfl
  obtain ⟨g, G, rfl, A, O, q⟩ := h
  have hu := hu_of hr
  refine ⟨_,       (pss_cons (ps_set (i := 1) sc_solved.nd rfl (Or.inr rfl) (pe_cd D_solve_part (hr.mono (by omega)) (by rfl) (pa_cons (pv 0) (pa_cons (pe_listRg rfl (by rfl) T.nlist (prg_1 (by rfl) T.nrange (pe_callB call_len_seq (by rfl) T.nlen PySem.boot_len (pa_cons (pv 0) pa_nil)))) pa_nil))))
      (pss_cons (ps_setLc (i := 2) (own := [("place", 4)]) (g := gName 4) (tt := tYes) rfl sc_solved.nd rfl rfl (sw_true rfl rfl rfl (by decide +kernel)) (pi_range1 (by rfl) T.nrange (pa_cons (pe_callB call_len_seq (by rfl) T.nlen PySem.boot_len (pa_cons (pv 0) pa_nil)) pa_nil)) (blkOk_by (N := ["game", "told", "won", "ways", "place"]) (sc := defScope s_solved) (by decide +kernel)) (fun _ _ _ _ _ => pg_name (i := 4) sc_solved.nd rfl (Or.inl rfl)) (fun _ _ _ _ _ => pts_nil) (fun _ _ _ _ _ => (pe_ix (ixT (K := K)) (pe_dget hu (pv 1) (pv 4) (fun _ _ => rfl)) pe_int (fun _ _ => rfl))))
      (pss_cons (ps_setLc (i := 3) (own := [("place", 4)]) (g := gName 4) (tt := tYes) rfl sc_solved.nd rfl rfl (sw_true rfl rfl rfl (by decide +kernel)) (pi_range1 (by rfl) T.nrange (pa_cons (pe_callB call_len_seq (by rfl) T.nlen PySem.boot_len (pa_cons (pv 0) pa_nil)) pa_nil)) (blkOk_by (N := ["game", "told", "won", "ways", "place"]) (sc := defScope s_solved) (by decide +kernel)) (fun _ _ _ _ _ => pg_name (i := 4) sc_solved.nd rfl (Or.inl rfl)) (fun _ _ _ _ _ => pts_nil) (fun _ _ _ _ _ => (pe_ix (ixT (K := K)) (pe_dget hu (pv 1) (pv 4) (fun _ _ => rfl)) pe_int (fun _ _ => rfl))))
      (pss_one (ps_ret (pe_tup (pa_cons (pv 2) (pa_cons (pv 3) pa_nil)))))))), ?_⟩
  obtain ⟨rs, hrs, hlen, _⟩ := A.ex
  have hn := O.n
  refine ⟨_, rfl, _, rfl, g, _, rfl, .inl hrs, (G.length : Int), by rw [List.length_map, hlen], RgOk.of_le (by omega) (by omega) (by omega) (by omega), fun pa hpa => ?_⟩
  rw [rgV_nat]
  have s1 := same_new (o := HO.lst ((List.range G.length).map nV)) hpa
  refine ⟨g, G, pa, List.range G.length, rfl, A.same s1, O, .inl (.inl upd_same), List.nodup_range, (fun x hx => List.mem_range.mp hx), (fun v hv => ?_), (fun v hv => ?_), fun D H2 TT s2 nD BT W => ?_⟩
  · have hv' := List.mem_range.mp hv
    cases e : wy G v with
    | nil => exact absurd e (O.wne hv')
    | cons y l => exact ⟨y, by simp, List.mem_range.mpr (O.wy hv' y (by rw [e]; simp))⟩
  · have := (O.rk (List.mem_range.mp hv)).2
    omega
  have s02 := s1.trans s2
  have hTT : ∀ v, v < G.length → TT v = some (tW TT v, tY TT v) := fun v hv => by
    cases e : TT v with
    | none => exact absurd e ((W.dom v).1 (List.mem_range.mpr hv))
    | some p => simp [tW, tY, e]
  have eN : (((rs.map V.ref).length : Nat) : Int) = (G.length : Int) := by rw [List.length_map, hlen]
  have eN2 : ((G.length : Nat) : Int).toNat = G.length := by omega
  -- won
  refine ⟨_, rfl, g, _, rfl, .inl (s02.seq hrs), (G.length : Int), by rw [eN], by omega, by omega, fun wa hwa => ?_⟩
  refine lc_range (lo := 0) (n := ((G.length : Nat) : Int).toNat) (fun i H' => Same H2 H' ∧ H' wa = some (.lst (((List.range i).map (tW TT)).map V.int))) ⟨same_new hwa, by rw [upd_same]; simp⟩ ?_ ?_
  · rintro i H3 hi ⟨s3, h3⟩
    have hi' : i < G.length := by omega
    have ei : (V.int (0 + (i : Int))) = nV i := by rw [Int.zero_add]
    rw [ei]
    obtain ⟨t, g1, g2⟩ := (BT.same s3).get (hTT i hi')
    refine ⟨rfl, _, rfl, _, rfl, D, _, rfl, g1, t_c ⟨t, _, 0, .int (tW TT i), rfl, rfl, SqT.of g2, rfl, _, h3, smallL (by rw [List.length_map, List.length_map, List.length_range]; omega), sMut s3 hwa, ?_⟩⟩
    rw [upd_same, List.range_succ]
    simp
  rintro H3 ⟨s3, h3⟩
  rw [eN2] at h3
  have s03 := s02.trans s3
  -- ways
  refine ⟨_, rfl, g, _, rfl, .inl (s03.seq hrs), (G.length : Int), by rw [eN], by omega, by omega, fun ya hya => ?_⟩
  refine lc_range (lo := 0) (n := ((G.length : Nat) : Int).toNat) (fun i H' => Same H3 H' ∧ H' ya = some (.lst (((List.range i).map (tY TT)).map oV))) ⟨same_new hya, by rw [upd_same]; simp⟩ ?_ ?_
  · rintro i H4 hi ⟨s4, h4⟩
    have hi' : i < G.length := by omega
    have ei : (V.int (0 + (i : Int))) = nV i := by rw [Int.zero_add]
    rw [ei]
    obtain ⟨t, g1, g2⟩ := (BT.same (s3.trans s4)).get (hTT i hi')
    refine ⟨rfl, _, rfl, _, rfl, D, _, rfl, g1, t_c ⟨t, _, 1, oV (tY TT i), rfl, rfl, SqT.of g2, rfl, _, h4, smallL (by rw [List.length_map, List.length_map, List.length_range]; omega), sMut s4 hya, ?_⟩⟩
    rw [upd_same, List.range_succ]
    simp
  rintro H4 ⟨s4, h4⟩
  rw [eN2] at h4
  refine ⟨_, rfl, _, rfl, by show 2 ≤ sizeLine; decide, fun p hp => ?_⟩
  refine q p _ wa ya ((List.range G.length).map (tW TT)) ((List.range G.length).map (tY TT)) TT (sNew (s03.trans s4) hp) upd_same (same_new hp _ _ (s4 _ _ h3)) (same_new hp _ _ h4) (by simp) (by simp) W fun v hv => ?_
  rw [hTT v hv, List.getD_eq_getElem?_getD, List.getD_eq_getElem?_getD, get_map (range_get hv), get_map (range_get hv)]
  rfl
/-! ### hand_rule -/
def ruleM (G : Gm) (Y : List (Option Nat)) (h : Int) : List (Option Nat) := (List.range G.length).map fun x => if ow G x = h then Y.getD x none else none
theorem ruleM_get {G : Gm} {Y : List (Option Nat)} {h : Int} {x : Nat} (hx : x < G.length) : (ruleM G Y h)[x]? = some (if ow G x = h then Y.getD x none else none) := get_map (range_get hx)
def spHandRule (K : PySem.W.Frag) : Sp := fun vs H Q _ => ∃ g G ya Y h, vs = [.ref g, .ref ya, .int h] ∧ GmAt K H g G ∧ GmOk G ∧ SqL K H ya ((Y : List (Option Nat)).map oV) ∧ Y.length = G.length ∧
  ∀ p H', Same H H' → H p = none → H' p = some (.lst ((ruleM G Y h).map oV)) → Q (.ref p) H'
theorem ok_hand_rule {f : Addr} {fd : FuncData} (F : Fun K "hand_rule" "hand_rule" s_hand_rule f fd) (T : Gs mg) : FnOk P w K mg base CX0 1 f fd ["game", "ways", "hand"] (spHandRule K) := by
  refine F.ok sc_hand_rule (fun vs H Q E h => ?_) (fun cdv A outer s H vs Q E hr h => ?_)
  · obtain ⟨g, G, ya, Y, h, rfl, _⟩ := h
    rfl
  obtain ⟨g, G, ya, Y, hd, rfl, A, O, hY, hYl, q⟩ := h
  have hu := hu_of hr
  refine ⟨_,       (pss_cons (ps_set (i := 3) sc_hand_rule.nd rfl (Or.inl rfl) (pe_lst pa_nil))
      (pss_cons (ps_for PassesOwn.never rfl (pi_range1 (by rfl) T.nrange (pa_cons (pe_callB call_len_seq (by rfl) T.nlen PySem.boot_len (pa_cons (pv 0) pa_nil)) pa_nil)) (pg_name (i := 4) sc_hand_rule.nd rfl (Or.inl rfl)) 
        (pss_cons (ps_set (i := 5) sc_hand_rule.nd rfl (Or.inl rfl) pe_non)
        (pss_cons (ps_if (pt_cmpR op_eq (pe_ix ix_tup (pe_ix ix_list (pv 0) (pv 4) (fun _ _ => rfl)) pe_int (fun _ _ => rfl)) (pv 2) (nomark _)) 
          (pss_one (ps_set (i := 5) sc_hand_rule.nd rfl (Or.inl rfl) (pe_ix ix_list (pv 1) (pv 4) (fun _ _ => rfl)))) pss_nil)
        (pss_one (ps_expr (pe_bm PySem.F.plainAttrs_list PySem.F.slot_list_append PySem.F.type_list_append mt_append (pv 3) (pa_cons (pv 5) pa_nil)))))))
      (pss_one (ps_ret (pv 3))))), ?_⟩
  obtain ⟨rs, hrs, hlen, _⟩ := A.ex
  have hn := O.n
  refine ⟨by show 0 ≤ sizeLine; decide, fun D hD => ?_⟩
  refine ⟨_, rfl, g, _, rfl, .inl ((same_new hD).seq hrs), (G.length : Int), by rw [List.length_map, hlen], by omega, by omega, ?_⟩
  refine for_range (lo := 0) (n := ((G.length : Nat) : Int).toNat) (fun i σ H' => ∃ v4 v5, σ = [some (.ref g), some (.ref ya), some (.int hd), some (.ref D), v4, v5] ∧ Same H H' ∧ H' D = some (.lst (((ruleM G Y hd).take i).map oV))) ⟨_, _, rfl, same_new hD, by rw [upd_same]; simp⟩ ?_ ?_
  · rintro i σ H2 hi ⟨v4, v5, rfl, s2, h2⟩
    have hi' : i < G.length := by omega
    have ei : (V.int (0 + (i : Int))) = nV i := by rw [Int.zero_add]
    rw [ei]
    have hYg : Y[i]? = some (Y.getD i none) := by rw [List.getD_eq_getElem?_getD, List.getElem?_eq_getElem (by omega)]; rfl
    refine ⟨_, rfl, _, rfl, rd_ow (A.same s2) hi' rfl rfl ⟨_, rfl, rfl, _, rfl, ?_⟩⟩
    rw [iV_dec]
    have hz : ((ruleM G Y hd).take i).length ≤ 63 := by rw [List.length_take]; simp [ruleM]; omega
    have htk := take_snoc (ruleM_get (Y := Y) (h := hd) hi')
    by_cases ho : ow G i = hd
    · rw [decide_eq_true ho]
      refine iteT ?_
      refine ⟨_, rfl, _, rfl, rd_at (f := oV) (s2.seq hY) hYg rfl rfl ?_⟩
      refine ⟨_, rfl, .inl ⟨rfl, _, .inl (.inl h2)⟩, _, rfl, D, _, _, rfl, rfl, h2, smallL (by rw [List.length_map]; omega), _, _, rfl, sMut s2 hD, ?_⟩
      rw [upd_same, htk, if_pos ho]
      simp
    · rw [decide_eq_false ho]
      refine iteF ?_
      refine ⟨_, rfl, .inl ⟨rfl, _, .inl (.inl h2)⟩, _, rfl, D, _, _, rfl, rfl, h2, smallL (by rw [List.length_map]; omega), _, _, rfl, sMut s2 hD, ?_⟩
      rw [upd_same, htk, if_neg ho, List.map_append]
      rfl
  · rintro σ H2 ⟨v4, v5, rfl, s2, h2⟩
    rw [List.take_of_length_le (by simp [ruleM])] at h2
    exact ⟨_, rfl, q D H2 s2 hD h2⟩
/-! ### is_rule: of a rule -/
def RuleIs (G : Gm) (h : Int) (R : List (Option Nat)) : Prop := R.length = G.length ∧ ∀ x y, x < G.length → R.getD x none = some y → ow G x = h ∧ y ∈ wy G x
def spIsRule (K : PySem.W.Frag) : Sp := fun vs H Q _ => ∃ g G h ra R, vs = [.ref g, .int h, .ref ra] ∧ GmAt K H g G ∧ GmOk G ∧ SqL K H ra ((R : List (Option Nat)).map oV) ∧ RuleIs G h R ∧ Q (.bl true) H
theorem ok_is_rule {f : Addr} {fd : FuncData} (F : Fun K "is_rule" "is_rule" s_is_rule f fd) (T : Gs mg) : FnOk P w K mg base CX0 1 f fd ["game", "hand", "rule"] (spIsRule K) := by
  refine F.ok sc_is_rule (fun vs H Q E h => ?_) (fun cdv A outer s H vs Q E hr h => ?_)
  · obtain ⟨g, G, h, ra, R, rfl, _⟩ := h
    rfl
  obtain ⟨g, G, hd, ra, R, rfl, A, O, hR, ⟨hRl, hRR⟩, q⟩ := h
  have hu := hu_of hr
  refine ⟨_,       (pss_cons (ps_if (pt_cmpR op_ne (pe_callB call_len_seq (by rfl) T.nlen PySem.boot_len (pa_cons (pv 2) pa_nil)) (pe_callB call_len_seq (by rfl) T.nlen PySem.boot_len (pa_cons (pv 0) pa_nil)) (nomark _)) 
        (pss_one (ps_ret pe_bl)) pss_nil)
      (pss_cons (ps_for PassesOwn.never rfl (pi_range1 (by rfl) T.nrange (pa_cons (pe_callB call_len_seq (by rfl) T.nlen PySem.boot_len (pa_cons (pv 0) pa_nil)) pa_nil)) (pg_name (i := 3) sc_is_rule.nd rfl (Or.inl rfl)) 
        (pss_cons (ps_set (i := 4) sc_is_rule.nd rfl (Or.inl rfl) (pe_ix ix_list (pv 2) (pv 3) (fun _ _ => rfl)))
        (pss_one (ps_if (PW.pt (pw_and (pt_cmpR op_notN (pv 4) pe_non (nomark _)) (pw_and1 (PW.pt (pw_or (pt_cmpR op_ne (pe_ix ix_tup (pe_ix ix_list (pv 0) (pv 3) (fun _ _ => rfl)) pe_int (fun _ _ => rfl)) (pv 1) (nomark _)) (pw_or1 (pt_cmpR op_notIn_seq (pv 4) (pe_ix ix_tup (pe_ix ix_list (pv 0) (pv 3) (fun _ _ => rfl)) pe_int (fun _ _ => rfl)) (by rfl)))))))) 
          (pss_one (ps_ret pe_bl)) pss_nil))))
      (pss_one (ps_ret pe_bl)))), ?_⟩
  obtain ⟨rs, hrs, hlen, _⟩ := A.ex
  have hn := O.n
  refine ⟨_, rfl, ra, _, rfl, .inl hR, _, rfl, g, _, rfl, .inl hrs, rfl, _, rfl, ?_⟩
  rw [iV_dec, List.length_map, List.length_map, hlen, hRl, decide_eq_true rfl]
  refine iteF ?_
  refine ⟨_, rfl, g, _, rfl, .inl hrs, (G.length : Int), by rw [List.length_map, hlen], by omega, by omega, ?_⟩
  refine for_range (lo := 0) (n := ((G.length : Nat) : Int).toNat) (fun i σ H' => ∃ v3 v4, σ = [some (.ref g), some (.int hd), some (.ref ra), v3, v4] ∧ H' = H) ⟨_, _, rfl, rfl⟩ ?_ ?_
  · rintro i σ H2 hi ⟨v3, v4, rfl, rfl⟩
    have hi' : i < G.length := by omega
    have ei : (V.int (0 + (i : Int))) = nV i := by rw [Int.zero_add]
    rw [ei]
    have hRg : R[i]? = some (R.getD i none) := by rw [List.getD_eq_getElem?_getD, List.getElem?_eq_getElem (by omega)]; rfl
    refine ⟨_, rfl, _, rfl, rd_at (f := oV) hR hRg rfl rfl ?_⟩
    refine ⟨_, rfl, rfl, _, rfl, ?_⟩
    cases eR : R.getD i none with
    | none =>
      refine iteF (iteF ?_)
      exact ⟨_, _, rfl, rfl⟩
    | some y =>
      obtain ⟨h1, h2⟩ := hRR i y hi' eR
      refine iteT ?_
      refine ⟨_, rfl, _, rfl, rd_ow A hi' rfl rfl ⟨_, rfl, rfl, _, rfl, ?_⟩⟩
      rw [iV_dec, decide_eq_true h1]
      refine iteF ?_
      refine ⟨_, rfl, _, rfl, _, rfl, rd_wy A hi' rfl rfl fun wa hwa => ⟨wa, _, rfl, .inl hwa, rfl, flat_nV _, _, rfl, ?_⟩⟩
      rw [show inV (oV (some y)) ((wy G i).map nV) = _ from inV_nV y (wy G i), decide_eq_true h2]
      refine iteF ?_
      exact ⟨_, _, rfl, rfl⟩
  · rintro σ H2 ⟨v3, v4, rfl, rfl⟩
    exact q
/-! ### ring_hand -/
def spRingHand (K : PySem.W.Frag) : Sp := fun vs H Q _ => ∃ g G a ring m, vs = [.ref g, .ref a] ∧ GmAt K H g G ∧ GmOk G ∧ SqL K H a ((ring : List Nat).map nV) ∧ ring ≠ [] ∧ ring.length ≤ 1000 ∧ (∀ x, x ∈ ring → x < G.length) ∧
  (∃ x, x ∈ ring ∧ rk G x = m) ∧ (∀ x, x ∈ ring → rk G x ≤ m) ∧ ∀ H', Same H H' → Q (.int (m % 2)) H'
theorem ok_ring_hand {f : Addr} {fd : FuncData} (F : Fun K "ring_hand" "ring_hand" s_ring_hand f fd) (T : Gs mg) : FnOk P w K mg base CX0 1 f fd ["game", "ring"] (spRingHand K) := by
  refine F.ok sc_ring_hand (fun vs H Q E h => ?_) (fun cdv A outer s H vs Q E hr h => ?_)
  · obtain ⟨g, G, a, ring, m, rfl, _⟩ := h
    rfl
  obtain ⟨g, G, a, ring, m, rfl, A, O, hp, hne, hrl, hpl, ⟨x0, hx0, hx0m⟩, hle, q⟩ := h
  have hu := hu_of hr
  refine ⟨_,       (pss_one (ps_ret (pe_op op_mod (pe_callB (cr_max rfl) (by rfl) T.nmax (by decide +kernel) (pa_cons (pe_lc (own := [("place", 2)]) (g := gName 2) (tt := tYes) rfl sc_ring_hand.nd (pi_list (pv 1)) (blkOk_by (N := ["game", "ring", "place"]) (sc := defScope s_ring_hand) (by decide +kernel)) (fun _ _ _ _ _ => pg_name (i := 2) sc_ring_hand.nd rfl (Or.inl rfl)) (fun _ _ _ _ _ => pts_nil) (fun _ _ _ _ _ => (pe_ix (ixT (K := K)) (pe_ix (ixL (K := K)) (pv 0) (pv 2) (fun _ _ => rfl)) pe_int (fun _ _ => rfl)))) pa_nil)) pe_int))), ?_⟩
  refine ⟨_, rfl, a, rfl, ⟨_, hp⟩, fun L hL => ?_⟩
  refine lc_list (K := K) (a := a) (xs := ring.map nV) (fun i H' => Same H H' ∧ H' L = some (.lst (((ring.take i).map (rk G)).map V.int))) ⟨same_new hL, by rw [upd_same]; simp⟩ (fun i H' _ h => h.1.seq hp) ?_ ?_
  · rintro i x H5 hi ⟨s5, h5⟩
    obtain ⟨z, hz1, rfl⟩ := map_get hi
    have hzl := hpl z (List.mem_of_getElem? hz1)
    refine ⟨rfl, _, rfl, _, rfl, rd_rk (A.same s5) hzl rfl rfl ⟨_, h5, smallL (by rw [List.length_map, List.length_map, List.length_take]; omega), sMut s5 hL, ?_⟩⟩
    rw [upd_same, take_snoc hz1]
    simp
  rintro H1 ⟨s1, h1⟩
  rw [List.length_map, take_all] at h1
  refine ⟨L, _, rfl, .inl (.inl h1), by rw [List.length_map]; exact List.length_pos_iff.mpr hne, fun m' hm' hle' => ?_⟩
  have e : m' = m := by
    obtain ⟨x, hx, rfl⟩ := List.mem_map.mp hm'
    have h2 := hle x hx
    have h3 := hle' _ (List.mem_map.mpr ⟨x0, hx0, rfl⟩)
    omega
  subst e
  exact ⟨_, _, rfl, rfl, by show (0 : Int) < 2; decide, q H1 s1⟩
/-! ### loops -/
def spLoops (K : PySem.W.Frag) : Sp := fun vs H Q _ => ∃ a play, vs = [.ref a] ∧ SqL K H a ((play : List Nat).map nV) ∧ play.length ≤ 1000 ∧
  ∀ p H' ra pl, Same H H' → H' p = some (.tup [.ref ra, .ref pl]) → LLH H' ra (lp play).1 → H' pl = some (.lst ((lp play).2.map nV)) → Q (.ref p) H'
theorem lp_len : ∀ (play : List Nat), (lp play).1.length + (lp play).2.length ≤ play.length ∧ ∀ r, r ∈ (lp play).1 → r.length ≤ play.length := by
  intro play
  have : ∀ (l : List Nat) (s : List (List Nat) × List Nat) (n : Nat), s.1.length + s.2.length ≤ n → (∀ r, r ∈ s.1 → r.length ≤ n) → (l.foldl lpStep s).1.length + (l.foldl lpStep s).2.length ≤ n + l.length ∧ ∀ r, r ∈ (l.foldl lpStep s).1 → r.length ≤ n + l.length := by
    intro l
    induction l with
    | nil => intro s n h1 h2; exact ⟨h1, h2⟩
    | cons y l ih =>
      intro s n h1 h2
      have := ih (lpStep s y) (n + 1) (by
        unfold lpStep
        split
        · rename_i hy
          have hi := idx_lt hy
          simp only [List.length_append, List.length_singleton, List.length_take]
          omega
        · simp only [List.length_append, List.length_singleton]; omega) (by
        unfold lpStep
        split
        · intro r hr
          rcases List.mem_append.mp hr with hr | hr
          · have := h2 r hr; omega
          · rw [List.mem_singleton.mp hr, List.length_drop]; omega
        · intro r hr
          have := h2 r hr; omega)
      rw [List.length_cons]
      show (l.foldl lpStep (lpStep s y)).1.length + (l.foldl lpStep (lpStep s y)).2.length ≤ _ ∧ ∀ r, r ∈ (l.foldl lpStep (lpStep s y)).1 → _
      refine ⟨by omega, fun r hr => ?_⟩
      have := this.2 r hr
      omega
  have h := this play ([], []) 0 (by simp) (by simp)
  simpa [lp] using h
theorem idx_get {x : Nat} {l : List Nat} (h : x ∈ l) : l[l.idxOf x]? = some x := by
  rw [List.getElem?_eq_getElem (idx_lt h), List.getElem_idxOf (idx_lt h)]
theorem idx_first {x : Nat} : ∀ {l : List Nat} {m y : Nat}, m < l.idxOf x → l[m]? = some y → y ≠ x
  | [], m, y, h, _ => by simp at h
  | z :: l, m, y, h, e => by
    by_cases hz : z = x
    · subst hz; simp at h
    · have e2 : (z == x) = false := beq_eq_false_iff_ne.mpr hz
      rw [List.idxOf_cons, e2] at h
      cases m with
      | zero =>
        have : z = y := by simpa using e
        exact this ▸ hz
      | succ m => exact idx_first (l := l) (by simpa using h) (by simpa using e)
theorem LLH.snoc {H : Hp} {p q : Addr} {as : List Addr} {LL : List (List Nat)} {r : List Nat} (h2 : as.length = LL.length) (h3 : ∀ (i : Nat) (l : List Nat), LL[i]? = some l → ∃ a, as[i]? = some a ∧ H a = some (.lst (l.map nV))) (hq : H q = some (.lst (r.map nV))) :
    ∀ (i : Nat) (l : List Nat), (LL ++ [r])[i]? = some l → ∃ a, (as ++ [q])[i]? = some a ∧ H a = some (.lst (l.map nV)) := fun i l hl => by
  rcases Nat.lt_or_ge i LL.length with hi | hi
  · rw [List.getElem?_append_left hi] at hl
    obtain ⟨a, h4, h5⟩ := h3 i l hl
    exact ⟨a, by rw [List.getElem?_append_left (by omega)]; exact h4, h5⟩
  · rw [List.getElem?_append_right hi] at hl
    have hz := get_lt hl
    simp at hz
    have e0 : i - LL.length = 0 := by omega
    rw [e0] at hl
    have : r = l := by simpa using hl
    subst this
    refine ⟨q, ?_, hq⟩
    rw [List.getElem?_append_right (by omega)]
    have : i - as.length = 0 := by omega
    rw [this]; rfl
theorem ok_loops {f : Addr} {fd : FuncData} (F : Fun K "loops" "loops" s_loops f fd) (T : Gs mg) : FnOk P w K mg base CX0 1 f fd ["play"] (spLoops K) := by
  refine F.ok sc_loops (fun vs H Q E h => ?_) (fun cdv A outer s H vs Q E hr h => ?_)
  · obtain ⟨a, play, rfl, _⟩ := h
    rfl
  obtain ⟨a, play, rfl, hp, hpl, q⟩ := h
  have hu := hu_of hr
  refine ⟨_,       (pss_cons (ps_set (i := 1) sc_loops.nd rfl (Or.inl rfl) (pe_lst pa_nil))
      (pss_cons (ps_set (i := 2) sc_loops.nd rfl (Or.inl rfl) (pe_lst pa_nil))
      (pss_cons (ps_for PassesOwn.never rfl (pi_list (pv 0)) (pg_name (i := 3) sc_loops.nd rfl (Or.inl rfl)) 
        (pss_one (ps_if (pt_cmpR op_in_seq (pv 3) (pv 2) (by rfl)) 
          (pss_cons (ps_set (i := 4) sc_loops.nd rfl (Or.inl rfl) (pe_bm PySem.F.plainAttrs_list PySem.F.slot_list_index PySem.F.type_list_index mt_index (pv 2) (pa_cons (pv 3) pa_nil)))
          (pss_cons (ps_expr (pe_bm PySem.F.plainAttrs_list PySem.F.slot_list_append PySem.F.type_list_append mt_append (pv 1) (pa_cons (pe_slice sl_list (pv 2) (po_some (pv 4)) po_none) pa_nil)))
          (pss_one (ps_set (i := 2) sc_loops.nd rfl (Or.inl rfl) (pe_slice sl_list (pv 2) po_none (po_some (pe_op op_add (pv 4) pe_int))))))) 
          (pss_one (ps_expr (pe_bm PySem.F.plainAttrs_list PySem.F.slot_list_append PySem.F.type_list_append mt_append (pv 2) (pa_cons (pv 3) pa_nil)))))))
      (pss_one (ps_ret (pe_tup (pa_cons (pv 1) (pa_cons (pv 2) pa_nil)))))))), ?_⟩
  refine ⟨by show 0 ≤ sizeLine; decide, fun rg hrg => ⟨by show 0 ≤ sizeLine; decide, fun pl0 hpl0 => ?_⟩⟩
  have nrp0 : rg ≠ pl0 := fun z => by rw [← z, upd_same] at hpl0; cases hpl0
  -- the lists of rings live in a heap without the list of them and without the pile
  refine ⟨_, rfl, a, rfl, ⟨_, (sNew (same_new hrg) hpl0).seq hp⟩, ?_⟩
  refine for_list (K := K) (a := a) (xs := play.map nV) (fun i σ H' => ∃ (pl : Addr) (as : List Addr) (v3 v4 : Option V), σ = [some (.ref a), some (.ref rg), some (.ref pl), v3, v4] ∧ Same H H' ∧ H pl = none ∧ rg ≠ pl ∧ H' rg = some (.lst (as.map V.ref)) ∧ as.length = (lp (play.take i)).1.length ∧
      (∀ (j : Nat) (l : List Nat), (lp (play.take i)).1[j]? = some l → ∃ b, as[j]? = some b ∧ (b ≠ rg ∧ b ≠ pl ∧ H' b = some (.lst (l.map nV)))) ∧ H' pl = some (.lst ((lp (play.take i)).2.map nV)))
    ⟨pl0, [], _, _, rfl, sNew (same_new hrg) hpl0, (same_new hrg).free hpl0, nrp0, by rw [upd_ne nrp0, upd_same]; rfl, by simp [lp], fun j l h => by simp [lp] at h, by rw [upd_same]; simp [lp]⟩ (fun i σ H' _ ⟨_, _, _, _, _, s, _⟩ => s.seq hp) ?_ ?_
  · rintro i x σ H2 hi ⟨pl, as, v3, v4, rfl, s2, npl, nrp, e2r, hasl, hasv, e2p⟩
    obtain ⟨u, hu1, rfl⟩ := map_get hi
    have tk : lp (play.take (i + 1)) = lpStep (lp (play.take i)) u := by rw [take_snoc hu1, lp_snoc]
    have hlens := lp_len (play.take i)
    have hti : (play.take i).length ≤ 1000 := by rw [List.length_take]; omega
    generalize hst : lp (play.take i) = st at *
    refine ⟨_, rfl, _, rfl, pl, _, rfl, .inl (.inl (.inl e2p)), rfl, flat_nV _, _, rfl, ?_⟩
    rw [show inV (nV u) (st.2.map nV) = _ from inV_nV u st.2]
    by_cases hc : u ∈ st.2
    · rw [decide_eq_true hc]
      refine iteT ?_
      have hix := idx_lt hc
      -- at = pile.index(place)
      refine ⟨_, rfl, .inl ⟨rfl, _, .inl (.inl e2p)⟩, _, rfl, pl, _, _, st.2.idxOf u, _, rfl, rfl, .inl (.inl e2p), rfl, flat_nV _, get_map (idx_get hc), by rw [eqV_nV]; exact decide_eq_true rfl, fun m z' hm hz => ?_, ?_⟩
      · obtain ⟨y, hy, rfl⟩ := map_get hz
        rw [eqV_nV]
        exact decide_eq_false (idx_first hm hy)
      -- rings.append(pile[at:])
      refine ⟨_, rfl, .inl ⟨rfl, _, .inl (.inl e2r)⟩, _, rfl, _, rfl, _, rfl, pl, _, rfl, .inl (.inl e2p), fun q1 hq1 => ?_⟩
      rw [cut_drop (by rw [List.length_map]; omega), ← List.map_drop]
      have nq1 : rg ≠ q1 := ne_of_none e2r hq1
      have nq2 : pl ≠ q1 := ne_of_none e2p hq1
      refine ⟨rg, _, _, rfl, rfl, by rw [upd_ne nq1]; exact e2r, smallL (by rw [List.length_map, hasl]; omega), ?_⟩
      -- pile = pile[:at + 1]
      have e3p : upd (upd H2 q1 (.lst ((st.2.drop (st.2.idxOf u)).map nV))) rg (.lst (as.map V.ref ++ [.ref q1])) pl = some (.lst (st.2.map nV)) := by rw [upd_ne nrp.symm, upd_ne nq2]; exact e2p
      refine ⟨_, rfl, _, rfl, _, _, rfl, rfl, _, rfl, pl, _, rfl, .inl (.inl e3p), fun q2 hq2 => ?_⟩
      have ecut : cutV (st.2.map nV) none (some (((st.2.idxOf u : Nat) : Int) + 1)) = (st.2.take (st.2.idxOf u + 1)).map nV := by
        have : (((st.2.idxOf u : Nat) : Int) + 1) = ((st.2.idxOf u + 1 : Nat) : Int) := by omega
        rw [this, cut_take, List.map_take]
      rw [ecut]
      have e3r : upd (upd H2 q1 (.lst ((st.2.drop (st.2.idxOf u)).map nV))) rg (.lst (as.map V.ref ++ [.ref q1])) rg = some (.lst ((as ++ [q1]).map V.ref)) := by rw [upd_same]; simp
      have nr2 : rg ≠ q2 := ne_of_none e3r hq2
      have hrgH : H rg = none := hrg
      have s3 : Same H (upd (upd H2 q1 (.lst ((st.2.drop (st.2.idxOf u)).map nV))) rg (.lst (as.map V.ref ++ [.ref q1]))) := sMut (sNew s2 hq1) hrgH
      have est : lpStep st u = (st.1 ++ [st.2.drop (st.2.idxOf u)], st.2.take (st.2.idxOf u + 1)) := by unfold lpStep; rw [if_pos hc]
      refine ⟨q2, as ++ [q1], _, _, rfl, sNew s3 hq2, s3.free hq2, nr2, by rw [upd_ne nr2]; exact e3r, by rw [tk, est]; simp [hasl], ?_, by rw [tk, est, upd_same]⟩
      rw [tk, est]
      intro j l hl
      have hq1v : upd (upd H2 q1 (.lst ((st.2.drop (st.2.idxOf u)).map nV))) rg (.lst (as.map V.ref ++ [.ref q1])) q1 = some (.lst ((st.2.drop (st.2.idxOf u)).map nV)) := by rw [upd_ne nq1.symm, upd_same]
      rcases Nat.lt_or_ge j st.1.length with hj | hj
      · rw [List.getElem?_append_left hj] at hl
        obtain ⟨b, h4, h5, h6, h7⟩ := hasv j l hl
        have hb3 : upd (upd H2 q1 (.lst ((st.2.drop (st.2.idxOf u)).map nV))) rg (.lst (as.map V.ref ++ [.ref q1])) b = some (.lst (l.map nV)) := by rw [upd_ne h5, upd_ne (ne_of_none h7 hq1)]; exact h7
        exact ⟨b, by rw [List.getElem?_append_left (by omega)]; exact h4, h5, ne_of_none hb3 hq2, by rw [upd_ne (ne_of_none hb3 hq2)]; exact hb3⟩
      · rw [List.getElem?_append_right hj] at hl
        have hz := get_lt hl
        simp at hz
        have e0 : j - st.1.length = 0 := by omega
        rw [e0] at hl
        have : st.2.drop (st.2.idxOf u) = l := by simpa using hl
        subst this
        refine ⟨q1, ?_, nq1.symm, ne_of_none hq1v hq2, by rw [upd_ne (ne_of_none hq1v hq2)]; exact hq1v⟩
        rw [List.getElem?_append_right (by omega)]
        have : j - as.length = 0 := by omega
        rw [this]; rfl
    · rw [decide_eq_false hc]
      refine iteF ?_
      have est : lpStep st u = (st.1, st.2 ++ [u]) := by unfold lpStep; rw [if_neg hc]
      refine ⟨_, rfl, .inl ⟨rfl, _, .inl (.inl e2p)⟩, _, rfl, pl, _, _, rfl, rfl, e2p, smallL (by rw [List.length_map]; omega), ?_⟩
      refine ⟨pl, as, _, _, rfl, sMut s2 npl, npl, nrp, by rw [upd_ne nrp]; exact e2r, by rw [tk, est]; exact hasl, ?_, by rw [tk, est, upd_same]; simp⟩
      rw [tk, est]
      intro j l hl
      obtain ⟨b, h4, h5, h6, h7⟩ := hasv j l hl
      exact ⟨b, h4, h5, h6, by rw [upd_ne h6]; exact h7⟩
  · rintro σ H2 ⟨pl, as, v3, v4, rfl, s2, npl, nrp, e2r, hasl, hasv, e2p⟩
    rw [List.length_map, take_all] at hasl hasv e2p
    refine ⟨_, rfl, _, rfl, by show 2 ≤ sizeLine; decide, fun p hp' => ?_⟩
    refine q p _ rg pl (sNew s2 hp') upd_same ⟨as, same_new hp' _ _ e2r, hasl, fun j l hl => ?_⟩ (same_new hp' _ _ e2p)
    obtain ⟨b, h4, _, _, h7⟩ := hasv j l hl
    exact ⟨b, h4, same_new hp' _ _ h7⟩
/-! ### played -/
def nextP (G : Gm) (R : List (Option Nat)) (x : Nat) (pk : Int) : Nat := match R.getD x none with
  | some y => y
  | none => (wy G x).getD (pk % ((wy G x).length : Int)).toNat 0
theorem nextP_mem {G : Gm} (O : GmOk G) {h : Int} {R : List (Option Nat)} (hR : RuleIs G h R) {x : Nat} (hx : x < G.length) (pk : Int) : nextP G R x pk ∈ wy G x := by
  unfold nextP
  cases e : R.getD x none with
  | some y => exact (hR.2 x y hx e).2
  | none =>
    have hl : 0 < (wy G x).length := List.length_pos_iff.mpr (O.wne hx)
    have h1 : pk % ((wy G x).length : Int) < ((wy G x).length : Int) := Int.emod_lt_of_pos _ (by omega)
    have h2 : 0 ≤ pk % ((wy G x).length : Int) := Int.emod_nonneg _ (by omega)
    have h3 : (pk % ((wy G x).length : Int)).toNat < (wy G x).length := by omega
    show (wy G x).getD _ 0 ∈ _
    rw [List.getD_eq_getElem?_getD, List.getElem?_eq_getElem h3]
    exact List.getElem_mem h3
structure PlayIs (G : Gm) (R : List (Option Nat)) (start : Nat) (picks : List Int) (play : List Nat) : Prop where
  len : play.length = picks.length + 1
  zero : play[0]? = some start
  next : ∀ (k x : Nat) (pk : Int), play[k]? = some x → picks[k]? = some pk → play[k + 1]? = some (nextP G R x pk)
  lt : ∀ x, x ∈ play → x < G.length
def spPlayed (K : PySem.W.Frag) : Sp := fun vs H Q _ => ∃ g G h ra R start ka picks, vs = [.ref g, .int h, .ref ra, nV start, .ref ka] ∧ GmAt K H g G ∧ GmOk G ∧ SqL K H ra ((R : List (Option Nat)).map oV) ∧ RuleIs G h R ∧ start < G.length ∧ SqL K H ka ((picks : List Int).map V.int) ∧ picks.length ≤ 500 ∧
  ∀ p H' play, Same H H' → H p = none → H' p = some (.lst (play.map nV)) → PlayIs G R start picks play → Q (.ref p) H'
theorem ok_played {f : Addr} {fd : FuncData} (F : Fun K "played" "played" s_played f fd) (T : Gs mg) (D_is_rule : DefOk P w K mg base "is_rule" 1 ["game", "hand", "rule"] (spIsRule K)) : FnOk P w K mg base CX0 2 f fd ["game", "hand", "rule", "start", "picks"] (spPlayed K) := by
  refine F.ok sc_played (fun vs H Q E h => ?_) (fun cdv A outer s H vs Q E hr h => ?_)
  · obtain ⟨g, G, h, ra, R, start, ka, picks, rfl, _⟩ := h
    rfl
  obtain ⟨g, G, hd, ra, R, start, ka, picks, rfl, A, O, hR, hRR, hst, hka, hkl, q⟩ := h
  have hu := hu_of hr
  refine ⟨_,       (pss_cons (ps_if (pt_not (pt_val (pe_cd D_is_rule (hr.mono (by omega)) (by rfl) (pa_cons (pv 0) (pa_cons (pv 1) (pa_cons (pv 2) pa_nil)))))) 
        (pss_one ps_never) pss_nil)
      (pss_cons (ps_set (i := 5) sc_played.nd rfl (Or.inl rfl) (pe_lst (pa_cons (pv 3) pa_nil)))
      (pss_cons (ps_for PassesOwn.never rfl (pi_list (pv 4)) (pg_name (i := 6) sc_played.nd rfl (Or.inl rfl)) 
        (pss_cons (ps_set (i := 7) sc_played.nd rfl (Or.inl rfl) (pe_ix ix_tup (pe_ix ix_list (pv 0) (pe_ix ix_list (pv 5) (pe_un un_neg pe_int) (fun _ _ => rfl)) (fun _ _ => rfl)) pe_int (fun _ _ => rfl)))
        (pss_cons (ps_set (i := 8) sc_played.nd rfl (Or.inl rfl) (pe_ix ix_list (pv 2) (pe_ix ix_list (pv 5) (pe_un un_neg pe_int) (fun _ _ => rfl)) (fun _ _ => rfl)))
        (pss_cons (ps_if (pt_cmpR op_isN (pv 8) pe_non (nomark _)) 
          (pss_one (ps_set (i := 8) sc_played.nd rfl (Or.inl rfl) (pe_ix ix_list (pv 7) (pe_op op_mod (pv 6) (pe_callB call_len_seq (by rfl) T.nlen PySem.boot_len (pa_cons (pv 7) pa_nil))) (fun _ _ => rfl)))) pss_nil)
        (pss_one (ps_expr (pe_bm PySem.F.plainAttrs_list PySem.F.slot_list_append PySem.F.type_list_append mt_append (pv 5) (pa_cons (pv 8) pa_nil))))))))
      (pss_one (ps_ret (pv 5)))))), ?_⟩
  refine ⟨_, rfl, _, rfl, _, rfl, g, G, hd, ra, R, rfl, A, O, hR, hRR, _, rfl, iteF ?_⟩
  refine ⟨_, rfl, by show 1 ≤ sizeLine; decide, fun D hD => ?_⟩
  refine ⟨_, rfl, ka, rfl, ⟨_, (same_new hD).seq hka⟩, ?_⟩
  refine for_list (K := K) (a := ka) (xs := picks.map V.int) (fun i σ H' => ∃ (play : List Nat) (last : Nat) (v6 v7 v8 : Option V), σ = [some (.ref g), some (.int hd), some (.ref ra), some (nV start), some (.ref ka), some (.ref D), v6, v7, v8] ∧ Same H H' ∧ H' D = some (.lst ((play ++ [last]).map nV)) ∧
      PlayIs G R start (picks.take i) (play ++ [last]))
    ⟨[], start, _, _, _, rfl, same_new hD, by rw [upd_same]; rfl, ⟨by simp, by simp, fun k x pk _ h => by simp at h, fun x hx => by simp at hx; omega⟩⟩ (fun i σ H' _ ⟨_, _, _, _, _, _, s, _⟩ => s.seq hka) ?_ ?_
  · rintro i x σ H2 hi ⟨play, last, v6, v7, v8, rfl, s2, e2, PI⟩
    obtain ⟨pk, hpk, rfl⟩ := map_get hi
    have hil := get_lt hpk
    have hl : last < G.length := PI.lt last (by simp)
    have hat : atI ((play ++ [last]).map nV) (-1) = some (nV last) := by
      rw [List.map_append]
      exact atI_last (play.map nV) (nV last)
    have hRg : R[last]? = some (R.getD last none) := by have := hRR.1; rw [List.getD_eq_getElem?_getD, List.getElem?_eq_getElem (by omega)]; rfl
    -- ways = game[play[-1]][2]
    refine ⟨_, rfl, _, rfl, _, rfl, D, _, -1, nV last, rfl, rfl, .inl (.inl e2), hat, rd_wy0 A s2 hl rfl rfl fun wa hwa => ?_⟩
    -- way = rule[play[-1]]
    refine ⟨_, rfl, _, rfl, _, rfl, D, _, -1, nV last, rfl, rfl, .inl (.inl e2), hat, rd_at (f := oV) (s2.seq hR) hRg rfl rfl ?_⟩
    have fin : ∀ y, y = nextP G R last pk → ∃ (play' : List Nat) (last' : Nat) (v6 v7 v8 : Option V), [some (V.ref g), some (.int hd), some (.ref ra), some (nV start), some (.ref ka), some (.ref D), some (.int pk), some (.ref wa), some (nV y)] = [some (.ref g), some (.int hd), some (.ref ra), some (nV start), some (.ref ka), some (.ref D), v6, v7, v8] ∧ Same H (upd H2 D (.lst ((play ++ [last]).map nV ++ [nV y]))) ∧ (upd H2 D (.lst ((play ++ [last]).map nV ++ [nV y]))) D = some (.lst ((play' ++ [last']).map nV)) ∧
        PlayIs G R start (picks.take (i + 1)) (play' ++ [last']) := fun y hy => by
      have hylt : y < G.length := by rw [hy]; exact O.wy hl _ (nextP_mem O hRR hl pk)
      have hlen := PI.len
      have htl : (picks.take i).length = i := by rw [List.length_take]; omega
      refine ⟨play ++ [last], y, _, _, _, rfl, sMut s2 hD, by rw [upd_same, List.map_append (l₁ := play ++ [last])]; rfl, ⟨?_, ?_, fun k x pk' hk hpk' => ?_, fun x hx => ?_⟩⟩
      · rw [List.length_append, hlen, htl, List.length_take, List.length_singleton]; omega
      · rw [List.getElem?_append_left (by omega)]; exact PI.zero
      · rcases Nat.lt_or_ge k i with hki | hki
        · have h1 : (picks.take i)[k]? = some pk' := by
            rw [List.getElem?_take, if_pos hki]
            rw [List.getElem?_take, if_pos (by omega)] at hpk'
            exact hpk'
          rw [List.getElem?_append_left (by omega)] at hk
          have := PI.next k x pk' hk h1
          rw [List.getElem?_append_left (by rw [hlen, htl]; omega)]
          exact this
        · have hk2 := get_lt hpk'
          rw [List.length_take] at hk2
          have hki2 : k = i := by omega
          subst hki2
          rw [List.getElem?_take, if_pos (by omega), hpk] at hpk'
          cases hpk'
          rw [List.getElem?_append_left (by omega)] at hk
          have hpl : play.length = k := by rw [List.length_append, List.length_singleton, htl] at hlen; omega
          have : x = last := by
            rw [List.getElem?_append_right (by omega), hpl, Nat.sub_self] at hk
            simpa using hk.symm
          subst this
          have e1 : (play ++ [x] ++ [y])[k + 1]? = some y := by
            rw [List.getElem?_append_right (by rw [List.length_append, List.length_singleton]; omega), List.length_append, List.length_singleton, hpl, Nat.sub_self]; rfl
          rw [e1, hy]
      · rcases List.mem_append.mp hx with hx | hx
        · exact PI.lt x hx
        · rw [List.mem_singleton.mp hx]; exact hylt
    have hsz : ((play ++ [last]).map nV).length < sizeLine := smallL (by rw [List.length_map, PI.len, List.length_take]; omega)
    refine ⟨_, rfl, rfl, _, rfl, ?_⟩
    cases eR : R.getD last none with
    | some y =>
      refine iteF ?_
      exact ⟨_, rfl, .inl ⟨rfl, _, .inl (.inl e2)⟩, _, rfl, D, _, _, rfl, rfl, e2, hsz, fin y (by unfold nextP; rw [eR])⟩
    | none =>
      refine iteT ?_
      have hwl : 0 < (wy G last).length := List.length_pos_iff.mpr (O.wne hl)
      have h1 : pk % ((wy G last).length : Int) < ((wy G last).length : Int) := Int.emod_lt_of_pos _ (by omega)
      have h2 : 0 ≤ pk % ((wy G last).length : Int) := Int.emod_nonneg _ (by omega)
      have h3 : (pk % ((wy G last).length : Int)).toNat < (wy G last).length := by omega
      have hg : (wy G last)[(pk % ((wy G last).length : Int)).toNat]? = some ((wy G last).getD (pk % ((wy G last).length : Int)).toNat 0) := by rw [List.getD_eq_getElem?_getD, List.getElem?_eq_getElem h3]; rfl
      refine ⟨_, rfl, _, rfl, _, rfl, wa, _, rfl, .inl (s2.seq hwa), pk, ((wy G last).length : Int), rfl, by rw [List.length_map], by show (0 : Int) < _; omega, ?_⟩
      refine rd_at (f := nV) (s2.seq hwa) hg rfl (by show V.int _ = V.int _; congr 1; omega) ?_
      exact ⟨_, rfl, .inl ⟨rfl, _, .inl (.inl e2)⟩, _, rfl, D, _, _, rfl, rfl, e2, hsz, fin _ (by unfold nextP; rw [eR])⟩
  · rintro σ H2 ⟨play, last, v6, v7, v8, rfl, s2, e2, PI⟩
    rw [List.length_map, take_all] at PI
    exact ⟨_, rfl, q D H2 _ s2 hD e2 PI⟩
end
end Rg
/-! the law's own: _law_mixed, _law_many, _law_ways -/
namespace Rg
open PySem L2
abbrev s_law_mixed : Stmt := topS 28
theorem sc_law_mixed : FnScope ["_law_script", "_law_k", "_law_number", "_law_cell"] ["_law_script", "_law_k"] (defScope s_law_mixed) := ⟨rfl, rfl, rfl, by decide +kernel, rfl, by decide +kernel, by decide +kernel⟩
abbrev s_law_many : Stmt := topS 29
theorem sc_law_many : FnScope ["_law_number", "_law_n", "_law_ways_here", "_law_step"] ["_law_number", "_law_n"] (defScope s_law_many) := ⟨rfl, rfl, rfl, by decide +kernel, rfl, by decide +kernel, by decide +kernel⟩
abbrev s_law_ways : Stmt := topS 30
theorem sc_law_ways : FnScope ["_law_number", "_law_k", "_law_n", "_law_mode", "_law_ways_here", "_law_step", "_law_way"] ["_law_number", "_law_k", "_law_n", "_law_mode"] (defScope s_law_ways) := ⟨rfl, rfl, rfl, by decide +kernel, rfl, by decide +kernel, by decide +kernel⟩
theorem fdiv_nn {a b : Int} (ha : 0 ≤ a) (hb : 0 < b) : 0 ≤ a.fdiv b ∧ a.fdiv b ≤ a := by
  rw [Int.fdiv_eq_ediv_of_nonneg _ (Int.le_of_lt hb)]
  exact ⟨Int.ediv_nonneg ha (Int.le_of_lt hb), Int.ediv_le_self b ha⟩
theorem emod_in {a b : Int} (hb : 0 < b) : 0 ≤ a % b ∧ a % b < b := ⟨Int.emod_nonneg _ (by omega), Int.emod_lt_of_pos _ hb⟩
theorem mul_in {a b A B : Int} (h1 : 0 ≤ a) (h2 : a ≤ A) (h3 : 0 ≤ b) (h4 : b ≤ B) : 0 ≤ a * b ∧ a * b ≤ A * B :=
  ⟨Int.mul_nonneg h1 h3, Int.mul_le_mul h2 h4 h3 (Int.le_trans h1 h2)⟩
section
variable {P : Program} {w : World} {K : PySem.W.Frag} {mg : Str → Option Value} {base : Heap}
/-! ### _law_mixed -/
def spMixed (K : PySem.W.Frag) : Sp := fun vs H Q _ => ∃ a ns k, vs = [.ref a, .int k] ∧ SqL K H a ((ns : List Int).map V.int) ∧ ns.length ≤ 63 ∧ 0 ≤ k ∧ k ≤ 1000 ∧ ∀ v, 0 ≤ v → v < 2147483629 → Q (.int v) H
theorem ok_mixed {f : Addr} {fd : FuncData} (F : Fun K "_law_mixed" "_law_mixed" s_law_mixed f fd) (T : Gs mg) : FnOk P w K mg base CX0 1 f fd ["_law_script", "_law_k"] (spMixed K) := by
  refine F.ok sc_law_mixed (fun vs H Q E h => ?_) (fun cdv A outer s H vs Q E hr h => ?_)
  · obtain ⟨a, ns, k, rfl, _⟩ := h
    rfl
  obtain ⟨a, ns, k, rfl, hp, hn, hk0, hk1, q⟩ := h
  have hu := hu_of hr
  refine ⟨_,       (pss_cons (ps_set (i := 2) sc_law_mixed.nd rfl (Or.inl rfl) (pe_op op_add (pe_op op_add (pe_op op_mul (pe_op op_mul (pv 1) (pv 1)) pe_int) (pe_op op_mul pe_int (pv 1))) pe_int))
      (pss_cons (ps_if (pt_cmpR op_gt (pe_callB call_len_seq (by rfl) T.nlen PySem.boot_len (pa_cons (pv 0) pa_nil)) pe_int (nomark _)) 
        (pss_cons (ps_set (i := 3) sc_law_mixed.nd rfl (Or.inl rfl) (pe_op op_mod (pe_ix ix_list (pv 0) (pe_op op_mod (pv 1) (pe_callB call_len_seq (by rfl) T.nlen PySem.boot_len (pa_cons (pv 0) pa_nil))) (fun _ _ => rfl)) (pe_op op_pow pe_int pe_int)))
        (pss_one (ps_set (i := 2) sc_law_mixed.nd rfl (Or.inl rfl) (pe_op op_add (pv 2) (pe_op op_mul (pv 3) (pe_op op_add pe_int (pe_op op_fdivN (pv 1) (pe_callB call_len_seq (by rfl) T.nlen PySem.boot_len (pa_cons (pv 0) pa_nil))))))))) pss_nil)
      (pss_one (ps_ret (pe_op op_mod (pv 2) pe_int))))), ?_⟩
  have hkk := mul_in hk0 hk1 hk0 hk1
  refine ⟨_, rfl, _, rfl, _, _, rfl, rfl, .inl ⟨by omega, by omega⟩, _, _, rfl, rfl, .inl ⟨by omega, by omega⟩, ?_⟩
  refine ⟨_, rfl, _, _, rfl, rfl, .inl ⟨by omega, by omega⟩, _, _, rfl, rfl, _, _, rfl, rfl, ?_⟩
  have fin : ∀ z : Int, Q (.int (z % 2147483629)) H := fun z => q _ (emod_in (by decide)).1 (emod_in (by decide)).2
  refine ⟨_, rfl, a, _, rfl, .inl hp, _, _, rfl, rfl, _, rfl, ?_⟩
  rw [List.length_map]
  by_cases hl : ns = []
  · subst hl
    refine iteF ?_
    exact ⟨_, rfl, _, _, rfl, rfl, by show (0 : Int) < 2147483629; decide, fin _⟩
  · have hpos := List.length_pos_iff.mpr hl
    have hdec : decide ((0 : Int) < ((ns.length : Nat) : Int)) = true := decide_eq_true (by omega)
    rw [hdec]
    refine iteT ?_
    have hm := emod_in (a := k) (b := (ns.length : Int)) (by omega)
    obtain ⟨z, hz⟩ := get_of_lt (xs := ns) (i := (k % (ns.length : Int)).toNat) (by omega)
    refine ⟨_, rfl, _, rfl, _, rfl, a, _, rfl, .inl hp, k, (ns.length : Int), rfl, by rw [List.length_map], by show (0 : Int) < _; omega, ?_⟩
    refine rd_at (f := V.int) hp hz rfl (by show V.int _ = V.int _; congr 1; omega) ?_
    refine ⟨_, _, rfl, rfl, ⟨by decide, by decide, by decide⟩, z, 10 ^ (30 : Int).toNat, rfl, rfl, by show (0 : Int) < 10 ^ 30; decide +kernel, ?_⟩
    have hd := fdiv_nn (a := k) (b := (ns.length : Int)) hk0 (by omega)
    refine ⟨_, rfl, _, rfl, _, rfl, _, rfl, a, _, rfl, .inl hp, k, (ns.length : Int), rfl, by rw [List.length_map], ⟨by omega, by omega⟩, _, _, rfl, rfl, _, _, rfl, rfl, .inr ⟨by omega, by omega⟩, _, _, rfl, rfl, ?_⟩
    exact ⟨_, rfl, _, _, rfl, rfl, by show (0 : Int) < 2147483629; decide, fin _⟩
/-! ### dicts whose keys are places -/
structure KB (H : Hp) (D : Addr) (ks : List Nat) : Prop where
  ex : ∃ kvs : List (Key × V), H D = some (.dK kvs) ∧ kvs.map (·.1) = ks.map fun n : Nat => (Sum.inl (n : Int) : Key)
theorem KB.put {H : Hp} {D : Addr} {ks : List Nat} (B : KB H D ks) (hl : ks.length ≤ 100) (x : Nat) (v : V) : ∃ H', DPut H D (nV x) v H' ∧ KB H' D (if x ∈ ks then ks else ks ++ [x]) ∧ ∃ o, H' = upd H D o := by
  obtain ⟨kvs, h1, h2⟩ := B.ex
  have hlen : kvs.length = ks.length := by have := congrArg List.length h2; simpa using this
  refine ⟨_, DPut.k (k := Sum.inl (x : Int)) h1 (smallL (by omega)), ⟨_, upd_same, ?_⟩, _, rfl⟩
  have hmem : (kvs.any fun kv => decide (kv.1 = Sum.inl (x : Int))) = decide (x ∈ ks) := by
    have e1 : (kvs.any fun kv => decide (kv.1 = Sum.inl (x : Int))) = (kvs.map (·.1)).any fun k => decide (k = Sum.inl (x : Int)) := by rw [List.any_map]; rfl
    rw [e1, h2, List.any_map]
    by_cases hx : x ∈ ks
    · rw [decide_eq_true hx]
      exact List.any_eq_true.mpr ⟨x, hx, decide_eq_true rfl⟩
    · rw [decide_eq_false hx]
      refine List.any_eq_false.mpr fun y hy => ?_
      simp only [Function.comp_apply, decide_eq_true_eq]
      intro z
      have := Sum.inl.inj z
      have : y = x := by omega
      exact hx (this ▸ hy)
  unfold putK
  rw [hmem]
  by_cases hx : x ∈ ks
  · rw [decide_eq_true hx, if_pos rfl, if_pos hx, List.map_map, ← h2]
    refine List.map_congr_left fun kv _ => ?_
    show (if kv.1 = Sum.inl (x : Int) then (kv.1, v) else kv).1 = kv.1
    split <;> rfl
  · rw [decide_eq_false hx, if_neg (by simp), if_neg hx, List.map_append, List.map_append, h2]
    rfl
theorem dp_eq {H H' : Hp} {D : Addr} {W : Int} {x : Nat} {v : V} (e : W = (x : Int)) (p : DPut H D (nV x) v H') : DPut H D (V.int W) v H' := by rw [e]; exact p
/-- keys met so far: some, all below n, unlike -/
structure Ks (n i : Nat) (ks : List Nat) : Prop where
  nd : ks.Nodup
  lt : ∀ x, x ∈ ks → x < n
  some : 0 < i → ks ≠ []
theorem Ks.nil {n : Nat} : Ks n 0 [] := ⟨List.nodup_nil, (fun x hx => nomatch hx), fun h => absurd h (Nat.lt_irrefl 0)⟩
theorem Ks.put {n i x : Nat} {ks : List Nat} (h : Ks n i ks) (hx : x < n) : Ks n (i + 1) (if x ∈ ks then ks else ks ++ [x]) := by
  by_cases hm : x ∈ ks
  · rw [if_pos hm]
    exact ⟨h.nd, h.lt, fun _ z => by rw [z] at hm; cases hm⟩
  · rw [if_neg hm]
    refine ⟨?_, fun y hy => ?_, fun _ => by simp⟩
    · rw [List.nodup_append]
      exact ⟨h.nd, by simp, fun a ha b hb e => by rw [List.mem_singleton.mp hb] at e; exact hm (e ▸ ha)⟩
    · rcases List.mem_append.mp hy with hy | hy
      · exact h.lt y hy
      · rw [List.mem_singleton.mp hy]; exact hx
theorem Ks.len {n i : Nat} {ks : List Nat} (h : Ks n i ks) (hn : n ≤ 63) : ks.length ≤ 63 := TabAt.klen hn h.nd h.lt
/-- a new list of ways -/
structure WaysIs (n : Nat) (ws : List Nat) : Prop where
  ne : ws ≠ []
  nd : ws.Nodup
  lt : ∀ x, x ∈ ws → x < n
/-! ### _law_many -/
def spMany : Sp := fun vs H Q _ => ∃ (z : Int) (n : Nat), vs = [.int z, nV n] ∧ 0 ≤ z ∧ z < 2147483629 ∧ 1 ≤ n ∧ n ≤ 63 ∧ ∀ p H' (ws : List Nat), Same H H' → H p = none → H' p = some (.lst (ws.map nV)) → WaysIs n ws → Q (.ref p) H'
theorem sorted_keys {H : Hp} {D : Addr} {ks : List Nat} {n : Nat} {Q : VK} (B : KB H D ks) (hk : Ks n 1 ks) (hn : n ≤ 63) (q : ∀ p (ws : List Nat), H p = none → WaysIs n ws → Q (.ref p) (upd H p (.lst (ws.map nV)))) :
    ∃ (a : Addr) (kvs : List (Key × V)) (ks : List Int), [V.ref D] = [V.ref a] ∧ Rd H a (.dK kvs) ∧ kvs.map (·.1) = ks.map Sum.inl ∧ ks.length < 64 ∧ ∀ (ys : List Int) (p : Addr), ys.Perm ks → ys.Pairwise (· ≤ ·) → H p = none → Q (.ref p) (upd H p (.lst (ys.map V.int))) := by
  obtain ⟨kvs, h1, h2⟩ := B.ex
  have hl := hk.len hn
  refine ⟨D, kvs, ks.map fun n : Nat => (n : Int), rfl, .inl h1, by rw [h2, List.map_map]; rfl, by rw [List.length_map]; omega, fun ys p pm _ hp => ?_⟩
  obtain ⟨ws, rfl⟩ := to_nats (ns := ys) fun k hk => by
    obtain ⟨x, _, rfl⟩ := List.mem_map.mp (pm.mem_iff.mp hk)
    exact ⟨x, rfl⟩
  have pm2 : ws.Perm ks := perm_cast pm
  rw [← nVs]
  refine q p ws hp ⟨fun z => ?_, pm2.nodup_iff.mpr hk.nd, fun x hx => hk.lt x (pm2.mem_iff.mp hx)⟩
  rw [z] at pm2
  exact hk.some (by decide) (List.nil_perm.mp pm2)
theorem ok_many {f : Addr} {fd : FuncData} (F : Fun K "_law_many" "_law_many" s_law_many f fd) (T : Gs mg) : FnOk P w K mg base CX0 1 f fd ["_law_number", "_law_n"] spMany := by
  refine F.ok sc_law_many (fun vs H Q E h => ?_) (fun cdv A outer s H vs Q E hr h => ?_)
  · obtain ⟨z, n, rfl, _⟩ := h
    rfl
  obtain ⟨z, n, rfl, hz0, hz1, hn0, hn1, q⟩ := h
  have hu := hu_of hr
  refine ⟨_,       (pss_cons (ps_if (PW.pt (pw_and (pt_cmpR op_eq (pe_op op_mod (pv 0) pe_int) pe_int (nomark _)) (pw_and1 (pt_cmpR op_lt (pv 1) pe_int (nomark _))))) 
        (pss_one (ps_ret (pe_listRg rfl (by rfl) T.nlist (prg_1 (by rfl) T.nrange (pv 1))))) pss_nil)
      (pss_cons (ps_set (i := 2) sc_law_many.nd rfl (Or.inl rfl) pe_dnewK)
      (pss_cons (ps_for PassesOwn.never rfl (pi_range1 (by rfl) T.nrange (pa_cons (pe_op op_add pe_int (pe_op op_mod (pe_op op_fdivN (pv 0) pe_int) (pe_callB (call_min2 rfl) (by rfl) T.nmin (by decide +kernel) (pa_cons (pv 1) (pa_cons pe_int pa_nil))))) pa_nil)) (pg_name (i := 3) sc_law_many.nd rfl (Or.inl rfl)) 
        (pss_one (ps_dput hu (pv 2) (pe_op op_mod (pe_op op_add (pe_op op_mul (pe_op op_fdivN (pv 0) pe_int) (pe_op op_add (pv 3) pe_int)) (pe_op op_mul (pv 3) (pv 3))) (pv 1)) pe_bl rfl)))
      (pss_one (ps_ret (pe_callB (call_sortedDI rfl) (by rfl) T.nsorted (by decide +kernel) (pa_cons (pv 2) pa_nil))))))), ?_⟩
  have hn' : (0 : Int) < (n : Int) := by omega
  refine ⟨_, rfl, _, _, rfl, rfl, by show (0 : Int) < 5; decide, rfl, _, rfl, ?_⟩
  refine ite2 (fun c1 => ⟨_, rfl, _, _, rfl, rfl, _, rfl, ite2 (fun c2 => ?ret) (fun c2 => ?r1)⟩) (fun c1 => iteF ?r2)
  case ret =>
    refine ⟨_, rfl, _, rfl, RgOk.of_le (by omega) (by omega) (by omega) (by omega), fun p hp => ?_⟩
    rw [rgV_nat]
    refine q p _ (List.range n) (same_new hp) hp upd_same ⟨fun z => ?_, List.nodup_range, fun x hx => List.mem_range.mp hx⟩
    have := congrArg List.length z
    rw [List.length_range] at this
    simp at this
    omega
  all_goals
    intro D hD
    have hm8 : (0 : Int) < (if (8 : Int) < (n : Int) then 8 else (n : Int)) ∧ (if (8 : Int) < (n : Int) then (8 : Int) else (n : Int)) ≤ 8 := by split <;> omega
    have hj := emod_in (a := z.fdiv 5) hm8.1
    refine ⟨_, rfl, _, _, rfl, rfl, ⟨by decide, by decide⟩, _, rfl, _, _, rfl, _, _, rfl, rfl, hm8.1, _, _, rfl, rfl, _, rfl, by omega, by omega, ?_⟩
    generalize hJ : (1 + z.fdiv 5 % (if (8 : Int) < (n : Int) then 8 else (n : Int))) = J
    have hJ1 : 1 ≤ J ∧ J ≤ 9 := by omega
    refine for_range (lo := 0) (n := J.toNat) (fun i σ H' => ∃ ks v3, σ = [some (.int z), some (nV n), some (.ref D), v3] ∧ Same H H' ∧ KB H' D ks ∧ Ks n i ks) ⟨[], _, rfl, same_new hD, ⟨[], upd_same, rfl⟩, Ks.nil⟩ ?_ ?_
    · rintro i σ H2 hi ⟨ks, v3, rfl, s2, B2, k2⟩
      have ei : (V.int (0 + (i : Int))) = nV i := by rw [Int.zero_add]
      rw [ei]
      have hd40 := fdiv_nn (a := z) (b := 40) hz0 (by decide)
      have hii := mul_in (a := (i : Int)) (b := (i : Int)) (A := 9) (B := 9) (by omega) (by omega) (by omega) (by omega)
      have hx := emod_in (a := z.fdiv 40 * ((i : Int) + 1) + (i : Int) * (i : Int)) hn'
      obtain ⟨x, hxe⟩ : ∃ x : Nat, (z.fdiv 40 * ((i : Int) + 1) + (i : Int) * (i : Int)) % (n : Int) = (x : Int) := ⟨_, (Int.toNat_of_nonneg hx.1).symm⟩
      obtain ⟨H5, p5, B5, o5, rfl⟩ := B2.put (by have := k2.len hn1; omega) x (.bl true)
      refine ⟨_, rfl, _, rfl, _, _, rfl, rfl, ⟨by decide, by decide⟩, _, rfl, _, _, rfl, rfl, _, _, rfl, rfl, .inl ⟨by omega, by omega⟩, _, rfl, _, rfl, _, _, rfl, rfl, .inl ⟨by omega, by omega⟩, _, _, rfl, rfl, _, rfl, _, _, rfl, rfl, hn', D, _, rfl, dp_eq hxe p5, _, _, rfl, sMut s2 hD, B5, k2.put (by omega)⟩
    · rintro σ H2 ⟨ks, v3, rfl, s2, B2, k2⟩
      exact ⟨_, rfl, sorted_keys B2 ⟨k2.nd, k2.lt, fun _ => k2.some (by omega)⟩ hn1 fun p ws hp W => q p _ ws (sNew s2 hp) (s2.free hp) upd_same W⟩
/-! ### _law_ways -/
def spWays : Sp := fun vs H Q _ => ∃ (z : Int) (k n : Nat) (mode : Int), vs = [.int z, nV k, nV n, .int mode] ∧ 0 ≤ z ∧ z < 2147483629 ∧ k < n ∧ n ≤ 63 ∧ ∀ p H' (ws : List Nat), Same H H' → H p = none → H' p = some (.lst (ws.map nV)) → WaysIs n ws → Q (.ref p) H'
theorem ok_ways {f : Addr} {fd : FuncData} (F : Fun K "_law_ways" "_law_ways" s_law_ways f fd) (T : Gs mg) (D_law_many : DefOk P w K mg base "_law_many" 1 ["_law_number", "_law_n"] spMany) : FnOk P w K mg base CX0 2 f fd ["_law_number", "_law_k", "_law_n", "_law_mode"] spWays := by
  refine F.ok sc_law_ways (fun vs H Q E h => ?_) (fun cdv A outer s H vs Q E hr h => ?_)
  · obtain ⟨z, k, n, mode, rfl, _⟩ := h
    rfl
  obtain ⟨z, k, n, mode, rfl, hz0, hz1, hkn, hn1, q⟩ := h
  have hu := hu_of hr
  refine ⟨_,       (pss_cons (ps_if (pt_cmpR op_eq (pv 3) pe_int (nomark _)) 
        (pss_one (ps_ret (pe_cd D_law_many (hr.mono (by omega)) (by rfl) (pa_cons (pv 0) (pa_cons (pv 2) pa_nil))))) pss_nil)
      (pss_cons (ps_set (i := 4) sc_law_ways.nd rfl (Or.inl rfl) pe_dnewK)
      (pss_cons (ps_for PassesOwn.never rfl (pi_range1 (by rfl) T.nrange (pa_cons (pe_op op_add pe_int (pe_op op_mul (pe_op op_mod (pv 0) pe_int) (pe_callTy call_int1 (by rfl) T.nint (by decide +kernel) (pa_cons (pe_cmpR op_ne (pv 3) pe_int (nomark _)) pa_nil)))) pa_nil)) (pg_name (i := 5) sc_law_ways.nd rfl (Or.inl rfl)) 
        (pss_cons (ps_set (i := 6) sc_law_ways.nd rfl (Or.inl rfl) (pe_op op_mod (pe_op op_fdivN (pv 0) pe_int) (pv 2)))
        (pss_cons (ps_if (pt_cmpR op_eq (pv 3) pe_int (nomark _)) 
          (pss_one (ps_set (i := 6) sc_law_ways.nd rfl (Or.inl rfl) (pe_callB (call_max2 rfl) (by rfl) T.nmax (by decide +kernel) (pa_cons (pv 6) (pa_cons (pe_op op_mul (pe_op op_fdivN (pv 1) pe_int) pe_int) pa_nil))))) pss_nil)
        (pss_cons (ps_if (pt_cmpR op_eq (pv 3) pe_int (nomark _)) 
          (pss_one (ps_set (i := 6) sc_law_ways.nd rfl (Or.inl rfl) (pe_op op_mod (pe_op op_add (pe_op op_sub (pe_op op_add (pv 1) (pv 2)) pe_int) (pe_op op_mod (pe_op op_fdivN (pv 0) pe_int) pe_int)) (pv 2)))) pss_nil)
        (pss_cons (ps_dput hu (pv 4) (pv 6) pe_bl rfl)
        (pss_one (ps_set (i := 0) sc_law_ways.nd rfl (Or.inl rfl) (pe_op op_fdivN (pv 0) (pv 2)))))))))
      (pss_one (ps_ret (pe_callB (call_sortedDI rfl) (by rfl) T.nsorted (by decide +kernel) (pa_cons (pv 4) pa_nil))))))), ?_⟩
  have hn' : (0 : Int) < (n : Int) := by omega
  refine ⟨_, rfl, rfl, _, rfl, ?_⟩
  refine ite2 (fun c => ?_) (fun c => ?_)
  · exact ⟨_, rfl, _, rfl, z, n, rfl, hz0, hz1, by omega, hn1, q⟩
  intro D hD
  have h3 := emod_in (a := z) (b := 3) (by decide)
  refine ⟨_, rfl, _, _, rfl, rfl, by show (0 : Int) < 3; decide, _, rfl, rfl, .inr ⟨_, rfl, _, _, rfl, rfl, .inl ⟨by omega, by omega⟩, _, _, rfl, rfl, _, rfl, ?_⟩⟩
  generalize hb : (!decide (V.int mode = V.int 1)) = bm
  have hJ0 : 1 ≤ (1 + z % 3 * (if bm = true then 1 else 0)) ∧ (1 + z % 3 * (if bm = true then 1 else 0)) ≤ 3 := by cases bm <;> simp <;> omega
  generalize hJ : (1 + z % 3 * (if bm = true then (1 : Int) else 0)) = J at *
  refine ⟨by omega, by omega, ?_⟩
  refine for_range (lo := 0) (n := J.toNat) (fun i σ H' => ∃ (ks : List Nat) (z' : Int) (v5 v6 : Option V), σ = [some (.int z'), some (nV k), some (nV n), some (.int mode), some (.ref D), v5, v6] ∧ 0 ≤ z' ∧ z' < 2147483629 ∧ Same H H' ∧ KB H' D ks ∧ Ks n i ks) ⟨[], z, _, _, rfl, hz0, hz1, same_new hD, ⟨[], upd_same, rfl⟩, Ks.nil⟩ ?_ ?_
  · rintro i σ H2 hi ⟨ks, z', v5, v6, rfl, hz0', hz1', s2, B2, k2⟩
    have hx1 := emod_in (a := z'.fdiv 3) hn'
    have hk3 := fdiv_nn (a := (k : Int)) (b := 3) (by omega) (by decide)
    have hk33 : (k : Int).fdiv 3 * 3 ≤ (k : Int) := by rw [Int.fdiv_eq_ediv_of_nonneg _ (by decide)]; omega
    have hzn := fdiv_nn (a := z') (b := (n : Int)) hz0' hn'
    have hx3 := emod_in (a := (k : Int) + (n : Int) - 1 + z'.fdiv 3 % 4) hn'
    refine ⟨_, rfl, _, _, rfl, rfl, ⟨by decide, by decide⟩, _, rfl, _, _, rfl, rfl, hn', ?_⟩
    -- whatever way it is
    have fin : ∀ W : Int, 0 ≤ W → W < (n : Int) → ∃ x : Nat, W = (x : Int) ∧ ∃ H5 : Hp, DPut H2 D (nV x) (.bl true) H5 ∧ KB H5 D (if x ∈ ks then ks else ks ++ [x]) ∧ Ks n (i + 1) (if x ∈ ks then ks else ks ++ [x]) ∧ Same H H5 := fun W h0 h1 => by
      obtain ⟨x, hxe⟩ : ∃ x : Nat, W = (x : Int) := ⟨_, (Int.toNat_of_nonneg h0).symm⟩
      obtain ⟨H5, p5, B5, o5, rfl⟩ := B2.put (by have := k2.len hn1; omega) x (.bl true)
      exact ⟨x, hxe, _, p5, B5, k2.put (by omega), sMut s2 hD⟩
    refine ⟨_, rfl, rfl, _, rfl, ite2 (fun c2 => ⟨_, rfl, _, rfl, _, _, rfl, rfl, ⟨by decide, by decide⟩, _, _, rfl, rfl, .inl ⟨by omega, by omega⟩, _, _, rfl, ?a⟩) (fun c2 => ?b)⟩
    case a =>
      have hW : 0 ≤ (if ((k : Int).fdiv 3 * 3) > z'.fdiv 3 % (n : Int) then ((k : Int).fdiv 3 * 3) else z'.fdiv 3 % (n : Int)) ∧ (if ((k : Int).fdiv 3 * 3) > z'.fdiv 3 % (n : Int) then ((k : Int).fdiv 3 * 3) else z'.fdiv 3 % (n : Int)) < (n : Int) := by split <;> omega
      have hc3 : ¬ decide (V.int mode = V.int 3) = true := fun z => by
        have h1 := V.int.inj (of_decide_eq_true z)
        have h2 := V.int.inj (of_decide_eq_true c2)
        omega
      refine ⟨_, rfl, rfl, _, rfl, ite2 (fun c => absurd c hc3) (fun _ => ?_)⟩
      obtain ⟨x, hx, H5, p5, B5, k5, s5⟩ := fin _ hW.1 hW.2
      exact ⟨_, rfl, _, rfl, D, H5, rfl, dp_eq hx p5, _, rfl, _, rfl, _, _, rfl, rfl, ⟨by omega, by omega⟩, _, _, _, _, rfl, hzn.1, by omega, s5, B5, k5⟩
    case b =>
      refine ⟨_, rfl, rfl, _, rfl, ite2 (fun c => ⟨_, rfl, _, rfl, _, _, rfl, rfl, _, _, rfl, rfl, _, rfl, _, _, rfl, rfl, ⟨by decide, by decide⟩, _, _, rfl, rfl, by show (0 : Int) < 4; decide, _, _, rfl, rfl, _, rfl, _, _, rfl, rfl, hn', ?_⟩) (fun _ => ?_)⟩
      · obtain ⟨x, hx, H5, p5, B5, k5, s5⟩ := fin _ hx3.1 hx3.2
        exact ⟨_, rfl, _, rfl, D, H5, rfl, dp_eq hx p5, _, rfl, _, rfl, _, _, rfl, rfl, ⟨by omega, by omega⟩, _, _, _, _, rfl, hzn.1, by omega, s5, B5, k5⟩
      · obtain ⟨x, hx, H5, p5, B5, k5, s5⟩ := fin _ hx1.1 hx1.2
        exact ⟨_, rfl, _, rfl, D, H5, rfl, dp_eq hx p5, _, rfl, _, rfl, _, _, rfl, rfl, ⟨by omega, by omega⟩, _, _, _, _, rfl, hzn.1, by omega, s5, B5, k5⟩
  · rintro σ H2 ⟨ks, z', v5, v6, rfl, _, _, s2, B2, k2⟩
    exact ⟨_, rfl, sorted_keys B2 ⟨k2.nd, k2.lt, fun _ => k2.some (by omega)⟩ hn1 fun p ws hp W => q p _ ws (sNew s2 hp) (s2.free hp) upd_same W⟩
end
end Rg
/-! the law's own: _law_game, _law_whole, _law_fits, _law_solved -/
namespace Rg
open PySem L2
abbrev s_law_game : Stmt := topS 31
theorem sc_law_game : FnScope ["_law_script", "_law_first", "_law_n", "_law_tops", "_law_mode", "_law_game_here", "_law_k", "_law_number", "_law_rank"] ["_law_script"] (defScope s_law_game) := ⟨rfl, rfl, rfl, by decide +kernel, rfl, by decide +kernel, by decide +kernel⟩
abbrev s_law_whole : Stmt := topS 32
theorem sc_law_whole : FnScope ["_law_found"] ["_law_found"] (defScope s_law_whole) := ⟨rfl, rfl, rfl, by decide +kernel, rfl, by decide +kernel, by decide +kernel⟩
abbrev s_law_fits : Stmt := topS 33
theorem sc_law_fits : FnScope ["_law_game_here", "_law_won_here", "_law_ways_here", "_law_place", "_law_way"] ["_law_game_here", "_law_won_here", "_law_ways_here"] (defScope s_law_fits) := ⟨rfl, rfl, rfl, by decide +kernel, rfl, by decide +kernel, by decide +kernel⟩
abbrev s_law_solved : Stmt := topS 34
theorem sc_law_solved : FnScope ["_law_game_here", "_law_handed", "_law_found", "_law_row"] ["_law_game_here"] (defScope s_law_solved) := ⟨rfl, rfl, rfl, by decide +kernel, rfl, by decide +kernel, by decide +kernel⟩
theorem tops_at {i : Int} (h0 : 0 ≤ i) (h1 : i < 5) : ∃ t : Int, atI [V.int 41, V.int 41, V.int 7, V.int 4, V.int 3] i = some (.int t) ∧ 3 ≤ t ∧ t ≤ 41 := by
  have h : i = 0 ∨ i = 1 ∨ i = 2 ∨ i = 3 ∨ i = 4 := by omega
  rcases h with rfl | rfl | rfl | rfl | rfl
  · exact ⟨41, rfl, by decide, by decide⟩
  · exact ⟨41, rfl, by decide, by decide⟩
  · exact ⟨7, rfl, by decide, by decide⟩
  · exact ⟨4, rfl, by decide, by decide⟩
  · exact ⟨3, rfl, by decide, by decide⟩
/-- places that stand in rows -/
structure Rows (H : Hp) (D : Addr) (rs : List Addr) (G : Gm) : Prop where
  len : rs.length = G.length
  at' : ∀ (v : Nat) (p : Pl), G[v]? = some p → ∃ r wa, rs[v]? = some r ∧ H r = some (.tup [.int p.hand, .int p.rank, .ref wa]) ∧ H wa = some (.lst (p.ways.map nV)) ∧ wa ≠ D
theorem Rows.nil {H : Hp} {D : Addr} : Rows H D [] [] := ⟨rfl, fun v p h => by simp at h⟩
theorem Rows.same {H H' : Hp} {D : Addr} {rs : List Addr} {G : Gm} (R : Rows H D rs G) (s : Same H H') : Rows H' D rs G := ⟨R.len, fun v p h => by
  obtain ⟨r, wa, h1, h2, h3, h4⟩ := R.at' v p h
  exact ⟨r, wa, h1, s _ _ h2, s _ _ h3, h4⟩⟩
theorem Rows.snoc {H : Hp} {D r wa : Addr} {rs : List Addr} {G : Gm} {p : Pl} {o : HO} (R : Rows H D rs G) (hl : ∃ xs, H D = some (.lst xs)) (hr : H r = some (.tup [.int p.hand, .int p.rank, .ref wa])) (hw : H wa = some (.lst (p.ways.map nV))) (hne : wa ≠ D) : Rows (upd H D o) D (rs ++ [r]) (G ++ [p]) := by
  obtain ⟨xs, hl⟩ := hl
  have ht : ∀ {b : Addr} {ys : List V}, H b = some (.tup ys) → b ≠ D := fun e => ne_of e hl (by intro z; cases z)
  refine ⟨by rw [List.length_append, List.length_append, R.len]; rfl, fun v q h => ?_⟩
  rcases Nat.lt_or_ge v G.length with hv | hv
  · rw [List.getElem?_append_left hv] at h
    obtain ⟨r', wa', h1, h2, h3, h4⟩ := R.at' v q h
    exact ⟨r', wa', by rw [List.getElem?_append_left (by rw [R.len]; exact hv)]; exact h1, by rw [upd_ne (ht h2)]; exact h2, by rw [upd_ne h4]; exact h3, h4⟩
  · rw [List.getElem?_append_right hv] at h
    have hz := get_lt h
    simp at hz
    have e0 : v - G.length = 0 := by omega
    rw [e0] at h
    have : p = q := by simpa using h
    subst this
    refine ⟨r, wa, ?_, by rw [upd_ne (ht hr)]; exact hr, by rw [upd_ne hne]; exact hw, hne⟩
    rw [List.getElem?_append_right (by rw [R.len]; exact hv), R.len, e0]; rfl
theorem Rows.gm {K : PySem.W.Frag} {H : Hp} {D : Addr} {rs : List Addr} {G : Gm} (R : Rows H D rs G) (h : H D = some (.lst (rs.map V.ref))) : GmAt K H D G := by
  refine ⟨rs, .inl (.inl h), R.len, fun v hv => ?_⟩
  obtain ⟨r, wa, h1, h2, h3, _⟩ := R.at' v _ (pl_get hv)
  exact ⟨r, wa, h1, .inl (.inl h2), .inl (.inl h3)⟩
section
variable {P : Program} {w : World} {K : PySem.W.Frag} {mg : Str → Option Value} {base : Heap}
/-! ### _law_game -/
def spGame (K : PySem.W.Frag) : Sp := fun vs H Q _ => ∃ a ns, vs = [.ref a] ∧ SqL K H a ((ns : List Int).map V.int) ∧ ns.length ≤ 63 ∧ ∀ p H' G, Same H H' → H p = none → GmAt K H' p G → GmOk G → 0 < G.length → Q (.ref p) H'
theorem ok_game {f : Addr} {fd : FuncData} (F : Fun K "_law_game" "_law_game" s_law_game f fd) (T : Gs mg) (D_law_mixed : DefOk P w K mg base "_law_mixed" 1 ["_law_script", "_law_k"] (spMixed K)) (D_law_ways : DefOk P w K mg base "_law_ways" 2 ["_law_number", "_law_k", "_law_n", "_law_mode"] spWays) :
    FnOk P w K mg base CX0 3 f fd ["_law_script"] (spGame K) := by
  refine F.ok sc_law_game (fun vs H Q E h => ?_) (fun cdv A outer s H vs Q E hr h => ?_)
  · obtain ⟨a, ns, rfl, _⟩ := h
    rfl
  obtain ⟨a, ns, rfl, hp, hnl, q⟩ := h
  have hu := hu_of hr
  refine ⟨_,       (pss_cons (ps_set (i := 1) sc_law_game.nd rfl (Or.inl rfl) (pe_cd D_law_mixed (hr.mono (by omega)) (by rfl) (pa_cons (pv 0) (pa_cons pe_int pa_nil))))
      (pss_cons (ps_set (i := 2) sc_law_game.nd rfl (Or.inl rfl) (pe_op op_add pe_int (pe_op op_mod (pv 1) pe_int)))
      (pss_cons (ps_set (i := 3) sc_law_game.nd rfl (Or.inl rfl) (pe_ix ix_list (pe_lst (pa_cons pe_int (pa_cons pe_int (pa_cons pe_int (pa_cons pe_int (pa_cons pe_int pa_nil)))))) (pe_op op_mod (pe_op op_fdivN (pv 1) pe_int) pe_int) (fun _ _ => rfl)))
      (pss_cons (ps_if (pt_cmpR op_eq (pe_op op_mod (pe_op op_fdivN (pv 1) pe_int) pe_int) pe_int (nomark _)) 
        (pss_cons (ps_set (i := 2) sc_law_game.nd rfl (Or.inl rfl) (pe_callB (call_max2 rfl) (by rfl) T.nmax (by decide +kernel) (pa_cons pe_int (pa_cons (pe_callB call_len_seq (by rfl) T.nlen PySem.boot_len (pa_cons (pe_slice sl_list (pv 0) po_none (po_some pe_int)) pa_nil)) pa_nil))))
        (pss_one (ps_set (i := 3) sc_law_game.nd rfl (Or.inl rfl) pe_int))) pss_nil)
      (pss_cons (ps_set (i := 4) sc_law_game.nd rfl (Or.inl rfl) (pe_op op_mod (pe_op op_fdivN (pv 1) pe_int) pe_int))
      (pss_cons (ps_set (i := 5) sc_law_game.nd rfl (Or.inl rfl) (pe_lst pa_nil))
      (pss_cons (ps_for PassesOwn.never rfl (pi_range1 (by rfl) T.nrange (pa_cons (pv 2) pa_nil)) (pg_name (i := 6) sc_law_game.nd rfl (Or.inl rfl)) 
        (pss_cons (ps_set (i := 7) sc_law_game.nd rfl (Or.inl rfl) (pe_cd D_law_mixed (hr.mono (by omega)) (by rfl) (pa_cons (pv 0) (pa_cons (pv 6) pa_nil))))
        (pss_cons (ps_set (i := 8) sc_law_game.nd rfl (Or.inl rfl) (pe_op op_mod (pe_op op_fdivN (pv 7) pe_int) (pv 3)))
        (pss_cons (ps_if (pt_cmpR op_eq (pv 4) pe_int (nomark _)) 
          (pss_one (ps_set (i := 8) sc_law_game.nd rfl (Or.inl rfl) (pe_op op_mod (pe_op op_sub (pv 2) (pv 6)) (pv 3)))) pss_nil)
        (pss_one (ps_expr (pe_bm PySem.F.plainAttrs_list PySem.F.slot_list_append PySem.F.type_list_append mt_append (pv 5) (pa_cons (pe_tup (pa_cons (pe_op op_mod (pv 7) pe_int) (pa_cons (pv 8) (pa_cons (pe_cd D_law_ways (hr.mono (by omega)) (by rfl) (pa_cons (pe_op op_fdivN (pv 7) (pe_op op_mul pe_int (pv 3))) (pa_cons (pv 6) (pa_cons (pv 2) (pa_cons (pv 4) pa_nil))))) pa_nil)))) pa_nil))))))))
      (pss_one (ps_ret (pv 5)))))))))), ?_⟩
  refine ⟨_, rfl, a, ns, 400, rfl, hp, hnl, by decide, by decide, fun fi hf0 hf1 => ?_⟩
  have h16 := emod_in (a := fi) (b := 16) (by decide)
  refine ⟨_, rfl, _, _, rfl, rfl, by show (0 : Int) < 16; decide, _, _, rfl, rfl, ?_⟩
  refine ⟨by show 5 ≤ sizeLine; decide, fun L hL => ?_⟩
  have h5 := emod_in (a := fi.fdiv 16) (b := 5) (by decide)
  obtain ⟨tp0, htp, htp1, htp2⟩ := tops_at h5.1 h5.2
  refine ⟨_, rfl, _, _, rfl, rfl, ⟨by decide, by decide⟩, _, _, rfl, rfl, by show (0 : Int) < 5; decide, L, _, _, _, rfl, rfl, .inl (.inl upd_same), htp, ?_⟩
  have s1 : Same H (upd H L (.lst [V.int 41, V.int 41, V.int 7, V.int 4, V.int 3])) := same_new hL
  refine ⟨_, rfl, _, _, rfl, rfl, ⟨by decide, by decide⟩, _, _, rfl, rfl, by show (0 : Int) < 3; decide, rfl, _, rfl, ?_⟩
  refine ite2 (fun c => ⟨_, rfl, _, rfl, a, _, rfl, s1.seq hp, fun sl hsl => ⟨sl, _, rfl, .inl (.inl (.inl upd_same)), _, _, rfl, ?a⟩⟩) (fun c => ?b)
  case' a =>
    have ecut : cutV (ns.map V.int) none (some 63) = ns.map V.int := by
      rw [show (some (63 : Int)) = some ((63 : Nat) : Int) from rfl, cut_take, List.take_of_length_le (by rw [List.length_map]; exact hnl)]
    rw [ecut, List.length_map]
    have s2 := sNew s1 (o := HO.lst (ns.map V.int)) hsl
    generalize upd (upd H L (.lst [V.int 41, V.int 41, V.int 7, V.int 4, V.int 3])) sl (.lst (ns.map V.int)) = H2 at s2
    obtain ⟨n, hn⟩ : ∃ n : Nat, (if ((ns.length : Nat) : Int) > 1 then ((ns.length : Nat) : Int) else 1) = (n : Int) := ⟨(if ((ns.length : Nat) : Int) > 1 then ((ns.length : Nat) : Int) else 1).toNat, by split <;> omega⟩
    have hn1 : 1 ≤ n ∧ n ≤ 63 := by split at hn <;> omega
    rw [hn]
    generalize htt : (3 : Int) = tp
    have ht1 : 3 ≤ tp ∧ tp ≤ 41 := by omega
  case' b =>
    have s2 := s1
    generalize upd H L (.lst [V.int 41, V.int 41, V.int 7, V.int 4, V.int 3]) = H2 at s2
    obtain ⟨n, hn⟩ : ∃ n : Nat, 1 + fi % 16 = (n : Int) := ⟨(1 + fi % 16).toNat, by omega⟩
    have hn1 : 1 ≤ n ∧ n ≤ 63 := by omega
    dsimp only
    rw [hn]
    generalize htt : tp0 = tp
    have ht1 : 3 ≤ tp ∧ tp ≤ 41 := by omega
  all_goals
    refine ⟨_, rfl, _, _, rfl, rfl, ⟨by decide, by decide⟩, _, _, rfl, rfl, by show (0 : Int) < 5; decide, ?_⟩
    refine ⟨by show 0 ≤ sizeLine; decide, fun D hD => ?_⟩
    have nD := s2.free hD
    refine ⟨_, rfl, (n : Int), rfl, by omega, by omega, ?_⟩
    refine for_range (lo := 0) (n := ((n : Nat) : Int).toNat) (fun i σ H' => ∃ (rs : List Addr) (G : Gm) (v6 v7 v8 : Option V), σ = [some (.ref a), some (.int fi), some (nV n), some (.int tp), some (.int (fi.fdiv 240 % 5)), some (.ref D), v6, v7, v8] ∧ Same H H' ∧ H' D = some (.lst (rs.map V.ref)) ∧ G.length = i ∧ Rows H' D rs G ∧
      ∀ p, p ∈ G → (p.hand = 0 ∨ p.hand = 1) ∧ (0 ≤ p.rank ∧ p.rank ≤ 40) ∧ WaysIs n p.ways) ⟨[], [], _, _, _, rfl, sNew s2 hD, upd_same, rfl, Rows.nil, fun p hp => by cases hp⟩ ?_ ?_
    · rintro i σ H3 hi ⟨rs, G, v6, v7, v8, rfl, s3, e3, hG, R3, hpl⟩
      have ei : (V.int (0 + (i : Int))) = nV i := by rw [Int.zero_add]
      rw [ei]
      refine ⟨_, rfl, _, rfl, a, ns, (i : Int), rfl, s3.seq hp, hnl, by omega, by omega, fun z hz0 hz1 => ?_⟩
      have hr1 := emod_in (a := z.fdiv 2) (b := tp) (by omega)
      have hr2 := emod_in (a := (n : Int) - (i : Int)) (b := tp) (by omega)
      have h2 := emod_in (a := z) (b := 2) (by decide)
      have htp2 := fdiv_nn (a := z) (b := 2 * tp) hz0 (by omega)
      refine ⟨_, rfl, _, _, rfl, rfl, ⟨by decide, by decide⟩, _, rfl, _, _, rfl, rfl, by show (0 : Int) < tp; omega, ?_⟩
      have go : ∀ (rank : Int), 0 ≤ rank → rank ≤ 40 → ∀ (wa t : Addr) (H4 : Hp) (ws : List Nat), Same H3 H4 → H3 wa = none → H4 wa = some (.lst (ws.map nV)) → WaysIs n ws → H4 t = none →
          ∃ (rs' : List Addr) (G : Gm) (v6 v7 v8 : Option V), [some (V.ref a), some (.int fi), some (nV n), some (.int tp), some (.int (fi.fdiv 240 % 5)), some (.ref D), some (nV i), some (.int z), some (.int rank)] = [some (V.ref a), some (.int fi), some (nV n), some (.int tp), some (.int (fi.fdiv 240 % 5)), some (.ref D), v6, v7, v8] ∧
            Same H (upd (upd H4 t (.tup [.int (z % 2), .int rank, .ref wa])) D (.lst (rs.map V.ref ++ [.ref t]))) ∧ (upd (upd H4 t (.tup [.int (z % 2), .int rank, .ref wa])) D (.lst (rs.map V.ref ++ [.ref t]))) D = some (.lst (rs'.map V.ref)) ∧ G.length = i + 1 ∧
            Rows (upd (upd H4 t (.tup [.int (z % 2), .int rank, .ref wa])) D (.lst (rs.map V.ref ++ [.ref t]))) D rs' G ∧ ∀ p, p ∈ G → (p.hand = 0 ∨ p.hand = 1) ∧ (0 ≤ p.rank ∧ p.rank ≤ 40) ∧ WaysIs n p.ways := fun rank hr0 hr40 wa t H4 ws s4 nwa ewa hws ht => by
        have htw : wa ≠ t := ne_of_none ewa ht
        refine ⟨rs ++ [t], G ++ [⟨z % 2, rank, ws⟩], _, _, _, rfl, sMut (sNew (s3.trans s4) ht) nD, by rw [upd_same, List.map_append]; rfl, by rw [List.length_append, hG]; rfl,
          ((R3.same s4).same (same_new ht)).snoc ⟨_, same_new ht _ _ (s4 _ _ e3)⟩ upd_same (by rw [upd_ne htw]; exact ewa) (ne_of_none e3 nwa).symm, fun p hp => ?_⟩
        rcases List.mem_append.mp hp with hp | hp
        · exact hpl p hp
        · rw [List.mem_singleton.mp hp]
          exact ⟨by show z % 2 = 0 ∨ z % 2 = 1; omega, ⟨hr0, hr40⟩, hws⟩
      have hrl : (rs.map V.ref).length < sizeLine := smallL (by rw [List.length_map, R3.len, hG]; omega)
      refine ⟨_, rfl, rfl, _, rfl, ite2 (fun c3 => ⟨_, rfl, _, rfl, _, _, rfl, rfl, _, rfl, _, _, rfl, rfl, by show (0 : Int) < tp; omega, ?_⟩) (fun c3 => ?_)⟩
      · refine ⟨_, rfl, .inl ⟨rfl, _, .inl (.inl e3)⟩, _, rfl, _, _, rfl, rfl, by show (0 : Int) < 2; decide, _, rfl, _, rfl, _, rfl, _, _, rfl, rfl, .inl ⟨by decide, by decide⟩, _, _, rfl, rfl, ⟨by omega, by omega⟩, _, rfl, _, rfl, _, rfl, _, i, n, _, rfl, htp2.1, by omega, by omega, hn1.2, fun wa H4 ws s4 n4 e4 W4 => ?_⟩
        exact ⟨by show 3 ≤ sizeLine; decide, fun t ht => ⟨D, _, _, rfl, rfl, same_new ht _ _ (s4 _ _ e3), hrl, go _ hr2.1 (by omega) wa t H4 ws s4 n4 e4 W4 ht⟩⟩
      · refine ⟨_, rfl, .inl ⟨rfl, _, .inl (.inl e3)⟩, _, rfl, _, _, rfl, rfl, by show (0 : Int) < 2; decide, _, rfl, _, rfl, _, rfl, _, _, rfl, rfl, .inl ⟨by decide, by decide⟩, _, _, rfl, rfl, ⟨by omega, by omega⟩, _, rfl, _, rfl, _, rfl, _, i, n, _, rfl, htp2.1, by omega, by omega, hn1.2, fun wa H4 ws s4 n4 e4 W4 => ?_⟩
        exact ⟨by show 3 ≤ sizeLine; decide, fun t ht => ⟨D, _, _, rfl, rfl, same_new ht _ _ (s4 _ _ e3), hrl, go _ hr1.1 (by omega) wa t H4 ws s4 n4 e4 W4 ht⟩⟩
    · rintro σ H3 ⟨rs, G, v6, v7, v8, rfl, s3, e3, hG, R3, hpl⟩
      have en : ((n : Nat) : Int).toNat = n := by omega
      rw [en] at hG
      refine ⟨_, rfl, q D H3 G s3 nD (R3.gm e3) ⟨by omega, fun p hp => (hpl p hp).1, fun p hp => (hpl p hp).2.1, fun p hp w' hw => by rw [hG]; exact (hpl p hp).2.2.lt w' hw, fun p hp => (hpl p hp).2.2.nd, fun p hp => (hpl p hp).2.2.ne⟩ (by omega)⟩
end
end Rg
/-! the law's own: _law_whole, _law_fits, _law_solved -/
namespace Rg
open PySem L2
/-! ### the game as data -/
def dGm (G : Gm) : PyData := .list (G.map fun p : Pl => .tuple [.int p.hand, .int p.rank, .list (p.ways.map fun n : Nat => .int (n : Int))])
theorem dpAll_of {K : PySem.W.Frag} {H : Hp} : ∀ {xs : List V} {ds : List PyData}, xs.length = ds.length → (∀ (i : Nat) (x : V) (d : PyData), xs[i]? = some x → ds[i]? = some d → Dp K H x d) → DpAll K H xs ds
  | [], [], _, _ => .nil
  | x :: xs, d :: ds, h, f => .cons (f 0 x d rfl rfl) (dpAll_of (by simpa using h) fun i y e h1 h2 => f (i + 1) y e (by simpa using h1) (by simpa using h2))
  | [], _ :: _, h, _ => by simp at h
  | _ :: _, [], h, _ => by simp at h
theorem dp_gm {K : PySem.W.Frag} {H : Hp} {g : Addr} {G : Gm} (A : GmAt K H g G) : Dp K H (.ref g) (dGm G) := by
  obtain ⟨rs, h1, h2, h3⟩ := A.ex
  refine .lst h1 (dpAll_of (by simp [h2]) fun i x d hx hd => ?_)
  obtain ⟨r, hr, rfl⟩ := map_get hx
  obtain ⟨p, hp, rfl⟩ := map_get hd
  have hil := get_lt hp
  obtain ⟨r', wa, e1, e2, e3⟩ := h3 i hil
  rw [hr] at e1
  cases e1
  have ep : G.getD i dPl = p := by rw [List.getD_eq_getElem?_getD, hp]; rfl
  have eo : ow G i = p.hand := by unfold ow; rw [ep]
  have ek : rk G i = p.rank := by unfold rk; rw [ep]
  have ew : wy G i = p.ways := by unfold wy; rw [ep]
  rw [eo, ek] at e2
  rw [ew] at e3
  exact .tup e2 (.cons (.int _) (.cons (.int _) (.cons (.lst e3 (dp_nats _)) .nil)))
theorem sh_gm (G : Gm) : Sh 3 (dGm G) := Sh.list fun d hd => by
  obtain ⟨p, _, rfl⟩ := List.mem_map.mp hd
  refine Sh.tup fun e he => ?_
  simp only [List.mem_cons, List.not_mem_nil, or_false] at he
  rcases he with rfl | rfl | rfl
  · exact Sh.int _ _
  · exact Sh.int _ _
  · exact sh_nats _
section
variable {P : Program} {w : World} {K : PySem.W.Frag} {mg : Str → Option Value} {base : Heap}
/-! ### _law_whole -/
def spWhole : Sp := fun vs H Q _ => ∃ i : Int, vs = [.int i] ∧ Q (.bl true) H
theorem ok_whole {f : Addr} {fd : FuncData} (F : Fun K "_law_whole" "_law_whole" s_law_whole f fd) (T : Gs mg) : FnOk P w K mg base CX0 1 f fd ["_law_found"] spWhole := by
  refine F.ok sc_law_whole (fun vs H Q E h => ?_) (fun cdv A outer s H vs Q E hr h => ?_)
  · obtain ⟨i, rfl, _⟩ := h
    rfl
  obtain ⟨i, rfl, q⟩ := h
  refine ⟨_,       (pss_one (ps_ret (pe_and (pe_callB call_isi (by rfl) T.nisinstance (by decide +kernel) (pa_cons (pv 0) (pa_cons (pe_bltn (v := .ty "int") (by rfl) T.nint (by decide +kernel) rfl) pa_nil))) (pe_one (pe_not (pe_callB call_isi (by rfl) T.nisinstance (by decide +kernel) (pa_cons (pv 0) (pa_cons (pe_bltn (v := .ty "bool") (by rfl) T.nbool (by decide +kernel) rfl) pa_nil)))))))), ?_⟩
  refine ⟨_, rfl, _, _, _, _, true, rfl, .ty "int", .base (.int i), kit_ty (by decide +kernel), _, rfl, iteT ?_⟩
  exact ⟨_, rfl, _, _, _, _, false, rfl, .ty "bool", .base (.int i), kit_ty (by decide +kernel), _, rfl, q⟩
/-! ### _law_fits -/
structure Fits (G : Gm) (W : List Int) (Y : List (Option Nat)) : Prop where
  wl : W.length = G.length
  yl : Y.length = G.length
  w01 : ∀ v, v < G.length → W.getD v 0 = 0 ∨ W.getD v 0 = 1
  no : ∀ v, v < G.length → W.getD v 0 ≠ ow G v → Y.getD v none = none
  yes : ∀ v, v < G.length → W.getD v 0 = ow G v → ∃ u, Y.getD v none = some u ∧ u ∈ wy G v
def spFits (K : PySem.W.Frag) : Sp := fun vs H Q _ => ∃ g G wa ya W Y, vs = [.ref g, .ref wa, .ref ya] ∧ GmAt K H g G ∧ GmOk G ∧ H wa = some (.lst ((W : List Int).map V.int)) ∧ H ya = some (.lst ((Y : List (Option Nat)).map oV)) ∧ Fits G W Y ∧ Q (.bl true) H
theorem ok_fits {f : Addr} {fd : FuncData} (F : Fun K "_law_fits" "_law_fits" s_law_fits f fd) (T : Gs mg) (D_law_whole : DefOk P w K mg base "_law_whole" 1 ["_law_found"] spWhole) : FnOk P w K mg base CX0 2 f fd ["_law_game_here", "_law_won_here", "_law_ways_here"] (spFits K) := by
  refine F.ok sc_law_fits (fun vs H Q E h => ?_) (fun cdv A outer s H vs Q E hr h => ?_)
  · obtain ⟨g, G, wa, ya, W, Y, rfl, _⟩ := h
    rfl
  obtain ⟨g, G, wa, ya, W, Y, rfl, A, O, hW, hY, FI, q⟩ := h
  have hu := hu_of hr
  refine ⟨_,       (pss_cons (ps_if (PW.pt (pw_or (pt_not (pt_val (pe_callB call_isi (by rfl) T.nisinstance (by decide +kernel) (pa_cons (pv 1) (pa_cons (pe_bltn (v := .ty "list") (by rfl) T.nlist (by decide +kernel) rfl) pa_nil))))) (pw_or1 (pt_not (pt_val (pe_callB call_isi (by rfl) T.nisinstance (by decide +kernel) (pa_cons (pv 2) (pa_cons (pe_bltn (v := .ty "list") (by rfl) T.nlist (by decide +kernel) rfl) pa_nil)))))))) 
        (pss_one (ps_ret pe_bl)) pss_nil)
      (pss_cons (ps_if (PW.pt (pw_or (pt_cmpR op_ne (pe_callB call_len_seq (by rfl) T.nlen PySem.boot_len (pa_cons (pv 1) pa_nil)) (pe_callB call_len_seq (by rfl) T.nlen PySem.boot_len (pa_cons (pv 0) pa_nil)) (nomark _)) (pw_or1 (pt_cmpR op_ne (pe_callB call_len_seq (by rfl) T.nlen PySem.boot_len (pa_cons (pv 2) pa_nil)) (pe_callB call_len_seq (by rfl) T.nlen PySem.boot_len (pa_cons (pv 0) pa_nil)) (nomark _))))) 
        (pss_one (ps_ret pe_bl)) pss_nil)
      (pss_cons (ps_for PassesOwn.never rfl (pi_range1 (by rfl) T.nrange (pa_cons (pe_callB call_len_seq (by rfl) T.nlen PySem.boot_len (pa_cons (pv 0) pa_nil)) pa_nil)) (pg_name (i := 3) sc_law_fits.nd rfl (Or.inl rfl)) 
        (pss_cons (ps_if (PW.pt (pw_or (pt_not (pt_val (pe_cd D_law_whole (hr.mono (by omega)) (by rfl) (pa_cons (pe_ix ix_list (pv 1) (pv 3) (fun _ _ => rfl)) pa_nil)))) (pw_or (pt_cmpR op_lt (pe_ix ix_list (pv 1) (pv 3) (fun _ _ => rfl)) pe_int (nomark _)) (pw_or1 (pt_cmpR op_gt (pe_ix ix_list (pv 1) (pv 3) (fun _ _ => rfl)) pe_int (nomark _)))))) 
          (pss_one (ps_ret pe_bl)) pss_nil)
        (pss_cons (ps_set (i := 4) sc_law_fits.nd rfl (Or.inl rfl) (pe_ix ix_list (pv 2) (pv 3) (fun _ _ => rfl)))
        (pss_cons (ps_if (PW.pt (pw_and (pt_cmpR op_ne (pe_ix ix_list (pv 1) (pv 3) (fun _ _ => rfl)) (pe_ix ix_tup (pe_ix ix_list (pv 0) (pv 3) (fun _ _ => rfl)) pe_int (fun _ _ => rfl)) (nomark _)) (pw_and1 (pt_cmpR op_notN (pv 4) pe_non (nomark _))))) 
          (pss_one (ps_ret pe_bl)) pss_nil)
        (pss_one (ps_if (PW.pt (pw_and (pt_cmpR op_eq (pe_ix ix_list (pv 1) (pv 3) (fun _ _ => rfl)) (pe_ix ix_tup (pe_ix ix_list (pv 0) (pv 3) (fun _ _ => rfl)) pe_int (fun _ _ => rfl)) (nomark _)) (pw_and1 (PW.pt (pw_or (pt_not (pt_val (pe_cd D_law_whole (hr.mono (by omega)) (by rfl) (pa_cons (pv 4) pa_nil)))) (pw_or1 (pt_cmpR op_notIn_seq (pv 4) (pe_ix ix_tup (pe_ix ix_list (pv 0) (pv 3) (fun _ _ => rfl)) pe_int (fun _ _ => rfl)) (by rfl)))))))) 
          (pss_one (ps_ret pe_bl)) pss_nil))))))
      (pss_one (ps_ret pe_bl))))), ?_⟩
  obtain ⟨rs, hrs, hlen, _⟩ := A.ex
  have hn := O.n
  refine ⟨_, rfl, _, _, _, _, true, rfl, .ty "list", .base (.lst hW), kit_ty (by decide +kernel), _, rfl, iteF ?_⟩
  refine ⟨_, rfl, _, _, _, _, true, rfl, .ty "list", .base (.lst hY), kit_ty (by decide +kernel), _, rfl, iteF ?_⟩
  refine ⟨_, rfl, wa, _, rfl, .inl (.inl (.inl hW)), _, rfl, g, _, rfl, .inl hrs, rfl, _, rfl, ?_⟩
  rw [iV_dec, List.length_map, List.length_map, hlen, FI.wl, decide_eq_true rfl]
  refine iteF ⟨_, rfl, ya, _, rfl, .inl (.inl (.inl hY)), _, rfl, g, _, rfl, .inl hrs, rfl, _, rfl, ?_⟩
  rw [iV_dec, List.length_map, List.length_map, hlen, FI.yl, decide_eq_true rfl]
  refine iteF ?_
  refine ⟨_, rfl, g, _, rfl, .inl hrs, (G.length : Int), by rw [List.length_map, hlen], by omega, by omega, ?_⟩
  refine for_range (lo := 0) (n := ((G.length : Nat) : Int).toNat) (fun i σ H' => ∃ v3 v4, σ = [some (.ref g), some (.ref wa), some (.ref ya), v3, v4] ∧ H' = H) ⟨_, _, rfl, rfl⟩ ?_ ?_
  · rintro i σ H2 hi ⟨v3, v4, rfl, rfl⟩
    have hi' : i < G.length := by omega
    have ei : (V.int (0 + (i : Int))) = nV i := by rw [Int.zero_add]
    rw [ei]
    have hWg : W[i]? = some (W.getD i 0) := by have := FI.wl; rw [List.getD_eq_getElem?_getD, List.getElem?_eq_getElem (by omega)]; rfl
    have hYg : Y[i]? = some (Y.getD i none) := by have := FI.yl; rw [List.getD_eq_getElem?_getD, List.getElem?_eq_getElem (by omega)]; rfl
    have hW' : SqL K H2 wa (W.map V.int) := .inl (.inl hW)
    have hY' : SqL K H2 ya (Y.map oV) := .inl (.inl hY)
    have h01 := FI.w01 i hi'
    refine ⟨_, rfl, _, rfl, rd_at (f := V.int) hW' hWg rfl rfl ⟨_, rfl, _, rfl, iteF ?_⟩⟩
    refine ⟨_, rfl, _, rfl, rd_at (f := V.int) hW' hWg rfl rfl (t_c ⟨_, _, rfl, rfl, _, rfl, ?_⟩)⟩
    rw [decide_eq_false (by omega)]
    refine iteF ⟨_, rfl, _, rfl, rd_at (f := V.int) hW' hWg rfl rfl (t_c ⟨_, _, rfl, rfl, _, rfl, ?_⟩)⟩
    rw [decide_eq_false (by omega)]
    refine iteF ?_
    refine ⟨_, rfl, _, rfl, rd_at (f := oV) hY' hYg rfl rfl ?_⟩
    refine ⟨_, rfl, _, rfl, rd_at (f := V.int) hW' hWg rfl rfl ⟨_, rfl, _, rfl, rd_ow A hi' rfl rfl ⟨rfl, _, rfl, ?_⟩⟩⟩
    rw [iV_dec]
    by_cases ho : W.getD i 0 = ow G i
    · obtain ⟨u, hu1, hu2⟩ := FI.yes i hi' ho
      rw [decide_eq_true ho]
      refine iteF (iteF ?_)
      refine ⟨_, rfl, _, rfl, rd_at (f := V.int) hW' hWg rfl rfl ⟨_, rfl, _, rfl, rd_ow A hi' rfl rfl ⟨rfl, _, rfl, ?_⟩⟩⟩
      rw [iV_dec, decide_eq_true ho, hu1]
      refine iteT ⟨_, rfl, _, rfl, _, rfl, iteF ?_⟩
      refine ⟨_, rfl, _, rfl, _, rfl, rd_wy A hi' rfl rfl fun ka hka => ⟨ka, _, rfl, .inl hka, rfl, flat_nV _, _, rfl, ?_⟩⟩
      rw [show inV (oV (some u)) ((wy G i).map nV) = _ from inV_nV u (wy G i), decide_eq_true hu2]
      refine iteF ?_
      exact ⟨_, _, rfl, rfl⟩
    · have hno := FI.no i hi' ho
      rw [decide_eq_false ho, hno]
      refine iteT ⟨_, rfl, rfl, _, rfl, iteF ?_⟩
      refine ⟨_, rfl, _, rfl, rd_at (f := V.int) hW' hWg rfl rfl ⟨_, rfl, _, rfl, rd_ow A hi' rfl rfl ⟨rfl, _, rfl, ?_⟩⟩⟩
      rw [iV_dec, decide_eq_false ho]
      refine iteF (iteF ?_)
      exact ⟨_, _, rfl, rfl⟩
  · rintro σ H2 ⟨v3, v4, rfl, rfl⟩
    exact q
/-! ### _law_solved -/
theorem fits_of {G : Gm} (O : GmOk G) {W : List Int} {Y : List (Option Nat)} {TT : Tab} (hW : W.length = G.length) (hY : Y.length = G.length) (Wd : Good G (List.range G.length) TT) (hT : ∀ v, v < G.length → TT v = some (W.getD v 0, Y.getD v none)) : Fits G W Y := by
  refine ⟨hW, hY, fun v hv => Wd.hands v _ _ (hT v hv), fun v hv hne => (Wd.oth v _ _ (hT v hv) fun z => hne z.symm).1, fun v hv he => ?_⟩
  obtain ⟨u, h1, h2, _⟩ := Wd.own v _ _ (hT v hv) he.symm
  exact ⟨u, h1, h2⟩
theorem ok_law_solved {f : Addr} {fd : FuncData} {k : Nat} (hk : 2 ≤ k) (F : Fun K "_law_solved" "_law_solved" s_law_solved f fd) (T : Gs mg) (D_solved : DefOk P w K mg base "solved" k ["game"] (spSolved K)) (D_law_fits : DefOk P w K mg base "_law_fits" 2 ["_law_game_here", "_law_won_here", "_law_ways_here"] (spFits K)) :
    FnOk P w K mg base CX0 (k + 1) f fd ["_law_game_here"] (spSolved K) := by
  refine F.ok sc_law_solved (fun vs H Q E h => ?_) (fun cdv A outer s H vs Q E hr h => ?_)
  · obtain ⟨g, G, rfl, _⟩ := h
    rfl
  obtain ⟨g, G, rfl, A, O, q⟩ := h
  have hu := hu_of hr
  refine ⟨_,       (pss_cons (ps_setLc (i := 1) (own := [("_law_row", 3)]) (g := gName 3) (tt := tYes) rfl sc_law_solved.nd rfl rfl (sw_true rfl rfl rfl (by decide +kernel)) (pi_list (pv 0)) (blkOk_by (N := ["_law_game_here", "_law_handed", "_law_found", "_law_row"]) (sc := defScope s_law_solved) (by decide +kernel)) (fun _ _ _ _ _ => pg_name (i := 3) sc_law_solved.nd rfl (Or.inl rfl)) (fun _ _ _ _ _ => pts_nil) (fun _ _ _ _ _ => (pe_tup (pa_cons (pe_ix (ixT (K := K)) (pv 3) pe_int (fun _ _ => rfl)) (pa_cons (pe_ix (ixT (K := K)) (pv 3) pe_int (fun _ _ => rfl)) (pa_cons (pe_callTy (listOf (K := K)) (by rfl) T.nlist (by decide +kernel) (pa_cons (pe_ix (ixT (K := K)) (pv 3) pe_int (fun _ _ => rfl)) pa_nil)) pa_nil))))))
      (pss_cons (ps_set (i := 2) sc_law_solved.nd rfl (Or.inl rfl) (pe_cd D_solved (hr.mono (by omega)) (by rfl) (pa_cons (pv 1) pa_nil)))
      (pss_cons (ps_if (PW.pt (pw_or (pt_cmpR (op_neD hr.units) (pv 1) (pv 0) (nomark _)) (pw_or (pt_not (pt_val (pe_callB call_isi (by rfl) T.nisinstance (by decide +kernel) (pa_cons (pv 2) (pa_cons (pe_bltn (v := .ty "tuple") (by rfl) T.ntuple (by decide +kernel) rfl) pa_nil))))) (pw_or1 (pt_cmpR op_ne (pe_callB call_len_seq (by rfl) T.nlen PySem.boot_len (pa_cons (pv 2) pa_nil)) pe_int (nomark _)))))) 
        (pss_one (ps_ret pe_non)) pss_nil)
      (pss_cons (ps_if (pt_not (pt_val (pe_cd D_law_fits (hr.mono (by omega)) (by rfl) (pa_cons (pv 0) (pa_cons (pe_ix ix_tup (pv 2) pe_int (fun _ _ => rfl)) (pa_cons (pe_ix ix_tup (pv 2) pe_int (fun _ _ => rfl)) pa_nil)))))) 
        (pss_one (ps_ret pe_non)) pss_nil)
      (pss_one (ps_ret (pv 2))))))), ?_⟩
  obtain ⟨rs, hrs, hlen, hrow⟩ := id A.ex
  have hn := O.n
  refine ⟨_, rfl, g, rfl, ⟨_, hrs⟩, fun L hL => ?_⟩
  refine lc_list (K := K) (a := g) (xs := rs.map V.ref) (fun i H' => Same H H' ∧ ∃ ts : List Addr, H' L = some (.lst (ts.map V.ref)) ∧ Rows H' L ts (G.take i)) ⟨same_new hL, [], upd_same, by rw [List.take_zero]; exact Rows.nil⟩ (fun i H' _ h => h.1.seq hrs) ?_ ?_
  · rintro i x H1 hi ⟨s1, ts, e1, R1⟩
    obtain ⟨r, hr1, rfl⟩ := map_get hi
    have hil : i < G.length := by have := get_lt hr1; omega
    obtain ⟨r', wa, k1, k2, k3⟩ := hrow i hil
    rw [hr1] at k1
    cases k1
    refine ⟨rfl, _, rfl, t_c (rd_0 (sTup s1 k2) rfl ⟨_, rfl, t_c (rd_1 (sTup s1 k2) rfl ⟨_, rfl, t_c (rd_2 (sTup s1 k2) rfl ⟨wa, _, rfl, .inl (s1.seq k3), fun l hl => ⟨by show 3 ≤ sizeLine; decide, fun t ht => ?_⟩⟩)⟩)⟩)⟩
    have hl1 : L ≠ l := ne_of_none e1 hl
    have hlt : L ≠ t := ne_of_none (sNew (Same.refl H1) hl _ _ e1) ht
    have hwl : l ≠ t := fun z => by rw [z, upd_same] at ht; cases ht
    have s3 : Same H1 (upd (upd H1 l (.lst ((wy G i).map nV))) t (.tup [.int (ow G i), .int (rk G i), .ref l])) := sNew (same_new hl) ht
    have hts : ts.length = i := by rw [R1.len, List.length_take]; omega
    refine ⟨ts.map V.ref, s3 _ _ e1, smallL (by rw [List.length_map]; omega), sMut (s1.trans s3) hL, ts ++ [t], by rw [upd_same, List.map_append]; rfl, ?_⟩
    rw [take_snoc (pl_get hil)]
    exact (R1.same s3).snoc ⟨_, s3 _ _ e1⟩ upd_same (by rw [upd_ne hwl, upd_same]; rfl) hl1.symm
  rintro H1 ⟨s1, ts, e1, R1⟩
  rw [List.length_map, hlen, take_all] at R1
  have AL : GmAt K H1 L G := R1.gm e1
  refine ⟨_, rfl, L, G, rfl, AL, O, fun p H2 wa ya W Y TT s2 e2 eW eY hWl hYl Wd hT => ?_⟩
  have s12 := s1.trans s2
  have hd : SeqAt.shaped (dGm G) = true := (sh_gm G).ok (by decide)
  refine ⟨_, rfl, _, rfl, dGm G, dGm G, dp_gm (AL.same s2), dp_gm (A.same s12), hd, hd, _, rfl, ?_⟩
  rw [SeqAt.eqv_refl _ (sh_gm G).lay]
  refine iteF ⟨_, rfl, _, _, _, _, true, rfl, .ty "tuple", .base (.tup e2), kit_ty (by decide +kernel), _, rfl, iteF ?_⟩
  refine ⟨_, rfl, p, _, rfl, .inr (SqT.of e2), rfl, _, rfl, iteF ?_⟩
  refine ⟨_, rfl, _, rfl, t_c ⟨p, _, 0, _, rfl, rfl, SqT.of e2, rfl, _, rfl, t_c ⟨p, _, 1, _, rfl, rfl, SqT.of e2, rfl, g, G, wa, ya, W, Y, rfl, A.same s12, O, eW, eY, fits_of O hWl hYl Wd hT, _, rfl, iteF ?_⟩⟩⟩
  exact ⟨_, rfl, q p H2 wa ya W Y TT s12 e2 eW eY hWl hYl Wd hT⟩
end
end Rg
/-! the law's own: _law_keeps, _law_rings -/
namespace Rg
open PySem L2
abbrev s_law_keeps : Stmt := topS 35
theorem sc_law_keeps : FnScope ["_law_game_here", "_law_won_here", "_law_ways_here", "_law_play", "_law_picks", "_law_hand", "_law_k", "_law_here", "_law_way"] ["_law_game_here", "_law_won_here", "_law_ways_here", "_law_play", "_law_picks"] (defScope s_law_keeps) := ⟨rfl, rfl, rfl, by decide +kernel, rfl, by decide +kernel, by decide +kernel⟩
abbrev s_law_rings : Stmt := topS 36
theorem sc_law_rings : FnScope ["_law_play", "_law_pile", "_law_rings_here", "_law_place", "_law_at"] ["_law_play"] (defScope s_law_rings) := ⟨rfl, rfl, rfl, by decide +kernel, rfl, by decide +kernel, by decide +kernel⟩
section
variable {P : Program} {w : World} {K : PySem.W.Frag} {mg : Str → Option Value} {base : Heap}
/-! ### _law_keeps -/
structure Keeps (G : Gm) (W : List Int) (Y : List (Option Nat)) (h : Int) (picks : List Int) (play : List Nat) : Prop where
  len : play.length = picks.length + 1
  zero : ∃ s, play[0]? = some s ∧ s < G.length ∧ W.getD s 0 = h
  lt : ∀ x, x ∈ play → x < G.length
  step : ∀ (k x : Nat) (pk : Int), play[k]? = some x → picks[k]? = some pk → ∃ y, play[k + 1]? = some y ∧ W.getD y 0 = h ∧ (ow G x = h → Y.getD x none = some y) ∧ (ow G x ≠ h → y = (wy G x).getD (pk % ((wy G x).length : Int)).toNat 0)
def spKeeps (K : PySem.W.Frag) : Sp := fun vs H Q _ => ∃ g G wa ya W Y pl play ka picks h, vs = [.ref g, .ref wa, .ref ya, .ref pl, .ref ka] ∧ GmAt K H g G ∧ GmOk G ∧ H wa = some (.lst ((W : List Int).map V.int)) ∧ H ya = some (.lst ((Y : List (Option Nat)).map oV)) ∧ W.length = G.length ∧ Y.length = G.length ∧
  H pl = some (.lst ((play : List Nat).map nV)) ∧ SqL K H ka ((picks : List Int).map V.int) ∧ picks.length ≤ 500 ∧ Keeps G W Y h picks play ∧ Q (.bl true) H
theorem ok_keeps {f : Addr} {fd : FuncData} (F : Fun K "_law_keeps" "_law_keeps" s_law_keeps f fd) (T : Gs mg) (D_law_whole : DefOk P w K mg base "_law_whole" 1 ["_law_found"] spWhole) : FnOk P w K mg base CX0 2 f fd ["_law_game_here", "_law_won_here", "_law_ways_here", "_law_play", "_law_picks"] (spKeeps K) := by
  refine F.ok sc_law_keeps (fun vs H Q E h => ?_) (fun cdv A outer s H vs Q E hr h => ?_)
  · obtain ⟨g, G, wa, ya, W, Y, pl, play, ka, picks, h, rfl, _⟩ := h
    rfl
  obtain ⟨g, G, wa, ya, W, Y, pl, play, ka, picks, hd, rfl, A, O, hW, hY, hWl, hYl, hpl, hka, hkl, KP, q⟩ := h
  have hu := hu_of hr
  refine ⟨_,       (pss_cons (ps_if (PW.pt (pw_or (pt_not (pt_val (pe_callB call_isi (by rfl) T.nisinstance (by decide +kernel) (pa_cons (pv 3) (pa_cons (pe_bltn (v := .ty "list") (by rfl) T.nlist (by decide +kernel) rfl) pa_nil))))) (pw_or1 (pt_cmpR op_ne (pe_callB call_len_seq (by rfl) T.nlen PySem.boot_len (pa_cons (pv 3) pa_nil)) (pe_op op_add (pe_callB call_len_seq (by rfl) T.nlen PySem.boot_len (pa_cons (pv 4) pa_nil)) pe_int) (nomark _))))) 
        (pss_one (ps_ret pe_bl)) pss_nil)
      (pss_cons (ps_set (i := 5) sc_law_keeps.nd rfl (Or.inl rfl) (pe_ix ix_list (pv 1) (pe_ix ix_list (pv 3) pe_int (fun _ _ => rfl)) (fun _ _ => rfl)))
      (pss_cons (ps_for PassesOwn.never rfl (pi_range1 (by rfl) T.nrange (pa_cons (pe_callB call_len_seq (by rfl) T.nlen PySem.boot_len (pa_cons (pv 4) pa_nil)) pa_nil)) (pg_name (i := 6) sc_law_keeps.nd rfl (Or.inl rfl)) 
        (pss_cons (ps_set (i := 7) sc_law_keeps.nd rfl (Or.inl rfl) (pe_ix ix_list (pv 3) (pv 6) (fun _ _ => rfl)))
        (pss_cons (ps_set (i := 8) sc_law_keeps.nd rfl (Or.inl rfl) (pe_ix ix_list (pv 2) (pv 7) (fun _ _ => rfl)))
        (pss_cons (ps_if (pt_cmpR op_ne (pe_ix ix_tup (pe_ix ix_list (pv 0) (pv 7) (fun _ _ => rfl)) pe_int (fun _ _ => rfl)) (pv 5) (nomark _)) 
          (pss_one (ps_set (i := 8) sc_law_keeps.nd rfl (Or.inl rfl) (pe_ix ix_list (pe_ix ix_tup (pe_ix ix_list (pv 0) (pv 7) (fun _ _ => rfl)) pe_int (fun _ _ => rfl)) (pe_op op_mod (pe_ix ix_list (pv 4) (pv 6) (fun _ _ => rfl)) (pe_callB call_len_seq (by rfl) T.nlen PySem.boot_len (pa_cons (pe_ix ix_tup (pe_ix ix_list (pv 0) (pv 7) (fun _ _ => rfl)) pe_int (fun _ _ => rfl)) pa_nil))) (fun _ _ => rfl)))) pss_nil)
        (pss_one (ps_if (PW.pt (pw_or (pt_not (pt_val (pe_cd D_law_whole (hr.mono (by omega)) (by rfl) (pa_cons (pe_ix ix_list (pv 3) (pe_op op_add (pv 6) pe_int) (fun _ _ => rfl)) pa_nil)))) (pw_or (pt_cmpR op_ne (pe_ix ix_list (pv 3) (pe_op op_add (pv 6) pe_int) (fun _ _ => rfl)) (pv 8) (nomark _)) (pw_or1 (pt_cmpR op_ne (pe_ix ix_list (pv 1) (pv 8) (fun _ _ => rfl)) (pv 5) (nomark _)))))) 
          (pss_one (ps_ret pe_bl)) pss_nil))))))
      (pss_one (ps_ret pe_bl))))), ?_⟩
  have hP' : SqL K H pl (play.map nV) := .inl (.inl hpl)
  have hW' : SqL K H wa (W.map V.int) := .inl (.inl hW)
  have hY' : SqL K H ya (Y.map oV) := .inl (.inl hY)
  have hWg : ∀ x, x < G.length → W[x]? = some (W.getD x 0) := fun x hx => by rw [List.getD_eq_getElem?_getD, List.getElem?_eq_getElem (by omega)]; rfl
  have hYg : ∀ x, x < G.length → Y[x]? = some (Y.getD x none) := fun x hx => by rw [List.getD_eq_getElem?_getD, List.getElem?_eq_getElem (by omega)]; rfl
  refine ⟨_, rfl, _, _, _, _, true, rfl, .ty "list", .base (.lst hpl), kit_ty (by decide +kernel), _, rfl, iteF ?_⟩
  refine ⟨_, rfl, pl, _, rfl, .inl hP', _, rfl, ka, _, rfl, .inl hka, _, _, rfl, rfl, rfl, _, rfl, ?_⟩
  rw [iV_dec, List.length_map, List.length_map, KP.len, decide_eq_true (by omega)]
  refine iteF ?_
  obtain ⟨s0, hs0, hs0l, hs0W⟩ := KP.zero
  refine ⟨_, rfl, _, rfl, t_c (rd_at (f := nV) (i := 0) hP' hs0 rfl rfl (rd_at (f := V.int) hW' (hWg s0 hs0l) rfl rfl ?_))⟩
  rw [hs0W]
  refine ⟨_, rfl, ka, _, rfl, .inl hka, (picks.length : Int), by rw [List.length_map], by omega, by omega, ?_⟩
  refine for_range (lo := 0) (n := ((picks.length : Nat) : Int).toNat) (fun i σ H' => ∃ v6 v7 v8, σ = [some (.ref g), some (.ref wa), some (.ref ya), some (.ref pl), some (.ref ka), some (.int hd), v6, v7, v8] ∧ H' = H) ⟨_, _, _, rfl, rfl⟩ ?_ ?_
  · rintro i σ H2 hi ⟨v6, v7, v8, rfl, rfl⟩
    have hi' : i < picks.length := by omega
    have ei : (V.int (0 + (i : Int))) = nV i := by rw [Int.zero_add]
    rw [ei]
    obtain ⟨x, hx⟩ := get_of_lt (xs := play) (i := i) (by have := KP.len; omega)
    obtain ⟨pk, hpk⟩ := get_of_lt hi'
    obtain ⟨y, hy, hyW, hyo, hyn⟩ := KP.step i x pk hx hpk
    have hxl := KP.lt x (List.mem_of_getElem? hx)
    have hyl := KP.lt y (List.mem_of_getElem? hy)
    have ey1 : ((i : Int) + 1) = ((i + 1 : Nat) : Int) := by omega
    refine ⟨_, rfl, _, rfl, rd_at (f := nV) hP' hx rfl rfl ?_⟩
    refine ⟨_, rfl, _, rfl, rd_at (f := oV) hY' (hYg x hxl) rfl rfl ?_⟩
    refine ⟨_, rfl, _, rfl, rd_ow A hxl rfl rfl ⟨_, rfl, rfl, _, rfl, ?_⟩⟩
    rw [iV_dec]
    by_cases ho : ow G x = hd
    · rw [decide_eq_true ho, hyo ho]
      refine iteF ?_
      refine ⟨_, rfl, _, rfl, _, _, rfl, rfl, rd_at (f := nV) hP' hy rfl (by show V.int _ = V.int _; rw [ey1]) ⟨_, rfl, _, rfl, iteF ?_⟩⟩
      refine ⟨_, rfl, _, rfl, _, _, rfl, rfl, rd_at (f := nV) hP' hy rfl (by show V.int _ = V.int _; rw [ey1]) ⟨_, rfl, rfl, _, rfl, ?_⟩⟩
      rw [show decide (nV y = oV (some y)) = true from decide_eq_true rfl]
      refine iteF ⟨_, rfl, _, rfl, rd_at (f := V.int) hW' (hWg y hyl) rfl rfl ⟨_, rfl, rfl, _, rfl, ?_⟩⟩
      rw [iV_dec, decide_eq_true hyW]
      refine iteF ?_
      exact ⟨_, _, _, rfl, rfl⟩
    · rw [decide_eq_false ho]
      refine iteT ?_
      have hyv := hyn ho
      have hwl : 0 < (wy G x).length := List.length_pos_iff.mpr (O.wne hxl)
      have h1 := emod_in (a := pk) (b := ((wy G x).length : Int)) (by omega)
      have h3 : (pk % ((wy G x).length : Int)).toNat < (wy G x).length := by omega
      have hg : (wy G x)[(pk % ((wy G x).length : Int)).toNat]? = some y := by rw [hyv, List.getD_eq_getElem?_getD, List.getElem?_eq_getElem h3]; rfl
      refine ⟨_, rfl, _, rfl, rd_wy A hxl rfl rfl fun k1 hk1 => ?_⟩
      refine ⟨_, rfl, _, rfl, rd_at (f := V.int) hka hpk rfl rfl ⟨_, rfl, _, rfl, rd_wy A hxl rfl rfl fun k2 hk2 => ⟨k2, _, rfl, .inl hk2, pk, ((wy G x).length : Int), rfl, by rw [List.length_map], by show (0 : Int) < _; omega, ?_⟩⟩⟩
      refine rd_at (f := nV) hk1 hg rfl (by show V.int _ = V.int _; congr 1; omega) ?_
      refine ⟨_, rfl, _, rfl, _, _, rfl, rfl, rd_at (f := nV) hP' hy rfl (by show V.int _ = V.int _; rw [ey1]) ⟨_, rfl, _, rfl, iteF ?_⟩⟩
      refine ⟨_, rfl, _, rfl, _, _, rfl, rfl, rd_at (f := nV) hP' hy rfl (by show V.int _ = V.int _; rw [ey1]) ⟨_, rfl, rfl, _, rfl, ?_⟩⟩
      rw [show decide (nV y = nV y) = true from decide_eq_true rfl]
      refine iteF ⟨_, rfl, _, rfl, rd_at (f := V.int) hW' (hWg y hyl) rfl rfl ⟨_, rfl, rfl, _, rfl, ?_⟩⟩
      rw [iV_dec, decide_eq_true hyW]
      refine iteF ?_
      exact ⟨_, _, _, rfl, rfl⟩
  · rintro σ H2 ⟨v6, v7, v8, rfl, rfl⟩
    exact q
/-! ### _law_rings -/
theorem cast_count (xs : List Nat) (x : Nat) : (xs.map fun n : Nat => (n : Int)).count (x : Int) = xs.count x := by
  induction xs with
  | nil => rfl
  | cons y l ih =>
    rw [List.map_cons, List.count_cons, List.count_cons, ih]
    by_cases e : y = x
    · subst e; simp
    · have : ¬ (y : Int) = (x : Int) := by omega
      simp [e, this]
theorem idx_app {x : Nat} {l r : List Nat} (h : x ∈ l) : (l ++ r).idxOf x = l.idxOf x := by
  rw [List.idxOf_append, if_pos h]
theorem ok_rings {f : Addr} {fd : FuncData} (F : Fun K "_law_rings" "_law_rings" s_law_rings f fd) (T : Gs mg) : FnOk P w K mg base CX0 1 f fd ["_law_play"] (spLoops K) := by
  refine F.ok sc_law_rings (fun vs H Q E h => ?_) (fun cdv A outer s H vs Q E hr h => ?_)
  · obtain ⟨a, play, rfl, _⟩ := h
    rfl
  obtain ⟨a, play, rfl, hp, hpl, q⟩ := h
  have hu := hu_of hr
  refine ⟨_,       (pss_cons (ps_set (i := 1) sc_law_rings.nd rfl (Or.inl rfl) (pe_lst pa_nil))
      (pss_cons (ps_set (i := 2) sc_law_rings.nd rfl (Or.inl rfl) (pe_lst pa_nil))
      (pss_cons (ps_for PassesOwn.never rfl (pi_list (pv 0)) (pg_name (i := 3) sc_law_rings.nd rfl (Or.inl rfl)) 
        (pss_cons (ps_expr (pe_bm PySem.F.plainAttrs_list PySem.F.slot_list_append PySem.F.type_list_append mt_append (pv 1) (pa_cons (pv 3) pa_nil)))
        (pss_one (ps_if (pt_cmpR op_gt (pe_bm PySem.F.plainAttrs_list PySem.F.slot_list_count PySem.F.type_list_count mt_lcount (pv 1) (pa_cons (pv 3) pa_nil)) pe_int (nomark _)) 
          (pss_cons (ps_set (i := 4) sc_law_rings.nd rfl (Or.inl rfl) (pe_bm PySem.F.plainAttrs_list PySem.F.slot_list_index PySem.F.type_list_index mt_index (pv 1) (pa_cons (pv 3) pa_nil)))
          (pss_cons (ps_expr (pe_bm PySem.F.plainAttrs_list PySem.F.slot_list_append PySem.F.type_list_append mt_append (pv 2) (pa_cons (pe_slice sl_list (pv 1) (po_some (pv 4)) (po_some (pe_un un_neg pe_int))) pa_nil)))
          (pss_one (ps_set (i := 1) sc_law_rings.nd rfl (Or.inl rfl) (pe_slice sl_list (pv 1) po_none (po_some (pe_op op_add (pv 4) pe_int))))))) pss_nil))))
      (pss_one (ps_ret (pe_tup (pa_cons (pv 2) (pa_cons (pv 1) pa_nil)))))))), ?_⟩
  refine ⟨by show 0 ≤ sizeLine; decide, fun pl0 hpl0 => ⟨by show 0 ≤ sizeLine; decide, fun rg hrg => ?_⟩⟩
  have nrp0 : pl0 ≠ rg := fun z => by rw [← z, upd_same] at hrg; cases hrg
  have hrgH : H rg = none := (same_new hpl0).free hrg
  refine ⟨_, rfl, a, rfl, ⟨_, (sNew (same_new hpl0) hrg).seq hp⟩, ?_⟩
  refine for_list (K := K) (a := a) (xs := play.map nV) (fun i σ H' => ∃ (pl : Addr) (as : List Addr) (v3 v4 : Option V), σ = [some (.ref a), some (.ref pl), some (.ref rg), v3, v4] ∧ Same H H' ∧ H pl = none ∧ rg ≠ pl ∧ H' rg = some (.lst (as.map V.ref)) ∧ as.length = (lp (play.take i)).1.length ∧
      (∀ (j : Nat) (l : List Nat), (lp (play.take i)).1[j]? = some l → ∃ b, as[j]? = some b ∧ (b ≠ rg ∧ b ≠ pl ∧ H' b = some (.lst (l.map nV)))) ∧ H' pl = some (.lst ((lp (play.take i)).2.map nV)))
    ⟨pl0, [], _, _, rfl, sNew (same_new hpl0) hrg, hpl0, nrp0.symm, by rw [upd_same]; rfl, by simp [lp], fun j l h => by simp [lp] at h, by rw [upd_ne nrp0, upd_same]; simp [lp]⟩ (fun i σ H' _ ⟨_, _, _, _, _, s, _⟩ => s.seq hp) ?_ ?_
  · rintro i x σ H2 hi ⟨pl, as, v3, v4, rfl, s2, npl, nrp, e2r, hasl, hasv, e2p⟩
    obtain ⟨u, hu1, rfl⟩ := map_get hi
    have tk : lp (play.take (i + 1)) = lpStep (lp (play.take i)) u := by rw [take_snoc hu1, lp_snoc]
    have hlens := lp_len (play.take i)
    have hnd := lp_nodup (play.take i)
    have hti : (play.take i).length ≤ 1000 := by rw [List.length_take]; omega
    generalize hst : lp (play.take i) = st at *
    -- pile.append(place)
    refine ⟨_, rfl, .inl ⟨rfl, _, .inl (.inl e2p)⟩, _, rfl, pl, _, _, rfl, rfl, e2p, smallL (by rw [List.length_map]; omega), ?_⟩
    generalize hH3 : upd H2 pl (.lst (st.2.map nV ++ [nV u])) = H3
    have s3 : Same H H3 := by rw [← hH3]; exact sMut s2 npl
    have e3p : H3 pl = some (.lst ((st.2 ++ [u]).map nV)) := by rw [← hH3, upd_same, List.map_append]; rfl
    have e3r : H3 rg = some (.lst (as.map V.ref)) := by rw [← hH3, upd_ne nrp]; exact e2r
    have e3v : ∀ (j : Nat) (l : List Nat), st.1[j]? = some l → ∃ b, as[j]? = some b ∧ (b ≠ rg ∧ b ≠ pl ∧ H3 b = some (.lst (l.map nV))) := fun j l hl => by
      obtain ⟨b, h4, h5, h6, h7⟩ := hasv j l hl
      exact ⟨b, h4, h5, h6, by rw [← hH3, upd_ne h6]; exact h7⟩
    have hcnt : ((st.2 ++ [u]).map fun n : Nat => (n : Int)).count (u : Int) = (if u ∈ st.2 then 1 else 0) + 1 := by
      rw [cast_count, List.count_append, hnd.count]
      simp
    refine ⟨_, rfl, .inl ⟨rfl, _, .inl (.inl e3p)⟩, _, rfl, pl, _, (u : Int), rfl, rfl, .inl (.inl (by rw [← nVs]; exact e3p)), _, _, rfl, rfl, _, rfl, ?_⟩
    rw [hcnt]
    by_cases hc : u ∈ st.2
    · rw [if_pos hc]
      refine iteT ?_
      have hix := idx_lt hc
      have hmu : u ∈ st.2 ++ [u] := by simp
      have est : lpStep st u = (st.1 ++ [st.2.drop (st.2.idxOf u)], st.2.take (st.2.idxOf u + 1)) := by unfold lpStep; rw [if_pos hc]
      refine ⟨_, rfl, .inl ⟨rfl, _, .inl (.inl e3p)⟩, _, rfl, pl, _, _, (st.2 ++ [u]).idxOf u, _, rfl, rfl, .inl (.inl e3p), rfl, flat_nV _, get_map (idx_get hmu), by rw [eqV_nV]; exact decide_eq_true rfl, fun m z' hm hz => ?_, ?_⟩
      · obtain ⟨y, hy, rfl⟩ := map_get hz
        rw [eqV_nV]
        exact decide_eq_false (idx_first hm hy)
      rw [idx_app hc]
      -- rings.append(pile[at:-1])
      refine ⟨_, rfl, .inl ⟨rfl, _, .inl (.inl e3r)⟩, _, rfl, _, rfl, _, rfl, _, rfl, _, rfl, pl, _, rfl, .inl (.inl e3p), fun q1 hq1 => ?_⟩
      have ecut : cutV ((st.2 ++ [u]).map nV) (some ((st.2.idxOf u : Nat) : Int)) (some (-1)) = (st.2.drop (st.2.idxOf u)).map nV := by
        rw [cut_mid (by rw [List.length_map, List.length_append]; omega) (by rw [List.length_map, List.length_append]; simp), List.length_map, List.length_append, ← List.map_drop, ← List.map_take]
        congr 1
        rw [List.drop_append_of_le_length (by omega), List.take_append_of_le_length (by rw [List.length_drop, List.length_singleton]; omega), List.take_of_length_le (by rw [List.length_drop, List.length_singleton]; omega)]
      rw [ecut]
      have nq1 : rg ≠ q1 := ne_of_none e3r hq1
      have nq2 : pl ≠ q1 := ne_of_none e3p hq1
      refine ⟨rg, _, _, rfl, rfl, by rw [upd_ne nq1]; exact e3r, smallL (by rw [List.length_map, hasl]; omega), ?_⟩
      -- pile = pile[:at + 1]
      generalize hH4 : upd (upd H3 q1 (.lst ((st.2.drop (st.2.idxOf u)).map nV))) rg (.lst (as.map V.ref ++ [.ref q1])) = H4
      have s4 : Same H H4 := by rw [← hH4]; exact sMut (sNew s3 hq1) hrgH
      have e4p : H4 pl = some (.lst ((st.2 ++ [u]).map nV)) := by rw [← hH4, upd_ne nrp.symm, upd_ne nq2]; exact e3p
      have e4r : H4 rg = some (.lst ((as ++ [q1]).map V.ref)) := by rw [← hH4, upd_same, List.map_append]; rfl
      have e4q : H4 q1 = some (.lst ((st.2.drop (st.2.idxOf u)).map nV)) := by rw [← hH4, upd_ne nq1.symm, upd_same]
      refine ⟨_, rfl, _, rfl, _, _, rfl, rfl, _, rfl, pl, _, rfl, .inl (.inl e4p), fun q2 hq2 => ?_⟩
      have ecut2 : cutV ((st.2 ++ [u]).map nV) none (some (((st.2.idxOf u : Nat) : Int) + 1)) = (st.2.take (st.2.idxOf u + 1)).map nV := by
        have : (((st.2.idxOf u : Nat) : Int) + 1) = ((st.2.idxOf u + 1 : Nat) : Int) := by omega
        rw [this, cut_take, ← List.map_take, List.take_append_of_le_length (by omega)]
      rw [ecut2]
      have nr2 : rg ≠ q2 := ne_of_none e4r hq2
      refine ⟨q2, as ++ [q1], _, _, rfl, sNew s4 hq2, s4.free hq2, nr2, by rw [upd_ne nr2]; exact e4r, by rw [tk, est]; simp [hasl], ?_, by rw [tk, est, upd_same]⟩
      rw [tk, est]
      intro j l hl
      rcases Nat.lt_or_ge j st.1.length with hj | hj
      · rw [List.getElem?_append_left hj] at hl
        obtain ⟨b, h4, h5, h6, h7⟩ := e3v j l hl
        have hb4 : H4 b = some (.lst (l.map nV)) := by rw [← hH4, upd_ne h5, upd_ne (ne_of_none h7 hq1)]; exact h7
        exact ⟨b, by rw [List.getElem?_append_left (by omega)]; exact h4, h5, ne_of_none hb4 hq2, by rw [upd_ne (ne_of_none hb4 hq2)]; exact hb4⟩
      · rw [List.getElem?_append_right hj] at hl
        have hz := get_lt hl
        simp at hz
        have e0 : j - st.1.length = 0 := by omega
        rw [e0] at hl
        have : st.2.drop (st.2.idxOf u) = l := by simpa using hl
        subst this
        refine ⟨q1, ?_, nq1.symm, ne_of_none e4q hq2, by rw [upd_ne (ne_of_none e4q hq2)]; exact e4q⟩
        rw [List.getElem?_append_right (by omega)]
        have : j - as.length = 0 := by omega
        rw [this]; rfl
    · rw [if_neg hc]
      refine iteF ?_
      have est : lpStep st u = (st.1, st.2 ++ [u]) := by unfold lpStep; rw [if_neg hc]
      exact ⟨pl, as, _, _, rfl, s3, npl, nrp, e3r, by rw [tk, est]; exact hasl, by rw [tk, est]; exact e3v, by rw [tk, est]; exact e3p⟩
  · rintro σ H2 ⟨pl, as, v3, v4, rfl, s2, npl, nrp, e2r, hasl, hasv, e2p⟩
    rw [List.length_map, take_all] at hasl hasv e2p
    refine ⟨_, rfl, _, rfl, by show 2 ≤ sizeLine; decide, fun p hp' => ?_⟩
    refine q p _ rg pl (sNew s2 hp') upd_same ⟨as, same_new hp' _ _ e2r, hasl, fun j l hl => ?_⟩ (same_new hp' _ _ e2p)
    obtain ⟨b, h4, _, _, h7⟩ := hasv j l hl
    exact ⟨b, h4, same_new hp' _ _ h7⟩
end
end Rg
/-! the law's own: _law_won, law -/
namespace Rg
open PySem L2
abbrev s_law_won : Stmt := topS 37
theorem sc_law_won : FnScope ["_law_game_here", "_law_found", "_law_start", "_law_picks", "_law_hand", "_law_rule", "_law_play", "_law_due", "_law_ring", "_law_place"] ["_law_game_here", "_law_found", "_law_start", "_law_picks"] (defScope s_law_won) := ⟨rfl, rfl, rfl, by decide +kernel, rfl, by decide +kernel, by decide +kernel⟩
abbrev s_law : Stmt := topS 38
theorem sc_law : FnScope ["_law_script", "_law_game_here", "_law_found", "_law_picks", "_law_k", "_law_cell"] ["_law_script"] (defScope s_law) := ⟨rfl, rfl, rfl, by decide +kernel, rfl, by decide +kernel, by decide +kernel⟩
/-! ### what a told rule is worth -/
section
variable {G : Gm} (O : GmOk G) {W : List Int} {Y : List (Option Nat)} {TT : Tab} (Wd : Good G (List.range G.length) TT) (hT : ∀ v, v < G.length → TT v = some (W.getD v 0, Y.getD v none))
include O Wd hT
theorem rule_is (h : Int) (h01 : h = 0 ∨ h = 1) : RuleIs G h (ruleM G Y h) := by
  refine ⟨by simp [ruleM], fun x y hx hy => ?_⟩
  rw [List.getD_eq_getElem?_getD, ruleM_get hx] at hy
  by_cases ho : ow G x = h
  · have hy : Y.getD x none = some y := by simpa [ho] using hy
    refine ⟨ho, ?_⟩
    by_cases hw : ow G x = W.getD x 0
    · obtain ⟨u, h1, h2, _⟩ := Wd.own x _ _ (hT x hx) hw
      rw [hy] at h1
      cases h1
      exact h2
    · have := (Wd.oth x _ _ (hT x hx) hw).1
      rw [hy] at this
      cases this
  · simp [ho] at hy
/-- one step of the play that keeps to the rule -/
theorem step_is {h : Int} {x : Nat} (hx : x < G.length) (hW : W.getD x 0 = h) (pk : Int) :
    Step G (List.range G.length) TT h x (nextP G (ruleM G Y h) x pk) ∧ W.getD (nextP G (ruleM G Y h) x pk) 0 = h ∧ (ow G x = h → Y.getD x none = some (nextP G (ruleM G Y h) x pk)) ∧ (ow G x ≠ h → nextP G (ruleM G Y h) x pk = (wy G x).getD (pk % ((wy G x).length : Int)).toNat 0) := by
  have hTx := hT x hx
  rw [hW] at hTx
  have hR : (ruleM G Y h).getD x none = if ow G x = h then Y.getD x none else none := by rw [List.getD_eq_getElem?_getD, ruleM_get hx]; rfl
  by_cases ho : ow G x = h
  · obtain ⟨u, h1, h2, h3, z, h4⟩ := Wd.own x _ _ hTx ho
    rw [if_pos ho, h1] at hR
    have hn : nextP G (ruleM G Y h) x pk = u := by unfold nextP; rw [hR]
    have hu := hT u (List.mem_range.mp h3)
    rw [h4] at hu
    have hu2 := (Prod.mk.inj (Option.some.inj hu)).1
    rw [hn]
    exact ⟨.inl ⟨ho, by rw [hTx, h1]⟩, hu2.symm, fun _ => h1, fun z => absurd ho z⟩
  · obtain ⟨h1, h2⟩ := Wd.oth x _ _ hTx ho
    rw [if_neg ho] at hR
    have hn : nextP G (ruleM G Y h) x pk = (wy G x).getD (pk % ((wy G x).length : Int)).toNat 0 := by unfold nextP; rw [hR]
    have hwl : 0 < (wy G x).length := List.length_pos_iff.mpr (O.wne hx)
    have h5 := emod_in (a := pk) (b := ((wy G x).length : Int)) (by omega)
    have h6 : (pk % ((wy G x).length : Int)).toNat < (wy G x).length := by omega
    have hm : (wy G x).getD (pk % ((wy G x).length : Int)).toNat 0 ∈ wy G x := by
      rw [List.getD_eq_getElem?_getD, List.getElem?_eq_getElem h6]
      exact List.getElem_mem h6
    have hml := O.wy hx _ hm
    obtain ⟨z, h7⟩ := h2 _ hm (List.mem_range.mpr hml)
    have hu := hT _ hml
    rw [h7] at hu
    have hu2 := (Prod.mk.inj (Option.some.inj hu)).1
    rw [hn]
    exact ⟨.inr ⟨ho, ⟨_, hTx⟩, hm, List.mem_range.mpr hml⟩, hu2.symm, fun z => absurd z ho, fun _ => rfl⟩
theorem play_wins {h : Int} {start : Nat} (hs : start < G.length) (hW : W.getD start 0 = h) {picks : List Int} {play : List Nat} (PI : PlayIs G (ruleM G Y h) start picks play) :
    Keeps G W Y h picks play ∧ ∀ r, r ∈ (lp play).1 → r ≠ [] ∧ ∃ a, Walk (Step G (List.range G.length) TT h) a r a := by
  have all : ∀ (k x : Nat), play[k]? = some x → W.getD x 0 = h := by
    intro k
    induction k with
    | zero =>
      intro x hx
      rw [PI.zero] at hx
      cases hx
      exact hW
    | succ k ih =>
      intro x hx
      have hk := get_lt hx
      have hl := PI.len
      obtain ⟨y, hy⟩ := get_of_lt (xs := play) (i := k) (by omega)
      obtain ⟨pk, hpk⟩ := get_of_lt (xs := picks) (i := k) (by omega)
      have h1 := PI.next k y pk hy hpk
      rw [hx] at h1
      rw [Option.some.inj h1]
      exact (step_is O Wd hT (PI.lt y (List.mem_of_getElem? hy)) (ih y hy) pk).2.1
  refine ⟨⟨PI.len, ⟨start, PI.zero, hs, hW⟩, PI.lt, fun k x pk hx hpk => ?_⟩, lp_rings fun k x y hx hy => ?_⟩
  · obtain ⟨_, h2, h3, h4⟩ := step_is O Wd hT (PI.lt x (List.mem_of_getElem? hx)) (all k x hx) pk
    exact ⟨_, PI.next k x pk hx hpk, h2, h3, h4⟩
  · have hk := get_lt hy
    have hl := PI.len
    obtain ⟨pk, hpk⟩ := get_of_lt (xs := picks) (i := k) (by omega)
    have h1 := PI.next k x pk hx hpk
    rw [hy] at h1
    rw [Option.some.inj h1]
    exact (step_is O Wd hT (PI.lt x (List.mem_of_getElem? hx)) (all k x hx) pk).1
end
/-! ### rings and pile as data -/
def dLL (LL : List (List Nat)) : PyData := .list (LL.map fun l : List Nat => .list (l.map fun n : Nat => .int (n : Int)))
def dLp (s : List (List Nat) × List Nat) : PyData := .tuple [dLL s.1, .list (s.2.map fun n : Nat => .int (n : Int))]
theorem dp_LL {K : PySem.W.Frag} {H : Hp} {p : Addr} {LL : List (List Nat)} (A : LLH H p LL) : Dp K H (.ref p) (dLL LL) := by
  obtain ⟨as, h1, h2, h3⟩ := A.ex
  refine .lst (.inl (.inl h1)) (dpAll_of (by simp [h2]) fun i x d hx hd => ?_)
  obtain ⟨a, ha, rfl⟩ := map_get hx
  obtain ⟨l, hl, rfl⟩ := map_get hd
  obtain ⟨a', e1, e2⟩ := h3 i l hl
  rw [ha] at e1
  cases e1
  exact .lst (.inl (.inl e2)) (dp_nats l)
theorem LLH.same {H H' : Hp} {p : Addr} {LL : List (List Nat)} (A : LLH H p LL) (s : Same H H') : LLH H' p LL := by
  obtain ⟨as, h1, h2, h3⟩ := A.ex
  refine ⟨as, s _ _ h1, h2, fun i l hl => ?_⟩
  obtain ⟨a, h4, h5⟩ := h3 i l hl
  exact ⟨a, h4, s _ _ h5⟩
theorem dp_lp {K : PySem.W.Frag} {H : Hp} {p ra pl : Addr} {s : List (List Nat) × List Nat} (h : H p = some (.tup [.ref ra, .ref pl])) (A : LLH H ra s.1) (B : H pl = some (.lst (s.2.map nV))) : Dp K H (.ref p) (dLp s) :=
  .tup (.inl (.inl h)) (.cons (dp_LL A) (.cons (.lst (.inl (.inl B)) (dp_nats _)) .nil))
theorem sh_lp (s : List (List Nat) × List Nat) : Sh 3 (dLp s) := Sh.tup fun d hd => by
  simp only [List.mem_cons, List.not_mem_nil, or_false] at hd
  rcases hd with rfl | rfl
  · refine Sh.list fun e he => ?_
    obtain ⟨l, _, rfl⟩ := List.mem_map.mp he
    exact sh_nats l
  · have := sh_nats s.2
    exact ⟨this.lay, Nat.le_trans this.dep (by decide)⟩
theorem exists_max {G : Gm} : ∀ {r : List Nat}, r ≠ [] → ∃ m, (∃ x, x ∈ r ∧ rk G x = m) ∧ ∀ x, x ∈ r → rk G x ≤ m
  | [], h => absurd rfl h
  | [x], _ => ⟨rk G x, ⟨x, by simp, rfl⟩, fun y hy => by rw [List.mem_singleton.mp hy]; exact Int.le_refl _⟩
  | x :: y :: r, _ => by
    obtain ⟨m, ⟨z, hz, e⟩, hm⟩ := exists_max (G := G) (r := y :: r) (by simp)
    by_cases h : rk G x ≤ m
    · refine ⟨m, ⟨z, List.mem_cons_of_mem _ hz, e⟩, fun w hw => ?_⟩
      rcases List.mem_cons.mp hw with rfl | hw
      · exact h
      · exact hm w hw
    · refine ⟨rk G x, ⟨x, by simp, rfl⟩, fun w hw => ?_⟩
      rcases List.mem_cons.mp hw with rfl | hw
      · exact Int.le_refl _
      · have := hm w hw
        omega
theorem lp_mem {play : List Nat} : ∀ r, r ∈ (lp play).1 → ∀ x, x ∈ r → x ∈ play := by
  have : ∀ (l : List Nat) (s : List (List Nat) × List Nat) (A : List Nat), (∀ r, r ∈ s.1 → ∀ x, x ∈ r → x ∈ A) → (∀ x, x ∈ s.2 → x ∈ A) → (∀ x, x ∈ l → x ∈ A) → ∀ r, r ∈ (l.foldl lpStep s).1 → ∀ x, x ∈ r → x ∈ A := by
    intro l
    induction l with
    | nil => intro s A h1 _ _; exact h1
    | cons y l ih =>
      intro s A h1 h2 h3
      refine ih (lpStep s y) A ?_ ?_ fun x hx => h3 x (List.mem_cons_of_mem _ hx)
      · unfold lpStep
        split
        · intro r hr x hx
          rcases List.mem_append.mp hr with hr | hr
          · exact h1 r hr x hx
          · rw [List.mem_singleton.mp hr] at hx
            exact h2 x (List.mem_of_mem_drop hx)
        · exact h1
      · unfold lpStep
        split
        · intro x hx
          exact h2 x (List.mem_of_mem_take hx)
        · intro x hx
          rcases List.mem_append.mp hx with hx | hx
          · exact h2 x hx
          · rw [List.mem_singleton.mp hx]
            exact h3 y (by simp)
  exact this play ([], []) play (fun r hr => by simp at hr) (fun x hx => by simp at hx) fun x hx => hx
section
variable {P : Program} {w : World} {K : PySem.W.Frag} {mg : Str → Option Value} {base : Heap}
/-! ### _law_won -/
def spWon (K : PySem.W.Frag) : Sp := fun vs H Q _ => ∃ g G fo wa ya W Y TT start ka picks, vs = [.ref g, .ref fo, nV start, .ref ka] ∧ GmAt K H g G ∧ GmOk G ∧ H fo = some (.tup [.ref wa, .ref ya]) ∧ H wa = some (.lst ((W : List Int).map V.int)) ∧ H ya = some (.lst ((Y : List (Option Nat)).map oV)) ∧ W.length = G.length ∧ Y.length = G.length ∧
  Good G (List.range G.length) TT ∧ (∀ v, v < G.length → TT v = some (W.getD v 0, Y.getD v none)) ∧ start < G.length ∧ SqL K H ka ((picks : List Int).map V.int) ∧ picks.length ≤ 500 ∧ ∀ H', Same H H' → Q (.bl true) H'
theorem ok_won {f : Addr} {fd : FuncData} (F : Fun K "_law_won" "_law_won" s_law_won f fd) (T : Gs mg) (D_hand_rule : DefOk P w K mg base "hand_rule" 1 ["game", "ways", "hand"] (spHandRule K)) (D_played : DefOk P w K mg base "played" 2 ["game", "hand", "rule", "start", "picks"] (spPlayed K)) (D_law_keeps : DefOk P w K mg base "_law_keeps" 2 ["_law_game_here", "_law_won_here", "_law_ways_here", "_law_play", "_law_picks"] (spKeeps K))
    (D_law_rings : DefOk P w K mg base "_law_rings" 1 ["_law_play"] (spLoops K)) (D_loops : DefOk P w K mg base "loops" 1 ["play"] (spLoops K)) (D_ring_hand : DefOk P w K mg base "ring_hand" 1 ["game", "ring"] (spRingHand K)) : FnOk P w K mg base CX0 3 f fd ["_law_game_here", "_law_found", "_law_start", "_law_picks"] (spWon K) := by
  refine F.ok sc_law_won (fun vs H Q E h => ?_) (fun cdv A outer s H vs Q E hr h => ?_)
  · obtain ⟨g, G, fo, wa, ya, W, Y, TT, start, ka, picks, rfl, _⟩ := h
    rfl
  obtain ⟨g, G, fo, wa, ya, W, Y, TT, start, ka, picks, rfl, A, O, hfo, hW, hY, hWl, hYl, Wd, hT, hst, hka, hkl, q⟩ := h
  have hu := hu_of hr
  refine ⟨_,       (pss_cons (ps_set (i := 4) sc_law_won.nd rfl (Or.inl rfl) (pe_ix ix_list (pe_ix ix_tup (pv 1) pe_int (fun _ _ => rfl)) (pv 2) (fun _ _ => rfl)))
      (pss_cons (ps_set (i := 5) sc_law_won.nd rfl (Or.inl rfl) (pe_cd D_hand_rule (hr.mono (by omega)) (by rfl) (pa_cons (pv 0) (pa_cons (pe_callTy call_list_of (by rfl) T.nlist (by decide +kernel) (pa_cons (pe_ix ix_tup (pv 1) pe_int (fun _ _ => rfl)) pa_nil)) (pa_cons (pv 4) pa_nil)))))
      (pss_cons (ps_set (i := 6) sc_law_won.nd rfl (Or.inl rfl) (pe_cd D_played (hr.mono (by omega)) (by rfl) (pa_cons (pv 0) (pa_cons (pv 4) (pa_cons (pv 5) (pa_cons (pv 2) (pa_cons (pe_callTy call_list_of (by rfl) T.nlist (by decide +kernel) (pa_cons (pv 3) pa_nil)) pa_nil)))))))
      (pss_cons (ps_if (PW.pt (pw_or (pt_not (pt_val (pe_cd D_law_keeps (hr.mono (by omega)) (by rfl) (pa_cons (pv 0) (pa_cons (pe_ix ix_tup (pv 1) pe_int (fun _ _ => rfl)) (pa_cons (pe_ix ix_tup (pv 1) pe_int (fun _ _ => rfl)) (pa_cons (pv 6) (pa_cons (pv 3) pa_nil)))))))) (pw_or1 (pt_cmpR op_ne (pe_ix ix_list (pv 6) pe_int (fun _ _ => rfl)) (pv 2) (nomark _))))) 
        (pss_one (ps_ret pe_bl)) pss_nil)
      (pss_cons (ps_set (i := 7) sc_law_won.nd rfl (Or.inl rfl) (pe_cd D_law_rings (hr.mono (by omega)) (by rfl) (pa_cons (pv 6) pa_nil)))
      (pss_cons (ps_if (pt_cmpR (op_neD hr.units) (pe_cd D_loops (hr.mono (by omega)) (by rfl) (pa_cons (pe_callTy call_list_of (by rfl) T.nlist (by decide +kernel) (pa_cons (pv 6) pa_nil)) pa_nil)) (pv 7) (nomark _)) 
        (pss_one (ps_ret pe_bl)) pss_nil)
      (pss_cons (ps_for PassesOwn.never rfl (pi_list (pe_ix ix_tup (pv 7) pe_int (fun _ _ => rfl))) (pg_name (i := 8) sc_law_won.nd rfl (Or.inl rfl)) 
        (pss_one (ps_if (PW.pt (pw_or (pt_cmpR op_ne (pe_op op_mod (pe_callB (cr_max rfl) (by rfl) T.nmax (by decide +kernel) (pa_cons (pe_lc (own := [("_law_place", 9)]) (g := gName 9) (tt := tYes) rfl sc_law_won.nd (pi_list (pv 8)) (blkOk_by (N := ["_law_game_here", "_law_found", "_law_start", "_law_picks", "_law_hand", "_law_rule", "_law_play", "_law_due", "_law_ring", "_law_place"]) (sc := defScope s_law_won) (by decide +kernel)) (fun _ _ _ _ _ => pg_name (i := 9) sc_law_won.nd rfl (Or.inl rfl)) (fun _ _ _ _ _ => pts_nil) (fun _ _ _ _ _ => (pe_ix (ixT (K := K)) (pe_ix (ixL (K := K)) (pv 0) (pv 9) (fun _ _ => rfl)) pe_int (fun _ _ => rfl)))) pa_nil)) pe_int) (pv 4) (nomark _)) (pw_or1 (pt_cmpR op_ne (pe_cd D_ring_hand (hr.mono (by omega)) (by rfl) (pa_cons (pv 0) (pa_cons (pe_callTy call_list_of (by rfl) T.nlist (by decide +kernel) (pa_cons (pv 8) pa_nil)) pa_nil))) (pv 4) (nomark _))))) 
          (pss_one (ps_ret pe_bl)) pss_nil)))
      (pss_one (ps_ret pe_bl))))))))), ?_⟩
  have hWg : W[start]? = some (W.getD start 0) := by rw [List.getD_eq_getElem?_getD, List.getElem?_eq_getElem (by omega)]; rfl
  have h01 := Wd.hands start _ _ (hT start hst)
  have RI := rule_is O Wd hT _ h01
  -- hand, rule, play
  refine ⟨_, rfl, t_c ⟨fo, _, 0, _, rfl, rfl, SqT.of hfo, rfl, _, rfl, rd_at (f := V.int) (.inl (.inl hW)) hWg rfl rfl ?_⟩⟩
  generalize hh : W.getD start 0 = hd at *
  refine ⟨_, rfl, _, rfl, t_c ⟨fo, _, 1, _, rfl, rfl, SqT.of hfo, rfl, ya, _, rfl, .inl (.inl (.inl hY)), fun y2 hy2 => ?_⟩⟩
  have s1 : Same H (upd H y2 (.lst (Y.map oV))) := same_new hy2
  refine ⟨_, rfl, g, G, y2, Y, hd, rfl, A.same s1, O, .inl (.inl upd_same), hYl, fun ra H2 s2 n2 e2 => ?_⟩
  have s02 := s1.trans s2
  refine ⟨_, rfl, _, rfl, _, rfl, _, rfl, _, rfl, ka, _, rfl, .inl (s02.seq hka), fun k2 hk2 => ?_⟩
  have s3 : Same H (upd H2 k2 (.lst (picks.map V.int))) := sNew s02 hk2
  refine ⟨g, G, hd, ra, ruleM G Y hd, start, k2, picks, rfl, A.same s3, O, .inl (.inl (same_new hk2 _ _ e2)), RI, hst, .inl (.inl upd_same), hkl, fun pl H4 play s4 n4 e4 PI => ?_⟩
  have s04 := s3.trans s4
  obtain ⟨KP, hrings⟩ := play_wins O Wd hT hst hh PI
  have hplen : play.length ≤ 1000 := by have := PI.len; omega
  -- keeps
  refine ⟨_, rfl, _, rfl, t_c ⟨fo, _, 0, _, rfl, rfl, SqT.of (s04 _ _ hfo), rfl, _, rfl, t_c ⟨fo, _, 1, _, rfl, rfl, SqT.of (s04 _ _ hfo), rfl, _, rfl, _, rfl, ?_⟩⟩⟩
  refine ⟨g, G, wa, ya, W, Y, pl, play, ka, picks, hd, rfl, A.same s04, O, s04 _ _ hW, s04 _ _ hY, hWl, hYl, e4, s04.seq hka, hkl, KP, _, rfl, iteF ?_⟩
  refine ⟨_, rfl, t_c (rd_at (f := nV) (i := 0) (.inl (.inl e4)) PI.zero rfl rfl ⟨_, rfl, rfl, _, rfl, ?_⟩)⟩
  rw [show decide (nV start = nV start) = true from decide_eq_true rfl]
  refine iteF ?_
  -- due
  refine ⟨_, rfl, pl, play, rfl, .inl (.inl e4), hplen, fun du H5 rg5 pl5 s5 e5 R5 P5 => ?_⟩
  have s05 := s04.trans s5
  -- loops
  refine ⟨_, rfl, pl, _, rfl, .inl (.inl (.inl (s5 _ _ e4))), fun c6 hc6 => ?_⟩
  have s6 := same_new (o := HO.lst (play.map nV)) hc6
  refine ⟨c6, play, rfl, .inl (.inl upd_same), hplen, fun lo H7 rg7 pl7 s7 e7 R7 P7 => ?_⟩
  have s57 := s6.trans s7
  have hsd : SeqAt.shaped (dLp (lp play)) = true := (sh_lp _).ok (by decide)
  refine ⟨_, rfl, dLp (lp play), dLp (lp play), dp_lp e7 R7 P7, dp_lp (s57 _ _ e5) (R5.same s57) (s57 _ _ P5), hsd, hsd, _, rfl, ?_⟩
  rw [SeqAt.eqv_refl _ (sh_lp _).lay]
  refine iteF ?_
  -- for ring in due[0]
  have R7' := R5.same s57
  obtain ⟨as, g1, g2, g3⟩ := id R7'.ex
  refine ⟨_, rfl, t_c ⟨du, _, 0, _, rfl, rfl, SqT.of (s57 _ _ e5), rfl, rg5, rfl, ⟨_, .inl (.inl g1)⟩, ?_⟩⟩
  have s07 := s05.trans s57
  refine for_list (K := K) (a := rg5) (xs := as.map V.ref) (fun i σ H' => ∃ v8 v9, σ = [some (.ref g), some (.ref fo), some (nV start), some (.ref ka), some (.int hd), some (.ref ra), some (.ref pl), some (.ref du), v8, v9] ∧ Same H7 H') ⟨_, _, rfl, Same.refl _⟩ (fun i σ H' _ ⟨_, _, _, s⟩ => .inl (.inl (s _ _ g1))) ?_ ?_
  · rintro i x σ H8 hi ⟨v8, v9, rfl, s8⟩
    obtain ⟨ar, har, rfl⟩ := map_get hi
    obtain ⟨r, hr1⟩ := get_of_lt (xs := (lp play).1) (i := i) (by have := get_lt har; omega)
    obtain ⟨ar', k1, k2⟩ := g3 i r hr1
    rw [har] at k1
    cases k1
    have hrm := List.mem_of_getElem? hr1
    obtain ⟨hrne, v0, hwk⟩ := hrings r hrm
    obtain ⟨m, hm1, hm2⟩ := exists_max (G := G) hrne
    have hmod := Wd.cyc hd v0 r hwk hrne m hm1 hm2
    have hrlt : ∀ x, x ∈ r → x < G.length := fun x hx => PI.lt x (lp_mem r hrm x hx)
    have hrlen : r.length ≤ 1000 := Nat.le_trans ((lp_len play).2 r hrm) hplen
    have e8 := s8 _ _ k2
    have s08 := s07.trans s8
    refine ⟨_, rfl, ar, rfl, ⟨_, .inl (.inl e8)⟩, fun L hL => ?_⟩
    refine lc_list (K := K) (a := ar) (xs := r.map nV) (fun i H' => Same H8 H' ∧ H' L = some (.lst (((r.take i).map (rk G)).map V.int))) ⟨same_new hL, by rw [upd_same]; simp⟩ (fun i H' _ h => .inl (.inl (h.1 _ _ e8))) ?_ ?_
    · rintro i x H9 hi ⟨s9, h9⟩
      obtain ⟨z, hz1, rfl⟩ := map_get hi
      have hzl := hrlt z (List.mem_of_getElem? hz1)
      refine ⟨rfl, _, rfl, _, rfl, rd_rk (A.same (s08.trans s9)) hzl rfl rfl ⟨_, h9, smallL (by rw [List.length_map, List.length_map, List.length_take]; omega), sMut s9 hL, ?_⟩⟩
      rw [upd_same, take_snoc hz1]
      simp
    rintro H9 ⟨s9, h9⟩
    rw [List.length_map, take_all] at h9
    have s09 := s08.trans s9
    refine ⟨L, _, rfl, .inl (.inl h9), by rw [List.length_map]; exact List.length_pos_iff.mpr hrne, fun m' hm' hle' => ?_⟩
    have em : m' = m := by
      obtain ⟨x, hx, rfl⟩ := List.mem_map.mp hm'
      obtain ⟨x0, hx0, rfl⟩ := hm1
      have h2 := hm2 x hx
      have h3 := hle' _ (List.mem_map.mpr ⟨x0, hx0, rfl⟩)
      omega
    subst em
    refine ⟨_, _, rfl, rfl, by show (0 : Int) < 2; decide, _, rfl, rfl, _, rfl, ?_⟩
    rw [iV_dec, decide_eq_true hmod]
    refine iteF ?_
    refine ⟨_, rfl, _, rfl, ar, _, rfl, .inl (.inl (.inl (s9 _ _ e8))), fun c hc => ?_⟩
    refine ⟨g, G, c, r, m', rfl, A.same (sNew s09 hc), O, .inl (.inl upd_same), hrne, hrlen, hrlt, hm1, hm2, fun H10 s10 => ?_⟩
    refine ⟨_, rfl, rfl, _, rfl, ?_⟩
    rw [iV_dec, decide_eq_true hmod]
    refine iteF ?_
    exact ⟨_, _, rfl, s8.trans (s9.trans ((same_new hc).trans s10))⟩
  · rintro σ H8 ⟨v8, v9, rfl, s8⟩
    exact q H8 (s07.trans s8)
/-! ### law -/
def spLaw (K : PySem.W.Frag) : Sp := fun vs H Q _ => ∃ (a : Addr) (ns : List Int), vs = [.ref a] ∧ SqL K H a (ns.map V.int) ∧ ns.length ≤ 63 ∧ ∀ H', Q (.bl true) H'
theorem ok_law {f : Addr} {fd : FuncData} {k : Nat} (hk : 3 ≤ k) (F : Fun K "law" "law" s_law f fd) (T : Gs mg) (D_law_mixed : DefOk P w K mg base "_law_mixed" 1 ["_law_script", "_law_k"] (spMixed K)) (D_law_game : DefOk P w K mg base "_law_game" 3 ["_law_script"] (spGame K)) (D_law_solved : DefOk P w K mg base "_law_solved" k ["_law_game_here"] (spSolved K))
    (D_law_won : DefOk P w K mg base "_law_won" 3 ["_law_game_here", "_law_found", "_law_start", "_law_picks"] (spWon K)) : FnOk P w K mg base CX0 (k + 1) f fd ["_law_script"] (spLaw K) := by
  refine F.ok sc_law (fun vs H Q E h => ?_) (fun cdv A outer s H vs Q E hr h => ?_)
  · obtain ⟨a, ns, rfl, _⟩ := h
    rfl
  obtain ⟨a, ns, rfl, hp, hn, q⟩ := h
  have hu := hu_of hr
  refine ⟨_,       (pss_cons (ps_set (i := 1) sc_law.nd rfl (Or.inl rfl) (pe_cd D_law_game (hr.mono (by omega)) (by rfl) (pa_cons (pv 0) pa_nil)))
      (pss_cons (ps_set (i := 2) sc_law.nd rfl (Or.inl rfl) (pe_cd D_law_solved (hr.mono (by omega)) (by rfl) (pa_cons (pv 1) pa_nil)))
      (pss_cons (ps_if (pt_cmpR op_isN (pv 2) pe_non (nomark _)) 
        (pss_one (ps_ret pe_bl)) pss_nil)
      (pss_cons (ps_setLc (i := 3) (own := [("_law_cell", 5)]) (g := gName 5) (tt := tYes) rfl sc_law.nd rfl rfl (sw_true rfl rfl rfl (by decide +kernel)) (pi_list (pe_slice sl_list (pv 0) po_none (po_some pe_int))) (blkOk_by (N := ["_law_script", "_law_game_here", "_law_found", "_law_picks", "_law_k", "_law_cell"]) (sc := defScope s_law) (by decide +kernel)) (fun _ _ _ _ _ => pg_name (i := 5) sc_law.nd rfl (Or.inl rfl)) (fun _ _ _ _ _ => pts_nil) (fun _ _ _ _ _ => (pe_op op_add (pe_op op_sub (pe_op op_mod (pv 5) (pe_op op_sub (pe_op op_mul pe_int (pe_op op_pow pe_int pe_int)) pe_int)) (pe_op op_pow pe_int pe_int)) pe_int)))
      (pss_cons (ps_for PassesOwn.never rfl (pi_range1 (by rfl) T.nrange (pa_cons pe_int pa_nil)) (pg_name (i := 4) sc_law.nd rfl (Or.inl rfl)) 
        (pss_one (ps_expr (pe_bm PySem.F.plainAttrs_list PySem.F.slot_list_append PySem.F.type_list_append mt_append (pv 3) (pa_cons (pe_cd D_law_mixed (hr.mono (by omega)) (by rfl) (pa_cons (pv 0) (pa_cons (pe_op op_add pe_int (pv 4)) pa_nil))) pa_nil)))))
      (pss_cons (ps_for PassesOwn.never rfl (pi_range1 (by rfl) T.nrange (pa_cons pe_int pa_nil)) (pg_name (i := 4) sc_law.nd rfl (Or.inl rfl)) 
        (pss_one (ps_if (pt_not (pt_val (pe_cd D_law_won (hr.mono (by omega)) (by rfl) (pa_cons (pv 1) (pa_cons (pv 2) (pa_cons (pe_op op_mod (pe_cd D_law_mixed (hr.mono (by omega)) (by rfl) (pa_cons (pv 0) (pa_cons (pe_op op_add pe_int (pv 4)) pa_nil))) (pe_callB call_len_seq (by rfl) T.nlen PySem.boot_len (pa_cons (pv 1) pa_nil))) (pa_cons (pv 3) pa_nil))))))) 
          (pss_one (ps_ret pe_bl)) pss_nil)))
      (pss_one (ps_ret pe_bl)))))))), ?_⟩
  refine ⟨_, rfl, a, ns, rfl, hp, hn, fun g H1 G s1 n1 A O hpos => ?_⟩
  refine ⟨_, rfl, g, G, rfl, A, O, fun fo H2 wa ya W Y TT s2 e2 eW eY hWl hYl Wd hT => ?_⟩
  have s02 := s1.trans s2
  refine ⟨_, rfl, rfl, _, rfl, iteF ?_⟩
  -- picks
  refine ⟨_, rfl, _, rfl, a, _, rfl, s02.seq hp, fun sl hsl => ?_⟩
  have ecut : cutV (ns.map V.int) none (some 300) = ns.map V.int := by
    rw [show (some (300 : Int)) = some ((300 : Nat) : Int) from rfl, cut_take, List.take_of_length_le (by rw [List.length_map]; omega)]
  rw [ecut]
  have s3 : Same H (upd H2 sl (.lst (ns.map V.int))) := sNew s02 hsl
  have e3 : upd H2 sl (.lst (ns.map V.int)) sl = some (.lst (ns.map V.int)) := upd_same
  have s23 : Same H2 (upd H2 sl (.lst (ns.map V.int))) := same_new hsl
  generalize upd H2 sl (.lst (ns.map V.int)) = H3 at s3 e3 s23 ⊢
  refine ⟨sl, rfl, ⟨_, .inl (.inl e3)⟩, fun D hD => ?_⟩
  refine lc_list (K := K) (a := sl) (xs := ns.map V.int) (fun i H' => Same H3 H' ∧ ∃ ps : List Int, ps.length = i ∧ H' D = some (.lst (ps.map V.int))) ⟨same_new hD, [], rfl, by rw [upd_same]; rfl⟩ (fun i H' _ h => .inl (.inl (h.1 _ _ e3))) ?_ ?_
  · rintro i x H4 hi ⟨s4, ps, hps, h4⟩
    obtain ⟨z, hz1, rfl⟩ := map_get hi
    have hil := get_lt hz1
    refine ⟨rfl, _, rfl, _, _, rfl, rfl, ⟨by decide, by decide, by decide⟩, _, _, rfl, rfl, .inl ⟨by decide, by decide⟩, _, _, rfl, rfl, _, _, rfl, rfl, by show (0 : Int) < 2 * 10 ^ 60 - 1; decide +kernel, _, _, rfl, rfl, ⟨by decide, by decide, by decide⟩, _, _, rfl, rfl, _, _, rfl, rfl, ?_⟩
    refine ⟨ps.map V.int, h4, smallL (by rw [List.length_map]; omega), sMut s4 hD, ps ++ [_], by rw [List.length_append, hps]; rfl, by rw [upd_same, List.map_append]; rfl⟩
  rintro H4 ⟨s4, ps, hps, h4⟩
  rw [List.length_map] at hps
  have nD : H D = none := s3.free hD
  -- forty more
  refine ⟨40, rfl, by decide, by decide, ?_⟩
  refine for_range (lo := 0) (n := (40 : Int).toNat) (fun i σ H' => ∃ (ps : List Int) (v4 v5 : Option V), σ = [some (.ref a), some (.ref g), some (.ref fo), some (.ref D), v4, v5] ∧ Same H3 H' ∧ H' D = some (.lst (ps.map V.int)) ∧ ps.length ≤ 63 + i) ⟨ps, _, _, rfl, s4, h4, by omega⟩ ?_ ?_
  · rintro i σ H5 hi ⟨ps, v4, v5, rfl, s5, h5, hl5⟩
    have hi' : i < 40 := hi
    refine ⟨_, rfl, .inl ⟨rfl, _, .inl (.inl h5)⟩, _, rfl, _, rfl, _, _, rfl, rfl, a, ns, _, rfl, (s3.trans s5).seq hp, hn, by omega, by omega, fun v _ _ => ?_⟩
    exact ⟨D, _, _, rfl, rfl, h5, smallL (by rw [List.length_map]; omega), ps ++ [v], _, _, rfl, sMut s5 hD, by rw [upd_same, List.map_append]; rfl, by rw [List.length_append, List.length_singleton]; omega⟩
  rintro σ H5 ⟨ps, v4, v5, rfl, s5, h5, hl5⟩
  have hl5' : ps.length ≤ 103 := hl5
  have s25 := s23.trans s5
  have s05 := s3.trans s5
  obtain ⟨xs, hxs, hxl⟩ := (A.same (s2.trans s25)).len
  -- two plays
  refine ⟨2, rfl, by decide, by decide, ?_⟩
  refine for_range (lo := 0) (n := (2 : Int).toNat) (fun i σ H' => ∃ (v4 v5 : Option V), σ = [some (.ref a), some (.ref g), some (.ref fo), some (.ref D), v4, v5] ∧ Same H5 H') ⟨_, _, rfl, Same.refl _⟩ ?_ ?_
  · rintro i σ H6 hi ⟨v4, v5, rfl, s6⟩
    have hi' : i < 2 := hi
    have s26 := s25.trans s6
    refine ⟨_, rfl, _, rfl, _, rfl, _, rfl, _, _, rfl, rfl, a, ns, _, rfl, (s05.trans s6).seq hp, hn, by omega, by omega, fun v hv0 hv1 => ?_⟩
    have hm := emod_in (a := v) (b := (G.length : Int)) (by omega)
    obtain ⟨st, hst⟩ : ∃ st : Nat, v % (G.length : Int) = (st : Int) := ⟨_, (Int.toNat_of_nonneg hm.1).symm⟩
    refine ⟨_, rfl, g, _, rfl, .inl (s6.seq hxs), v, (G.length : Int), rfl, by rw [hxl], by show (0 : Int) < _; omega, _, rfl, ?_⟩
    refine ⟨g, G, fo, wa, ya, W, Y, TT, st, D, ps, (by show [_, _, V.int (v % (G.length : Int)), _] = _; rw [hst]), A.same (s2.trans s26), O, s26 _ _ e2, s26 _ _ eW, s26 _ _ eY, hWl, hYl, Wd, hT, by omega, .inl (.inl (s6 _ _ h5)), by omega, fun H7 s7 => ⟨_, rfl, iteF ?_⟩⟩
    exact ⟨_, _, rfl, s6.trans s7⟩
  · rintro σ H6 ⟨v4, v5, rfl, s6⟩
    exact q H6
end
end Rg
/-! what the top has written; the end -/
namespace Rg
open PySem L2
theorem binds_dflt {K : PySem.W.Frag} {x qual : Str} {params : Arguments} {body : List Stmt} {scope : Scope} {f : Addr} {fd : FuncData} {ps : List Str} {n : Nat} (F : FunD K x qual params body scope [.non] [] f fd) (hn : n = ps.length)
    (h : ∀ (T : Addr) (kV doc pm : Value) (an : Option Addr) (cdv ct : Value) (us its : List Value), us.length = n → its.length = 1 → ∃ k, bindArgs (PySem.W.fnOf x qual params body scope (.ref T) kV doc pm an cdv ct) ⟨us, []⟩ = seqItems? (.ref T) >>= k ∧ k (some its.toArray) = pure (ps.zip us)) : Binds K fd ps [] := by
  obtain ⟨ds, r, b⟩ := FunD.binds1 F n 1 (by simp) (by show n + (1 - 1) = _; omega) (ps := ps) fun T kV doc pm an cdv ct us its h1 h2 => by
    obtain ⟨k, e1, e2⟩ := h T kV doc pm an cdv ct us its h1 h2
    have e3 : its.drop 1 = [] := List.drop_eq_nil_of_le (by have : its.length = 1 := h2; omega)
    exact ⟨k, e1, by rw [e3, List.append_nil]; exact e2⟩
  cases r
  exact b
theorem all_mk {l : PySem.W.OpenLaw} {w : World} {K : PySem.W.Frag} {h : Heap} {mg : Str → Option Value} {fa : Addr} (X : K.In h) (G : h.Ns mainGlobals mg) (hfa : mg "law" = some (.ref fa))
    {f1 : Addr} {od1 an1 : Option Addr} {sl1 : Array (Option Value)} {oc1 kV1 dc1 pm1 cd1 ct1 : Value}
    {f2 : Addr} {od2 an2 : Option Addr} {sl2 : Array (Option Value)} {oc2 kV2 dc2 pm2 cd2 ct2 : Value}
    {f3 : Addr} {od3 an3 : Option Addr} {sl3 : Array (Option Value)} {oc3 kV3 dc3 pm3 cd3 ct3 : Value}
    {f4 : Addr} {od4 an4 : Option Addr} {sl4 : Array (Option Value)} {oc4 kV4 dc4 pm4 cd4 ct4 : Value}
    {T4 : Addr} {oT4 : Value} {dT4 : Option Addr} {nT4 : Nat} {sT4 : Array (Option Value)}
    {f5 : Addr} {od5 an5 : Option Addr} {sl5 : Array (Option Value)} {oc5 kV5 dc5 pm5 cd5 ct5 : Value}
    {f6 : Addr} {od6 an6 : Option Addr} {sl6 : Array (Option Value)} {oc6 kV6 dc6 pm6 cd6 ct6 : Value}
    {T6 : Addr} {oT6 : Value} {dT6 : Option Addr} {nT6 : Nat} {sT6 : Array (Option Value)}
    {f7 : Addr} {od7 an7 : Option Addr} {sl7 : Array (Option Value)} {oc7 kV7 dc7 pm7 cd7 ct7 : Value}
    {f8 : Addr} {od8 an8 : Option Addr} {sl8 : Array (Option Value)} {oc8 kV8 dc8 pm8 cd8 ct8 : Value}
    {f9 : Addr} {od9 an9 : Option Addr} {sl9 : Array (Option Value)} {oc9 kV9 dc9 pm9 cd9 ct9 : Value}
    {f10 : Addr} {od10 an10 : Option Addr} {sl10 : Array (Option Value)} {oc10 kV10 dc10 pm10 cd10 ct10 : Value}
    {f11 : Addr} {od11 an11 : Option Addr} {sl11 : Array (Option Value)} {oc11 kV11 dc11 pm11 cd11 ct11 : Value}
    {f12 : Addr} {od12 an12 : Option Addr} {sl12 : Array (Option Value)} {oc12 kV12 dc12 pm12 cd12 ct12 : Value}
    {f13 : Addr} {od13 an13 : Option Addr} {sl13 : Array (Option Value)} {oc13 kV13 dc13 pm13 cd13 ct13 : Value}
    {f14 : Addr} {od14 an14 : Option Addr} {sl14 : Array (Option Value)} {oc14 kV14 dc14 pm14 cd14 ct14 : Value}
    {f15 : Addr} {od15 an15 : Option Addr} {sl15 : Array (Option Value)} {oc15 kV15 dc15 pm15 cd15 ct15 : Value}
    {f16 : Addr} {od16 an16 : Option Addr} {sl16 : Array (Option Value)} {oc16 kV16 dc16 pm16 cd16 ct16 : Value}
    {f17 : Addr} {od17 an17 : Option Addr} {sl17 : Array (Option Value)} {oc17 kV17 dc17 pm17 cd17 ct17 : Value}
    {f18 : Addr} {od18 an18 : Option Addr} {sl18 : Array (Option Value)} {oc18 kV18 dc18 pm18 cd18 ct18 : Value}
    {f19 : Addr} {od19 an19 : Option Addr} {sl19 : Array (Option Value)} {oc19 kV19 dc19 pm19 cd19 ct19 : Value}
    {f20 : Addr} {od20 an20 : Option Addr} {sl20 : Array (Option Value)} {oc20 kV20 dc20 pm20 cd20 ct20 : Value}
    {f21 : Addr} {od21 an21 : Option Addr} {sl21 : Array (Option Value)} {oc21 kV21 dc21 pm21 cd21 ct21 : Value}
    {f22 : Addr} {od22 an22 : Option Addr} {sl22 : Array (Option Value)} {oc22 kV22 dc22 pm22 cd22 ct22 : Value}
    {f23 : Addr} {od23 an23 : Option Addr} {sl23 : Array (Option Value)} {oc23 kV23 dc23 pm23 cd23 ct23 : Value}
    {f24 : Addr} {od24 an24 : Option Addr} {sl24 : Array (Option Value)} {oc24 kV24 dc24 pm24 cd24 ct24 : Value}
    {f25 : Addr} {od25 an25 : Option Addr} {sl25 : Array (Option Value)} {oc25 kV25 dc25 pm25 cd25 ct25 : Value}
    {f26 : Addr} {od26 an26 : Option Addr} {sl26 : Array (Option Value)} {oc26 kV26 dc26 pm26 cd26 ct26 : Value}
    {f27 : Addr} {od27 an27 : Option Addr} {sl27 : Array (Option Value)} {oc27 kV27 dc27 pm27 cd27 ct27 : Value}
    {f28 : Addr} {od28 an28 : Option Addr} {sl28 : Array (Option Value)} {oc28 kV28 dc28 pm28 cd28 ct28 : Value}
    {f29 : Addr} {od29 an29 : Option Addr} {sl29 : Array (Option Value)} {oc29 kV29 dc29 pm29 cd29 ct29 : Value}
    {f30 : Addr} {od30 an30 : Option Addr} {sl30 : Array (Option Value)} {oc30 kV30 dc30 pm30 cd30 ct30 : Value}
    {f31 : Addr} {od31 an31 : Option Addr} {sl31 : Array (Option Value)} {oc31 kV31 dc31 pm31 cd31 ct31 : Value}
    (a1 : PySem.W.nsIn K mainGlobals "ways_in" = some (some (.ref f1)))
    (l1 : K.lookup f1 = some ⟨oc1, od1, .func (PySem.W.fnOf "ways_in" "ways_in" (defArgs s_ways_in) (defBody s_ways_in) (defScope s_ways_in) .none kV1 dc1 pm1 an1 cd1 ct1), sl1⟩)
    (c1 : PySem.W.codeIn K cd1 "ways_in" = true)
    (k1 : PySem.W.keepIn K (.ref f1) = true)
    (a2 : PySem.W.nsIn K mainGlobals "marks_of" = some (some (.ref f2)))
    (l2 : K.lookup f2 = some ⟨oc2, od2, .func (PySem.W.fnOf "marks_of" "marks_of" (defArgs s_marks_of) (defBody s_marks_of) (defScope s_marks_of) .none kV2 dc2 pm2 an2 cd2 ct2), sl2⟩)
    (c2 : PySem.W.codeIn K cd2 "marks_of" = true)
    (k2 : PySem.W.keepIn K (.ref f2) = true)
    (a3 : PySem.W.nsIn K mainGlobals "open_ways" = some (some (.ref f3)))
    (l3 : K.lookup f3 = some ⟨oc3, od3, .func (PySem.W.fnOf "open_ways" "open_ways" (defArgs s_open_ways) (defBody s_open_ways) (defScope s_open_ways) .none kV3 dc3 pm3 an3 cd3 ct3), sl3⟩)
    (c3 : PySem.W.codeIn K cd3 "open_ways" = true)
    (k3 : PySem.W.keepIn K (.ref f3) = true)
    (a4 : PySem.W.nsIn K mainGlobals "pulled" = some (some (.ref f4)))
    (l4 : K.lookup f4 = some ⟨oc4, od4, .func (PySem.W.fnOf "pulled" "pulled" (defArgs s_pulled) (defBody s_pulled) (defScope s_pulled) (.ref T4) kV4 dc4 pm4 an4 cd4 ct4), sl4⟩)
    (c4 : PySem.W.codeIn K cd4 "pulled" = true)
    (k4 : PySem.W.keepIn K (.ref f4) = true)
    (t4 : K.lookup T4 = some ⟨oT4, dT4, .seq #[.none] nT4, sT4⟩)
    (a5 : PySem.W.nsIn K mainGlobals "depths_of" = some (some (.ref f5)))
    (l5 : K.lookup f5 = some ⟨oc5, od5, .func (PySem.W.fnOf "depths_of" "depths_of" (defArgs s_depths_of) (defBody s_depths_of) (defScope s_depths_of) .none kV5 dc5 pm5 an5 cd5 ct5), sl5⟩)
    (c5 : PySem.W.codeIn K cd5 "depths_of" = true)
    (k5 : PySem.W.keepIn K (.ref f5) = true)
    (a6 : PySem.W.nsIn K mainGlobals "pull_ways" = some (some (.ref f6)))
    (l6 : K.lookup f6 = some ⟨oc6, od6, .func (PySem.W.fnOf "pull_ways" "pull_ways" (defArgs s_pull_ways) (defBody s_pull_ways) (defScope s_pull_ways) (.ref T6) kV6 dc6 pm6 an6 cd6 ct6), sl6⟩)
    (c6 : PySem.W.codeIn K cd6 "pull_ways" = true)
    (k6 : PySem.W.keepIn K (.ref f6) = true)
    (t6 : K.lookup T6 = some ⟨oT6, dT6, .seq #[.none] nT6, sT6⟩)
    (a7 : PySem.W.nsIn K mainGlobals "pulled_list" = some (some (.ref f7)))
    (l7 : K.lookup f7 = some ⟨oc7, od7, .func (PySem.W.fnOf "pulled_list" "pulled_list" (defArgs s_pulled_list) (defBody s_pulled_list) (defScope s_pulled_list) .none kV7 dc7 pm7 an7 cd7 ct7), sl7⟩)
    (c7 : PySem.W.codeIn K cd7 "pulled_list" = true)
    (k7 : PySem.W.keepIn K (.ref f7) = true)
    (a8 : PySem.W.nsIn K mainGlobals "heads_of" = some (some (.ref f8)))
    (l8 : K.lookup f8 = some ⟨oc8, od8, .func (PySem.W.fnOf "heads_of" "heads_of" (defArgs s_heads_of) (defBody s_heads_of) (defScope s_heads_of) .none kV8 dc8 pm8 an8 cd8 ct8), sl8⟩)
    (c8 : PySem.W.codeIn K cd8 "heads_of" = true)
    (k8 : PySem.W.keepIn K (.ref f8) = true)
    (a9 : PySem.W.nsIn K mainGlobals "inside" = some (some (.ref f9)))
    (l9 : K.lookup f9 = some ⟨oc9, od9, .func (PySem.W.fnOf "inside" "inside" (defArgs s_inside) (defBody s_inside) (defScope s_inside) .none kV9 dc9 pm9 an9 cd9 ct9), sl9⟩)
    (c9 : PySem.W.codeIn K cd9 "inside" = true)
    (k9 : PySem.W.keepIn K (.ref f9) = true)
    (a10 : PySem.W.nsIn K mainGlobals "lost_in" = some (some (.ref f10)))
    (l10 : K.lookup f10 = some ⟨oc10, od10, .func (PySem.W.fnOf "lost_in" "lost_in" (defArgs s_lost_in) (defBody s_lost_in) (defScope s_lost_in) .none kV10 dc10 pm10 an10 cd10 ct10), sl10⟩)
    (c10 : PySem.W.codeIn K cd10 "lost_in" = true)
    (k10 : PySem.W.keepIn K (.ref f10) = true)
    (a11 : PySem.W.nsIn K mainGlobals "tell_cut" = some (some (.ref f11)))
    (l11 : K.lookup f11 = some ⟨oc11, od11, .func (PySem.W.fnOf "tell_cut" "tell_cut" (defArgs s_tell_cut) (defBody s_tell_cut) (defScope s_tell_cut) .none kV11 dc11 pm11 an11 cd11 ct11), sl11⟩)
    (c11 : PySem.W.codeIn K cd11 "tell_cut" = true)
    (k11 : PySem.W.keepIn K (.ref f11) = true)
    (a12 : PySem.W.nsIn K mainGlobals "tell_rest" = some (some (.ref f12)))
    (l12 : K.lookup f12 = some ⟨oc12, od12, .func (PySem.W.fnOf "tell_rest" "tell_rest" (defArgs s_tell_rest) (defBody s_tell_rest) (defScope s_tell_rest) .none kV12 dc12 pm12 an12 cd12 ct12), sl12⟩)
    (c12 : PySem.W.codeIn K cd12 "tell_rest" = true)
    (k12 : PySem.W.keepIn K (.ref f12) = true)
    (a13 : PySem.W.nsIn K mainGlobals "cut_part" = some (some (.ref f13)))
    (l13 : K.lookup f13 = some ⟨oc13, od13, .func (PySem.W.fnOf "cut_part" "cut_part" (defArgs s_cut_part) (defBody s_cut_part) (defScope s_cut_part) .none kV13 dc13 pm13 an13 cd13 ct13), sl13⟩)
    (c13 : PySem.W.codeIn K cd13 "cut_part" = true)
    (k13 : PySem.W.keepIn K (.ref f13) = true)
    (a14 : PySem.W.nsIn K mainGlobals "solve_part" = some (some (.ref f14)))
    (l14 : K.lookup f14 = some ⟨oc14, od14, .func (PySem.W.fnOf "solve_part" "solve_part" (defArgs s_solve_part) (defBody s_solve_part) (defScope s_solve_part) .none kV14 dc14 pm14 an14 cd14 ct14), sl14⟩)
    (c14 : PySem.W.codeIn K cd14 "solve_part" = true)
    (k14 : PySem.W.keepIn K (.ref f14) = true)
    (a15 : PySem.W.nsIn K mainGlobals "solved" = some (some (.ref f15)))
    (l15 : K.lookup f15 = some ⟨oc15, od15, .func (PySem.W.fnOf "solved" "solved" (defArgs s_solved) (defBody s_solved) (defScope s_solved) .none kV15 dc15 pm15 an15 cd15 ct15), sl15⟩)
    (c15 : PySem.W.codeIn K cd15 "solved" = true)
    (k15 : PySem.W.keepIn K (.ref f15) = true)
    (a16 : PySem.W.nsIn K mainGlobals "hand_rule" = some (some (.ref f16)))
    (l16 : K.lookup f16 = some ⟨oc16, od16, .func (PySem.W.fnOf "hand_rule" "hand_rule" (defArgs s_hand_rule) (defBody s_hand_rule) (defScope s_hand_rule) .none kV16 dc16 pm16 an16 cd16 ct16), sl16⟩)
    (c16 : PySem.W.codeIn K cd16 "hand_rule" = true)
    (k16 : PySem.W.keepIn K (.ref f16) = true)
    (a17 : PySem.W.nsIn K mainGlobals "is_rule" = some (some (.ref f17)))
    (l17 : K.lookup f17 = some ⟨oc17, od17, .func (PySem.W.fnOf "is_rule" "is_rule" (defArgs s_is_rule) (defBody s_is_rule) (defScope s_is_rule) .none kV17 dc17 pm17 an17 cd17 ct17), sl17⟩)
    (c17 : PySem.W.codeIn K cd17 "is_rule" = true)
    (k17 : PySem.W.keepIn K (.ref f17) = true)
    (a18 : PySem.W.nsIn K mainGlobals "ring_hand" = some (some (.ref f18)))
    (l18 : K.lookup f18 = some ⟨oc18, od18, .func (PySem.W.fnOf "ring_hand" "ring_hand" (defArgs s_ring_hand) (defBody s_ring_hand) (defScope s_ring_hand) .none kV18 dc18 pm18 an18 cd18 ct18), sl18⟩)
    (c18 : PySem.W.codeIn K cd18 "ring_hand" = true)
    (k18 : PySem.W.keepIn K (.ref f18) = true)
    (a19 : PySem.W.nsIn K mainGlobals "loops" = some (some (.ref f19)))
    (l19 : K.lookup f19 = some ⟨oc19, od19, .func (PySem.W.fnOf "loops" "loops" (defArgs s_loops) (defBody s_loops) (defScope s_loops) .none kV19 dc19 pm19 an19 cd19 ct19), sl19⟩)
    (c19 : PySem.W.codeIn K cd19 "loops" = true)
    (k19 : PySem.W.keepIn K (.ref f19) = true)
    (a20 : PySem.W.nsIn K mainGlobals "played" = some (some (.ref f20)))
    (l20 : K.lookup f20 = some ⟨oc20, od20, .func (PySem.W.fnOf "played" "played" (defArgs s_played) (defBody s_played) (defScope s_played) .none kV20 dc20 pm20 an20 cd20 ct20), sl20⟩)
    (c20 : PySem.W.codeIn K cd20 "played" = true)
    (k20 : PySem.W.keepIn K (.ref f20) = true)
    (a21 : PySem.W.nsIn K mainGlobals "_law_mixed" = some (some (.ref f21)))
    (l21 : K.lookup f21 = some ⟨oc21, od21, .func (PySem.W.fnOf "_law_mixed" "_law_mixed" (defArgs s_law_mixed) (defBody s_law_mixed) (defScope s_law_mixed) .none kV21 dc21 pm21 an21 cd21 ct21), sl21⟩)
    (c21 : PySem.W.codeIn K cd21 "_law_mixed" = true)
    (k21 : PySem.W.keepIn K (.ref f21) = true)
    (a22 : PySem.W.nsIn K mainGlobals "_law_many" = some (some (.ref f22)))
    (l22 : K.lookup f22 = some ⟨oc22, od22, .func (PySem.W.fnOf "_law_many" "_law_many" (defArgs s_law_many) (defBody s_law_many) (defScope s_law_many) .none kV22 dc22 pm22 an22 cd22 ct22), sl22⟩)
    (c22 : PySem.W.codeIn K cd22 "_law_many" = true)
    (k22 : PySem.W.keepIn K (.ref f22) = true)
    (a23 : PySem.W.nsIn K mainGlobals "_law_ways" = some (some (.ref f23)))
    (l23 : K.lookup f23 = some ⟨oc23, od23, .func (PySem.W.fnOf "_law_ways" "_law_ways" (defArgs s_law_ways) (defBody s_law_ways) (defScope s_law_ways) .none kV23 dc23 pm23 an23 cd23 ct23), sl23⟩)
    (c23 : PySem.W.codeIn K cd23 "_law_ways" = true)
    (k23 : PySem.W.keepIn K (.ref f23) = true)
    (a24 : PySem.W.nsIn K mainGlobals "_law_game" = some (some (.ref f24)))
    (l24 : K.lookup f24 = some ⟨oc24, od24, .func (PySem.W.fnOf "_law_game" "_law_game" (defArgs s_law_game) (defBody s_law_game) (defScope s_law_game) .none kV24 dc24 pm24 an24 cd24 ct24), sl24⟩)
    (c24 : PySem.W.codeIn K cd24 "_law_game" = true)
    (k24 : PySem.W.keepIn K (.ref f24) = true)
    (a25 : PySem.W.nsIn K mainGlobals "_law_whole" = some (some (.ref f25)))
    (l25 : K.lookup f25 = some ⟨oc25, od25, .func (PySem.W.fnOf "_law_whole" "_law_whole" (defArgs s_law_whole) (defBody s_law_whole) (defScope s_law_whole) .none kV25 dc25 pm25 an25 cd25 ct25), sl25⟩)
    (c25 : PySem.W.codeIn K cd25 "_law_whole" = true)
    (k25 : PySem.W.keepIn K (.ref f25) = true)
    (a26 : PySem.W.nsIn K mainGlobals "_law_fits" = some (some (.ref f26)))
    (l26 : K.lookup f26 = some ⟨oc26, od26, .func (PySem.W.fnOf "_law_fits" "_law_fits" (defArgs s_law_fits) (defBody s_law_fits) (defScope s_law_fits) .none kV26 dc26 pm26 an26 cd26 ct26), sl26⟩)
    (c26 : PySem.W.codeIn K cd26 "_law_fits" = true)
    (k26 : PySem.W.keepIn K (.ref f26) = true)
    (a27 : PySem.W.nsIn K mainGlobals "_law_solved" = some (some (.ref f27)))
    (l27 : K.lookup f27 = some ⟨oc27, od27, .func (PySem.W.fnOf "_law_solved" "_law_solved" (defArgs s_law_solved) (defBody s_law_solved) (defScope s_law_solved) .none kV27 dc27 pm27 an27 cd27 ct27), sl27⟩)
    (c27 : PySem.W.codeIn K cd27 "_law_solved" = true)
    (k27 : PySem.W.keepIn K (.ref f27) = true)
    (a28 : PySem.W.nsIn K mainGlobals "_law_keeps" = some (some (.ref f28)))
    (l28 : K.lookup f28 = some ⟨oc28, od28, .func (PySem.W.fnOf "_law_keeps" "_law_keeps" (defArgs s_law_keeps) (defBody s_law_keeps) (defScope s_law_keeps) .none kV28 dc28 pm28 an28 cd28 ct28), sl28⟩)
    (c28 : PySem.W.codeIn K cd28 "_law_keeps" = true)
    (k28 : PySem.W.keepIn K (.ref f28) = true)
    (a29 : PySem.W.nsIn K mainGlobals "_law_rings" = some (some (.ref f29)))
    (l29 : K.lookup f29 = some ⟨oc29, od29, .func (PySem.W.fnOf "_law_rings" "_law_rings" (defArgs s_law_rings) (defBody s_law_rings) (defScope s_law_rings) .none kV29 dc29 pm29 an29 cd29 ct29), sl29⟩)
    (c29 : PySem.W.codeIn K cd29 "_law_rings" = true)
    (k29 : PySem.W.keepIn K (.ref f29) = true)
    (a30 : PySem.W.nsIn K mainGlobals "_law_won" = some (some (.ref f30)))
    (l30 : K.lookup f30 = some ⟨oc30, od30, .func (PySem.W.fnOf "_law_won" "_law_won" (defArgs s_law_won) (defBody s_law_won) (defScope s_law_won) .none kV30 dc30 pm30 an30 cd30 ct30), sl30⟩)
    (c30 : PySem.W.codeIn K cd30 "_law_won" = true)
    (k30 : PySem.W.keepIn K (.ref f30) = true)
    (a31 : PySem.W.nsIn K mainGlobals "law" = some (some (.ref f31)))
    (l31 : K.lookup f31 = some ⟨oc31, od31, .func (PySem.W.fnOf "law" "law" (defArgs s_law) (defBody s_law) (defScope s_law) .none kV31 dc31 pm31 an31 cd31 ct31), sl31⟩)
    (c31 : PySem.W.codeIn K cd31 "law" = true)
    (k31 : PySem.W.keepIn K (.ref f31) = true)
    (z_len : PySem.W.nsIn K mainGlobals "len" = some none)
    (z_range : PySem.W.nsIn K mainGlobals "range" = some none)
    (z_sorted : PySem.W.nsIn K mainGlobals "sorted" = some none)
    (z_set : PySem.W.nsIn K mainGlobals "set" = some none)
    (z_max : PySem.W.nsIn K mainGlobals "max" = some none)
    (z_min : PySem.W.nsIn K mainGlobals "min" = some none)
    (z_int : PySem.W.nsIn K mainGlobals "int" = some none)
    (z_bool : PySem.W.nsIn K mainGlobals "bool" = some none)
    (z_list : PySem.W.nsIn K mainGlobals "list" = some none)
    (z_tuple : PySem.W.nsIn K mainGlobals "tuple" = some none)
    (z_isinstance : PySem.W.nsIn K mainGlobals "isinstance" = some none)
    : ∃ fd : FuncData, (∀ (s : Shared) (v : Value), BindsTo s fd ⟨[v], []⟩ [("_law_script", v)]) ∧ ∀ base : Heap, K.In base → base.Ns mainGlobals mg → FnOk l.prog w K mg base CX0 131 fa fd ["_law_script"] (spLaw K) := by
  have e := hfa.symm.trans (PySem.W.mg_of X G a31)
  cases e
  have T : Gs mg := ⟨PySem.W.mg_none_of X G z_len, PySem.W.mg_none_of X G z_range, PySem.W.mg_none_of X G z_sorted, PySem.W.mg_none_of X G z_set, PySem.W.mg_none_of X G z_max, PySem.W.mg_none_of X G z_min, PySem.W.mg_none_of X G z_int, PySem.W.mg_none_of X G z_bool, PySem.W.mg_none_of X G z_list, PySem.W.mg_none_of X G z_tuple, PySem.W.mg_none_of X G z_isinstance⟩
  have F1 := fun_mk (st := s_ways_in) l1 c1 k1
  have b1 := F1.binds (ps := ["game"]) fun _ _ _ _ _ _ us hl => match us, hl with | [_], _ => rfl
  have F2 := fun_mk (st := s_marks_of) l2 c2 k2
  have b2 := F2.binds (ps := ["game", "some"]) fun _ _ _ _ _ _ us hl => match us, hl with | [_, _], _ => rfl
  have F3 := fun_mk (st := s_open_ways) l3 c3 k3
  have b3 := F3.binds (ps := ["game", "inside"]) fun _ _ _ _ _ _ us hl => match us, hl with | [_, _], _ => rfl
  have F4 : FunD K "pulled" "pulled" (defArgs s_pulled) (defBody s_pulled) (defScope s_pulled) [.non] [] f4 _ := ⟨⟨oc4, od4, .ref T4, kV4, dc4, pm4, an4, cd4, ct4, sl4, rfl, l4, c4, .inr ⟨by simp, T4, _, [.none], nT4, rfl, t4, rfl, .cons rfl .nil⟩, .inl rfl⟩, k4⟩
  have b4 := binds_dflt F4 (ps := ["game", "hand", "goal", "part"]) (n := 4) rfl fun _ _ _ _ _ _ _ us its hl hi => match us, its, hl, hi with | [_, _, _, _], [_], _, _ => ⟨_, rfl, rfl⟩
  have F5 := fun_mk (st := s_depths_of) l5 c5 k5
  have b5 := F5.binds (ps := ["layers"]) fun _ _ _ _ _ _ us hl => match us, hl with | [_], _ => rfl
  have F6 : FunD K "pull_ways" "pull_ways" (defArgs s_pull_ways) (defBody s_pull_ways) (defScope s_pull_ways) [.non] [] f6 _ := ⟨⟨oc6, od6, .ref T6, kV6, dc6, pm6, an6, cd6, ct6, sl6, rfl, l6, c6, .inr ⟨by simp, T6, _, [.none], nT6, rfl, t6, rfl, .cons rfl .nil⟩, .inl rfl⟩, k6⟩
  have b6 := binds_dflt F6 (ps := ["game", "hand", "goal", "part"]) (n := 4) rfl fun _ _ _ _ _ _ _ us its hl hi => match us, its, hl, hi with | [_, _, _, _], [_], _, _ => ⟨_, rfl, rfl⟩
  have F7 := fun_mk (st := s_pulled_list) l7 c7 k7
  have b7 := F7.binds (ps := ["game", "hand", "goal", "part"]) fun _ _ _ _ _ _ us hl => match us, hl with | [_, _, _, _], _ => rfl
  have F8 := fun_mk (st := s_heads_of) l8 c8 k8
  have b8 := F8.binds (ps := ["game", "top", "part"]) fun _ _ _ _ _ _ us hl => match us, hl with | [_, _, _], _ => rfl
  have F9 := fun_mk (st := s_inside) l9 c9 k9
  have b9 := F9.binds (ps := ["game", "top", "part"]) fun _ _ _ _ _ _ us hl => match us, hl with | [_, _, _], _ => rfl
  have F10 := fun_mk (st := s_lost_in) l10 c10 k10
  have b10 := F10.binds (ps := ["inner", "hand"]) fun _ _ _ _ _ _ us hl => match us, hl with | [_, _], _ => rfl
  have F11 := fun_mk (st := s_tell_cut) l11 c11 k11
  have b11 := F11.binds (ps := ["game", "hand", "inner", "lost", "part"]) fun _ _ _ _ _ _ us hl => match us, hl with | [_, _, _, _, _], _ => rfl
  have F12 := fun_mk (st := s_tell_rest) l12 c12 k12
  have b12 := F12.binds (ps := ["game", "top", "inner", "part"]) fun _ _ _ _ _ _ us hl => match us, hl with | [_, _, _, _], _ => rfl
  have F13 := fun_mk (st := s_cut_part) l13 c13 k13
  have b13 := F13.binds (ps := ["game", "part"]) fun _ _ _ _ _ _ us hl => match us, hl with | [_, _], _ => rfl
  have F14 := fun_mk (st := s_solve_part) l14 c14 k14
  have b14 := F14.binds (ps := ["game", "part"]) fun _ _ _ _ _ _ us hl => match us, hl with | [_, _], _ => rfl
  have F15 := fun_mk (st := s_solved) l15 c15 k15
  have b15 := F15.binds (ps := ["game"]) fun _ _ _ _ _ _ us hl => match us, hl with | [_], _ => rfl
  have F16 := fun_mk (st := s_hand_rule) l16 c16 k16
  have b16 := F16.binds (ps := ["game", "ways", "hand"]) fun _ _ _ _ _ _ us hl => match us, hl with | [_, _, _], _ => rfl
  have F17 := fun_mk (st := s_is_rule) l17 c17 k17
  have b17 := F17.binds (ps := ["game", "hand", "rule"]) fun _ _ _ _ _ _ us hl => match us, hl with | [_, _, _], _ => rfl
  have F18 := fun_mk (st := s_ring_hand) l18 c18 k18
  have b18 := F18.binds (ps := ["game", "ring"]) fun _ _ _ _ _ _ us hl => match us, hl with | [_, _], _ => rfl
  have F19 := fun_mk (st := s_loops) l19 c19 k19
  have b19 := F19.binds (ps := ["play"]) fun _ _ _ _ _ _ us hl => match us, hl with | [_], _ => rfl
  have F20 := fun_mk (st := s_played) l20 c20 k20
  have b20 := F20.binds (ps := ["game", "hand", "rule", "start", "picks"]) fun _ _ _ _ _ _ us hl => match us, hl with | [_, _, _, _, _], _ => rfl
  have F21 := fun_mk (st := s_law_mixed) l21 c21 k21
  have b21 := F21.binds (ps := ["_law_script", "_law_k"]) fun _ _ _ _ _ _ us hl => match us, hl with | [_, _], _ => rfl
  have F22 := fun_mk (st := s_law_many) l22 c22 k22
  have b22 := F22.binds (ps := ["_law_number", "_law_n"]) fun _ _ _ _ _ _ us hl => match us, hl with | [_, _], _ => rfl
  have F23 := fun_mk (st := s_law_ways) l23 c23 k23
  have b23 := F23.binds (ps := ["_law_number", "_law_k", "_law_n", "_law_mode"]) fun _ _ _ _ _ _ us hl => match us, hl with | [_, _, _, _], _ => rfl
  have F24 := fun_mk (st := s_law_game) l24 c24 k24
  have b24 := F24.binds (ps := ["_law_script"]) fun _ _ _ _ _ _ us hl => match us, hl with | [_], _ => rfl
  have F25 := fun_mk (st := s_law_whole) l25 c25 k25
  have b25 := F25.binds (ps := ["_law_found"]) fun _ _ _ _ _ _ us hl => match us, hl with | [_], _ => rfl
  have F26 := fun_mk (st := s_law_fits) l26 c26 k26
  have b26 := F26.binds (ps := ["_law_game_here", "_law_won_here", "_law_ways_here"]) fun _ _ _ _ _ _ us hl => match us, hl with | [_, _, _], _ => rfl
  have F27 := fun_mk (st := s_law_solved) l27 c27 k27
  have b27 := F27.binds (ps := ["_law_game_here"]) fun _ _ _ _ _ _ us hl => match us, hl with | [_], _ => rfl
  have F28 := fun_mk (st := s_law_keeps) l28 c28 k28
  have b28 := F28.binds (ps := ["_law_game_here", "_law_won_here", "_law_ways_here", "_law_play", "_law_picks"]) fun _ _ _ _ _ _ us hl => match us, hl with | [_, _, _, _, _], _ => rfl
  have F29 := fun_mk (st := s_law_rings) l29 c29 k29
  have b29 := F29.binds (ps := ["_law_play"]) fun _ _ _ _ _ _ us hl => match us, hl with | [_], _ => rfl
  have F30 := fun_mk (st := s_law_won) l30 c30 k30
  have b30 := F30.binds (ps := ["_law_game_here", "_law_found", "_law_start", "_law_picks"]) fun _ _ _ _ _ _ us hl => match us, hl with | [_, _, _, _], _ => rfl
  have F31 := fun_mk (st := s_law) l31 c31 k31
  have b31 := F31.binds (ps := ["_law_script"]) fun _ _ _ _ _ _ us hl => match us, hl with | [_], _ => rfl
  refine ⟨PySem.W.fnOf "law" "law" (defArgs s_law) (defBody s_law) (defScope s_law) .none kV31 dc31 pm31 an31 cd31 ct31, fun s v => .of_eq rfl, fun base _ _ => ?_⟩
  have D_ways_in : DefOk l.prog w K mg base "ways_in" _ ["game"] _ := ⟨_, _, ok_ways_in F1 T, PySem.W.mg_of X G a1, k1, b1⟩
  have D_marks_of : DefOk l.prog w K mg base "marks_of" _ ["game", "some"] _ := ⟨_, _, ok_marks_of F2 T, PySem.W.mg_of X G a2, k2, b2⟩
  have D_open_ways : DefOk l.prog w K mg base "open_ways" _ ["game", "inside"] _ := ⟨_, _, ok_open_ways F3 T, PySem.W.mg_of X G a3, k3, b3⟩
  have D_pulled : DefOk l.prog w K mg base "pulled" _ ["game", "hand", "goal", "part"] _ := ⟨_, _, ok_pulled F4 T D_marks_of D_open_ways D_ways_in, PySem.W.mg_of X G a4, k4, b4⟩
  have D_depths_of : DefOk l.prog w K mg base "depths_of" _ ["layers"] _ := ⟨_, _, ok_depths_of F5 T, PySem.W.mg_of X G a5, k5, b5⟩
  have D_pull_ways : DefOk l.prog w K mg base "pull_ways" _ ["game", "hand", "goal", "part"] _ := ⟨_, _, ok_pull_ways F6 T D_pulled D_depths_of, PySem.W.mg_of X G a6, k6, b6⟩
  have D_pulled_list : DefOk l.prog w K mg base "pulled_list" _ ["game", "hand", "goal", "part"] _ := ⟨_, _, ok_pulled_list F7 T D_pulled, PySem.W.mg_of X G a7, k7, b7⟩
  have D_heads_of : DefOk l.prog w K mg base "heads_of" _ ["game", "top", "part"] _ := ⟨_, _, ok_heads_of F8 T, PySem.W.mg_of X G a8, k8, b8⟩
  have D_lost_in : DefOk l.prog w K mg base "lost_in" _ ["inner", "hand"] _ := ⟨_, _, ok_lost_in F10 T, PySem.W.mg_of X G a10, k10, b10⟩
  have D_tell_cut : DefOk l.prog w K mg base "tell_cut" _ ["game", "hand", "inner", "lost", "part"] _ := ⟨_, _, ok_tell_cut F11 T D_pulled_list D_pull_ways, PySem.W.mg_of X G a11, k11, b11⟩
  have D_tell_rest : DefOk l.prog w K mg base "tell_rest" _ ["game", "top", "inner", "part"] _ := ⟨_, _, ok_tell_rest F12 T D_heads_of D_pull_ways, PySem.W.mg_of X G a12, k12, b12⟩
  have D_solve_part : ∀ m : Nat, DefOk l.prog w K mg base "solve_part" (5 + 3 * m) ["game", "part"] (spSolve K m) := by
    intro m
    induction m with
    | zero =>
      have D0 : DefOk l.prog w K mg base "cut_part" 4 ["game", "part"] (fun _ _ _ _ => False) := ⟨_, _, ⟨fun _ _ _ _ z => z.elim, fun _ _ _ _ _ _ _ _ _ _ _ _ _ z => z.elim⟩, PySem.W.mg_of X G a13, k13, b13⟩
      exact ⟨_, _, ok_solve_part F14 T D0 (fun _ _ _ _ z _ => z rfl), PySem.W.mg_of X G a14, k14, b14⟩
    | succ m ih =>
      have DI : DefOk l.prog w K mg base "inside" (5 + 3 * m + 1) ["game", "top", "part"] (spInside K m) := ⟨_, _, ok_inside (by omega) F9 T D_heads_of D_pulled_list ih, PySem.W.mg_of X G a9, k9, b9⟩
      have DC : DefOk l.prog w K mg base "cut_part" (5 + 3 * m + 1 + 1) ["game", "part"] (spCut K m) := ⟨_, _, ok_cut_part (by omega) F13 T DI D_lost_in D_tell_cut D_tell_rest, PySem.W.mg_of X G a13, k13, b13⟩
      exact ⟨_, _, ok_solve_part (m := m + 1) F14 T DC (fun _ _ _ _ _ z => z), PySem.W.mg_of X G a14, k14, b14⟩
  have D_solved : DefOk l.prog w K mg base "solved" _ ["game"] _ := ⟨_, _, ok_solved F15 T (D_solve_part 41), PySem.W.mg_of X G a15, k15, b15⟩
  have D_hand_rule : DefOk l.prog w K mg base "hand_rule" _ ["game", "ways", "hand"] _ := ⟨_, _, ok_hand_rule F16 T, PySem.W.mg_of X G a16, k16, b16⟩
  have D_is_rule : DefOk l.prog w K mg base "is_rule" _ ["game", "hand", "rule"] _ := ⟨_, _, ok_is_rule F17 T, PySem.W.mg_of X G a17, k17, b17⟩
  have D_ring_hand : DefOk l.prog w K mg base "ring_hand" _ ["game", "ring"] _ := ⟨_, _, ok_ring_hand F18 T, PySem.W.mg_of X G a18, k18, b18⟩
  have D_loops : DefOk l.prog w K mg base "loops" _ ["play"] _ := ⟨_, _, ok_loops F19 T, PySem.W.mg_of X G a19, k19, b19⟩
  have D_played : DefOk l.prog w K mg base "played" _ ["game", "hand", "rule", "start", "picks"] _ := ⟨_, _, ok_played F20 T D_is_rule, PySem.W.mg_of X G a20, k20, b20⟩
  have D_law_mixed : DefOk l.prog w K mg base "_law_mixed" _ ["_law_script", "_law_k"] _ := ⟨_, _, ok_mixed F21 T, PySem.W.mg_of X G a21, k21, b21⟩
  have D_law_many : DefOk l.prog w K mg base "_law_many" _ ["_law_number", "_law_n"] _ := ⟨_, _, ok_many F22 T, PySem.W.mg_of X G a22, k22, b22⟩
  have D_law_ways : DefOk l.prog w K mg base "_law_ways" _ ["_law_number", "_law_k", "_law_n", "_law_mode"] _ := ⟨_, _, ok_ways F23 T D_law_many, PySem.W.mg_of X G a23, k23, b23⟩
  have D_law_game : DefOk l.prog w K mg base "_law_game" _ ["_law_script"] _ := ⟨_, _, ok_game F24 T D_law_mixed D_law_ways, PySem.W.mg_of X G a24, k24, b24⟩
  have D_law_whole : DefOk l.prog w K mg base "_law_whole" _ ["_law_found"] _ := ⟨_, _, ok_whole F25 T, PySem.W.mg_of X G a25, k25, b25⟩
  have D_law_fits : DefOk l.prog w K mg base "_law_fits" _ ["_law_game_here", "_law_won_here", "_law_ways_here"] _ := ⟨_, _, ok_fits F26 T D_law_whole, PySem.W.mg_of X G a26, k26, b26⟩
  have D_law_solved : DefOk l.prog w K mg base "_law_solved" _ ["_law_game_here"] _ := ⟨_, _, ok_law_solved (by decide) F27 T D_solved D_law_fits, PySem.W.mg_of X G a27, k27, b27⟩
  have D_law_keeps : DefOk l.prog w K mg base "_law_keeps" _ ["_law_game_here", "_law_won_here", "_law_ways_here", "_law_play", "_law_picks"] _ := ⟨_, _, ok_keeps F28 T D_law_whole, PySem.W.mg_of X G a28, k28, b28⟩
  have D_law_rings : DefOk l.prog w K mg base "_law_rings" _ ["_law_play"] _ := ⟨_, _, ok_rings F29 T, PySem.W.mg_of X G a29, k29, b29⟩
  have D_law_won : DefOk l.prog w K mg base "_law_won" _ ["_law_game_here", "_law_found", "_law_start", "_law_picks"] _ := ⟨_, _, ok_won F30 T D_hand_rule D_played D_law_keeps D_law_rings D_loops D_ring_hand, PySem.W.mg_of X G a30, k30, b30⟩
  exact ok_law (by decide) F31 T D_law_mixed D_law_game D_law_solved D_law_won
end Rg
open PySem PySem.W PyProof.Rows
set_option maxRecDepth 100000 in
set_option maxHeartbeats 0 in
theorem PySem.Challenge.cw_rankgarth_k21_whole_drawn_plays_holds : PySem.Challenge.rw_rankgarth_k21_whole_drawn_plays.Holds := by
  w_on; o_law; k_head; (case hw => w_witness2)
  k_fill
  refine L2.walk_of (l := PySem.Challenge.rw_rankgarth_k21_whole_drawn_plays) (n := 63) (k := 131) (x := "_law_script") (CX := fun _ => L2.CX0) (sp := fun w => Rg.spLaw _) rfl (by decide) rfl ⟨rfl, by decide, by decide⟩ (fun w h Y => PySem.W.kIn_of Y) ?F (fun _ _ a ns hl _ hS => ⟨a, ns, rfl, hS, hl, fun _ => rfl⟩) (fun _ _ _ _ _ h => h)
  case F =>
    intro w mg fa h KX G hmg
    refine' Rg.all_mk KX G hmg ?a1 ?l1 ?c1 ?k1 ?a2 ?l2 ?c2 ?k2 ?a3 ?l3 ?c3 ?k3 ?a4 ?l4 ?c4 ?k4 ?t4 ?a5 ?l5 ?c5 ?k5 ?a6 ?l6 ?c6 ?k6 ?t6 ?a7 ?l7 ?c7 ?k7 ?a8 ?l8 ?c8 ?k8 ?a9 ?l9 ?c9 ?k9 ?a10 ?l10 ?c10 ?k10 ?a11 ?l11 ?c11 ?k11 ?a12 ?l12 ?c12 ?k12 ?a13 ?l13 ?c13 ?k13 ?a14 ?l14 ?c14 ?k14 ?a15 ?l15 ?c15 ?k15 ?a16 ?l16 ?c16 ?k16 ?a17 ?l17 ?c17 ?k17 ?a18 ?l18 ?c18 ?k18 ?a19 ?l19 ?c19 ?k19 ?a20 ?l20 ?c20 ?k20 ?a21 ?l21 ?c21 ?k21 ?a22 ?l22 ?c22 ?k22 ?a23 ?l23 ?c23 ?k23 ?a24 ?l24 ?c24 ?k24 ?a25 ?l25 ?c25 ?k25 ?a26 ?l26 ?c26 ?k26 ?a27 ?l27 ?c27 ?k27 ?a28 ?l28 ?c28 ?k28 ?a29 ?l29 ?c29 ?k29 ?a30 ?l30 ?c30 ?k30 ?a31 ?l31 ?c31 ?k31 ?z_len ?z_range ?z_sorted ?z_set ?z_max ?z_min ?z_int ?z_bool ?z_list ?z_tuple ?z_isinstance
    (case a1 => k_is)
    (case l1 => k_is)
    (case c1 => k_is)
    (case k1 => k_is)
    (case a2 => k_is)
    (case l2 => k_is)
    (case c2 => k_is)
    (case k2 => k_is)
    (case a3 => k_is)
    (case l3 => k_is)
    (case c3 => k_is)
    (case k3 => k_is)
    (case a4 => k_is)
    (case l4 => k_is)
    (case c4 => k_is)
    (case k4 => k_is)
    (case t4 => k_is)
    (case a5 => k_is)
    (case l5 => k_is)
    (case c5 => k_is)
    (case k5 => k_is)
    (case a6 => k_is)
    (case l6 => k_is)
    (case c6 => k_is)
    (case k6 => k_is)
    (case t6 => k_is)
    (case a7 => k_is)
    (case l7 => k_is)
    (case c7 => k_is)
    (case k7 => k_is)
    (case a8 => k_is)
    (case l8 => k_is)
    (case c8 => k_is)
    (case k8 => k_is)
    (case a9 => k_is)
    (case l9 => k_is)
    (case c9 => k_is)
    (case k9 => k_is)
    (case a10 => k_is)
    (case l10 => k_is)
    (case c10 => k_is)
    (case k10 => k_is)
    (case a11 => k_is)
    (case l11 => k_is)
    (case c11 => k_is)
    (case k11 => k_is)
    (case a12 => k_is)
    (case l12 => k_is)
    (case c12 => k_is)
    (case k12 => k_is)
    (case a13 => k_is)
    (case l13 => k_is)
    (case c13 => k_is)
    (case k13 => k_is)
    (case a14 => k_is)
    (case l14 => k_is)
    (case c14 => k_is)
    (case k14 => k_is)
    (case a15 => k_is)
    (case l15 => k_is)
    (case c15 => k_is)
    (case k15 => k_is)
    (case a16 => k_is)
    (case l16 => k_is)
    (case c16 => k_is)
    (case k16 => k_is)
    (case a17 => k_is)
    (case l17 => k_is)
    (case c17 => k_is)
    (case k17 => k_is)
    (case a18 => k_is)
    (case l18 => k_is)
    (case c18 => k_is)
    (case k18 => k_is)
    (case a19 => k_is)
    (case l19 => k_is)
    (case c19 => k_is)
    (case k19 => k_is)
    (case a20 => k_is)
    (case l20 => k_is)
    (case c20 => k_is)
    (case k20 => k_is)
    (case a21 => k_is)
    (case l21 => k_is)
    (case c21 => k_is)
    (case k21 => k_is)
    (case a22 => k_is)
    (case l22 => k_is)
    (case c22 => k_is)
    (case k22 => k_is)
    (case a23 => k_is)
    (case l23 => k_is)
    (case c23 => k_is)
    (case k23 => k_is)
    (case a24 => k_is)
    (case l24 => k_is)
    (case c24 => k_is)
    (case k24 => k_is)
    (case a25 => k_is)
    (case l25 => k_is)
    (case c25 => k_is)
    (case k25 => k_is)
    (case a26 => k_is)
    (case l26 => k_is)
    (case c26 => k_is)
    (case k26 => k_is)
    (case a27 => k_is)
    (case l27 => k_is)
    (case c27 => k_is)
    (case k27 => k_is)
    (case a28 => k_is)
    (case l28 => k_is)
    (case c28 => k_is)
    (case k28 => k_is)
    (case a29 => k_is)
    (case l29 => k_is)
    (case c29 => k_is)
    (case k29 => k_is)
    (case a30 => k_is)
    (case l30 => k_is)
    (case c30 => k_is)
    (case k30 => k_is)
    (case a31 => k_is)
    (case l31 => k_is)
    (case c31 => k_is)
    (case k31 => k_is)
    (case z_len => k_is)
    (case z_range => k_is)
    (case z_sorted => k_is)
    (case z_set => k_is)
    (case z_max => k_is)
    (case z_min => k_is)
    (case z_int => k_is)
    (case z_bool => k_is)
    (case z_list => k_is)
    (case z_tuple => k_is)
    (case z_isinstance => k_is)
