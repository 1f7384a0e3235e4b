import PyProof.Rows.All
import Wide.All
import OpenK.AllK
import Wide.FinOn
import PySem.Challenge.RW_undobystate_k32_whole_factors
import HandS.ForMost
import HandS.Conv
import HandS.Sort
import HandS.SortInts
import KE.KDictDisplayH
import HandS.IsInst
import HandS.TupAny
import HandS.TupLen
import HandS.More
import HandS.WordsExc
import HandS.ExcInit
import HandS.ExcField
import HandS.Codes
import KE.KStateDown
import HandS.Defaults
import HandS.Head0
import HandS.Head1
import HandS.Head2
import HandS.HeadEnd
import HandS.HeadHook1
import HandS.HeadHook2
set_option Elab.async false
set_option linter.all false
set_option maxRecDepth 100000
set_option maxHeartbeats 4000000
/-! Plain Lean: systems, what is reached, and why the factor answers as the law says. No program in sight. -/
namespace K32

/-! ### lists -/
theorem nodup_le_of_sub : ∀ {a b : List α} [DecidableEq α], a.Nodup → (∀ x ∈ a, x ∈ b) → a.length ≤ b.length
  | [], _, _, _, _ => Nat.zero_le _
  | x :: r, b, _, hn, hs => by
    have hx : x ∈ b := hs x List.mem_cons_self
    have h1 := List.nodup_cons.mp hn
    have ih := nodup_le_of_sub (a := r) (b := b.erase x) h1.2 fun y hy => by
      have hne : y ≠ x := fun e => h1.1 (e ▸ hy)
      exact (List.mem_erase_of_ne hne).mpr (hs y (List.mem_cons_of_mem _ hy))
    rw [List.length_erase_of_mem hx] at ih
    have : 0 < b.length := List.length_pos_of_mem hx
    rw [List.length_cons]
    omega
/-- an injective map of a finite list into itself meets all of it -/
theorem onto_of_inj {α : Type} [DecidableEq α] {l : List α} {g : α → α} (hn : l.Nodup) (hg : ∀ y ∈ l, g y ∈ l) (hi : ∀ y ∈ l, ∀ z ∈ l, g y = g z → y = z) : ∀ z ∈ l, ∃ y ∈ l, g y = z := by
  intro z hz
  by_cases h : z ∈ l.map g
  · obtain ⟨y, hy, e⟩ := List.mem_map.mp h
    exact ⟨y, hy, e⟩
  · exfalso
    have hm : ∀ {k : List α}, k.Nodup → (∀ y ∈ k, y ∈ l) → (k.map g).Nodup := by
      intro k
      induction k with
      | nil => intro _ _; exact List.nodup_nil
      | cons a r ih =>
        intro hk hs
        have h1 := List.nodup_cons.mp hk
        rw [List.map_cons]
        refine List.nodup_cons.mpr ⟨fun hmem => ?_, ih h1.2 fun y hy => hs y (List.mem_cons_of_mem _ hy)⟩
        obtain ⟨y, hy, e⟩ := List.mem_map.mp hmem
        have := hi y (hs y (List.mem_cons_of_mem _ hy)) a (hs a List.mem_cons_self) e
        exact h1.1 (this ▸ hy)
    have h2 : (z :: l.map g).Nodup := List.nodup_cons.mpr ⟨h, hm hn fun _ hy => hy⟩
    have h3 := nodup_le_of_sub (a := z :: l.map g) (b := l) h2 fun y hy => by
      rcases List.mem_cons.mp hy with e | hy
      · exact e ▸ hz
      · obtain ⟨u, hu, e⟩ := List.mem_map.mp hy
        exact e ▸ hg u hu
    rw [List.length_cons, List.length_map] at h3
    omega
/-- a rising list is told by what is in it -/
theorem eq_of_rising : ∀ {a b : List Nat}, a.Pairwise (· < ·) → b.Pairwise (· < ·) → (∀ x, x ∈ a ↔ x ∈ b) → a = b
  | [], [], _, _, _ => rfl
  | [], y :: s, _, _, h => absurd ((h y).mpr List.mem_cons_self) (by simp)
  | x :: r, [], _, _, h => absurd ((h x).mp List.mem_cons_self) (by simp)
  | x :: r, y :: s, ha, hb, h => by
    have h1 := List.pairwise_cons.mp ha
    have h2 := List.pairwise_cons.mp hb
    have e : x = y := by
      rcases List.mem_cons.mp ((h x).mp List.mem_cons_self) with e | hx
      · exact e
      · rcases List.mem_cons.mp ((h y).mpr List.mem_cons_self) with e | hy
        · exact e.symm
        · have := h2.1 x hx
          have := h1.1 y hy
          omega
    subst e
    refine congrArg (x :: ·) (eq_of_rising h1.2 h2.2 fun z => ⟨fun hz => ?_, fun hz => ?_⟩)
    · rcases List.mem_cons.mp ((h z).mp (List.mem_cons_of_mem _ hz)) with e | hz'
      · have := h1.1 z hz
        omega
      · exact hz'
    · rcases List.mem_cons.mp ((h z).mpr (List.mem_cons_of_mem _ hz)) with e | hz'
      · have := h2.1 z hz
        omega
      · exact hz'
theorem rising_of {a : List Nat} (hs : a.Pairwise (· ≤ ·)) (hn : a.Nodup) : a.Pairwise (· < ·) := by
  induction a with
  | nil => exact List.Pairwise.nil
  | cons x r ih =>
    have h1 := List.pairwise_cons.mp hs
    have h2 := List.nodup_cons.mp hn
    refine List.pairwise_cons.mpr ⟨fun y hy => ?_, ih h1.2 h2.2⟩
    have h3 := h1.1 y hy
    have h4 : x ≠ y := fun e => h2.1 (e ▸ hy)
    omega

/-! ### systems -/
structure Sy where
  n : Nat
  s : Nat
  f : List (List Nat)
abbrev Sy.m (S : Sy) : Nat := S.f.length
def Sy.step (S : Sy) (x c : Nat) : Nat := (S.f.getD c []).getD x 0
def Sy.led (S : Sy) (x : Nat) (q : List Nat) : Nat := q.foldl (fun h c => S.step h c) x
structure Sy.Ok (S : Sy) : Prop where
  n1 : 1 ≤ S.n
  n8 : S.n ≤ 8
  s : S.s < S.n
  m4 : S.f.length ≤ 4
  rows : ∀ r ∈ S.f, r.length = S.n ∧ ∀ x ∈ r, x < S.n
def Sq (S : Sy) (q : List Nat) : Prop := ∀ c ∈ q, c < S.m
theorem Sq.nil {S : Sy} : Sq S [] := fun _ h => by simp at h
theorem Sq.app {S : Sy} {p q : List Nat} (hp : Sq S p) (hq : Sq S q) : Sq S (p ++ q) := fun c h => (List.mem_append.mp h).elim (hp c) (hq c)
theorem Sq.one {S : Sy} {c : Nat} (h : c < S.m) : Sq S [c] := fun d hd => by
  rw [List.mem_singleton.mp hd]
  exact h
theorem led_nil {S : Sy} {x : Nat} : S.led x [] = x := rfl
theorem led_app {S : Sy} {x : Nat} {p q : List Nat} : S.led x (p ++ q) = S.led (S.led x p) q := List.foldl_append
theorem led_one {S : Sy} {x c : Nat} : S.led x [c] = S.step x c := rfl
theorem led_snoc {S : Sy} {x c : Nat} {q : List Nat} : S.led x (q ++ [c]) = S.step (S.led x q) c := by rw [led_app, led_one]
theorem led_cons {S : Sy} {x c : Nat} {q : List Nat} : S.led x (c :: q) = S.led (S.step x c) q := rfl
theorem Sy.Ok.step_lt {S : Sy} (ok : S.Ok) {x c : Nat} (hx : x < S.n) (hc : c < S.m) : S.step x c < S.n := by
  unfold Sy.step
  have h1 : S.f.getD c [] = S.f[c] := by
    rw [List.getD_eq_getElem?_getD, List.getElem?_eq_getElem hc]
    rfl
  rw [h1]
  obtain ⟨h2, h3⟩ := ok.rows S.f[c] (List.getElem_mem hc)
  have hx' : x < (S.f[c]).length := by omega
  have h4 : (S.f[c]).getD x 0 = (S.f[c])[x] := by
    rw [List.getD_eq_getElem?_getD, List.getElem?_eq_getElem hx']
    rfl
  rw [h4]
  exact h3 _ (List.getElem_mem hx')
theorem Sy.Ok.led_lt {S : Sy} (ok : S.Ok) : ∀ {q : List Nat} {x : Nat}, x < S.n → Sq S q → S.led x q < S.n
  | [], _, hx, _ => hx
  | c :: r, x, hx, hq => ok.led_lt (q := r) (ok.step_lt hx (hq c List.mem_cons_self)) fun d hd => hq d (List.mem_cons_of_mem _ hd)

/-! ### what is reached -/
/-- the pair p is reached from (a, b) -/
def PR (S : Sy) (a b : Nat) (p : Nat × Nat) : Prop := ∃ q, Sq S q ∧ S.led a q = p.1 ∧ S.led b q = p.2
/-- l is the pairs that are reached, each once -/
structure Prs (S : Sy) (a b : Nat) (l : List (Nat × Nat)) : Prop where
  nd : l.Nodup
  mem : ∀ p, p ∈ l ↔ PR S a b p
def Det (S : Sy) (a b : Nat) : Prop := ∀ x y z, PR S a b (x, y) → PR S a b (x, z) → y = z
def Reg (S : Sy) : Prop := ∀ c, c < S.m → Det S (S.step S.s c) S.s
def R (S : Sy) (x : Nat) : Prop := ∃ q, Sq S q ∧ S.led S.s q = x
theorem R.start {S : Sy} : R S S.s := ⟨[], Sq.nil, rfl⟩
theorem R.led {S : Sy} {x : Nat} {q : List Nat} (h : R S x) (hq : Sq S q) : R S (S.led x q) := by
  obtain ⟨p, hp, rfl⟩ := h
  exact ⟨p ++ q, hp.app hq, led_app⟩
theorem R.lt {S : Sy} (ok : S.Ok) {x : Nat} (h : R S x) : x < S.n := by
  obtain ⟨p, hp, rfl⟩ := h
  exact ok.led_lt ok.s hp
theorem PR.start {S : Sy} {a b : Nat} : PR S a b (a, b) := ⟨[], Sq.nil, rfl, rfl⟩
theorem PR.step {S : Sy} {a b x y c : Nat} (h : PR S a b (x, y)) (hc : c < S.m) : PR S a b (S.step x c, S.step y c) := by
  obtain ⟨q, hq, h1, h2⟩ := h
  refine ⟨q ++ [c], hq.app (Sq.one hc), ?_, ?_⟩
  · rw [led_snoc, h1]
  · rw [led_snoc, h2]
theorem PR.lt {S : Sy} (ok : S.Ok) {a b : Nat} {p : Nat × Nat} (ha : a < S.n) (hb : b < S.n) (h : PR S a b p) : p.1 < S.n ∧ p.2 < S.n := by
  obtain ⟨q, hq, h1, h2⟩ := h
  rw [← h1, ← h2]
  exact ⟨ok.led_lt ha hq, ok.led_lt hb hq⟩
/-- what begins at the pair, is reached and is closed, is what is reached -/
theorem Prs.of {S : Sy} {a b : Nat} {l : List (Nat × Nat)} (nd : l.Nodup) (h0 : (a, b) ∈ l) (hr : ∀ p ∈ l, PR S a b p) (hc : ∀ p ∈ l, ∀ c, c < S.m → (S.step p.1 c, S.step p.2 c) ∈ l) : Prs S a b l := by
  refine ⟨nd, fun p => ⟨hr p, ?_⟩⟩
  rintro ⟨q, hq, h1, h2⟩
  have key : ∀ (q : List Nat) (x y : Nat), (x, y) ∈ l → Sq S q → (S.led x q, S.led y q) ∈ l := by
    intro q
    induction q with
    | nil => intro x y h _; exact h
    | cons c r ih =>
      intro x y h hq
      rw [led_cons, led_cons]
      exact ih _ _ (hc (x, y) h c (hq c List.mem_cons_self)) fun d hd => hq d (List.mem_cons_of_mem _ hd)
  have := key q a b h0 hq
  rw [h1, h2] at this
  exact this
theorem diag_iff {S : Sy} {a x y : Nat} : PR S a a (x, y) ↔ x = y ∧ ∃ q, Sq S q ∧ S.led a q = x := by
  constructor
  · rintro ⟨q, hq, h1, h2⟩
    exact ⟨h1.symm.trans h2, q, hq, h1⟩
  · rintro ⟨rfl, q, hq, h⟩
    exact ⟨q, hq, h, h⟩
/-- all pairs of states below n -/
def grid (n : Nat) : List (Nat × Nat) := (List.range n).flatMap fun x => (List.range n).map fun y => (x, y)
theorem mem_grid {n : Nat} {p : Nat × Nat} (h1 : p.1 < n) (h2 : p.2 < n) : p ∈ grid n :=
  List.mem_flatMap.mpr ⟨p.1, List.mem_range.mpr h1, List.mem_map.mpr ⟨p.2, List.mem_range.mpr h2, rfl⟩⟩
theorem grid_len : ∀ n, n ≤ 8 → (grid n).length ≤ 64 := by
  intro n hn
  have : ∀ n, n < 9 → (grid n).length ≤ 64 := by decide
  exact this n (by omega)
theorem pairs_le {S : Sy} (ok : S.Ok) {l : List (Nat × Nat)} (nd : l.Nodup) (h : ∀ p ∈ l, p.1 < S.n ∧ p.2 < S.n) : l.length ≤ 64 :=
  Nat.le_trans (nodup_le_of_sub nd fun p hp => mem_grid (h p hp).1 (h p hp).2) (grid_len S.n ok.n8)
theorem states_le {S : Sy} (ok : S.Ok) {l : List Nat} (nd : l.Nodup) (h : ∀ x ∈ l, x < S.n) : l.length ≤ 8 := by
  have := nodup_le_of_sub (b := List.range S.n) nd fun x hx => List.mem_range.mpr (h x hx)
  rw [List.length_range] at this
  have := ok.n8
  omega

/-- how many of the pairs begin with x -/
def cnt (l : List (Nat × Nat)) (x : Nat) : Nat := (l.filter fun p => decide (p.1 = x)).length
theorem two_of_len {α : Type} {l : List α} (nd : l.Nodup) (h : 2 ≤ l.length) : ∃ p ∈ l, ∃ q ∈ l, p ≠ q := by
  match l, nd, h with
  | [], _, h => simp at h
  | [_], _, h => simp at h
  | p :: q :: r, nd, _ =>
    refine ⟨p, List.mem_cons_self, q, List.mem_cons_of_mem _ List.mem_cons_self, fun e => ?_⟩
    exact (List.nodup_cons.mp nd).1 (e ▸ List.mem_cons_self)
theorem len_of_two {α : Type} {l : List α} {p q : α} (hp : p ∈ l) (hq : q ∈ l) (hne : p ≠ q) : 2 ≤ l.length := by
  match l, hp, hq with
  | [], hp, _ => simp at hp
  | [a], hp, hq => exact absurd ((List.mem_singleton.mp hp).trans (List.mem_singleton.mp hq).symm) hne
  | a :: b :: r, _, _ => rw [List.length_cons, List.length_cons]; omega
theorem det_iff {S : Sy} (ok : S.Ok) {a b : Nat} (ha : a < S.n) (hb : b < S.n) {l : List (Nat × Nat)} (h : Prs S a b l) : Det S a b ↔ ∀ x, x < S.n → cnt l x < 2 := by
  constructor
  · intro hd x hx
    refine Nat.lt_of_not_le fun h2 => ?_
    obtain ⟨p, hp, q, hq, hne⟩ := two_of_len (List.Pairwise.filter _ h.nd) h2
    obtain ⟨hp1, hp2⟩ := List.mem_filter.mp hp
    obtain ⟨hq1, hq2⟩ := List.mem_filter.mp hq
    have e1 : p.1 = x := of_decide_eq_true hp2
    have e2 : q.1 = x := of_decide_eq_true hq2
    have k1 : PR S a b (x, p.2) := by rw [← e1]; exact (h.mem p).mp hp1
    have k2 : PR S a b (x, q.2) := by rw [← e2]; exact (h.mem q).mp hq1
    have := hd x p.2 q.2 k1 k2
    exact hne (Prod.ext (e1.trans e2.symm) this)
  · intro hc x y z h1 h2
    refine Classical.byContradiction fun hne => ?_
    have hx := (h1.lt ok ha hb).1
    have hlt := hc x hx
    have m1 : (x, y) ∈ l.filter fun p => decide (p.1 = x) := List.mem_filter.mpr ⟨(h.mem _).mpr h1, decide_eq_true rfl⟩
    have m2 : (x, z) ∈ l.filter fun p => decide (p.1 = x) := List.mem_filter.mpr ⟨(h.mem _).mpr h2, decide_eq_true rfl⟩
    have := len_of_two m1 m2 fun e => hne (Prod.mk.inj e).2
    unfold cnt at hlt
    omega
theorem cnt_pos {S : Sy} {a b : Nat} {l : List (Nat × Nat)} (h : Prs S a b l) : 1 ≤ cnt l a := by
  have : (a, b) ∈ l.filter fun p => decide (p.1 = a) := List.mem_filter.mpr ⟨(h.mem _).mpr PR.start, decide_eq_true rfl⟩
  exact List.length_pos_of_mem this

/-! ### regular systems -/
section
variable {S : Sy}
/-- what leads from a reachable state to one state leads so from the start -/
theorem Reg.back (h : Reg S) : ∀ (w : List Nat), Sq S w → ∀ q q', Sq S q → Sq S q' → S.led (S.led S.s w) q = S.led (S.led S.s w) q' → S.led S.s q = S.led S.s q'
  | [], _, _, _, _, _, e => e
  | c :: w, hw, q, q', hq, hq', e => by
    have hc : c < S.m := hw c List.mem_cons_self
    have hw' : Sq S w := fun d hd => hw d (List.mem_cons_of_mem _ hd)
    rw [led_cons, ← led_app, ← led_app] at e
    have h1 : PR S (S.step S.s c) S.s (S.led (S.step S.s c) (w ++ q), S.led S.s (w ++ q)) := ⟨w ++ q, hw'.app hq, rfl, rfl⟩
    have h2 : PR S (S.step S.s c) S.s (S.led (S.step S.s c) (w ++ q), S.led S.s (w ++ q')) := ⟨w ++ q', hw'.app hq', e.symm, rfl⟩
    have e2 := h c hc _ _ _ h1 h2
    rw [led_app, led_app] at e2
    exact Reg.back h w hw' q q' hq hq' e2
theorem Reg.backR (h : Reg S) {x : Nat} (hx : R S x) {q q' : List Nat} (hq : Sq S q) (hq' : Sq S q') (e : S.led x q = S.led x q') : S.led S.s q = S.led S.s q' := by
  obtain ⟨w, hw, rfl⟩ := hx
  exact h.back w hw q q' hq hq' e
open Classical in
/-- the reachable states, once each -/
noncomputable def reach (S : Sy) : List Nat := (List.range S.n).filter fun x => decide (R S x)
theorem reach_nd : (reach S).Nodup := List.Pairwise.filter _ List.nodup_range
open Classical in
theorem mem_reach (ok : S.Ok) {x : Nat} : x ∈ reach S ↔ R S x := by
  unfold reach
  rw [List.mem_filter, decide_eq_true_iff]
  exact ⟨fun h => h.2, fun h => ⟨List.mem_range.mpr (h.lt ok), h⟩⟩
open Classical in
noncomputable def wy (S : Sy) (y : Nat) : List Nat := if h : R S y then h.choose else []
theorem wy_sq {y : Nat} (h : R S y) : Sq S (wy S y) := by
  unfold wy
  rw [dif_pos h]
  exact h.choose_spec.1
theorem wy_led {y : Nat} (h : R S y) : S.led S.s (wy S y) = y := by
  unfold wy
  rw [dif_pos h]
  exact h.choose_spec.2
/-- from a reachable state, each reachable one is met by the way to one -/
theorem Reg.onto (ok : S.Ok) (h : Reg S) {x : Nat} (hx : R S x) {z : Nat} (hz : R S z) : ∃ y, R S y ∧ S.led x (wy S y) = z := by
  obtain ⟨y, hy, e⟩ := onto_of_inj (l := reach S) (g := fun y => S.led x (wy S y)) reach_nd
    (fun y hy => (mem_reach ok).mpr (hx.led (wy_sq ((mem_reach ok).mp hy))))
    (fun y hy z hz e => by
      have hy := (mem_reach ok).mp hy
      have hz := (mem_reach ok).mp hz
      have := h.backR hx (wy_sq hy) (wy_sq hz) e
      rw [wy_led hy, wy_led hz] at this
      exact this) z ((mem_reach ok).mpr hz)
  exact ⟨y, (mem_reach ok).mp hy, e⟩
theorem Reg.same1 (ok : S.Ok) (h : Reg S) {x : Nat} (hx : R S x) {q : List Nat} (hq : Sq S q) : S.led x q = S.led x (wy S (S.led S.s q)) := by
  obtain ⟨y, hy, e⟩ := h.onto ok hx (hx.led hq)
  have e2 := h.backR hx (wy_sq hy) hq e
  rw [wy_led hy] at e2
  rw [← e2]
  exact e.symm
/-- what leads from the start to one state leads so from each reachable one -/
theorem Reg.same (ok : S.Ok) (h : Reg S) {x : Nat} (hx : R S x) {q q' : List Nat} (hq : Sq S q) (hq' : Sq S q') (e : S.led S.s q = S.led S.s q') : S.led x q = S.led x q' := by
  rw [h.same1 ok hx hq, h.same1 ok hx hq', e]
/-- behind each sequence some other one leads back -/
theorem Reg.undo (ok : S.Ok) (h : Reg S) {q : List Nat} (hq : Sq S q) : ∃ r, Sq S r ∧ ∀ x, R S x → S.led (S.led x q) r = x := by
  obtain ⟨y, hy, e⟩ := h.onto ok (R.start.led hq) (R.start (S := S))
  refine ⟨wy S y, wy_sq hy, fun x hx => ?_⟩
  rw [← led_app]
  exact h.same ok hx (hq.app (wy_sq hy)) Sq.nil (by rw [led_app, e]; rfl)
theorem Reg.inj (ok : S.Ok) (h : Reg S) {q : List Nat} (hq : Sq S q) {y z : Nat} (hy : R S y) (hz : R S z) (e : S.led y q = S.led z q) : y = z := by
  obtain ⟨r, _, hr⟩ := h.undo ok hq
  rw [← hr y hy, ← hr z hz, e]
theorem Reg.meets (ok : S.Ok) (h : Reg S) {q : List Nat} (hq : Sq S q) {z : Nat} (hz : R S z) : ∃ y, R S y ∧ S.led y q = z := by
  obtain ⟨y, hy, e⟩ := onto_of_inj (l := reach S) (g := fun y => S.led y q) reach_nd (fun y hy => (mem_reach ok).mpr (((mem_reach ok).mp hy).led hq))
    (fun y hy z hz e => h.inj ok hq ((mem_reach ok).mp hy) ((mem_reach ok).mp hz) e) z ((mem_reach ok).mpr hz)
  exact ⟨y, (mem_reach ok).mp hy, e⟩
/-- wb leads to what stands behind; iv its inverse, wi a sequence to it: their product with the state before, under behind's own rows, is the state before -/
theorem Reg.factor (ok : S.Ok) (h : Reg S) {here iv : Nat} {wb wi : List Nat} (hh : R S here) (hb : Sq S wb) (hi : Sq S wi) (e1 : S.led S.s wi = iv) (e2 : S.led iv wb = S.s) : S.led (S.led here wi) wb = here := by
  rw [← led_app]
  exact h.same ok hh (hi.app hb) Sq.nil (by rw [led_app, e1, e2]; rfl)
/-- the second part: told the factor, wl a sequence to the last state -/
theorem Reg.last (ok : S.Ok) (h : Reg S) {here told behind : Nat} {wb wl w : List Nat} (ht : R S told) (hb : Sq S wb) (hl : Sq S wl) (hw : Sq S w) (e1 : S.led S.s wb = behind) (e2 : S.led S.s wl = S.led behind w) (e3 : S.led told wb = here) :
    S.led told wl = S.led here w := by
  have := h.same ok ht hl (hb.app hw) (by rw [e2, led_app, e1])
  rw [this, led_app, e3]
end
end K32
/-! Two rules that the hand layer lacks: a display of one pair whose key is a tuple; sorted of a dict whose keys are pairs of ints. -/
namespace L2
open PySem PySem.Spec PyProof.Rows
def tDisp1T (tk tv : TE) : TE := fun σ H Q => ∀ p, H p = none → tk σ (upd H p (.dT [])) fun x H1 => tv σ H1 fun y H2 => H2 p = some (.dT []) ∧ ∃ (b : Addr) (ks : List Key), x = .ref b ∧ H2 b = some (.tup (ks.map kV)) ∧ Q (.ref p) (upd H2 p (.dT [(ks, y)]))
theorem pe_disp1T {X : Cx} {pos : Pos} {k v : Expr} {tk tv : TE} (hu : X.A.units + 1 < cLine) (hk : PE X k tk) (hv : PE X v tv) : PE X (.Dict [some k] [v] pos) (tDisp1T tk tv) := by
  refine ⟨fun pins s σ H Q I q => ?_⟩
  have hn := I.hok.fresh (Nat.le_refl s.heap.objs.size)
  have I1 := I.laid (a := s.heap.objs.size) (o := .dT []) (h' := s.heap.push { cls := .type "dict", data := .dict #[] }) (t' := s.toks) (fun _ _ q => Heap.get?_push_of_some _ q) (Nat.le_refl _) (dt_empty s.heap I.big)
  have hall : ([some k] : List (Option Expr)).all (·.isSome) = true := rfl
  have hl : ([some k] : List (Option Expr)).length = [v].length := rfl
  have hnn := pairTrees_length [some k] [v] X.env pos hall hl
  rw [arm_eval_Dict, zip_pairTrees [some k] [v] X.env pos hall hl, dictDisplay_pairs (pairTrees [some k] [v] X.env pos) (fun he => by rw [he] at hnn; exact absurd hnn (by simp)) (by rw [hnn]; show (1 : Nat) < 17; decide)]
  refine wpAny_bind (wpAny_standAt (wpAny_bind (wpAny_subDictH (knd := tupleKind (mixKind X.prog X.w)) (Q := fun d s' => wpAny (model X.prog X.w) X.A (pure (Value.ref d)) (EP X pins σ Q) X.xe s') (show X.A.units < cLine by omega) (by rw [hnn]; show (1 : Nat) ≤ 15; decide) ?_)))
  have hpp : PPs X pos [some k] [v] [(tk, tv)] := pps_cons hk hv pps_nil
  refine thn (hpp.run pins _ σ _ (fun ps H2 => match ps with
    | [(x, y)] => H2 s.heap.objs.size = some (.dT []) ∧ ∃ (b : Addr) (ks : List Key), x = .ref b ∧ H2 b = some (.tup (ks.map kV)) ∧ Q (.ref s.heap.objs.size) (upd H2 s.heap.objs.size (.dT [(ks, y)]))
    | _ => False) I1 (q _ hn)) fun ws s2 h2 => ?_
  · obtain ⟨ps, H2, I2, rel, h2⟩ := h2
    match ps, rel, h2 with
    | [(x, y)], .cons (b := (w1, w2)) hr .nil, h2 =>
      obtain ⟨e, b, ks, rfl, hb, q2⟩ := h2
      obtain ⟨r1, r2⟩ := hr
      cases (show w1 = Value.ref b from r1)
      obtain ⟨z, hd, vs0, r0, dd⟩ := dt_of I2.hok e
      cases r0
      refine ⟨[(ks, b, w2)], ⟨rfl, rfl, key_of I2.hok hb, trivial⟩, dd, fun h' tk' dd' hs => wpAny_pure ⟨.ref s.heap.objs.size, _, ?_, rfl, q2⟩⟩
      obtain ⟨q, es, ep, hq, h2, h3, h4, _, h5⟩ := dd'
      refine d_write I2 (by rw [e]; exact True.intro) hs ⟨q, hq⟩ ⟨by show 1 ≤ sizeLine; decide, hd, _, Paired.cons ⟨rfl, ?_, r2⟩ Paired.nil, q, es, ep, hq, h2, h3, h4, h5⟩
      rw [upd_ne (ne_of hb e (fun z => nomatch z))]
      exact hb
/-- sorted(d), the keys of d pairs of ints: a new list of the key tuples in some order -/
def rSortedDT : List V → Hp → VK → Prop := fun vs H Q => ∃ (d : Addr) (kvs : List (List Key × V)), vs = [V.ref d] ∧ Rd H d (.dT kvs) ∧ (∀ p ∈ kvs, ∃ i j : Int, p.1 = [Sum.inl i, Sum.inl j]) ∧
  ∀ (bs ys : List Addr) (p : Addr), IsKeys H kvs bs → ys.Perm bs → H p = none → Q (.ref p) (upd H p (.lst (ys.map V.ref)))
theorem paired_mem {α β : Type} {F : α → β → Prop} : ∀ {l : List α} {m : List β}, Paired F l m → ∀ y ∈ m, ∃ x ∈ l, F x y
  | _, _, .nil, y, h => by simp at h
  | _, _, .cons h t, y, hy => by
    rcases List.mem_cons.mp hy with e | hy
    · exact ⟨_, List.mem_cons_self, e ▸ h⟩
    · obtain ⟨x, hx, hf⟩ := paired_mem t y hy
      exact ⟨x, List.mem_cons_of_mem _ hx, hf⟩
theorem cr_sortedDT {X : Cx} (hc : X.calm = true) : CallR X (.builtin "sorted") rSortedDT := by
  intro pins s σ H xs us Q I r h
  obtain ⟨d, kvs, rfl, hd, hk2, q⟩ := h
  obtain ⟨u, rfl, rx⟩ := vals1 r
  cases rx
  obtain ⟨z, hs, ks, pr, o, es, ep, ho, hx, hdt, he, hn⟩ := (show ObjOk X.prog X.w H s.heap d (.dT kvs) from hd.ok I.hok)
  have l1 : es.size = ks.length := size_of_entries he
  have l2 : kvs.length = ks.length := Paired.length pr
  refine PySem.Calls.call_function_entry PyProof.Rows.kind_sorted PyProof.Rows.plain_sorted PyProof.Rows.entry_sorted (PyProof.Rows.args_sorted1 _) ?_
  unfold Builtin.«sorted»
  refine wpAny_bind (m := checkCount "sorted" 1 1 _) (wpAny_pure ?_)
  refine wpAny_bind (PySem.W.kdu_collect (A := X.A.in1) (kdl_raw hs hx hdt) (I.ok.hd hc) ho (by omega) fun h' tk acc hkp it => ?_)
  have ea : acc.toList = ks.map fun x => Value.ref x.2.1 := by
    have hl : acc.toList.length = ks.length := by rw [Array.length_toList, it.1]; exact l1
    apply List.ext_getElem?
    intro j
    rw [List.getElem?_map]
    cases hj : acc.toList[j]? with
    | none =>
      have h1 := List.getElem?_eq_none_iff.mp hj
      rw [List.getElem?_eq_none (by omega)]
      all_goals rfl
    | some v =>
      obtain ⟨en, hen, hv⟩ := it.2 j v (by rw [← Array.getElem?_toList]; exact hj)
      have qe := entry_at he j
      rw [hen] at qe
      cases hk : ks[j]? with
      | none => rw [hk] at qe; cases qe
      | some x =>
        rw [hk] at qe
        have e5 : en = entryOfKey (tupleKind (mixKind X.prog X.w)) x := Option.some.inj qe
        rw [hv, e5]
        rfl
  generalize hvs : acc.toList = vs at ea ⊢
  have hl : vs.length = ks.length := by rw [ea, List.length_map]
  have I1 : Inv X pins σ H { s with heap := h', toks := tk } := I.kept hkp
  refine wpAny_bind (wpAny_newList ?_ (by rw [hl, ← l2]; exact z))
  have hoL : (h'.push (seqObj "list" vs.toArray 0)).get? h'.objs.size = some (seqObj "list" vs.toArray 0) := Heap.get?_push_size _ rfl
  show wpAny _ _ _ _ _ { s with heap := h'.push (seqObj "list" vs.toArray 0), toks := tk }
  have hp : ∀ v ∈ vs, ∃ x y, Srt.IsPair (h'.push (seqObj "list" vs.toArray 0)) v x y := fun v hv => by
    rw [ea] at hv
    obtain ⟨x, hx1, rfl⟩ := List.mem_map.mp hv
    obtain ⟨p, hp1, hp2⟩ := paired_mem pr x hx1
    obtain ⟨i, j, eij⟩ := hk2 p hp1
    have ht := hp2.2.1
    rw [eij] at ht
    obtain ⟨_, its2, r2, o2, ho2, hc2, n2, hd2⟩ := I1.hok _ _ ht
    obtain ⟨u1, u2, rfl, ri, rj⟩ := vals2 r2
    obtain ⟨t1, rfl⟩ := ri
    obtain ⟨t2, rfl⟩ := rj
    exact ⟨i, j, x.2.1, o2, t1, t2, n2, rfl, Heap.get?_push_of_some _ ho2, hc2, hd2⟩
  refine wpAny_bind (wpAny_holding (wpAny_call_entry PyProof.Rows.slot_list_sort ⟨_, hoL, rfl⟩ PyProof.Rows.entry_list_sort
    (Srt.list_sort_any (s := { s with heap := h'.push (seqObj "list" vs.toArray 0), toks := tk }) hoL (by rw [hl, ← l2]; exact z) (fun h2 => Srt.pairs_sortable (by omega) hp fun o e => ?_) fun out hperm => ⟨_, rfl, ?_⟩) (PyProof.Rows.args_list_sort _)))
  · have e' : some o = some (seqObj "list" vs.toArray 0) := e.symm.trans hoL
    cases e'
    intro c
    exact absurd (Value.type.inj c) (by decide)
  · obtain ⟨e', he'⟩ := PyProof.Rows.sortedHeap_at (vs := vs) (out := out.toArray) hoL
    -- the list that comes out, by its addresses
    have hout : ∃ bs : List Addr, out = bs.map Value.ref ∧ bs.Perm (ks.map fun x => x.2.1) := by
      have hp1 : (out.map backV).Perm ((ks.map fun x => x.2.1).map V.ref) := by
        have e1 : (ks.map fun x => x.2.1).map V.ref = vs.map backV := by
          rw [ea, List.map_map, List.map_map]
          rfl
        rw [e1]
        exact hperm.map backV
      have href : ∀ u ∈ out, ∃ a, u = Value.ref a := fun u hu => by
        have := hperm.mem_iff.mp hu
        rw [ea] at this
        obtain ⟨x, _, e⟩ := List.mem_map.mp this
        exact ⟨_, e.symm⟩
      let un : Value → Addr := fun v => match v with | .ref a => a | _ => 0
      refine ⟨out.map un, ?_, ?_⟩
      · rw [List.map_map]
        conv => lhs; rw [← List.map_id out]
        refine List.map_congr_left fun u hu => ?_
        obtain ⟨a, rfl⟩ := href u hu
        rfl
      · have := hperm.map un
        rw [ea, List.map_map] at this
        exact this
    obtain ⟨bs, rfl, hbs⟩ := hout
    have hlen : (bs.map V.ref).length ≤ sizeLine := by
      rw [List.length_map, hbs.length_eq, List.length_map, ← l2]
      exact z
    refine wpAny_pure ⟨_, rfl, .ref h'.objs.size, upd H h'.objs.size (.lst (bs.map V.ref)), I1.laid (t' := tk) (fun b u e => ?_) (Nat.le_refl _)
      (show ObjOk X.prog X.w _ _ _ (.lst (bs.map V.ref)) from ⟨hlen, bs.map Value.ref, e', vals_refs bs, he'⟩), rfl, q _ _ _ (isKeys_of pr) hbs (I1.hok.fresh (Nat.le_refl _))⟩
    have hb : b < h'.objs.size := Heap.lt_size e
    rw [PyProof.Rows.sortedHeap_old (Nat.ne_of_lt hb) (by rw [size_push']; exact Nat.lt_succ_of_lt hb)]
    exact Heap.get?_push_of_some _ e
end L2
/-! The text, what the builtins' names hold, the shapes of a system and of sequences on the heap, and short words for expressions without effect. -/
namespace K32
open PySem PySem.Spec PyProof.Rows L2
/-! ### the text -/
def topS (i : Nat) : Stmt := PySem.Challenge.pw_undobystate_k32_whole_factors.main.body.getD i (.Pass ⟨0, 0, 0, 0⟩)
/-- the names of builtins stay theirs; the three constants -/
structure Gf (mg : Str → Option Value) : Prop where
  len : mg "len" = none
  isinstance : mg "isinstance" = none
  int : mg "int" = none
  bool : mg "bool" = none
  str : mg "str" = none
  tuple : mg "tuple" = none
  list : mg "list" = none
  all : mg "all" = none
  range : mg "range" = none
  sorted : mg "sorted" = none
  max : mg "max" = none
  abs : mg "abs" = none
  ms : ∃ t, mg "MOST_STATES" = some (.int 8 t)
  mc : ∃ t, mg "MOST_COMMANDS" = some (.int 4 t)
  ls : ∃ t, mg "LONGEST_SEQUENCE" = some (.int 16 t)
/-- a def stands behind the top -/
structure Dn (K : PySem.W.Frag) (mg : Str → Option Value) (x : Str) (st : Stmt) (ps : List Str) : Prop where
  ex : ∃ (f : Addr) (fd : FuncData), Fun K x x st f fd ∧ mg x = some (.ref f) ∧ Binds K fd ps []
/-- the def x keeps the promise sp -/
structure Kp (P : Program) (w : World) (K : PySem.W.Frag) (mg : Str → Option Value) (base : Heap) (k : Nat) (x : Str) (sp : Sp) : Prop where
  ex : ∃ (f : Addr) (fd : FuncData) (ps : List Str), FnOk P w K mg base CX0 k f fd ps sp ∧ mg x = some (.ref f) ∧ PySem.W.keepIn K (.ref f) = true ∧ Binds K fd ps []
section
variable {P : Program} {w : World} {K : PySem.W.Frag} {mg : Str → Option Value} {base : Heap}
theorem Dn.keeps {x : Str} {st : Stmt} {ps N : List Str} {k : Nat} {sp : Sp} (d : Dn K mg x st ps) (S : FnScope N ps (defScope st)) (len : ∀ vs H Q E, sp vs H Q E → vs.length = ps.length)
    (hbody : ∀ (f : Addr) (cdv : Value) (A : Around) (outer : List Env) (s : Shared) (H : Hp) (vs : List V) (Q : VK) (E : XK), Room k (A.deeper (envOfC x (defScope st) s.heap.objs.size f cdv)) → sp vs H Q E →
      ∃ t, PSs (cxOf CX0 P w K mg base N x (defScope st) f cdv A outer s H E).nox (defBody st) t ∧ t { nx := fun _ H' => Q .non H', rt := Q } (start N vs) H) : Kp P w K mg base (k + 1) x sp := by
  obtain ⟨f, fd, F, hm, hb⟩ := d.ex
  exact ⟨f, fd, ps, F.ok S len fun cdv A outer s H vs Q E hr h => hbody f cdv A outer s H vs Q E hr h, hm, F.kp, hb⟩
end
theorem pe_k {X : Cx} {k j : Nat} {x : Str} {sp : Sp} {e : Expr} {es : List Expr} {t : TA} {p pos : Pos} (c : Kp X.prog X.w X.K X.mg X.base k x sp) (hr : Room j X.A) (hk : k ≤ j) (hg : Gl X x) (ha : PA X (e :: es) t)
    (hdb : (x == ("__debug__" : Str)) = false := by decide) (he : starEach (e :: es) X.env = (false, eval e X.env) :: starEach es X.env := by rfl) (hpl : (backTo pos (starEach es X.env)).any (·.1) = false := by rfl) :
    PE X (.Call (.Name x p) (e :: es) [] pos) (tCall sp [] E0 t) := by
  obtain ⟨f, fd, ps, F, hm, kp, b⟩ := c.ex
  exact pe_call F (hr.mono hk) hg hm kp b .nil pass0 ha hdb he hpl

/-! ### expressions that give a value and leave the heap -/
def Vl (t : TE) (σ : L2.St) (H : Hp) (v : V) : Prop := ∀ Q : VK, Q v H → t σ H Q
section
variable {K : PySem.W.Frag} {σ : L2.St} {H : Hp} {ta tb : TE}
theorem vl_var {i : Nat} {v : V} (h : σ[i]? = some (some v)) : Vl (tVar i) σ H v := fun Q q => ⟨v, h, q⟩
theorem vl_c {v : V} : Vl (tC v) σ H v := fun Q q => q
theorem vl_ixT {p : Addr} {xs : List V} {j : Nat} {v : V} (ha : Vl ta σ H (.ref p)) (hb : Vl tb σ H (.int (j : Int))) (hp : SqT K H p xs) (hj : xs[j]? = some v) : Vl (tOp (rIxT K) ta tb) σ H v :=
  fun Q q => ha _ (hb _ ⟨p, xs, _, v, rfl, rfl, hp, atI_nat hj, q⟩)
theorem vl_ixL {p : Addr} {xs : List V} {j : Nat} {v : V} (ha : Vl ta σ H (.ref p)) (hb : Vl tb σ H (.int (j : Int))) (hp : SqL K H p xs) (hj : xs[j]? = some v) : Vl (tOp (rIxL K) ta tb) σ H v :=
  fun Q q => ha _ (hb _ ⟨p, xs, _, v, rfl, rfl, hp, atI_nat hj, q⟩)
theorem vl_sub {i j : Int} (ha : Vl ta σ H (.int i)) (hb : Vl tb σ H (.int j)) : Vl (tOp (rI0 fun i j => .int (i - j)) ta tb) σ H (.int (i - j)) := fun Q q => ha _ (hb _ ⟨i, j, rfl, rfl, q⟩)
theorem vl_add {i j : Int} (ha : Vl ta σ H (.int i)) (hb : Vl tb σ H (.int j)) : Vl (tOp (rI0 fun i j => .int (i + j)) ta tb) σ H (.int (i + j)) := fun Q q => ha _ (hb _ ⟨i, j, rfl, rfl, q⟩)
/-- len of a tuple -/
def rLn (K : PySem.W.Frag) : List V → Hp → VK → Prop := fun xs H Q => ∃ p ys, xs = [.ref p] ∧ (SqL K H p ys ∨ SqT K H p ys) ∧ Q (.int ys.length) H
theorem vl_lenT {p : Addr} {xs : List V} (ha : Vl ta σ H (.ref p)) (hp : SqT K H p xs) : Vl (tCB (rLn K) (tCons ta tNil)) σ H (.int (xs.length : Nat)) := fun Q q => ha _ ⟨p, xs, rfl, .inr hp, q⟩
theorem vl_lenL {p : Addr} {xs : List V} (ha : Vl ta σ H (.ref p)) (hp : SqL K H p xs) : Vl (tCB (rLn K) (tCons ta tNil)) σ H (.int (xs.length : Nat)) := fun Q q => ha _ ⟨p, xs, rfl, .inl hp, q⟩
end
theorem pe_len {X : Cx} {e : Expr} {te : TE} {p pos : Pos} (hg : Gl X "len") (hm : X.mg "len" = none) (he : PE X e te) (hs : starEach [e] X.env = (false, eval e X.env) :: starEach [] X.env := by rfl) (hpl : (backTo pos (starEach [] X.env)).any (·.1) = false := by rfl) :
    PE X (.Call (.Name "len" p) [e] [] pos) (tCB (rLn X.K) (tCons te tNil)) := pe_callB call_len_seq hg hm PySem.boot_len (pa_cons he pa_nil hs) (by decide) (by decide) hs hpl
/-- isinstance(e, a built-in class) -/
theorem pe_isi {X : Cx} {e : Expr} {te : TE} {T : Str} {n : String} {p p2 pos : Pos} (G : Gf X.mg) (hg : Gl X "isinstance") (hT : Gl X T) (hm : X.mg T = none) (hv : bootBuiltins T = some (.type n)) (he : PE X e te) (hn : T ≠ "__name__" := by decide) (hd : (T == ("__debug__" : Str)) = false := by decide)
    (hs : starEach [e, .Name T p2] X.env = (false, eval e X.env) :: starEach [.Name T p2] X.env := by rfl) (hpl : (backTo pos (starEach [.Name T p2] X.env)).any (·.1) = false := by rfl) :
    PE X (.Call (.Name "isinstance" p) [e, .Name T p2] [] pos) (tCB (rIsi X.K) (tCons te (tCons (tC (.ty n)) tNil))) :=
  pe_callB call_isi hg G.isinstance (by decide +kernel) (pa_cons he (pa_cons (pe_bltn hT hm hv rfl hn hd) pa_nil) hs) (by decide) (by decide) hs hpl
section
variable {K : PySem.W.Frag} {σ : L2.St} {H : Hp} {te : TE}
theorem vl_isi {x : V} {n m : String} {b : Bool} (he : Vl te σ H x) (ty : TyX K H x (.type m)) (h : kitB m n = some b) : Vl (tCB (rIsi K) (tCons te (tCons (tC (.ty n)) tNil))) σ H (.bl b) :=
  fun Q q => he _ ⟨x, .ty n, .type m, .type n, b, rfl, .ty n, ty, kit_ty h, q⟩
end

/-! ### heaps -/
theorem same_upd {H : Hp} {p : Addr} {o : HO} (h : H p = none) : Same H (upd H p o) := fun b x e => by
  rw [upd_ne (ne_of_none e h)]
  exact e
/-- nothing but p may have changed -/
def SB (p : Addr) (H H' : Hp) : Prop := ∀ b o, b ≠ p → H b = some o → H' b = some o
theorem SB.of {p : Addr} {H H' : Hp} (s : Same H H') : SB p H H' := fun b o _ e => s b o e
theorem SB.refl {p : Addr} {H : Hp} : SB p H H := fun _ _ _ e => e
theorem SB.trans {p : Addr} {H H1 H2 : Hp} (a : SB p H H1) (b : SB p H1 H2) : SB p H H2 := fun c o n e => b c o n (a c o n e)
theorem SB.upd {p : Addr} {H : Hp} {o : HO} : SB p H (upd H p o) := fun b x n e => by rw [upd_ne n]; exact e
theorem SB.new {p q : Addr} {H H1 : Hp} {o : HO} (a : SB p H H1) (h : H1 q = none) : SB p H (L2.upd H1 q o) := fun b x n e => same_upd h b x (a b x n e)

/-! ### sequences and systems -/
abbrev nis (q : List Nat) : List V := q.map fun (c : Nat) => V.int (c : Int)
theorem nis_get {q : List Nat} {i c : Nat} (h : q[i]? = some c) : (nis q)[i]? = some (.int c) := by
  rw [List.getElem?_map, h]
  rfl
theorem nis_len {q : List Nat} : (nis q).length = q.length := List.length_map _
theorem of_nis_get {q : List Nat} {i : Nat} {v : V} (h : (nis q)[i]? = some v) : ∃ c : Nat, q[i]? = some c ∧ v = .int c := by
  rw [List.getElem?_map] at h
  cases e : q[i]? with
  | none => rw [e] at h; cases h
  | some c =>
    rw [e] at h
    exact ⟨c, rfl, (Option.some.inj h).symm⟩
/-- at a the system S stands -/
structure IsSy (H : Hp) (a : Addr) (S : Sy) : Prop where
  ex : ∃ (c : Addr) (rs : List Addr), H a = some (.tup [.int S.n, .int S.s, .ref c]) ∧ H c = some (.tup (rs.map V.ref)) ∧ rs.length = S.m ∧ ∀ k r, rs[k]? = some r → H r = some (.tup (nis (S.f.getD k [])))
theorem IsSy.same {H H' : Hp} {a : Addr} {S : Sy} (h : IsSy H a S) (s : Same H H') : IsSy H' a S := by
  obtain ⟨c, rs, h1, h2, h3, h4⟩ := h.ex
  exact ⟨c, rs, s _ _ h1, s _ _ h2, h3, fun k r e => s _ _ (h4 k r e)⟩
theorem IsSy.sb {H H' : Hp} {a p : Addr} {S : Sy} {xs : List V} (h : IsSy H a S) (s : SB p H H') (hp : H p = some (.lst xs)) : IsSy H' a S := by
  obtain ⟨c, rs, h1, h2, h3, h4⟩ := h.ex
  have k : ∀ {b : Addr} {ys : List V}, H b = some (.tup ys) → H' b = some (.tup ys) := fun {b ys} e => s b _ (ne_of e hp (fun z => nomatch z)) e
  exact ⟨c, rs, k h1, k h2, h3, fun i r e => k (h4 i r e)⟩
section
variable {K : PySem.W.Frag} {σ : L2.St} {H : Hp} {ta tb tc : TE} {a : Addr} {S : Sy}
theorem vl_n (h : IsSy H a S) (ha : Vl ta σ H (.ref a)) : Vl (tOp (rIxT K) ta (tC (.int 0))) σ H (.int (S.n : Int)) := by
  obtain ⟨c, rs, h1, h2, h3, h4⟩ := h.ex
  exact vl_ixT (j := 0) ha vl_c (SqT.of h1) rfl
theorem vl_s (h : IsSy H a S) (ha : Vl ta σ H (.ref a)) : Vl (tOp (rIxT K) ta (tC (.int 1))) σ H (.int (S.s : Int)) := by
  obtain ⟨c, rs, h1, h2, h3, h4⟩ := h.ex
  exact vl_ixT (j := 1) ha vl_c (SqT.of h1) rfl
/-- len(system[2]) -/
theorem vl_m (h : IsSy H a S) (ha : Vl ta σ H (.ref a)) : Vl (tCB (rLn K) (tCons (tOp (rIxT K) ta (tC (.int 2))) tNil)) σ H (.int (S.m : Nat)) := by
  obtain ⟨c, rs, h1, h2, h3, h4⟩ := h.ex
  have := vl_lenT (K := K) (vl_ixT (K := K) (j := 2) ha vl_c (SqT.of h1) rfl) (SqT.of h2)
  rw [List.length_map, h3] at this
  exact this
theorem step_at {S : Sy} (ok : S.Ok) {x c : Nat} (hx : x < S.n) (hc : c < S.m) : (S.f.getD c [])[x]? = some (S.step x c) := by
  have h1 : S.f.getD c [] = S.f[c] := by
    rw [List.getD_eq_getElem?_getD, List.getElem?_eq_getElem hc]
    rfl
  obtain ⟨h2, _⟩ := ok.rows S.f[c] (List.getElem_mem hc)
  have hx' : x < (S.f.getD c []).length := by rw [h1, h2]; exact hx
  show (S.f.getD c [])[x]? = some ((S.f.getD c []).getD x 0)
  generalize S.f.getD c [] = r at hx' ⊢
  rw [List.getD_eq_getElem?_getD, List.getElem?_eq_getElem hx']
  rfl
/-- system[2][command][state] -/
theorem vl_step (h : IsSy H a S) (ok : S.Ok) {x c : Nat} (hx : x < S.n) (hc : c < S.m) (ha : Vl ta σ H (.ref a)) (hb : Vl tb σ H (.int (c : Int))) (hd : Vl tc σ H (.int (x : Int))) :
    Vl (tOp (rIxT K) (tOp (rIxT K) (tOp (rIxT K) ta (tC (.int 2))) tb) tc) σ H (.int (S.step x c : Nat)) := by
  obtain ⟨C, rs, h1, h2, h3, h4⟩ := h.ex
  have hc' : c < rs.length := by rw [h3]; exact hc
  have e1 : (rs.map V.ref)[c]? = some (.ref rs[c]) := by
    rw [List.getElem?_map, List.getElem?_eq_getElem hc']
    rfl
  refine vl_ixT (vl_ixT (vl_ixT (j := 2) ha vl_c (SqT.of h1) rfl) hb (SqT.of h2) e1) hd (SqT.of (h4 c rs[c] (List.getElem?_eq_getElem hc'))) (nis_get (step_at ok hx hc))
end
end K32
/-! systems.py: is_whole, is_system, is_command, are_commands, is_sequence, states_of, step, led, check_system. -/
namespace K32
open PySem PySem.Spec PyProof.Rows L2
section
variable {P : Program} {w : World} {K : PySem.W.Frag} {mg : Str → Option Value} {base : Heap}
abbrev sWhole : Stmt := topS 8
abbrev sIsSys : Stmt := topS 9
abbrev sIsCmd : Stmt := topS 10
abbrev sAreCmd : Stmt := topS 11
abbrev sIsSeq : Stmt := topS 12
abbrev sStatesOf : Stmt := topS 13
abbrev sStep : Stmt := topS 14
abbrev sLed : Stmt := topS 15
abbrev sChkSys : Stmt := topS 16
/-! ### is_whole -/
theorem scWhole : FnScope ["value", "low", "high"] ["value", "low", "high"] (defScope sWhole) := ⟨rfl, rfl, rfl, by decide +kernel, rfl, by decide +kernel, by decide +kernel⟩
def spWhole : Sp := fun vs H Q _ => ∃ v l h : Int, vs = [.int v, .int l, .int h] ∧ l ≤ v ∧ v ≤ h ∧ Q (.bl true) H
theorem kWhole (G : Gf mg) (d : Dn K mg "is_whole" sWhole ["value", "low", "high"]) : Kp P w K mg base 1 "is_whole" spWhole := by
  refine d.keeps scWhole (fun vs H Q E h => ?_) (fun f cdv A outer s H vs Q E hr h => ?_)
  · obtain ⟨v, l, h, rfl, _⟩ := h
    rfl
  · obtain ⟨v, l, h, rfl, h1, h2, q⟩ := h
    refine ⟨_, pss_one (ps_ret (pe_and (pe_isi (n := "int") G (by rfl) (by rfl) G.int (by decide +kernel) (pv 0)) (pe_and (pe_not (pe_isi (n := "bool") G (by rfl) (by rfl) G.bool (by decide +kernel) (pv 0))) (pe_one (pe_chain op_le op_le (pv 1) (pv 0) (pv 2)))))), ?_⟩
    refine vl_isi (m := "int") (vl_var rfl) (.base (.int v)) (by decide +kernel) _ ⟨true, rfl, iteT ?_⟩
    refine vl_isi (m := "int") (b := false) (vl_var rfl) (.base (.int v)) (by decide +kernel) _ ⟨_, rfl, _, rfl, iteT ?_⟩
    refine ⟨_, rfl, _, rfl, _, _, rfl, rfl, _, rfl, ?_⟩
    rw [decide_eq_true h1]
    refine iteT ⟨_, rfl, _, _, rfl, rfl, ?_⟩
    show Q (.bl (decide (v ≤ h))) H
    rw [decide_eq_true h2]
    exact q
/-! ### step, led -/
theorem scStep : FnScope ["system", "state", "command"] ["system", "state", "command"] (defScope sStep) := ⟨rfl, rfl, rfl, by decide +kernel, rfl, by decide +kernel, by decide +kernel⟩
def spStep : Sp := fun vs H Q _ => ∃ (a : Addr) (S : Sy) (x c : Nat), vs = [.ref a, .int x, .int c] ∧ IsSy H a S ∧ S.Ok ∧ x < S.n ∧ c < S.m ∧ Q (.int (S.step x c : Nat)) H
theorem kStep (d : Dn K mg "step" sStep ["system", "state", "command"]) : Kp P w K mg base 1 "step" spStep := by
  refine d.keeps scStep (fun vs H Q E h => ?_) (fun f cdv A outer s H vs Q E hr h => ?_)
  · obtain ⟨a, S, x, c, rfl, _⟩ := h
    rfl
  · obtain ⟨a, S, x, c, rfl, hS, ok, hx, hc, q⟩ := h
    refine ⟨_, pss_one (ps_ret (pe_ix ix_tup (pe_ix ix_tup (pe_ix ix_tup (pv 0) pe_int (fun _ _ => rfl)) (pv 2) (fun _ _ => rfl)) (pv 1) (fun _ _ => rfl))), ?_⟩
    exact vl_step hS ok hx hc (vl_var rfl) (vl_var rfl) (vl_var rfl) _ q
theorem scLed : FnScope ["system", "state", "sequence", "here", "command"] ["system", "state", "sequence"] (defScope sLed) := ⟨rfl, rfl, rfl, by decide +kernel, rfl, by decide +kernel, by decide +kernel⟩
def spLed (K : PySem.W.Frag) : Sp := fun vs H Q _ => ∃ (a : Addr) (S : Sy) (x : Nat) (b : Addr) (p : List Nat), vs = [.ref a, .int x, .ref b] ∧ IsSy H a S ∧ S.Ok ∧ x < S.n ∧ SqT K H b (nis p) ∧ Sq S p ∧ Q (.int (S.led x p : Nat)) H
theorem kLed (d : Dn K mg "led" sLed ["system", "state", "sequence"]) (dS : Dn K mg "step" sStep ["system", "state", "command"]) : Kp P w K mg base 2 "led" (spLed K) := by
  have cS : Kp P w K mg base 1 "step" spStep := kStep dS
  refine d.keeps scLed (fun vs H Q E h => ?_) (fun f cdv A outer s H vs Q E hr h => ?_)
  · obtain ⟨a, S, x, b, p, rfl, _⟩ := h
    rfl
  · obtain ⟨a, S, x, b, p, rfl, hS, ok, hx, hb, hp, q⟩ := h
    refine ⟨_, pss_cons (ps_set (i := 3) scLed.nd rfl (.inl rfl) (pv 1))
      (pss_cons (ps_for PassesOwn.never rfl (pi_tup (pv 2)) (pg_name (i := 4) scLed.nd rfl (.inl rfl))
        (pss_one (ps_set (i := 3) scLed.nd rfl (.inl rfl) (pe_k cS hr (by decide) (by rfl) (pa_cons (pv 0) (pa_cons (pv 3) (pa_cons (pv 4) pa_nil)))))))
      (pss_one (ps_ret (pv 3)))), ?_⟩
    refine ⟨_, rfl, _, rfl, b, rfl, ⟨_, hb⟩, for_tup (K := K) (a := b) (xs := nis p) (fun i σ H' => H' = H ∧ ∃ v, σ = [some (.ref a), some (.int x), some (.ref b), some (.int (S.led x (p.take i) : Nat)), v]) ⟨rfl, _, rfl⟩ (fun i σ H' _ h => h.1 ▸ hb) ?_ ?_⟩
    · rintro i y σ H' hi ⟨rfl, v, rfl⟩
      obtain ⟨c, hc, rfl⟩ := of_nis_get hi
      have hc' : c < S.m := hp c (List.mem_of_getElem? hc)
      have hx' : S.led x (p.take i) < S.n := ok.led_lt hx fun d hd => hp d (List.mem_of_mem_take hd)
      refine ⟨_, rfl, _, rfl, _, rfl, a, S, _, c, rfl, hS, ok, hx', hc', rfl, some (.int c), ?_⟩
      rw [List.take_add_one, hc]
      show [some (V.ref a), some (V.int ↑x), some (V.ref b), some (V.int ↑(S.step (S.led x (List.take i p)) c)), some (V.int ↑c)] = _
      rw [Option.toList_some, led_snoc]
    · rintro σ H' ⟨rfl, v, rfl⟩
      rw [nis_len, List.take_length]
      exact ⟨_, rfl, q⟩
/-! ### is_command, are_commands, is_sequence -/
theorem scIsCmd : FnScope ["system", "value"] ["system", "value"] (defScope sIsCmd) := ⟨rfl, rfl, rfl, by decide +kernel, rfl, by decide +kernel, by decide +kernel⟩
def spIsCmd : Sp := fun vs H Q _ => ∃ (a : Addr) (S : Sy) (c : Nat), vs = [.ref a, .int c] ∧ IsSy H a S ∧ c < S.m ∧ Q (.bl true) H
theorem kIsCmd (G : Gf mg) (d : Dn K mg "is_command" sIsCmd ["system", "value"]) (dW : Dn K mg "is_whole" sWhole ["value", "low", "high"]) : Kp P w K mg base 2 "is_command" spIsCmd := by
  have cW : Kp P w K mg base 1 "is_whole" spWhole := kWhole G dW
  refine d.keeps scIsCmd (fun vs H Q E h => ?_) (fun f cdv A outer s H vs Q E hr h => ?_)
  · obtain ⟨a, S, c, rfl, _⟩ := h
    rfl
  · obtain ⟨a, S, c, rfl, hS, hc, q⟩ := h
    refine ⟨_, pss_one (ps_ret (pe_k cW hr (by decide) (by rfl) (pa_cons (pv 1) (pa_cons pe_int (pa_cons (pe_op op_sub (pe_len (by rfl) G.len (pe_ix ix_tup (pv 0) pe_int (fun _ _ => rfl))) pe_int) pa_nil))))), ?_⟩
    refine ⟨_, rfl, vl_sub (vl_m hS (vl_var rfl)) vl_c _ ⟨_, _, _, rfl, ?_, ?_, q⟩⟩
    · omega
    · omega
theorem scAreCmd : FnScope ["system", "value", "command"] ["system", "value"] (defScope sAreCmd) := ⟨rfl, rfl, rfl, by decide +kernel, rfl, by decide +kernel, by decide +kernel⟩
def spAreCmd : Sp := fun vs H Q _ => ∃ (a b : Addr) (S : Sy) (p : List Nat), vs = [.ref a, .ref b] ∧ IsSy H a S ∧ H b = some (.tup (nis p)) ∧ p.length ≤ 100 ∧ Sq S p ∧ ∀ H', Same H H' → Q (.bl true) H'
/-- all([..]) of truths -/
theorem all_true {bs : List Bool} (h : ∀ b ∈ bs, b = true) : bs.all id = true := List.all_eq_true.mpr fun b hb => h b hb
theorem kAreCmd (G : Gf mg) (d : Dn K mg "are_commands" sAreCmd ["system", "value"]) (dC : Dn K mg "is_command" sIsCmd ["system", "value"]) (dW : Dn K mg "is_whole" sWhole ["value", "low", "high"]) : Kp P w K mg base 3 "are_commands" spAreCmd := by
  have cC : Kp P w K mg base 2 "is_command" spIsCmd := kIsCmd G dC dW
  refine d.keeps scAreCmd (fun vs H Q E h => ?_) (fun f cdv A outer s H vs Q E hr h => ?_)
  · obtain ⟨a, b, S, p, rfl, _⟩ := h
    rfl
  · obtain ⟨a, b, S, p, rfl, hS, hb, hl, hp, q⟩ := h
    refine ⟨_, pss_one (ps_ret (pe_and (pe_isi (n := "tuple") G (by rfl) (by rfl) G.tuple (by decide +kernel) (pv 1)) (pe_one (pe_callB (cr_all rfl) (by rfl) G.all (by decide +kernel) (pa_cons
      (pe_lc (own := [("command", 2)]) (by rfl) scAreCmd.nd (pi_tup (pv 1)) (blkOk_by (own := [("command", 2)]) (N := ["system", "value", "command"]) (sc := defScope sAreCmd) (by decide +kernel))
        (fun _ _ _ _ _ => pg_name (i := 2) scAreCmd.nd rfl (Or.inl rfl)) (fun _ _ _ _ _ => pts_nil) (fun _ _ _ _ _ => pe_k cC hr (by decide) (by rfl) (pa_cons (pv 0) (pa_cons (pv 2) pa_nil)))) pa_nil))))), ?_⟩
    refine vl_isi (m := "tuple") (b := true) (vl_var rfl) (.base (.tup hb)) (by decide +kernel) _ ⟨_, rfl, iteT ?_⟩
    refine ⟨_, rfl, _, rfl, ⟨_, SqT.of hb⟩, fun D hD => lc_tup (K := K) (a := b) (xs := nis p) (fun i H' => Same H H' ∧ H' D = some (.lst ((List.replicate i true).map V.bl))) ⟨same_upd hD, upd_same⟩ (fun i H' _ h => SqT.of (h.1 _ _ hb)) ?_ ?_⟩
    · rintro i y H' hi ⟨sm, eD⟩
      obtain ⟨c, hc, rfl⟩ := of_nis_get hi
      have hc' : c < S.m := hp c (List.mem_of_getElem? hc)
      refine ⟨rfl, _, rfl, _, rfl, a, S, c, rfl, hS.same sm, hc', _, eD, ?_, fun b o e => ?_, ?_⟩
      · have : i < p.length := (List.getElem?_eq_some_iff.mp hc).1
        rw [List.length_map, List.length_replicate]
        exact small1000 (by omega)
      · rw [upd_ne (ne_of_none e hD)]
        exact sm b o e
      · rw [upd_same, List.replicate_succ', List.map_append]
        rfl
    · rintro H' ⟨sm, eD⟩
      rw [nis_len] at eD
      refine ⟨D, _, rfl, SqL.of eD, ?_⟩
      rw [all_true fun b hb => List.eq_of_mem_replicate hb]
      exact q H' sm
/-! ### is_sequence -/
theorem iteDF {c A B : Prop} [Decidable c] (hc : ¬ c) (h : B) : if decide c = true then A else B := by
  rw [decide_eq_false hc]
  exact iteF h
theorem iteDT {c A B : Prop} [Decidable c] (hc : c) (h : A) : if decide c = true then A else B := by
  rw [decide_eq_true hc]
  exact iteT h
theorem scIsSeq : FnScope ["system", "value"] ["system", "value"] (defScope sIsSeq) := ⟨rfl, rfl, rfl, by decide +kernel, rfl, by decide +kernel, by decide +kernel⟩
def spIsSeq : Sp := fun vs H Q _ => ∃ (a b : Addr) (S : Sy) (p : List Nat), vs = [.ref a, .ref b] ∧ IsSy H a S ∧ H b = some (.tup (nis p)) ∧ p.length ≤ 16 ∧ Sq S p ∧ ∀ H', Same H H' → Q (.bl true) H'
theorem kIsSeq (G : Gf mg) (d : Dn K mg "is_sequence" sIsSeq ["system", "value"]) (cA : Kp P w K mg base 3 "are_commands" spAreCmd) : Kp P w K mg base 4 "is_sequence" spIsSeq := by
  obtain ⟨t16, m16⟩ := G.ls
  refine d.keeps scIsSeq (fun vs H Q E h => ?_) (fun f cdv A outer s H vs Q E hr h => ?_)
  · obtain ⟨a, b, S, p, rfl, _⟩ := h
    rfl
  · obtain ⟨a, b, S, p, rfl, hS, hb, hl, hp, q⟩ := h
    refine ⟨_, pss_one (ps_ret (pe_and (pe_k cA hr (by decide) (by rfl) (pa_cons (pv 0) (pa_cons (pv 1) pa_nil))) (pe_one (pe_cmpR op_le (pe_len (by rfl) G.len (pv 1)) (pe_glob (v := .int 16) (by rfl) m16 ⟨_, rfl⟩) (nomark _))))), ?_⟩
    refine ⟨_, rfl, _, rfl, a, b, S, p, rfl, hS, hb, by omega, hp, fun H' sm => ⟨_, rfl, iteT ?_⟩⟩
    refine vl_lenT (vl_var rfl) (SqT.of (sm _ _ hb)) _ ⟨_, _, rfl, rfl, ?_⟩
    show Q (.bl (decide (((nis p).length : Int) ≤ 16))) H'
    rw [nis_len, decide_eq_true (show ((p.length : Nat) : Int) ≤ 16 by omega)]
    exact q H' sm
/-! ### states_of, is_system, check_system -/
theorem scStatesOf : FnScope ["system"] ["system"] (defScope sStatesOf) := ⟨rfl, rfl, rfl, by decide +kernel, rfl, by decide +kernel, by decide +kernel⟩
def spStatesOf : Sp := fun vs H Q _ => ∃ (a : Addr) (S : Sy), vs = [.ref a] ∧ IsSy H a S ∧ S.Ok ∧ ∀ p, H p = none → Q (.ref p) (upd H p (.lst (nis (List.range S.n))))
theorem rg_nis (n : Nat) : rgV 0 (n : Int) = nis (List.range n) := by
  unfold rgV
  rw [show ((n : Int) - 0).toNat = n by omega]
  refine List.map_congr_left fun i _ => ?_
  show V.int (0 + (i : Int)) = V.int i
  rw [Int.zero_add]
theorem kStatesOf (G : Gf mg) (d : Dn K mg "states_of" sStatesOf ["system"]) : Kp P w K mg base 1 "states_of" spStatesOf := by
  refine d.keeps scStatesOf (fun vs H Q E h => ?_) (fun f cdv A outer s H vs Q E hr h => ?_)
  · obtain ⟨a, S, rfl, _⟩ := h
    rfl
  · obtain ⟨a, S, rfl, hS, ok, q⟩ := h
    refine ⟨_, pss_one (ps_ret (pe_listRg rfl (by rfl) G.list (prg_1 (by rfl) G.range (pe_ix ix_tup (pv 0) pe_int (fun _ _ => rfl))))), ?_⟩
    have := ok.n8
    refine vl_n hS (vl_var rfl) _ ⟨_, rfl, ⟨by decide, by decide, by omega, by omega⟩, fun p hp => ?_⟩
    rw [rg_nis]
    exact q p hp
theorem scIsSys : FnScope ["value", "states", "start", "commands", "command", "state"] ["value"] (defScope sIsSys) := ⟨rfl, rfl, rfl, by decide +kernel, rfl, by decide +kernel, by decide +kernel⟩
def spIsSys : Sp := fun vs H Q _ => ∃ (a : Addr) (S : Sy), vs = [.ref a] ∧ IsSy H a S ∧ S.Ok ∧ ∀ H', Same H H' → Q (.bl true) H'
theorem kIsSys (G : Gf mg) (d : Dn K mg "is_system" sIsSys ["value"]) (cW : Kp P w K mg base 1 "is_whole" spWhole) : Kp P w K mg base 2 "is_system" spIsSys := by
  obtain ⟨t8, m8⟩ := G.ms
  obtain ⟨t4, m4⟩ := G.mc
  refine d.keeps scIsSys (fun vs H Q E h => ?_) (fun f cdv A outer s H vs Q E hr h => ?_)
  · obtain ⟨a, S, rfl, _⟩ := h
    rfl
  · obtain ⟨a, S, rfl, hS, ok, q⟩ := h
    refine ⟨_, pss_cons (ps_if (PW.pt (pw_or (pt_not (pt_val (pe_isi (n := "tuple") G (by rfl) (by rfl) G.tuple (by decide +kernel) (pv 0)))) (pw_or (pt_cmpR op_ne (pe_len (by rfl) G.len (pv 0)) pe_int (nomark _))
          (pw_or1 (pt_not (pt_val (pe_k cW hr (by decide) (by rfl) (pa_cons (pe_ix ix_tup (pv 0) pe_int (fun _ _ => rfl)) (pa_cons pe_int (pa_cons (pe_glob (v := .int 8) (by rfl) m8 ⟨_, rfl⟩) pa_nil)))))))))) (pss_one (ps_ret pe_bl)) pss_nil)
      (pss_cons (ps_asg (pv 0) (pg_tup rfl (pgs_cons (pg_name (i := 1) scIsSys.nd rfl (.inr rfl)) (pgs_cons (pg_name (i := 2) scIsSys.nd rfl (.inl rfl)) (pgs_cons (pg_name (i := 3) scIsSys.nd rfl (.inl rfl)) pgs_nil)))))
      (pss_cons (ps_if (PW.pt (pw_or (pt_not (pt_val (pe_k cW hr (by decide) (by rfl) (pa_cons (pv 2) (pa_cons pe_int (pa_cons (pe_op op_sub (pv 1) pe_int) pa_nil)))))) (pw_or (pt_not (pt_val (pe_isi (n := "tuple") G (by rfl) (by rfl) G.tuple (by decide +kernel) (pv 3))))
          (pw_or1 (pt_cmpR op_gt (pe_len (by rfl) G.len (pv 3)) (pe_glob (v := .int 4) (by rfl) m4 ⟨_, rfl⟩) (nomark _)))))) (pss_one (ps_ret pe_bl)) pss_nil)
      (pss_cons (ps_for PassesOwn.never rfl (pi_tup (pv 3)) (pg_name (i := 4) scIsSys.nd rfl (.inl rfl))
        (pss_cons (ps_if (PW.pt (pw_or (pt_not (pt_val (pe_isi (n := "tuple") G (by rfl) (by rfl) G.tuple (by decide +kernel) (pv 4)))) (pw_or1 (pt_cmpR op_ne (pe_len (by rfl) G.len (pv 4)) (pv 1) (nomark _))))) (pss_one (ps_ret pe_bl)) pss_nil)
        (pss_one (ps_if (pt_not (pt_val (pe_callB (cr_all rfl) (by rfl) G.all (by decide +kernel) (pa_cons
          (pe_lc (own := [("state", 5)]) (by rfl) scIsSys.nd (pi_tup (pv 4)) (blkOk_by (own := [("state", 5)]) (N := ["value", "states", "start", "commands", "command", "state"]) (sc := defScope sIsSys) (by decide +kernel))
            (fun _ _ _ _ _ => pg_name (i := 5) scIsSys.nd rfl (Or.inl rfl)) (fun _ _ _ _ _ => pts_nil) (fun _ _ _ _ _ => pe_k cW hr (by decide) (by rfl) (pa_cons (pv 5) (pa_cons pe_int (pa_cons (pe_op op_sub (pv 1) pe_int) pa_nil))))) pa_nil)))) (pss_one (ps_ret pe_bl)) pss_nil))))
      (pss_one (ps_ret pe_bl))))), ?_⟩
    obtain ⟨C, rs, h1, h2, h3, h4⟩ := hS.ex
    have hn1 := ok.n1
    have hn8 := ok.n8
    have hs := ok.s
    have hm4 : S.m ≤ 4 := ok.m4
    -- the first test
    refine vl_isi (m := "tuple") (b := true) (vl_var rfl) (.base (.tup h1)) (by decide +kernel) _ ⟨_, rfl, ?_⟩
    refine vl_lenT (vl_var rfl) (SqT.of h1) _ ⟨rfl, _, rfl, iteNS rfl ?_⟩
    refine vl_n hS (vl_var rfl) _ ⟨_, _, _, rfl, by omega, by omega, _, rfl, ?_⟩
    -- unpacked
    refine ⟨_, rfl, a, _, rfl, SqT.of h1, rfl, _, _, rfl, _, _, rfl, _, _, rfl, rfl, ?_⟩
    refine ⟨_, rfl, vl_sub (vl_var rfl) vl_c _ ⟨_, _, _, rfl, by omega, by omega, _, rfl, ?_⟩⟩
    refine vl_isi (m := "tuple") (b := true) (vl_var rfl) (.base (.tup h2)) (by decide +kernel) _ ⟨_, rfl, ?_⟩
    refine vl_lenT (vl_var rfl) (SqT.of h2) _ ⟨_, _, rfl, rfl, _, rfl, iteDF (by rw [List.length_map]; omega) ?_⟩
    -- the rows
    refine ⟨_, rfl, C, rfl, ⟨_, SqT.of h2⟩, for_tup (K := K) (a := C) (xs := rs.map V.ref) (fun i σ H' => Same H H' ∧ ∃ v, σ = [some (.ref a), some (.int S.n), some (.int S.s), some (.ref C), v, none]) ⟨Same.refl _, _, rfl⟩ (fun i σ H' _ h => SqT.of (h.1 _ _ h2)) ?_ ?_⟩
    · rintro i y σ H' hi ⟨sm, v, rfl⟩
      rw [List.getElem?_map] at hi
      cases er : rs[i]? with
      | none => rw [er] at hi; cases hi
      | some r =>
        rw [er] at hi
        obtain rfl : V.ref r = y := Option.some.inj hi
        have hr' := sm _ _ (h4 i r er)
        have him : i < S.m := by rw [← h3]; exact (List.getElem?_eq_some_iff.mp er).1
        have hrow := ok.rows S.f[i] (List.getElem_mem him)
        have hrw : S.f.getD i [] = S.f[i] := by rw [List.getD_eq_getElem?_getD, List.getElem?_eq_getElem him]; rfl
        rw [hrw] at hr'
        refine vl_isi (m := "tuple") (b := true) (vl_var rfl) (.base (.tup hr')) (by decide +kernel) _ ⟨_, rfl, ?_⟩
        refine vl_lenT (vl_var rfl) (SqT.of hr') _ ⟨_, rfl, rfl, _, rfl, iteNS (by rw [nis_len, hrow.1]) ?_⟩
        refine ⟨_, rfl, _, rfl, ⟨_, SqT.of hr'⟩, fun D hD => lc_tup (K := K) (a := r) (xs := nis S.f[i]) (fun i H2 => Same H' H2 ∧ H2 D = some (.lst ((List.replicate i true).map V.bl))) ⟨same_upd hD, upd_same⟩ (fun i H2 _ h => SqT.of (h.1 _ _ hr')) ?_ ?_⟩
        · rintro j y H2 hj ⟨sm2, eD⟩
          obtain ⟨x, hx, rfl⟩ := of_nis_get hj
          have hx' : x < S.n := hrow.2 x (List.mem_of_getElem? hx)
          refine ⟨rfl, _, rfl, vl_sub (vl_var rfl) vl_c _ ⟨_, _, _, rfl, by omega, by omega, _, eD, ?_, fun b o e => ?_, ?_⟩⟩
          · have : j < S.f[i].length := (List.getElem?_eq_some_iff.mp hx).1
            rw [List.length_map, List.length_replicate]
            exact small1000 (by omega)
          · rw [upd_ne (ne_of_none e hD)]
            exact sm2 b o e
          · rw [upd_same, List.replicate_succ', List.map_append]
            rfl
        · rintro H2 ⟨sm2, eD⟩
          refine ⟨D, _, rfl, SqL.of eD, _, rfl, ?_⟩
          rw [all_true fun b hb => List.eq_of_mem_replicate hb]
          exact ⟨sm.trans sm2, _, rfl⟩
    · rintro σ H' ⟨sm, v, rfl⟩
      exact q H' sm
theorem scChkSys : FnScope ["system"] ["system"] (defScope sChkSys) := ⟨rfl, rfl, rfl, by decide +kernel, rfl, by decide +kernel, by decide +kernel⟩
def spChkSys : Sp := fun vs H Q _ => ∃ (a : Addr) (S : Sy), vs = [.ref a] ∧ IsSy H a S ∧ S.Ok ∧ ∀ H', Same H H' → Q .non H'
theorem kChkSys (d : Dn K mg "check_system" sChkSys ["system"]) (cI : Kp P w K mg base 2 "is_system" spIsSys) : Kp P w K mg base 3 "check_system" spChkSys := by
  refine d.keeps scChkSys (fun vs H Q E h => ?_) (fun f cdv A outer s H vs Q E hr h => ?_)
  · obtain ⟨a, S, rfl, _⟩ := h
    rfl
  · obtain ⟨a, S, rfl, hS, ok, q⟩ := h
    refine ⟨_, pss_one (ps_if (pt_not (pt_val (pe_k cI hr (by decide) (by rfl) (pa_cons (pv 0) pa_nil)))) (pss_one ps_never) pss_nil), ?_⟩
    exact ⟨_, rfl, a, S, rfl, hS, ok, fun H' sm => ⟨_, rfl, q H' sm⟩⟩
end
end K32
/-! Dicts of pairs and lists of pairs on the heap; pairs_from. -/
namespace K32
open PySem PySem.Spec PyProof.Rows L2
/-! ### pairs as keys -/
def ky (p : Nat × Nat) : List Key := [Sum.inl (p.1 : Int), Sum.inl (p.2 : Int)]
def pvv (p : Nat × Nat) : List V := [.int p.1, .int p.2]
theorem ky_inj {p q : Nat × Nat} (h : ky p = ky q) : p = q := by
  unfold ky at h
  injection h with h1 h2
  injection h2 with h2 _
  have e1 := Sum.inl.inj h1
  have e2 := Sum.inl.inj h2
  exact Prod.ext (by omega) (by omega)
theorem ky_kV (p : Nat × Nat) : (ky p).map kV = pvv p := rfl
def ent (e : (Nat × Nat) × Addr) : List Key × V := (ky e.1, .ref e.2)
abbrev ks (l : List ((Nat × Nat) × Addr)) : List (Nat × Nat) := l.map Prod.fst
theorem find_ent (p : Nat × Nat) : ∀ l : List ((Nat × Nat) × Addr), (∃ e ∈ l, e.1 = p ∧ valV (l.map ent) (ky p) = some (.ref e.2)) ∨ (p ∉ ks l ∧ valV (l.map ent) (ky p) = none)
  | [] => .inr ⟨by simp, rfl⟩
  | e :: l => by
    by_cases h : e.1 = p
    · refine .inl ⟨e, List.mem_cons_self, h, ?_⟩
      rw [List.map_cons]
      exact valV_pos (p := ent e) (by show ky e.1 = ky p; rw [h])
    · have hne : ¬ (ent e).1 = ky p := fun z => h (ky_inj z)
      rw [List.map_cons, valV_neg hne]
      rcases find_ent p l with ⟨e', he, h1, h2⟩ | ⟨h1, h2⟩
      · exact .inl ⟨e', List.mem_cons_of_mem _ he, h1, h2⟩
      · refine .inr ⟨fun hm => ?_, h2⟩
        have hm : p ∈ e.1 :: ks l := hm
        rcases List.mem_cons.mp hm with z | z
        · exact h z.symm
        · exact h1 z
/-- the dict at d has the pairs l, each reached, and tuples as values -/
structure PF (S : Sy) (a b : Nat) (H : Hp) (d : Addr) (l : List ((Nat × Nat) × Addr)) : Prop where
  dict : H d = some (.dT (l.map ent))
  nd : (ks l).Nodup
  rch : ∀ e ∈ l, PR S a b e.1
  val : ∀ e ∈ l, ∃ xs, H e.2 = some (.tup xs) ∧ xs.length ≤ l.length
/-- the list at wl holds tuples with the pairs ws -/
structure WL (H : Hp) (wl : Addr) (ws : List ((Nat × Nat) × Addr)) : Prop where
  lst : H wl = some (.lst (ws.map fun e => V.ref e.2))
  tup : ∀ e ∈ ws, H e.2 = some (.tup (pvv e.1))
theorem PF.same {S : Sy} {a b : Nat} {H H' : Hp} {d : Addr} {l : List ((Nat × Nat) × Addr)} (h : PF S a b H d l) (s : Same H H') : PF S a b H' d l :=
  ⟨s _ _ h.dict, h.nd, h.rch, fun e he => by obtain ⟨xs, h1, h2⟩ := h.val e he; exact ⟨xs, s _ _ h1, h2⟩⟩
theorem WL.same {H H' : Hp} {wl : Addr} {ws : List ((Nat × Nat) × Addr)} (h : WL H wl ws) (s : Same H H') : WL H' wl ws := ⟨s _ _ h.lst, fun e he => s _ _ (h.tup e he)⟩
theorem PF.le {S : Sy} {a b : Nat} {H : Hp} {d : Addr} {l : List ((Nat × Nat) × Addr)} (h : PF S a b H d l) (ok : S.Ok) (ha : a < S.n) (hb : b < S.n) : l.length ≤ 64 := by
  have := pairs_le ok h.nd fun p hp => by
    obtain ⟨e, he, rfl⟩ := List.mem_map.mp hp
    exact (h.rch e he).lt ok ha hb
  rw [List.length_map] at this
  exact this
theorem PF.put {S : Sy} {a b : Nat} {H : Hp} {d : Addr} {l : List ((Nat × Nat) × Addr)} (h : PF S a b H d l) {p : Nat × Nat} {v : Addr} {xs : List V} (hp : p ∉ ks l) (hr : PR S a b p) (hv : H v = some (.tup xs)) (hx : xs.length ≤ l.length + 1) :
    PF S a b (upd H d (.dT (putK (l.map ent) (ky p) (.ref v)))) d (l ++ [(p, v)]) := by
  have hn : valV (l.map ent) (ky p) = none := by
    rcases find_ent p l with ⟨e, he, h1, _⟩ | ⟨_, h2⟩
    · exact absurd (List.mem_map.mpr ⟨e, he, h1⟩) hp
    · exact h2
  refine ⟨?_, ?_, fun e he => ?_, fun e he => ?_⟩
  · rw [upd_same, putK_new _ hn, List.map_append]
    rfl
  · show ((l ++ [(p, v)]).map Prod.fst).Nodup
    rw [List.map_append]
    exact nd_snoc h.nd hp
  · rcases List.mem_append.mp he with he | he
    · exact h.rch e he
    · rw [List.mem_singleton.mp he]
      exact hr
  · rw [List.length_append]
    rcases List.mem_append.mp he with he | he
    · obtain ⟨ys, h1, h2⟩ := h.val e he
      exact ⟨ys, by rw [upd_ne (ne_of h1 h.dict (fun z => nomatch z))]; exact h1, Nat.le_trans h2 (Nat.le_add_right _ _)⟩
    · rw [List.mem_singleton.mp he]
      exact ⟨xs, by rw [upd_ne (ne_of hv h.dict (fun z => nomatch z))]; exact hv, hx⟩
theorem PF.list {S : Sy} {a b : Nat} {H : Hp} {d : Addr} {l : List ((Nat × Nat) × Addr)} (h : PF S a b H d l) {fl : Addr} {ys zs : List V} (hf : H fl = some (.lst ys)) : PF S a b (upd H fl (.lst zs)) d l :=
  ⟨by rw [upd_ne (ne_of h.dict hf (fun z => nomatch z))]; exact h.dict, h.nd, h.rch, fun e he => by
    obtain ⟨xs, h1, h2⟩ := h.val e he
    exact ⟨xs, by rw [upd_ne (ne_of h1 hf (fun z => nomatch z))]; exact h1, h2⟩⟩
theorem WL.dict {H : Hp} {wl d : Addr} {ws : List ((Nat × Nat) × Addr)} {kvs kvs' : List (List Key × V)} (h : WL H wl ws) (hd : H d = some (.dT kvs)) : WL (upd H d (.dT kvs')) wl ws :=
  ⟨by rw [upd_ne (ne_of h.lst hd (fun z => nomatch z))]; exact h.lst, fun e he => by rw [upd_ne (ne_of (h.tup e he) hd (fun z => nomatch z))]; exact h.tup e he⟩
theorem WL.other {H : Hp} {wl fl : Addr} {ws : List ((Nat × Nat) × Addr)} {ys zs : List V} (h : WL H wl ws) (hne : wl ≠ fl) (hf : H fl = some (.lst ys)) : WL (upd H fl (.lst zs)) wl ws :=
  ⟨by rw [upd_ne hne]; exact h.lst, fun e he => by rw [upd_ne (ne_of (h.tup e he) hf (fun z => nomatch z))]; exact h.tup e he⟩
theorem WL.push {H : Hp} {wl : Addr} {ws : List ((Nat × Nat) × Addr)} (h : WL H wl ws) {p : Nat × Nat} {t : Addr} (ht : H t = some (.tup (pvv p))) : WL (upd H wl (.lst (ws.map (fun e => V.ref e.2) ++ [.ref t]))) wl (ws ++ [(p, t)]) := by
  refine ⟨?_, fun e he => ?_⟩
  · rw [upd_same, List.map_append]
    rfl
  · rcases List.mem_append.mp he with he | he
    · rw [upd_ne (ne_of (h.tup e he) h.lst (fun z => nomatch z))]
      exact h.tup e he
    · rw [List.mem_singleton.mp he, upd_ne (ne_of ht h.lst (fun z => nomatch z))]
      exact ht
/-- the first k commands lead from p into ks -/
def Dto (S : Sy) (l : List (Nat × Nat)) (p : Nat × Nat) (k : Nat) : Prop := ∀ c, c < k → c < S.m → (S.step p.1 c, S.step p.2 c) ∈ l
theorem Dto.mono {S : Sy} {l l' : List (Nat × Nat)} {p : Nat × Nat} {k : Nat} (h : Dto S l p k) (hl : ∀ q ∈ l, q ∈ l') : Dto S l' p k := fun c h1 h2 => hl _ (h c h1 h2)
theorem Dto.succ {S : Sy} {l : List (Nat × Nat)} {p : Nat × Nat} {k : Nat} (h : Dto S l p k) (hk : (S.step p.1 k, S.step p.2 k) ∈ l) : Dto S l p (k + 1) := fun c h1 h2 => by
  by_cases e : c = k
  · rw [e]; exact hk
  · exact h c (by omega) h2
end K32
/-! actions.py: pairs_from, counterparts_of, determines. -/
namespace K32
open PySem PySem.Spec PyProof.Rows L2
section
variable {P : Program} {w : World} {K : PySem.W.Frag} {mg : Str → Option Value} {base : Heap}
abbrev sPairs : Stmt := topS 18
abbrev sCtp : Stmt := topS 19
abbrev sDet : Stmt := topS 20
theorem scPairs : FnScope ["system", "one", "other", "found", "waiting", "fresh", "pair", "command", "later"] ["system", "one", "other"] (defScope sPairs) := ⟨rfl, rfl, rfl, by decide +kernel, rfl, by decide +kernel, by decide +kernel⟩
/-- the dict of the pairs that are reached -/
def spPairs : Sp := fun vs H Q _ => ∃ (s : Addr) (S : Sy) (a b : Nat), vs = [.ref s, .int a, .int b] ∧ IsSy H s S ∧ S.Ok ∧ a < S.n ∧ b < S.n ∧
  ∀ (H' : Hp) (d : Addr) (l : List ((Nat × Nat) × Addr)), Same H H' → PF S a b H' d l → Prs S a b (ks l) → Q (.ref d) H'
/-- between the waves -/
structure Wv (S : Sy) (a b : Nat) (H0 H : Hp) (d wl : Addr) (l ws : List ((Nat × Nat) × Addr)) : Prop where
  sm : Same H0 H
  pf : PF S a b H d l
  wl : WL H wl ws
  st : (a, b) ∈ ks l
  sub : ∀ p ∈ ks ws, p ∈ ks l
  cl : ∀ p ∈ ks l, p ∈ ks ws ∨ Dto S (ks l) p S.m
/-- within a wave: the pairs behind the i-th wait still; fr is the fresh list at fl; p is the pair in hand, done to the k-th command -/
structure Wi (S : Sy) (a b : Nat) (H0 H : Hp) (d wl fl : Addr) (l ws fr rest : List ((Nat × Nat) × Addr)) (hand : Option (Nat × Nat)) (k : Nat) (z : Nat) : Prop where
  sm : Same H0 H
  pf : PF S a b H d l
  wl : WL H wl ws
  fl : WL H fl fr
  st : (a, b) ∈ ks l
  sub : ∀ p ∈ ks ws, p ∈ ks l
  subf : ∀ p ∈ ks fr, p ∈ ks l
  len : l.length = z + fr.length
  cl : ∀ p ∈ ks l, p ∈ ks rest ∨ p ∈ ks fr ∨ Dto S (ks l) p S.m ∨ hand = some p
  hd : ∀ p, hand = some p → Dto S (ks l) p k
theorem Wi.same {S : Sy} {a b : Nat} {H0 H H' : Hp} {d wl fl : Addr} {l ws fr rest : List ((Nat × Nat) × Addr)} {hand : Option (Nat × Nat)} {k z : Nat} (h : Wi S a b H0 H d wl fl l ws fr rest hand k z) (s : Same H H') : Wi S a b H0 H' d wl fl l ws fr rest hand k z :=
  ⟨h.sm.trans s, h.pf.same s, h.wl.same s, h.fl.same s, h.st, h.sub, h.subf, h.len, h.cl, h.hd⟩
theorem Wi.next {S : Sy} {a b : Nat} {H0 H : Hp} {d wl fl : Addr} {l ws fr rest : List ((Nat × Nat) × Addr)} {p : Nat × Nat} {k z : Nat} (h : Wi S a b H0 H d wl fl l ws fr rest (some p) k z) (hk : (S.step p.1 k, S.step p.2 k) ∈ ks l) : Wi S a b H0 H d wl fl l ws fr rest (some p) (k + 1) z :=
  ⟨h.sm, h.pf, h.wl, h.fl, h.st, h.sub, h.subf, h.len, h.cl, fun q e => by cases e; exact (h.hd p rfl).succ hk⟩
theorem Wi.add {S : Sy} {a b : Nat} {H0 H : Hp} {d wl fl : Addr} {l ws fr rest : List ((Nat × Nat) × Addr)} {p : Nat × Nat} {k z : Nat} (h : Wi S a b H0 H d wl fl l ws fr rest (some p) k z) (n0 : H0 d = none) (nf : H0 fl = none) (hne : wl ≠ fl) {t v : Addr} {xs : List V}
    (hp : p ∈ ks l) (hkm : k < S.m) (hk : (S.step p.1 k, S.step p.2 k) ∉ ks l) (ht : H t = some (.tup (pvv (S.step p.1 k, S.step p.2 k)))) (hv : H v = some (.tup xs)) (hx : xs.length ≤ l.length + 1) :
    Wi S a b H0 (upd (upd H d (.dT (putK (l.map ent) (ky (S.step p.1 k, S.step p.2 k)) (.ref v)))) fl (.lst (fr.map (fun e => V.ref e.2) ++ [.ref t]))) d wl fl (l ++ [((S.step p.1 k, S.step p.2 k), v)]) ws (fr ++ [((S.step p.1 k, S.step p.2 k), t)]) rest (some p) (k + 1) z := by
  have hr : PR S a b (S.step p.1 k, S.step p.2 k) := by
    obtain ⟨e, he, rfl⟩ := List.mem_map.mp hp
    exact (h.pf.rch e he).step hkm
  have pf1 := h.pf.put hk hr hv hx
  have wl1 := h.wl.dict (kvs' := putK (l.map ent) (ky (S.step p.1 k, S.step p.2 k)) (.ref v)) h.pf.dict
  have fl1 := h.fl.dict (kvs' := putK (l.map ent) (ky (S.step p.1 k, S.step p.2 k)) (.ref v)) h.pf.dict
  have ht1 : upd H d (.dT (putK (l.map ent) (ky (S.step p.1 k, S.step p.2 k)) (.ref v))) t = some (.tup (pvv (S.step p.1 k, S.step p.2 k))) := by
    rw [upd_ne (ne_of ht h.pf.dict (fun z => nomatch z))]
    exact ht
  have hsub : ∀ q ∈ ks l, q ∈ ks (l ++ [((S.step p.1 k, S.step p.2 k), v)]) := fun q hq => by
    show q ∈ (l ++ [((S.step p.1 k, S.step p.2 k), v)]).map Prod.fst
    rw [List.map_append]
    exact List.mem_append_left _ hq
  have hnew : (S.step p.1 k, S.step p.2 k) ∈ ks (l ++ [((S.step p.1 k, S.step p.2 k), v)]) := by
    show _ ∈ (l ++ [((S.step p.1 k, S.step p.2 k), v)]).map Prod.fst
    rw [List.map_append]
    exact List.mem_append_right _ (List.mem_singleton.mpr rfl)
  have hmf : ∀ q, q ∈ ks (fr ++ [((S.step p.1 k, S.step p.2 k), t)]) ↔ q ∈ ks fr ∨ q = (S.step p.1 k, S.step p.2 k) := fun q => by
    show q ∈ (fr ++ [((S.step p.1 k, S.step p.2 k), t)]).map Prod.fst ↔ _
    rw [List.map_append, List.mem_append]
    exact or_congr_right List.mem_singleton
  have hml : ∀ q, q ∈ ks (l ++ [((S.step p.1 k, S.step p.2 k), v)]) → q ∈ ks l ∨ q = (S.step p.1 k, S.step p.2 k) := fun q hq => by
    have hq : q ∈ (l ++ [((S.step p.1 k, S.step p.2 k), v)]).map Prod.fst := hq
    rw [List.map_append, List.mem_append] at hq
    exact hq.imp_right List.mem_singleton.mp
  refine ⟨fun c o e => ?_, pf1.list fl1.lst, wl1.other hne fl1.lst, fl1.push ht1, hsub _ h.st, fun q hq => hsub _ (h.sub q hq), fun q hq => ?_, ?_, fun q hq => ?_, fun q e => ?_⟩
  · rw [upd_ne (ne_of_none e nf), upd_ne (ne_of_none e n0)]
    exact h.sm c o e
  · rcases (hmf q).mp hq with z | z
    · exact hsub _ (h.subf q z)
    · rw [z]; exact hnew
  · rw [List.length_append, List.length_append, h.len]
    rfl
  · rcases hml q hq with z | z
    · rcases h.cl q z with z | z | z | z
      · exact .inl z
      · exact .inr (.inl ((hmf q).mpr (.inl z)))
      · exact .inr (.inr (.inl (z.mono hsub)))
      · exact .inr (.inr (.inr z))
    · exact .inr (.inl ((hmf q).mpr (.inr z)))
  · cases e
    exact ((h.hd p rfl).mono hsub).succ hnew
theorem kPairs (G : Gf mg) (d : Dn K mg "pairs_from" sPairs ["system", "one", "other"]) (cS : Kp P w K mg base 1 "step" spStep) : Kp P w K mg base 2 "pairs_from" spPairs := by
  refine d.keeps scPairs (fun vs H Q E h => ?_) (fun f cdv A outer s H vs Q E hr h => ?_)
  · obtain ⟨sa, S, a, b, rfl, _⟩ := h
    rfl
  · obtain ⟨sa, S, a, b, rfl, hS, ok, ha, hb, q⟩ := h
    have hu := hu_of hr
    refine ⟨_, pss_cons (ps_set (i := 3) scPairs.nd rfl (.inl rfl) (pe_disp1T hu (pe_tup (pa_cons (pv 1) (pa_cons (pv 2) pa_nil))) (pe_tup pa_nil)))
      (pss_cons (ps_set (i := 4) scPairs.nd rfl (.inl rfl) (pe_lst (pa_cons (pe_tup (pa_cons (pv 1) (pa_cons (pv 2) pa_nil))) pa_nil)))
      (pss_cons (ps_while PassesOwn.never (pt_truth (pv 4) (by intro _; rfl))
        (pss_cons (ps_set (i := 5) scPairs.nd rfl (.inl rfl) (pe_lst pa_nil))
        (pss_cons (ps_for PassesOwn.never rfl (pi_list (pv 4)) (pg_name (i := 6) scPairs.nd rfl (.inl rfl))
          (pss_one (ps_for PassesOwn.never rfl (pi_range1 (by rfl) G.range (pa_cons (pe_len (by rfl) G.len (pe_ix ix_tup (pv 0) pe_int (fun _ _ => rfl))) pa_nil)) (pg_name (i := 7) scPairs.nd rfl (.inl rfl))
            (pss_cons (ps_set (i := 8) scPairs.nd rfl (.inl rfl) (pe_tup (pa_cons (pe_k cS hr (by decide) (by rfl) (pa_cons (pv 0) (pa_cons (pe_ix ix_tup (pv 6) pe_int (fun _ _ => rfl)) (pa_cons (pv 7) pa_nil))))
                (pa_cons (pe_k cS hr (by decide) (by rfl) (pa_cons (pv 0) (pa_cons (pe_ix ix_tup (pv 6) pe_int (fun _ _ => rfl)) (pa_cons (pv 7) pa_nil)))) pa_nil))))
            (pss_one (ps_if (pt_cmp (pc_dnotin hu (pv 8) (pv 3)) (by rfl))
              (pss_cons (ps_dput hu (pv 3) (pv 8) (pe_op op_catA (pe_dget hu (pv 3) (pv 6) (fun _ _ => rfl)) (pe_tup (pa_cons (pv 7) pa_nil))) rfl)
              (pss_one (ps_expr (pe_bm PySem.F.plainAttrs_list PySem.F.slot_list_append PySem.F.type_list_append mt_append (pv 5) (pa_cons (pv 8) pa_nil))))) pss_nil))))))
        (pss_one (ps_set (i := 4) scPairs.nd rfl (.inl rfl) (pv 5))))))
      (pss_one (ps_ret (pv 3))))), ?_⟩
    -- found = {(one, other): ()}
    refine fun d hd => ⟨_, rfl, _, rfl, by show 2 ≤ sizeLine; decide, fun t ht => ⟨Nat.zero_le _, fun u hu1 => ⟨?_, t, ky (a, b), rfl, ?_, ?_⟩⟩⟩
    · rw [upd_ne (ne_of_none (H := upd (upd H d (.dT [])) t (.tup (pvv (a, b)))) (by rw [upd_ne (ne_of_none upd_same ht)]; exact upd_same) hu1), upd_ne (ne_of_none upd_same ht)]
      exact upd_same
    · rw [upd_ne (ne_of_none upd_same hu1)]
      exact upd_same
    have dt : d ≠ t := ne_of_none upd_same ht
    have du : d ≠ u := ne_of_none (H := upd (upd H d (.dT [])) t (.tup (pvv (a, b)))) (by rw [upd_ne dt]; exact upd_same) hu1
    -- waiting = [(one, other)]
    refine ⟨_, rfl, _, rfl, by show 2 ≤ sizeLine; decide, fun t2 ht2 => ⟨by show 1 ≤ sizeLine; decide, fun wl hwl => ?_⟩⟩
    generalize hH4 : upd (upd (upd (upd H d (.dT [])) t (.tup [.int a, .int b])) u (.tup [])) d (.dT [(ky (a, b), .ref u)]) = H4 at ht2 hwl ⊢
    have s4 : Same H H4 := fun c o e => by
      have h0 : H t = none := by
        have := ht
        rw [upd_ne dt.symm] at this
        exact this
      have h1 : H u = none := by
        have hut : u ≠ t := (ne_of_none upd_same hu1).symm
        have := hu1
        rw [upd_ne hut, upd_ne du.symm] at this
        exact this
      rw [← hH4, upd_ne (ne_of_none e hd), upd_ne (ne_of_none e h1), upd_ne (ne_of_none e h0), upd_ne (ne_of_none e hd)]
      exact e
    have d4 : H4 d = some (.dT [(ky (a, b), .ref u)]) := by
      rw [← hH4]
      exact upd_same
    have u4 : H4 u = some (.tup []) := by
      rw [← hH4, upd_ne du.symm]
      exact upd_same
    have s5 : Same H4 (upd H4 t2 (.tup [.int a, .int b])) := same_upd ht2
    have s6 := s5.trans (same_upd (o := .lst [.ref t2]) hwl)
    -- the waves
    refine ⟨fun m σ H' => ∃ (wl : Addr) (l ws : List ((Nat × Nat) × Addr)) (v5 v6 v7 v8 : Option V), σ = [some (.ref sa), some (.int a), some (.int b), some (.ref d), some (.ref wl), v5, v6, v7, v8] ∧ Wv S a b H H' d wl l ws ∧ m = 2 * (64 - l.length) + ws.length.min 1,
      ⟨_, wl, [((a, b), u)], [((a, b), t2)], none, none, none, none, rfl, ⟨s4.trans s6, ⟨s6 _ _ d4, by simp [ks], fun e he => ?_, fun e he => ?_⟩, ⟨upd_same, fun e he => ?_⟩, ?_, fun p hp => hp, fun p hp => .inl hp⟩, rfl⟩, fun m σ H' hW => ?_⟩
    · rw [List.mem_singleton.mp he]
      exact PR.start
    · rw [List.mem_singleton.mp he]
      exact ⟨[], s6 _ _ u4, Nat.zero_le _⟩
    · rw [List.mem_singleton.mp he, upd_ne (ne_of_none upd_same hwl)]
      exact upd_same
    · exact List.mem_singleton.mpr rfl
    obtain ⟨wl, l, ws, v5, v6, v7, v8, rfl, wv, hm⟩ := hW
    clear hH4 s4 d4 u4 s5 s6 dt du ht ht2 hwl hu1
    refine ⟨_, rfl, _, .inl ⟨_, SqL.of wv.wl.lst, rfl⟩, ?_⟩
    cases ws with
    | nil =>
      refine ⟨_, rfl, q H' d l wv.sm wv.pf (Prs.of wv.pf.nd wv.st (fun p hp => ?_) fun p hp c hc => ?_)⟩
      · obtain ⟨e, he, rfl⟩ := List.mem_map.mp hp
        exact wv.pf.rch e he
      · rcases wv.cl p hp with z | z
        · simp [ks] at z
        · exact z c hc hc
    | cons e0 ws0 =>
      generalize hws : e0 :: ws0 = ws at wv hm ⊢
      have hm' : m = 2 * (64 - l.length) + 1 := by
        rw [hm, ← hws]
        show _ + min (ws0.length + 1) 1 = _
        omega
      show if (!(ws.map fun e => V.ref e.2).isEmpty) = true then _ else _
      rw [show (!(ws.map fun e => V.ref e.2).isEmpty) = true by rw [← hws]; rfl]
      refine iteT ⟨fun σ' H'' => ∃ (wl' : Addr) (l' ws' : List ((Nat × Nat) × Addr)) (v5 v6 v7 v8 : Option V), σ' = [some (.ref sa), some (.int a), some (.int b), some (.ref d), some (.ref wl'), v5, v6, v7, v8] ∧ Wv S a b H H'' d wl' l' ws' ∧ l'.length = l.length + ws'.length, ?_, ?_⟩
      · rintro σ' H'' ⟨wl', l', ws', w5, w6, w7, w8, rfl, wv', hl'⟩
        have h64 := wv'.pf.le ok ha hb
        refine ⟨_, ?_, wl', l', ws', w5, w6, w7, w8, rfl, wv', rfl⟩
        rw [hm']
        show 2 * (64 - l'.length) + min ws'.length 1 < _
        omega
      -- fresh = []
      refine ⟨Nat.zero_le _, fun fl hfl => ?_⟩
      have s1 : Same H' (upd H' fl (.lst [])) := same_upd hfl
      have nf : H fl = none := wv.sm.free hfl
      have hne : wl ≠ fl := ne_of_none wv.wl.lst hfl
      refine ⟨_, rfl, wl, rfl, ⟨_, SqL.of (s1 _ _ wv.wl.lst)⟩, for_list (K := K) (a := wl) (xs := ws.map fun e => V.ref e.2)
        (fun i σ H1 => ∃ (l1 fr : List ((Nat × Nat) × Addr)) (v6 v7 v8 : Option V), σ = [some (.ref sa), some (.int a), some (.int b), some (.ref d), some (.ref wl), some (.ref fl), v6, v7, v8] ∧ Wi S a b H H1 d wl fl l1 ws fr (ws.drop i) none 0 l.length)
        ⟨l, [], v6, v7, v8, rfl, wv.sm.trans s1, wv.pf.same s1, wv.wl.same s1, ⟨upd_same, fun e he => by simp at he⟩, wv.st, wv.sub, fun p hp => by simp [ks] at hp, rfl, fun p hp => ?_, fun p hp => nomatch hp⟩ (fun i σ H1 _ h => ?_) ?_ ?_⟩
      · rcases wv.cl p hp with z | z
        · exact .inl z
        · exact .inr (.inr (.inl z))
      · obtain ⟨l1, fr, v6, v7, v8, rfl, wi⟩ := h
        exact SqL.of wi.wl.lst
      · rintro i x σ H1 hx ⟨l1, fr, v6, v7, v8, rfl, wi⟩
        rw [List.getElem?_map] at hx
        cases ei : ws[i]? with
        | none => rw [ei] at hx; cases hx
        | some e =>
          rw [ei] at hx
          obtain rfl : V.ref e.2 = x := Option.some.inj hx
          have hmem : e ∈ ws := List.mem_of_getElem? ei
          have hdrop : ws.drop i = e :: ws.drop (i + 1) := by
            obtain ⟨hi, hi2⟩ := List.getElem?_eq_some_iff.mp ei
            rw [List.drop_eq_getElem_cons hi, hi2]
          have hS1 := hS.same wi.sm
          have hmm : S.m ≤ 4 := ok.m4
          refine vl_m hS1 (vl_var rfl) _ ⟨_, rfl, by omega, by omega, ?_⟩
          rw [Int.toNat_natCast]
          refine for_range (lo := 0) (n := S.m) (fun k σ H2 => ∃ (l2 fr : List ((Nat × Nat) × Addr)) (v7 v8 : Option V), σ = [some (.ref sa), some (.int a), some (.int b), some (.ref d), some (.ref wl), some (.ref fl), some (.ref e.2), v7, v8] ∧ Wi S a b H H2 d wl fl l2 ws fr (ws.drop (i + 1)) (some e.1) k l.length)
            ⟨l1, fr, v7, v8, rfl, wi.sm, wi.pf, wi.wl, wi.fl, wi.st, wi.sub, wi.subf, wi.len, fun p hp => ?_, fun p _ c hc => absurd hc (Nat.not_lt_zero c)⟩ ?_ ?_
          · rcases wi.cl p hp with z | z | z | z
            · rw [hdrop] at z
              rcases List.mem_cons.mp (show p ∈ e.1 :: ks (ws.drop (i + 1)) from z) with z | z
              · exact .inr (.inr (.inr (congrArg some z.symm)))
              · exact .inl z
            · exact .inr (.inl z)
            · exact .inr (.inr (.inl z))
            · exact nomatch z
          · rintro k σ H2 hk ⟨l2, fr2, v7, v8, rfl, wk⟩
            rw [Int.zero_add]
            have het := wk.wl.tup e hmem
            have hel : e.1 ∈ ks l2 := wk.sub _ (List.mem_map.mpr ⟨e, hmem, rfl⟩)
            have hrc : PR S a b e.1 := by
              obtain ⟨e2, he2, e3⟩ := List.mem_map.mp hel
              rw [← e3]
              exact wk.pf.rch e2 he2
            obtain ⟨hx1, hx2⟩ := hrc.lt ok ha hb
            have hS2 := hS.same wk.sm
            have h64 := wk.pf.le ok ha hb
            -- later = (..)
            refine ⟨_, rfl, vl_ixT (j := 0) (vl_var rfl) vl_c (SqT.of het) rfl _ ⟨_, rfl, sa, S, e.1.1, k, rfl, hS2, ok, hx1, hk, ?_⟩⟩
            refine ⟨_, rfl, vl_ixT (j := 1) (vl_var rfl) vl_c (SqT.of het) rfl _ ⟨_, rfl, sa, S, e.1.2, k, rfl, hS2, ok, hx2, hk, ?_⟩⟩
            refine ⟨by show 2 ≤ sizeLine; decide, fun t ht => ?_⟩
            have wt := wk.same (same_upd (o := .tup (pvv (S.step e.1.1 k, S.step e.1.2 k))) ht)
            have htt : upd H2 t (.tup (pvv (S.step e.1.1 k, S.step e.1.2 k))) t = some (.tup (pvv (S.step e.1.1 k, S.step e.1.2 k))) := upd_same
            generalize hH3 : upd H2 t (.tup [.int (S.step e.1.1 k : Nat), .int (S.step e.1.2 k : Nat)]) = H3
            replace hH3 : upd H2 t (.tup (pvv (S.step e.1.1 k, S.step e.1.2 k))) = H3 := hH3
            rw [hH3] at wt htt
            -- if later not in found
            refine ⟨_, rfl, _, rfl, d, _, rfl, DGet.t (k := ky (S.step e.1.1 k, S.step e.1.2 k)) wt.pf.dict htt, _, rfl, ?_⟩
            rcases find_ent (S.step e.1.1 k, S.step e.1.2 k) l2 with ⟨e2, he2, h1, h2⟩ | ⟨h1, h2⟩
            · rw [h2]
              exact ⟨l2, fr2, _, _, rfl, wt.next (List.mem_map.mpr ⟨e2, he2, h1⟩)⟩
            · rw [h2]
              -- found[pair] + (command,)
              rcases find_ent e.1 l2 with ⟨e2, he2, g1, g2⟩ | ⟨g1, _⟩
              · obtain ⟨zs, hz1, hz2⟩ := wt.pf.val e2 he2
                have het3 := wt.wl.tup e hmem
                have fin : ∀ (H5 : Hp) (v : Addr) (ys : List V), Same H3 H5 → H5 v = some (.tup ys) → ys.length ≤ l2.length + 1 →
                    Wi S a b H (upd (upd H5 d (.dT (putK (l2.map ent) (ky (S.step e.1.1 k, S.step e.1.2 k)) (.ref v)))) fl (.lst (fr2.map (fun e => V.ref e.2) ++ [.ref t]))) d wl fl (l2 ++ [((S.step e.1.1 k, S.step e.1.2 k), v)]) ws (fr2 ++ [((S.step e.1.1 k, S.step e.1.2 k), t)]) (ws.drop (i + 1)) (some e.1) (k + 1) l.length ∧
                    H5 d = some (.dT (l2.map ent)) ∧ H5 t = some (.tup ((ky (S.step e.1.1 k, S.step e.1.2 k)).map kV)) ∧ (upd H5 d (.dT (putK (l2.map ent) (ky (S.step e.1.1 k, S.step e.1.2 k)) (.ref v)))) fl = some (.lst (fr2.map fun e => V.ref e.2)) ∧ (l2.map ent).length < sizeLine ∧ (fr2.map fun e => V.ref e.2).length < sizeLine := by
                  intro H5 v ys s5 hv hy
                  have w5 := wt.same s5
                  have hl := w5.len
                  exact ⟨w5.add hd nf hne hel hk h1 (s5 _ _ htt) hv hy, w5.pf.dict, s5 _ _ htt, (w5.fl.dict w5.pf.dict).lst, by rw [List.length_map]; exact small1000 (by omega), by rw [List.length_map]; exact small1000 (by omega)⟩
                have hdg : DGet H3 d (.ref e.2) (some (.ref e2.2)) := by
                  have z := DGet.t (k := ky e.1) wt.pf.dict het3
                  rw [g2] at z
                  exact z
                refine ⟨_, rfl, _, rfl, d, .ref e2.2, rfl, hdg, _, rfl, by show 1 ≤ sizeLine; decide, fun u hu => ?_⟩
                have su := same_upd (o := .tup [.int (k : Nat)]) hu
                have hzl : zs.length + 1 ≤ sizeLine := by
                  rw [sizeLine_eq]
                  omega
                refine ⟨e2.2, u, zs, [.int (k : Nat)], rfl, rfl, SqT.of (su _ _ hz1), SqT.of upd_same, hzl, fun hz => ?_, fun _ hz => absurd hz (List.cons_ne_nil _ _), fun _ _ v hv => ?_⟩
                · obtain ⟨w6, f1, f2, f3, f4, f5⟩ := fin _ u [.int (k : Nat)] su upd_same (by show 1 ≤ _; omega)
                  exact ⟨_, rfl, _, rfl, d, _, rfl, DPut.t f1 f2 f4, _, rfl, .inl ⟨rfl, _, SqL.of f3⟩, _, rfl, fl, _, _, rfl, rfl, f3, f5, _, _, _, _, rfl, w6⟩
                · obtain ⟨w6, f1, f2, f3, f4, f5⟩ := fin _ v (zs ++ [.int (k : Nat)]) (su.trans (same_upd hv)) upd_same (by rw [List.length_append]; show zs.length + 1 ≤ _; omega)
                  exact ⟨_, rfl, _, rfl, d, _, rfl, DPut.t f1 f2 f4, _, rfl, .inl ⟨rfl, _, SqL.of f3⟩, _, rfl, fl, _, _, rfl, rfl, f3, f5, _, _, _, _, rfl, w6⟩
              · exact absurd hel g1
          · rintro σ H2 ⟨l2, fr2, v7, v8, rfl, wk⟩
            refine ⟨l2, fr2, _, _, _, rfl, wk.sm, wk.pf, wk.wl, wk.fl, wk.st, wk.sub, wk.subf, wk.len, fun p hp => ?_, fun p hp => nomatch hp⟩
            rcases wk.cl p hp with z | z | z | z
            · exact .inl z
            · exact .inr (.inl z)
            · exact .inr (.inr (.inl z))
            · exact .inr (.inr (.inl (wk.hd p z)))
      · rintro σ H1 ⟨l1, fr, v6, v7, v8, rfl, wi⟩
        rw [List.length_map, List.drop_length] at wi
        refine ⟨_, rfl, fl, l1, fr, _, _, _, _, rfl, ⟨wi.sm, wi.pf, wi.fl, wi.st, wi.subf, fun p hp => ?_⟩, wi.len⟩
        rcases wi.cl p hp with z | z | z | z
        · simp [ks] at z
        · exact .inl z
        · exact .inr z
        · exact nomatch z
/-! ### counterparts_of, determines -/
theorem perm_lift {α β : Type} {f : α → β} : ∀ {ys zs : List β}, ys.Perm zs → ∀ l : List α, l.map f = zs → ∃ l' : List α, l'.Perm l ∧ l'.map f = ys := by
  intro ys zs h
  induction h with
  | nil => exact fun l e => ⟨l, List.Perm.refl _, e⟩
  | @cons x ys zs h ih =>
    intro l e
    cases l with
    | nil => cases e
    | cons a l =>
      rw [List.map_cons] at e
      injection e with e1 e2
      obtain ⟨l', h1, h2⟩ := ih l e2
      exact ⟨a :: l', h1.cons a, by rw [List.map_cons, h2, e1]⟩
  | swap x y l0 =>
    intro l e
    match l, e with
    | a :: b :: l, e =>
      rw [List.map_cons, List.map_cons] at e
      injection e with e1 e2
      injection e2 with e2 e3
      exact ⟨b :: a :: l, List.Perm.swap a b l, by rw [List.map_cons, List.map_cons, e1, e2, e3]⟩
  | trans h1 h2 ih1 ih2 =>
    intro l e
    obtain ⟨l1, k1, k2⟩ := ih2 l e
    obtain ⟨l2, k3, k4⟩ := ih1 l1 k2
    exact ⟨l2, k3.trans k1, k4⟩
theorem keys_fs {H : Hp} : ∀ {l : List ((Nat × Nat) × Addr)} {bs : List Addr}, IsKeys H (l.map ent) bs → ∃ fs : List ((Nat × Nat) × Addr), ks fs = ks l ∧ fs.map Prod.snd = bs ∧ ∀ e ∈ fs, H e.2 = some (.tup (pvv e.1))
  | [], bs, h => by
    have h : Paired _ (([] : List ((Nat × Nat) × Addr)).map ent) bs := h
    rw [List.map_nil] at h
    cases h
    exact ⟨[], rfl, rfl, fun e he => by simp at he⟩
  | e :: l, bs, h => by
    have h : Paired _ ((e :: l).map ent) bs := h
    rw [List.map_cons] at h
    cases h with
    | @cons _ b _ bs' h1 h2 =>
      obtain ⟨fs, k1, k2, k3⟩ := keys_fs (l := l) h2
      refine ⟨(e.1, b) :: fs, ?_, ?_, fun e' he => ?_⟩
      · show e.1 :: ks fs = e.1 :: ks l
        rw [k1]
      · rw [List.map_cons, k2]
      · rcases List.mem_cons.mp he with z | z
        · rw [z]; exact h1
        · exact k3 e' z
theorem Prs.perm {S : Sy} {a b : Nat} {l l' : List (Nat × Nat)} (h : Prs S a b l) (p : l'.Perm l) : Prs S a b l' := ⟨p.nodup_iff.mpr h.nd, fun q => p.mem_iff.trans (h.mem q)⟩
theorem scCtp : FnScope ["system", "one", "other", "found", "state", "first", "second"] ["system", "one", "other"] (defScope sCtp) := ⟨rfl, rfl, rfl, by decide +kernel, rfl, by decide +kernel, by decide +kernel⟩
/-- the rows: of each state a tuple with as many items as pairs begin with it -/
def spCtp : Sp := fun vs H Q _ => ∃ (s : Addr) (S : Sy) (a b : Nat), vs = [.ref s, .int a, .int b] ∧ IsSy H s S ∧ S.Ok ∧ a < S.n ∧ b < S.n ∧
  ∀ (H' : Hp) (p : Addr) (l : List (Nat × Nat)) (rs : List Addr), Same H H' → Prs S a b l → H' p = some (.lst (rs.map V.ref)) → rs.length = S.n → (∀ x r, rs[x]? = some r → ∃ ts, H' r = some (.tup ts) ∧ ts.length = cnt l x) → Q (.ref p) H'
theorem cnt_le (l : List (Nat × Nat)) (x : Nat) : cnt l x ≤ l.length := List.length_filter_le _ _
theorem take_snoc {α : Type} {l : List α} {i : Nat} {x : α} (h : l[i]? = some x) : l.take (i + 1) = l.take i ++ [x] := by
  rw [List.take_add_one, h]
  rfl
theorem cnt_take {fs : List ((Nat × Nat) × Addr)} {j : Nat} {e : (Nat × Nat) × Addr} (h : fs[j]? = some e) (x : Nat) : cnt (ks (fs.take (j + 1))) x = cnt (ks (fs.take j)) x + if e.1.1 = x then 1 else 0 := by
  unfold cnt
  rw [take_snoc h]
  show ((List.map Prod.fst (fs.take j ++ [e])).filter _).length = _
  rw [List.map_append, List.filter_append, List.length_append]
  congr 1
  show (([e.1]).filter fun p => decide (p.1 = x)).length = _
  rw [List.filter_cons]
  by_cases z : e.1.1 = x
  · rw [if_pos (decide_eq_true z), if_pos z]
    rfl
  · rw [if_neg (by simp [z]), if_neg z]
    rfl
theorem kCtp (G : Gf mg) (d : Dn K mg "counterparts_of" sCtp ["system", "one", "other"]) (cP : Kp P w K mg base 2 "pairs_from" spPairs) (cO : Kp P w K mg base 1 "states_of" spStatesOf) : Kp P w K mg base 3 "counterparts_of" spCtp := by
  refine d.keeps scCtp (fun vs H Q E h => ?_) (fun f cdv A outer s H vs Q E hr h => ?_)
  · obtain ⟨sa, S, a, b, rfl, _⟩ := h
    rfl
  · obtain ⟨sa, S, a, b, rfl, hS, ok, ha, hb, q⟩ := h
    refine ⟨_, pss_cons (ps_set (i := 3) scCtp.nd rfl (.inr rfl) (pe_callB (cr_sortedDT rfl) (by rfl) G.sorted (by decide +kernel) (pa_cons (pe_k cP hr (by decide) (by rfl) (pa_cons (pv 0) (pa_cons (pv 1) (pa_cons (pv 2) pa_nil)))) pa_nil)))
      (pss_one (ps_ret (pe_lc (own := [("state", 4)]) (te := tThen (tLc (iList K (tVar 3)) (gTup K 2 (gCons (gName 5) (gCons (gName 6) gNil))) (tTest (tOp rEq (tVar 5) (tVar 4))) (tVar 6) [5, 6]) (kTup K)) (by rfl) scCtp.nd (pi_list (pe_k cO hr (by decide) (by rfl) (pa_cons (pv 0) pa_nil)))
        (blkOk_by (own := [("state", 4)]) (N := ["system", "one", "other", "found", "state", "first", "second"]) (sc := defScope sCtp) (by decide +kernel)) (fun _ _ _ _ _ => pg_name (i := 4) scCtp.nd rfl (Or.inr rfl)) (fun _ _ _ _ _ => pts_nil)
        (fun _ _ _ _ _ => pe_tupleOf (by rfl) G.tuple (pe_lc (own := [("first", 5), ("second", 6)]) (by rfl) scCtp.nd (pi_list (pv 3)) (blkOk_by (own := [("first", 5), ("second", 6)]) (N := ["system", "one", "other", "found", "state", "first", "second"]) (sc := relS { kind := .function, names := [(".0", .local), ("state", .cell), ("tuple", .globalImplicit), ("found", .free)], isGenerator := false, isCoroutine := false } (defScope sCtp)) (by decide +kernel))
          (fun _ _ _ _ _ => pg_tup rfl (pgs_cons (pg_name (i := 5) scCtp.nd rfl (Or.inl rfl)) (pgs_cons (pg_name (i := 6) scCtp.nd rfl (Or.inl rfl)) pgs_nil))) (fun _ _ _ _ _ => pts_one (pt_cmpR op_eq (pv 5) (pv 4) (nomark _))) (fun _ _ _ _ _ => pv 6)))))), ?_⟩
    -- found = sorted(..)
    refine ⟨_, rfl, _, rfl, _, rfl, sa, S, a, b, rfl, hS, ok, ha, hb, fun H1 dd l sm1 pf pr => ⟨dd, l.map ent, rfl, .inl pf.dict, fun p hp => ?_, fun bs ys fl hk hperm hfl => ?_⟩⟩
    · obtain ⟨e, _, rfl⟩ := List.mem_map.mp hp
      exact ⟨_, _, rfl⟩
    obtain ⟨fs0, k1, k2, k3⟩ := keys_fs hk
    obtain ⟨fs, k4, k5⟩ := perm_lift hperm fs0 k2
    have hpr : Prs S a b (ks fs) := pr.perm (k1 ▸ k4.map Prod.fst)
    have s2 : Same H1 (upd H1 fl (.lst (ys.map V.ref))) := same_upd hfl
    have wl2 : WL (upd H1 fl (.lst (ys.map V.ref))) fl fs := ⟨by rw [upd_same, ← k5, List.map_map]; rfl, fun e he => s2 _ _ (k3 e (k4.mem_iff.mp he))⟩
    generalize upd H1 fl (.lst (ys.map V.ref)) = H2 at s2 wl2 ⊢
    have sm2 := sm1.trans s2
    have hfs : fs.length ≤ 64 := by
      have := pairs_le ok hpr.nd fun p hp => ((hpr.mem p).mp hp).lt ok ha hb
      rw [List.length_map] at this
      exact this
    have hn8 := ok.n8
    -- the rows
    refine ⟨_, rfl, sa, S, rfl, hS.same sm2, ok, fun sl hsl => ⟨sl, rfl, ⟨_, SqL.of upd_same⟩, fun D hD => ?_⟩⟩
    have s3 : Same H2 (upd H2 sl (.lst (nis (List.range S.n)))) := same_upd hsl
    have e3 : upd H2 sl (.lst (nis (List.range S.n))) sl = some (.lst (nis (List.range S.n))) := upd_same
    generalize upd H2 sl (.lst (nis (List.range S.n))) = H3 at s3 e3 hD ⊢
    refine lc_list (K := K) (a := sl) (xs := nis (List.range S.n)) (fun i H4 => Same H3 H4 ∧ ∃ rs : List Addr, H4 D = some (.lst (rs.map V.ref)) ∧ rs.length = i ∧ ∀ x r, rs[x]? = some r → ∃ ts, H4 r = some (.tup ts) ∧ ts.length = cnt (ks fs) x)
      ⟨same_upd hD, [], upd_same, rfl, fun x r e => by simp at e⟩ (fun i H4 _ h => SqL.of (h.1 _ _ e3)) ?_ ?_
    · rintro i y H4 hi ⟨s4, rs, eD, hrl, hrs⟩
      obtain ⟨x, hx, rfl⟩ := of_nis_get hi
      obtain ⟨hx1, hx2⟩ := List.getElem?_eq_some_iff.mp hx
      rw [List.length_range] at hx1
      rw [List.getElem_range] at hx2
      subst hx2
      have w4 := (wl2.same s3).same s4
      refine ⟨rfl, _, rfl, fl, rfl, ⟨_, SqL.of w4.lst⟩, fun D2 hD2 => ?_⟩
      have hne : D ≠ D2 := ne_of_none eD hD2
      refine lc_list (K := K) (a := fl) (xs := fs.map fun e => V.ref e.2) (fun j H5 => Same H4 H5 ∧ ∃ acc, H5 D2 = some (.lst acc) ∧ acc.length = cnt (ks (fs.take j)) i) ⟨same_upd hD2, [], upd_same, rfl⟩ (fun j H5 _ h => SqL.of (h.1 _ _ w4.lst)) ?_ ?_
      · rintro j y H5 hj ⟨s5, acc, ea, hacc⟩
        rw [List.getElem?_map] at hj
        cases ej : fs[j]? with
        | none => rw [ej] at hj; cases hj
        | some e =>
          rw [ej] at hj
          obtain rfl : V.ref e.2 = y := Option.some.inj hj
          have het := s5 _ _ (w4.tup e (List.mem_of_getElem? ej))
          have hc := cnt_take ej i
          refine ⟨e.2, _, rfl, SqT.of het, rfl, _, _, rfl, _, _, rfl, rfl, rfl, _, rfl, _, rfl, rfl, _, rfl, ?_⟩
          by_cases z : e.1.1 = i
          · rw [decide_eq_true (show V.int (e.1.1 : Int) = V.int (i : Int) by rw [z])]
            rw [if_pos z] at hc
            refine ⟨_, rfl, acc, ea, ?_, fun c o ec => ?_, _, upd_same, ?_⟩
            · have h1 := cnt_le (ks (fs.take j)) i
              rw [List.length_map, List.length_take] at h1
              exact small1000 (by omega)
            · rw [upd_ne (ne_of_none ec hD2)]
              exact s5 c o ec
            · rw [List.length_append, hacc, hc]
              rfl
          · rw [decide_eq_false (show ¬ V.int (e.1.1 : Int) = V.int (i : Int) from fun q => z (by have := V.int.inj q; omega))]
            rw [if_neg z] at hc
            exact ⟨s5, acc, ea, by rw [hacc, hc]; rfl⟩
      · rintro H5 ⟨s5, acc, ea, hacc⟩
        rw [List.length_map, List.take_length] at hacc
        refine .inl ⟨D2, acc, rfl, SqL.of ea, fun t ht => ?_⟩
        have s6 : Same H5 (upd H5 t (.tup acc)) := same_upd ht
        have e6 : upd H5 t (.tup acc) t = some (.tup acc) := upd_same
        generalize upd H5 t (.tup acc) = H6 at s6 e6 ⊢
        have s46 := s5.trans s6
        refine ⟨_, s46 _ _ eD, ?_, fun c o ec => ?_, rs ++ [t], ?_, ?_, fun x r er => ?_⟩
        · rw [List.length_map]
          exact small1000 (by omega)
        · rw [upd_ne (ne_of_none ec hD)]
          exact s46 c o (s4 c o ec)
        · rw [upd_same, List.map_append]
          rfl
        · rw [List.length_append, hrl]
          rfl
        · have tD : ∀ {c : Addr} {ts : List V}, H6 c = some (.tup ts) → upd H6 D (.lst (rs.map V.ref ++ [.ref t])) c = some (.tup ts) := fun {c ts} hc => by
            rw [upd_ne (ne_of hc (s46 _ _ eD) (fun z => nomatch z))]
            exact hc
          by_cases hx : x < rs.length
          · rw [List.getElem?_append_left hx] at er
            obtain ⟨ts, h1, h2⟩ := hrs x r er
            exact ⟨ts, tD (s46 _ _ h1), h2⟩
          · rw [List.getElem?_append_right (by omega)] at er
            have hx0 : x - rs.length = 0 := by
              have := (List.getElem?_eq_some_iff.mp er).1
              rw [List.length_singleton] at this
              omega
            rw [hx0] at er
            obtain rfl : t = r := Option.some.inj er
            refine ⟨acc, tD e6, ?_⟩
            rw [hacc, show x = i by omega]
    · rintro H4 ⟨s4, rs, eD, hrl, hrs⟩
      rw [nis_len, List.length_range] at hrl
      exact q H4 D (ks fs) rs (sm2.trans (s3.trans s4)) hpr eD hrl hrs
theorem scDet : FnScope ["system", "one", "other", "row"] ["system", "one", "other"] (defScope sDet) := ⟨rfl, rfl, rfl, by decide +kernel, rfl, by decide +kernel, by decide +kernel⟩
def spDet : Sp := fun vs H Q _ => ∃ (s : Addr) (S : Sy) (a b : Nat), vs = [.ref s, .int a, .int b] ∧ IsSy H s S ∧ S.Ok ∧ a < S.n ∧ b < S.n ∧ ∀ (H' : Hp) (r : Bool), Same H H' → (r = true ↔ Det S a b) → Q (.bl r) H'
theorem kDet (G : Gf mg) (d : Dn K mg "determines" sDet ["system", "one", "other"]) (cC : Kp P w K mg base 3 "counterparts_of" spCtp) : Kp P w K mg base 4 "determines" spDet := by
  refine d.keeps scDet (fun vs H Q E h => ?_) (fun f cdv A outer s H vs Q E hr h => ?_)
  · obtain ⟨sa, S, a, b, rfl, _⟩ := h
    rfl
  · obtain ⟨sa, S, a, b, rfl, hS, ok, ha, hb, q⟩ := h
    refine ⟨_, pss_one (ps_ret (pe_cmpR op_eq (pe_callB (cr_max rfl) (by rfl) G.max (by decide +kernel) (pa_cons
      (pe_lc (own := [("row", 3)]) (te := tCB (rLn K) (tCons (tVar 3) tNil)) (by rfl) scDet.nd (pi_list (pe_k cC hr (by decide) (by rfl) (pa_cons (pv 0) (pa_cons (pv 1) (pa_cons (pv 2) pa_nil)))))
        (blkOk_by (own := [("row", 3)]) (N := ["system", "one", "other", "row"]) (sc := defScope sDet) (by decide +kernel)) (fun _ _ _ _ _ => pg_name (i := 3) scDet.nd rfl (Or.inl rfl)) (fun _ _ _ _ _ => pts_nil)
        (fun _ _ _ _ _ => pe_len (by rfl) G.len (pv 3))) pa_nil)) pe_int (nomark _))), ?_⟩
    have hn1 := ok.n1
    have hn8 := ok.n8
    refine ⟨_, rfl, _, rfl, _, rfl, sa, S, a, b, rfl, hS, ok, ha, hb, fun H1 p l rs sm hpr hp hrl hrs => ⟨p, rfl, ⟨_, SqL.of hp⟩, fun D hD => lc_list (K := K) (a := p) (xs := rs.map V.ref)
      (fun i H2 => Same H1 H2 ∧ H2 D = some (.lst (((List.range i).map fun x => (cnt l x : Int)).map V.int))) ⟨same_upd hD, upd_same⟩ (fun i H2 _ h => SqL.of (h.1 _ _ hp)) ?_ ?_⟩⟩
    · rintro i y H2 hi ⟨s2, eD⟩
      rw [List.getElem?_map] at hi
      cases er : rs[i]? with
      | none => rw [er] at hi; cases hi
      | some r =>
        rw [er] at hi
        obtain rfl : V.ref r = y := Option.some.inj hi
        obtain ⟨ts, h1, h2⟩ := hrs i r er
        have hil := (List.getElem?_eq_some_iff.mp er).1
        refine ⟨rfl, ?_⟩
        refine vl_lenT (vl_var rfl) (SqT.of (s2 _ _ h1)) _ ⟨_, eD, ?_, fun c o e => ?_, ?_⟩
        · rw [List.length_map, List.length_map, List.length_range]
          exact small1000 (by omega)
        · rw [upd_ne (ne_of_none e hD)]
          exact s2 c o e
        · rw [upd_same, List.range_succ, List.map_append, List.map_append, h2]
          rfl
    · rintro H2 ⟨s2, eD⟩
      rw [List.length_map, hrl] at eD
      refine ⟨D, (List.range S.n).map fun x => (cnt l x : Int), rfl, SqL.of eD, ?_, fun m hm hle => ⟨rfl, ?_⟩⟩
      · rw [List.length_map, List.length_range]
        omega
      · refine q H2 _ (sm.trans s2) ?_
        rw [decide_eq_true_iff, det_iff ok ha hb hpr]
        have hle' : ∀ x, x < S.n → (cnt l x : Int) ≤ m := fun x hx => hle _ (List.mem_map.mpr ⟨x, List.mem_range.mpr hx, rfl⟩)
        constructor
        · intro e x hx
          have e' : m = 1 := V.int.inj e
          have := hle' x hx
          omega
        · intro hc
          obtain ⟨x, hx, e⟩ := List.mem_map.mp hm
          have h1 := hc x (List.mem_range.mp hx)
          have h2 := hle' a ha
          have h3 := cnt_pos hpr
          have : m = 1 := by omega
          rw [this]
end
end K32
/-! reach.py: reached, reachable_of. -/
namespace K32
open PySem PySem.Spec PyProof.Rows L2
section
variable {P : Program} {w : World} {K : PySem.W.Frag} {mg : Str → Option Value} {base : Heap}
abbrev sRchd : Stmt := topS 22
abbrev sRchb : Stmt := topS 23
def en1 (e : Nat × Addr) : Key × V := (Sum.inl (e.1 : Int), .ref e.2)
abbrev k1 (l : List (Nat × Addr)) : List Nat := l.map Prod.fst
theorem find_en1 (x : Nat) : ∀ l : List (Nat × Addr), (∃ e ∈ l, e.1 = x ∧ valV (l.map en1) (Sum.inl (x : Int)) = some (.ref e.2)) ∨ (x ∉ k1 l ∧ valV (l.map en1) (Sum.inl (x : Int)) = none)
  | [] => .inr ⟨by simp, rfl⟩
  | e :: l => by
    by_cases h : e.1 = x
    · refine .inl ⟨e, List.mem_cons_self, h, ?_⟩
      rw [List.map_cons]
      exact valV_pos (p := en1 e) (by show (Sum.inl (e.1 : Int) : Key) = Sum.inl (x : Int); rw [h])
    · have hne : ¬ (en1 e).1 = Sum.inl (x : Int) := fun z => h (by have := Sum.inl.inj z; omega)
      rw [List.map_cons, valV_neg hne]
      rcases find_en1 x l with ⟨e', he, h1, h2⟩ | ⟨h1, h2⟩
      · exact .inl ⟨e', List.mem_cons_of_mem _ he, h1, h2⟩
      · refine .inr ⟨fun hm => ?_, h2⟩
        have hm : x ∈ e.1 :: k1 l := hm
        rcases List.mem_cons.mp hm with z | z
        · exact h z.symm
        · exact h1 z
/-- the dict at d: each state with a sequence that leads to it -/
structure RF (S : Sy) (x0 : Nat) (H : Hp) (d : Addr) (l : List (Nat × Addr)) : Prop where
  dict : H d = some (.dK (l.map en1))
  nd : (k1 l).Nodup
  val : ∀ e ∈ l, ∃ q, Sq S q ∧ S.led x0 q = e.1 ∧ H e.2 = some (.tup (nis q)) ∧ q.length ≤ l.length
theorem RF.same {S : Sy} {x0 : Nat} {H H' : Hp} {d : Addr} {l : List (Nat × Addr)} (h : RF S x0 H d l) (s : Same H H') : RF S x0 H' d l :=
  ⟨s _ _ h.dict, h.nd, fun e he => by obtain ⟨q, h1, h2, h3, h4⟩ := h.val e he; exact ⟨q, h1, h2, s _ _ h3, h4⟩⟩
theorem RF.lt {S : Sy} {x0 : Nat} {H : Hp} {d : Addr} {l : List (Nat × Addr)} (h : RF S x0 H d l) (ok : S.Ok) (hx : x0 < S.n) {x : Nat} (hm : x ∈ k1 l) : x < S.n := by
  obtain ⟨e, he, rfl⟩ := List.mem_map.mp hm
  obtain ⟨q, h1, h2, _⟩ := h.val e he
  rw [← h2]
  exact ok.led_lt hx h1
theorem RF.le {S : Sy} {x0 : Nat} {H : Hp} {d : Addr} {l : List (Nat × Addr)} (h : RF S x0 H d l) (ok : S.Ok) (hx : x0 < S.n) : l.length ≤ 8 := by
  have := states_le ok h.nd fun x hm => h.lt ok hx hm
  rw [List.length_map] at this
  exact this
theorem RF.put {S : Sy} {x0 : Nat} {H : Hp} {d : Addr} {l : List (Nat × Addr)} (h : RF S x0 H d l) {y : Nat} {v : Addr} {q : List Nat} (hp : y ∉ k1 l) (hq : Sq S q) (hl : S.led x0 q = y) (hv : H v = some (.tup (nis q))) (hx : q.length ≤ l.length + 1) :
    RF S x0 (upd H d (.dK (putK (l.map en1) (Sum.inl (y : Int)) (.ref v)))) d (l ++ [(y, v)]) := by
  have hn : valV (l.map en1) (Sum.inl (y : Int)) = none := by
    rcases find_en1 y l with ⟨e, he, h1, _⟩ | ⟨_, h2⟩
    · exact absurd (List.mem_map.mpr ⟨e, he, h1⟩) hp
    · exact h2
  refine ⟨?_, ?_, fun e he => ?_⟩
  · rw [upd_same, putK_new _ hn, List.map_append]
    rfl
  · show ((l ++ [(y, v)]).map Prod.fst).Nodup
    rw [List.map_append]
    exact nd_snoc h.nd hp
  · rw [List.length_append]
    rcases List.mem_append.mp he with he | he
    · obtain ⟨q, h1, h2, h3, h4⟩ := h.val e he
      exact ⟨q, h1, h2, by rw [upd_ne (ne_of h3 h.dict (fun z => nomatch z))]; exact h3, Nat.le_trans h4 (Nat.le_add_right _ _)⟩
    · rw [List.mem_singleton.mp he]
      exact ⟨q, hq, hl, by rw [upd_ne (ne_of hv h.dict (fun z => nomatch z))]; exact hv, hx⟩
theorem RF.list {S : Sy} {x0 : Nat} {H : Hp} {d : Addr} {l : List (Nat × Addr)} (h : RF S x0 H d l) {fl : Addr} {ys zs : List V} (hf : H fl = some (.lst ys)) : RF S x0 (upd H fl (.lst zs)) d l :=
  ⟨by rw [upd_ne (ne_of h.dict hf (fun z => nomatch z))]; exact h.dict, h.nd, fun e he => by
    obtain ⟨q, h1, h2, h3, h4⟩ := h.val e he
    exact ⟨q, h1, h2, by rw [upd_ne (ne_of h3 hf (fun z => nomatch z))]; exact h3, h4⟩⟩
/-- the first k commands lead from x into ks -/
def Eto (S : Sy) (l : List Nat) (x : Nat) (k : Nat) : Prop := ∀ c, c < k → c < S.m → S.step x c ∈ l
theorem Eto.mono {S : Sy} {l l' : List Nat} {x : Nat} {k : Nat} (h : Eto S l x k) (hl : ∀ q ∈ l, q ∈ l') : Eto S l' x k := fun c h1 h2 => hl _ (h c h1 h2)
theorem Eto.succ {S : Sy} {l : List Nat} {x : Nat} {k : Nat} (h : Eto S l x k) (hk : S.step x k ∈ l) : Eto S l x (k + 1) := fun c h1 h2 => by
  by_cases e : c = k
  · rw [e]; exact hk
  · exact h c (by omega) h2
/-- hand: the state in hand, done to the k-th command -/
structure Ri (S : Sy) (x0 : Nat) (H0 H : Hp) (d wl : Addr) (l : List (Nat × Addr)) (ws : List Nat) (hand : Option Nat) (k : Nat) : Prop where
  sm : Same H0 H
  rf : RF S x0 H d l
  wl : H wl = some (.lst (nis ws))
  st : x0 ∈ k1 l
  sub : ∀ x ∈ ws, x ∈ k1 l
  cl : ∀ x ∈ k1 l, x ∈ ws ∨ Eto S (k1 l) x S.m ∨ hand = some x
  hd : ∀ x, hand = some x → x ∈ k1 l ∧ Eto S (k1 l) x k
theorem Ri.same {S : Sy} {x0 : Nat} {H0 H H' : Hp} {d wl : Addr} {l : List (Nat × Addr)} {ws : List Nat} {hand : Option Nat} {k : Nat} (h : Ri S x0 H0 H d wl l ws hand k) (s : Same H H') : Ri S x0 H0 H' d wl l ws hand k :=
  ⟨h.sm.trans s, h.rf.same s, s _ _ h.wl, h.st, h.sub, h.cl, h.hd⟩
theorem Ri.next {S : Sy} {x0 : Nat} {H0 H : Hp} {d wl : Addr} {l : List (Nat × Addr)} {ws : List Nat} {x : Nat} {k : Nat} (h : Ri S x0 H0 H d wl l ws (some x) k) (hk : S.step x k ∈ k1 l) : Ri S x0 H0 H d wl l ws (some x) (k + 1) :=
  ⟨h.sm, h.rf, h.wl, h.st, h.sub, h.cl, fun y e => by cases e; exact ⟨(h.hd x rfl).1, (h.hd x rfl).2.succ hk⟩⟩
theorem Ri.add {S : Sy} {x0 : Nat} {H0 H : Hp} {d wl : Addr} {l : List (Nat × Addr)} {ws : List Nat} {x : Nat} {k : Nat} (h : Ri S x0 H0 H d wl l ws (some x) k) (n0 : H0 d = none) (nf : H0 wl = none) {v : Addr} {q : List Nat}
    (hk : S.step x k ∉ k1 l) (hq : Sq S q) (hl : S.led x0 q = S.step x k) (hv : H v = some (.tup (nis q))) (hx : q.length ≤ l.length + 1) :
    Ri S x0 H0 (upd (upd H d (.dK (putK (l.map en1) (Sum.inl (S.step x k : Nat)) (.ref v)))) wl (.lst (nis ws ++ [.int (S.step x k : Nat)]))) d wl (l ++ [(S.step x k, v)]) (ws ++ [S.step x k]) (some x) (k + 1) := by
  have rf1 := h.rf.put hk hq hl hv hx
  have wl1 : upd H d (.dK (putK (l.map en1) (Sum.inl (S.step x k : Nat)) (.ref v))) wl = some (.lst (nis ws)) := by
    rw [upd_ne (ne_of h.wl h.rf.dict (fun z => nomatch z))]
    exact h.wl
  have hsub : ∀ y ∈ k1 l, y ∈ k1 (l ++ [(S.step x k, v)]) := fun y hy => by
    show y ∈ (l ++ [(S.step x k, v)]).map Prod.fst
    rw [List.map_append]
    exact List.mem_append_left _ hy
  have hnew : S.step x k ∈ k1 (l ++ [(S.step x k, v)]) := by
    show _ ∈ (l ++ [(S.step x k, v)]).map Prod.fst
    rw [List.map_append]
    exact List.mem_append_right _ (List.mem_singleton.mpr rfl)
  refine ⟨fun c o e => ?_, rf1.list wl1, ?_, hsub _ h.st, fun y hy => ?_, fun y hy => ?_, fun y e => ?_⟩
  · rw [upd_ne (ne_of_none e nf), upd_ne (ne_of_none e n0)]
    exact h.sm c o e
  · rw [upd_same]
    show _ = some (HO.lst ((ws ++ [S.step x k]).map _))
    rw [List.map_append]
    rfl
  · rcases List.mem_append.mp hy with z | z
    · exact hsub _ (h.sub y z)
    · rw [List.mem_singleton.mp z]; exact hnew
  · have hy : y ∈ (l ++ [(S.step x k, v)]).map Prod.fst := hy
    rw [List.map_append, List.mem_append] at hy
    rcases hy with z | z
    · rcases h.cl y z with z | z | z
      · exact .inl (List.mem_append_left _ z)
      · exact .inr (.inl (z.mono hsub))
      · exact .inr (.inr z)
    · exact .inl (List.mem_append_right _ (List.mem_singleton.mpr (List.mem_singleton.mp z)))
  · cases e
    exact ⟨hsub _ (h.hd x rfl).1, ((h.hd x rfl).2.mono hsub).succ hnew⟩
theorem scRchd : FnScope ["system", "state", "found", "waiting", "here", "command", "later"] ["system", "state"] (defScope sRchd) := ⟨rfl, rfl, rfl, by decide +kernel, rfl, by decide +kernel, by decide +kernel⟩
def spRchd : Sp := fun vs H Q _ => ∃ (s : Addr) (S : Sy) (x0 : Nat), vs = [.ref s, .int x0] ∧ IsSy H s S ∧ S.Ok ∧ x0 < S.n ∧
  ∀ (H' : Hp) (d : Addr) (l : List (Nat × Addr)), Same H H' → RF S x0 H' d l → (∀ y, y ∈ k1 l ↔ ∃ q, Sq S q ∧ S.led x0 q = y) → Q (.ref d) H'
theorem kRchd (G : Gf mg) (d : Dn K mg "reached" sRchd ["system", "state"]) (cS : Kp P w K mg base 1 "step" spStep) : Kp P w K mg base 2 "reached" spRchd := by
  refine d.keeps scRchd (fun vs H Q E h => ?_) (fun f cdv A outer s H vs Q E hr h => ?_)
  · obtain ⟨sa, S, x0, rfl, _⟩ := h
    rfl
  · obtain ⟨sa, S, x0, rfl, hS, ok, hx0, q⟩ := h
    have hu := hu_of hr
    refine ⟨_, pss_cons (ps_set (i := 2) scRchd.nd rfl (.inl rfl) (pe_disp (pps_cons (pv 1) (pe_tup pa_nil) pps_nil) (by rfl) (by rfl) (fun z => by cases z) (by decide)))
      (pss_cons (ps_set (i := 3) scRchd.nd rfl (.inl rfl) (pe_lst (pa_cons (pv 1) pa_nil)))
      (pss_cons (ps_while PassesOwn.never (pt_cmpR op_gt (pe_len (by rfl) G.len (pv 3)) pe_int (nomark _))
        (pss_cons (ps_set (i := 4) scRchd.nd rfl (.inl rfl) (pe_bm PySem.F.plainAttrs_list PySem.F.slot_list_pop PySem.F.type_list_pop mt_popAt (pv 3) (pa_cons pe_int pa_nil)))
        (pss_one (ps_for PassesOwn.never rfl (pi_range1 (by rfl) G.range (pa_cons (pe_len (by rfl) G.len (pe_ix ix_tup (pv 0) pe_int (fun _ _ => rfl))) pa_nil)) (pg_name (i := 5) scRchd.nd rfl (.inl rfl))
            (pss_cons (ps_set (i := 6) scRchd.nd rfl (.inl rfl) (pe_k cS hr (by decide) (by rfl) (pa_cons (pv 0) (pa_cons (pv 4) (pa_cons (pv 5) pa_nil)))))
            (pss_one (ps_if (pt_cmp (pc_dnotin hu (pv 6) (pv 2)) (by rfl))
              (pss_cons (ps_dput hu (pv 2) (pv 6) (pe_op op_catA (pe_dget hu (pv 2) (pv 4) (fun _ _ => rfl)) (pe_tup (pa_cons (pv 5) pa_nil))) rfl)
              (pss_one (ps_expr (pe_bm PySem.F.plainAttrs_list PySem.F.slot_list_append PySem.F.type_list_append mt_append (pv 3) (pa_cons (pv 6) pa_nil))))) pss_nil)))))))
      (pss_one (ps_ret (pv 2))))), ?_⟩
    -- found = {state: ()}, waiting = [state]
    refine fun dd hd => ⟨_, rfl, Nat.zero_le _, fun u hu1 => ⟨?_, [(Sum.inl (x0 : Int), .ref u)], rfl, by show 1 ≤ 15; decide, ?_⟩⟩
    · rw [upd_ne (ne_of_none upd_same hu1)]
      exact upd_same
    have du : dd ≠ u := ne_of_none upd_same hu1
    generalize hH1 : upd (upd (upd H dd (.dK [])) u (.tup [])) dd (.dK (mergeK [] [(Sum.inl (x0 : Int), .ref u)])) = H1
    have s1 : Same H H1 := fun c o e => by
      have h1 : H u = none := by
        have := hu1
        rw [upd_ne du.symm] at this
        exact this
      rw [← hH1, upd_ne (ne_of_none e hd), upd_ne (ne_of_none e h1), upd_ne (ne_of_none e hd)]
      exact e
    have d1 : H1 dd = some (.dK [(Sum.inl (x0 : Int), .ref u)]) := by
      rw [← hH1, upd_same]
      rfl
    have u1 : H1 u = some (.tup []) := by
      rw [← hH1, upd_ne du.symm, upd_same]
    refine ⟨_, rfl, by show 1 ≤ sizeLine; decide, fun wl hwl => ?_⟩
    have s2 : Same H1 (upd H1 wl (.lst [.int x0])) := same_upd hwl
    have nf : H wl = none := s1.free hwl
    refine ⟨fun m σ H' => ∃ (l : List (Nat × Addr)) (ws : List Nat) (v4 v5 v6 : Option V), σ = [some (.ref sa), some (.int x0), some (.ref dd), some (.ref wl), v4, v5, v6] ∧ Ri S x0 H H' dd wl l ws none 0 ∧ ws.length ≤ l.length ∧ m = 2 * (8 - l.length) + ws.length,
      ⟨_, [(x0, u)], [x0], none, none, none, rfl, ⟨s1.trans s2, ⟨s2 _ _ d1, by simp [k1], fun e he => ?_⟩, upd_same, List.mem_singleton.mpr rfl, fun x hx => hx, fun x hx => .inl hx, fun x hx => nomatch hx⟩, Nat.le_refl _, rfl⟩, fun m σ H' hW => ?_⟩
    · rw [List.mem_singleton.mp he]
      exact ⟨[], Sq.nil, rfl, s2 _ _ u1, Nat.zero_le _⟩
    obtain ⟨l, ws, v4, v5, v6, rfl, ri, hwl2, hm⟩ := hW
    clear hH1 s1 d1 u1 s2 du hwl hu1
    refine vl_lenL (vl_var rfl) (SqL.of ri.wl) _ ⟨_, _, rfl, rfl, _, rfl, ?_⟩
    cases ws with
    | nil =>
      refine iteDF (by simp) ⟨_, rfl, q H' dd l ri.sm ri.rf fun y => ⟨fun hy => ?_, ?_⟩⟩
      · obtain ⟨e, he, rfl⟩ := List.mem_map.mp hy
        obtain ⟨p, h1, h2, _⟩ := ri.rf.val e he
        exact ⟨p, h1, h2⟩
      · rintro ⟨p, hp, rfl⟩
        have key : ∀ (p : List Nat) (x : Nat), x ∈ k1 l → Sq S p → S.led x p ∈ k1 l := by
          intro p
          induction p with
          | nil => intro x hx _; exact hx
          | cons c r ih =>
            intro x hx hp
            have hc := hp c List.mem_cons_self
            refine ih (S.step x c) ?_ fun d hd => hp d (List.mem_cons_of_mem _ hd)
            rcases ri.cl x hx with z | z | z
            · simp at z
            · exact z c hc hc
            · exact nomatch z
        exact key p x0 ri.st hp
    | cons x ws =>
      refine iteDT (by rw [nis_len, List.length_cons]; omega) ⟨fun σ' H'' => ∃ (l' : List (Nat × Addr)) (ws' : List Nat) (v4 v5 v6 : Option V), σ' = [some (.ref sa), some (.int x0), some (.ref dd), some (.ref wl), v4, v5, v6] ∧ Ri S x0 H H'' dd wl l' ws' none 0 ∧ l.length ≤ l'.length ∧ ws'.length ≤ l'.length ∧ l.length + ws'.length = l'.length + ws.length, ?_, ?_⟩
      · rintro σ' H'' ⟨l', ws', w4, w5, w6, rfl, ri', hl1, hl2, hl'⟩
        have h8 := ri'.rf.le ok hx0
        have h8' := ri.rf.le ok hx0
        rw [List.length_cons] at hm
        refine ⟨2 * (8 - l'.length) + ws'.length, ?_, l', ws', w4, w5, w6, rfl, ri', hl2, rfl⟩
        rw [hm]
        omega
      -- here = waiting.pop(0)
      have hx : x < S.n := ri.rf.lt ok hx0 (ri.sub x List.mem_cons_self)
      refine ⟨_, rfl, .inl ⟨rfl, _, SqL.of ri.wl⟩, wl, _, 0, 0, .int x, rfl, rfl, ri.wl, by decide, by decide, (ixN_seq (show ixN (nis (x :: ws)).length 0 = some 0 by unfold ixN; rw [if_pos (by decide), if_pos (by rw [nis_len, List.length_cons]; omega)]; rfl)).1, rfl, ?_⟩
      have r0 : Ri S x0 H (upd H' wl (.lst (nis ws))) dd wl l ws (some x) 0 := by
        refine ⟨fun c o e => ?_, ri.rf.list ri.wl, upd_same, ri.st, fun y hy => ri.sub y (List.mem_cons_of_mem _ hy), fun y hy => ?_, fun y e => ?_⟩
        · rw [upd_ne (ne_of_none e nf)]
          exact ri.sm c o e
        · rcases ri.cl y hy with z | z | z
          · rcases List.mem_cons.mp z with z | z
            · exact .inr (.inr (congrArg some z.symm))
            · exact .inl z
          · exact .inr (.inl z)
          · exact nomatch z
        · cases e
          exact ⟨ri.sub x List.mem_cons_self, fun c hc => absurd hc (Nat.not_lt_zero c)⟩
      rw [show (nis (x :: ws)).eraseIdx 0 = nis ws from rfl]
      generalize upd H' wl (.lst (nis ws)) = H2 at r0 ⊢
      have hmm : S.m ≤ 4 := ok.m4
      refine vl_m (hS.same r0.sm) (vl_var rfl) _ ⟨_, rfl, by omega, by omega, ?_⟩
      rw [Int.toNat_natCast]
      refine for_range (lo := 0) (n := S.m) (fun k σ H3 => ∃ (l2 : List (Nat × Addr)) (ws2 : List Nat) (v5 v6 : Option V), σ = [some (.ref sa), some (.int x0), some (.ref dd), some (.ref wl), some (.int x), v5, v6] ∧ Ri S x0 H H3 dd wl l2 ws2 (some x) k ∧ l.length ≤ l2.length ∧ ws2.length ≤ l2.length ∧ l.length + ws2.length = l2.length + ws.length)
        ⟨l, ws, v5, v6, rfl, r0, Nat.le_refl _, by rw [List.length_cons] at hwl2; omega, rfl⟩ ?_ ?_
      · rintro k σ H3 hk ⟨l2, ws2, v5, v6, rfl, rk, hg1, hg2, hlen⟩
        rw [Int.zero_add]
        have hl2 := rk.rf.le ok hx0
        refine ⟨_, rfl, _, rfl, _, rfl, sa, S, x, k, rfl, hS.same rk.sm, ok, hx, hk, ?_⟩
        refine ⟨_, rfl, _, rfl, dd, _, rfl, DGet.k (k := Sum.inl (S.step x k : Nat)) rk.rf.dict, _, rfl, ?_⟩
        rcases find_en1 (S.step x k) l2 with ⟨e2, he2, h1, h2⟩ | ⟨h1, h2⟩
        · rw [h2]
          exact ⟨l2, ws2, _, _, rfl, rk.next (List.mem_map.mpr ⟨e2, he2, h1⟩), hg1, hg2, hlen⟩
        · rw [h2]
          obtain ⟨hxl, _⟩ := rk.hd x rfl
          rcases find_en1 x l2 with ⟨e2, he2, g1, g2⟩ | ⟨g1, _⟩
          · obtain ⟨p, hz1, hz2, hz3, hz4⟩ := rk.rf.val e2 he2
            have hdg : DGet H3 dd (.int (x : Int)) (some (.ref e2.2)) := by
              have z := DGet.k (k := Sum.inl (x : Int)) rk.rf.dict
              rw [g2] at z
              exact z
            refine ⟨_, rfl, _, rfl, dd, .ref e2.2, rfl, hdg, _, rfl, by show 1 ≤ sizeLine; decide, fun u hu => ?_⟩
            have su := same_upd (o := .tup [.int (k : Nat)]) hu
            have hzl : (nis p).length + 1 ≤ sizeLine := by
              rw [sizeLine_eq, nis_len]
              omega
            have hsq : Sq S (p ++ [k]) := hz1.app (Sq.one hk)
            have hled : S.led x0 (p ++ [k]) = S.step x k := by rw [led_snoc, hz2, g1]
            have fin : ∀ (H5 : Hp) (v : Addr), Same H3 H5 → H5 v = some (.tup (nis (p ++ [k]))) →
                Ri S x0 H (upd (upd H5 dd (.dK (putK (l2.map en1) (Sum.inl (S.step x k : Nat)) (.ref v)))) wl (.lst (nis ws2 ++ [.int (S.step x k : Nat)]))) dd wl (l2 ++ [(S.step x k, v)]) (ws2 ++ [S.step x k]) (some x) (k + 1) ∧
                H5 dd = some (.dK (l2.map en1)) ∧ (upd H5 dd (.dK (putK (l2.map en1) (Sum.inl (S.step x k : Nat)) (.ref v)))) wl = some (.lst (nis ws2)) ∧ (l2.map en1).length < sizeLine ∧ (nis ws2).length < sizeLine ∧ l.length ≤ (l2 ++ [(S.step x k, v)]).length ∧ (ws2 ++ [S.step x k]).length ≤ (l2 ++ [(S.step x k, v)]).length ∧ l.length + (ws2 ++ [S.step x k]).length = (l2 ++ [(S.step x k, v)]).length + ws.length := by
              intro H5 v s5 hv
              have r5 := rk.same s5
              refine ⟨r5.add hd nf h1 hsq hled hv (by rw [List.length_append]; show p.length + 1 ≤ _; omega), r5.rf.dict, ?_, by rw [List.length_map]; exact small1000 (by omega), ?_, ?_⟩
              · rw [upd_ne (ne_of r5.wl r5.rf.dict (fun z => nomatch z))]
                exact r5.wl
              · rw [nis_len]
                exact small1000 (by omega)
              · rw [List.length_append, List.length_append]
                show l.length ≤ l2.length + 1 ∧ ws2.length + 1 ≤ l2.length + 1 ∧ l.length + (ws2.length + 1) = l2.length + 1 + ws.length
                omega
            refine ⟨e2.2, u, nis p, [.int (k : Nat)], rfl, rfl, SqT.of (su _ _ hz3), SqT.of upd_same, hzl, fun hz => ?_, fun _ hz => absurd hz (List.cons_ne_nil _ _), fun _ _ v hv => ?_⟩
            · have hp0 : p = [] := List.map_eq_nil_iff.mp hz
              obtain ⟨w6, f1, f3, f4, f5, f6⟩ := fin _ u su (by rw [hp0]; exact upd_same)
              exact ⟨_, rfl, _, rfl, dd, _, rfl, DPut.k (k := Sum.inl (S.step x k : Nat)) f1 f4, _, rfl, .inl ⟨rfl, _, SqL.of f3⟩, _, rfl, wl, _, _, rfl, rfl, f3, f5, _, _, _, _, rfl, w6, f6⟩
            · obtain ⟨w6, f1, f3, f4, f5, f6⟩ := fin _ v (su.trans (same_upd hv)) (by
                show _ = some (HO.tup ((p ++ [k]).map _))
                rw [List.map_append]
                exact upd_same)
              exact ⟨_, rfl, _, rfl, dd, _, rfl, DPut.k (k := Sum.inl (S.step x k : Nat)) f1 f4, _, rfl, .inl ⟨rfl, _, SqL.of f3⟩, _, rfl, wl, _, _, rfl, rfl, f3, f5, _, _, _, _, rfl, w6, f6⟩
          · exact absurd hxl g1
      · rintro σ H3 ⟨l2, ws2, v5, v6, rfl, rk, hg1, hg2, hlen⟩
        refine ⟨l2, ws2, _, _, _, rfl, ⟨rk.sm, rk.rf, rk.wl, rk.st, rk.sub, fun y hy => ?_, fun y e => nomatch e⟩, hg1, hg2, hlen⟩
        rcases rk.cl y hy with z | z | z
        · exact .inl z
        · exact .inr (.inl z)
        · exact .inr (.inl (rk.hd y z).2)
/-! ### reachable_of -/
theorem nat_sorted {ys : List Int} {l : List Nat} (h : ys.Perm (l.map fun c : Nat => (c : Int))) (hs : ys.Pairwise (· ≤ ·)) (nd : l.Nodup) : ∃ xs : List Nat, ys.map V.int = nis xs ∧ xs.Perm l ∧ xs.Pairwise (· < ·) := by
  obtain ⟨xs, h1, h2⟩ := perm_lift h l rfl
  refine ⟨xs, by rw [← h2, List.map_map]; rfl, h1, rising_of ?_ (h1.nodup_iff.mpr nd)⟩
  rw [← h2] at hs
  exact (List.pairwise_map.mp hs).imp fun h => by omega
theorem k1_keys (l : List (Nat × Addr)) : (l.map en1).map (·.1) = ((k1 l).map fun c : Nat => (c : Int)).map Sum.inl := by
  rw [List.map_map, List.map_map, List.map_map]
  rfl
theorem scRchb : FnScope ["system"] ["system"] (defScope sRchb) := ⟨rfl, rfl, rfl, by decide +kernel, rfl, by decide +kernel, by decide +kernel⟩
def spRchb : Sp := fun vs H Q _ => ∃ (s : Addr) (S : Sy), vs = [.ref s] ∧ IsSy H s S ∧ S.Ok ∧ ∀ (H' : Hp) (t : Addr) (xs : List Nat), Same H H' → H' t = some (.tup (nis xs)) → xs.Pairwise (· < ·) → (∀ x, x ∈ xs ↔ R S x) → Q (.ref t) H'
theorem kRchb (G : Gf mg) (d : Dn K mg "reachable_of" sRchb ["system"]) (cR : Kp P w K mg base 2 "reached" spRchd) : Kp P w K mg base 3 "reachable_of" spRchb := by
  refine d.keeps scRchb (fun vs H Q E h => ?_) (fun f cdv A outer s H vs Q E hr h => ?_)
  · obtain ⟨sa, S, rfl, _⟩ := h
    rfl
  · obtain ⟨sa, S, rfl, hS, ok, q⟩ := h
    refine ⟨_, pss_one (ps_ret (pe_tupleOf (by rfl) G.tuple (pe_callB (call_sortedDI rfl) (by rfl) G.sorted (by decide +kernel) (pa_cons (pe_k cR hr (by decide) (by rfl) (pa_cons (pv 0) (pa_cons (pe_ix ix_tup (pv 0) pe_int (fun _ _ => rfl)) pa_nil))) pa_nil)))), ?_⟩
    refine ⟨_, rfl, vl_s hS (vl_var rfl) _ ⟨sa, S, S.s, rfl, hS, ok, ok.s, fun H1 dd l sm rf hk => ⟨dd, l.map en1, (k1 l).map fun c : Nat => (c : Int), rfl, .inl rf.dict, k1_keys l, ?_, fun ys p hp1 hp2 hp => ?_⟩⟩⟩
    · have := rf.le ok ok.s
      rw [List.length_map, List.length_map]
      omega
    · obtain ⟨xs, e1, e2, e3⟩ := nat_sorted hp1 hp2 rf.nd
      rw [e1]
      have s1 : Same H1 (upd H1 p (.lst (nis xs))) := same_upd hp
      refine .inl ⟨p, _, rfl, SqL.of upd_same, fun t ht => ?_⟩
      exact q _ t xs ((sm.trans s1).trans (same_upd ht)) upd_same e3 fun x => e2.mem_iff.trans (hk x)
end
end K32
/-! groups.py: failing_of, all_revocable, product_of, inverse_of. -/
namespace K32
open PySem PySem.Spec PyProof.Rows L2
section
variable {P : Program} {w : World} {K : PySem.W.Frag} {mg : Str → Option Value} {base : Heap}
abbrev sFail : Stmt := topS 25
abbrev sAllRev : Stmt := topS 26
abbrev sProd : Stmt := topS 28
abbrev sInv : Stmt := topS 29
theorem scFail : FnScope ["system", "start", "commands", "command"] ["system"] (defScope sFail) := ⟨rfl, rfl, rfl, by decide +kernel, rfl, by decide +kernel, by decide +kernel⟩
/-- a tuple that is empty exactly if the system is regular -/
def spFail : Sp := fun vs H Q _ => ∃ (s : Addr) (S : Sy), vs = [.ref s] ∧ IsSy H s S ∧ S.Ok ∧ ∀ (H' : Hp) (t : Addr) (cs : List Nat), Same H H' → H' t = some (.tup (nis cs)) → cs.length ≤ 4 → (cs = [] ↔ Reg S) → Q (.ref t) H'
theorem kFail (G : Gf mg) (d : Dn K mg "failing_of" sFail ["system"]) (cD : Kp P w K mg base 4 "determines" spDet) (cS : Kp P w K mg base 1 "step" spStep) : Kp P w K mg base 5 "failing_of" spFail := by
  refine d.keeps scFail (fun vs H Q E h => ?_) (fun f cdv A outer s H vs Q E hr h => ?_)
  · obtain ⟨sa, S, rfl, _⟩ := h
    rfl
  · obtain ⟨sa, S, rfl, hS, ok, q⟩ := h
    refine ⟨_, pss_cons (ps_set (i := 1) scFail.nd rfl (.inr rfl) (pe_ix ix_tup (pv 0) pe_int (fun _ _ => rfl)))
      (pss_cons (ps_set (i := 2) scFail.nd rfl (.inl rfl) (pe_listRg rfl (by rfl) G.list (prg_1 (by rfl) G.range (pe_len (by rfl) G.len (pe_ix ix_tup (pv 0) pe_int (fun _ _ => rfl))))))
      (pss_one (ps_ret (pe_tupleOf (by rfl) G.tuple (pe_lc (own := [("command", 3)]) (by rfl) scFail.nd (pi_list (pv 2)) (blkOk_by (own := [("command", 3)]) (N := ["system", "start", "commands", "command"]) (sc := defScope sFail) (by decide +kernel))
        (fun _ _ _ _ _ => pg_name (i := 3) scFail.nd rfl (Or.inl rfl))
        (fun _ _ _ _ _ => pts_one (pt_not (pt_val (pe_k cD hr (by decide) (by rfl) (pa_cons (pv 0) (pa_cons (pe_k cS hr (by decide) (by rfl) (pa_cons (pv 0) (pa_cons (pv 1) (pa_cons (pv 3) pa_nil)))) (pa_cons (pv 1) pa_nil)))))))
        (fun _ _ _ _ _ => pv 3)))))), ?_⟩
    have hm4 : S.m ≤ 4 := ok.m4
    refine vl_s hS (vl_var rfl) _ ?_
    refine vl_m hS (vl_var rfl) _ ⟨_, rfl, ⟨by decide, by decide, by omega, by omega⟩, fun cl hcl => ?_⟩
    have s1 : Same H (upd H cl (.lst (rgV 0 (S.m : Nat)))) := same_upd hcl
    have e1 : upd H cl (.lst (rgV 0 (S.m : Nat))) cl = some (.lst (nis (List.range S.m))) := by
      rw [upd_same, rg_nis]
    generalize upd H cl (.lst (rgV 0 (S.m : Nat))) = H1 at s1 e1 ⊢
    refine ⟨_, rfl, cl, rfl, ⟨_, SqL.of e1⟩, fun D hD => lc_list (K := K) (a := cl) (xs := nis (List.range S.m)) (fun i H2 => Same H1 H2 ∧ ∃ cs : List Nat, H2 D = some (.lst (nis cs)) ∧ cs.length ≤ i ∧ (cs = [] ↔ ∀ c, c < i → Det S (S.step S.s c) S.s))
      ⟨same_upd hD, [], upd_same, Nat.le_refl _, fun _ c hc => absurd hc (Nat.not_lt_zero c), fun _ => rfl⟩ (fun i H2 _ h => SqL.of (h.1 _ _ e1)) ?_ ?_⟩
    · rintro i y H2 hi ⟨s2, cs, eD, hl, hcs⟩
      obtain ⟨c, hc, rfl⟩ := of_nis_get hi
      obtain ⟨hc1, hc2⟩ := List.getElem?_eq_some_iff.mp hc
      rw [List.length_range] at hc1
      rw [List.getElem_range] at hc2
      subst hc2
      have hS2 := hS.same (s1.trans s2)
      have hst := ok.step_lt ok.s hc1
      refine ⟨rfl, _, rfl, _, rfl, _, rfl, _, rfl, sa, S, S.s, i, rfl, hS2, ok, ok.s, hc1, _, rfl, sa, S, _, _, rfl, hS2, ok, hst, ok.s, fun H3 r s3 hr3 => ⟨r, rfl, ?_⟩⟩
      have s23 := s2.trans s3
      by_cases hd : Det S (S.step S.s i) S.s
      · rw [hr3.mpr hd]
        refine ⟨s23, cs, s3 _ _ eD, by omega, hcs.trans ⟨fun h c hc => ?_, fun h c hc => h c (by omega)⟩⟩
        by_cases e : c = i
        · rw [e]; exact hd
        · exact h c (by omega)
      · have hr0 : r = false := by
          cases r with
          | false => rfl
          | true => exact absurd (hr3.mp rfl) hd
        subst hr0
        refine ⟨_, rfl, _, s3 _ _ eD, by rw [nis_len]; exact small1000 (by omega), fun b o e => ?_, cs ++ [i], ?_, by rw [List.length_append]; show cs.length + 1 ≤ _; omega, ?_⟩
        · rw [upd_ne (ne_of_none e hD)]
          exact s23 b o e
        · rw [upd_same]
          show _ = some (HO.lst ((cs ++ [i]).map _))
          rw [List.map_append]
          rfl
        · exact ⟨fun h => absurd h (by simp), fun h => absurd (h i (Nat.lt_succ_self i)) hd⟩
    · rintro H2 ⟨s2, cs, eD, hl, hcs⟩
      rw [nis_len, List.length_range] at hl hcs
      refine .inl ⟨D, _, rfl, SqL.of eD, fun t ht => ?_⟩
      exact q _ t cs ((s1.trans s2).trans (same_upd ht)) upd_same (by omega) hcs
/-! ### all_revocable -/
theorem eqv_nil (cs : List Nat) : PyData.eqv (.tuple (cs.map fun c : Nat => PyData.int (c : Int))) (.tuple []) = decide (cs = []) := by
  cases cs with
  | nil => rfl
  | cons c r => rfl
theorem dpAll_nis {K : PySem.W.Frag} {H : Hp} : ∀ cs : List Nat, DpAll K H (nis cs) (cs.map fun c : Nat => PyData.int (c : Int))
  | [] => .nil
  | c :: r => .cons (.int c) (dpAll_nis r)
theorem lay_nis : ∀ cs : List Nat, PyData.canLayAll0 (cs.map fun c : Nat => PyData.int (c : Int)) = true ∧ PyData.depthAll (cs.map fun c : Nat => PyData.int (c : Int)) = 0
  | [] => ⟨rfl, rfl⟩
  | c :: r => by
    obtain ⟨h1, h2⟩ := lay_nis r
    rw [List.map_cons, PyData.canLayAll0, PyData.depthAll, h1, h2]
    exact ⟨rfl, rfl⟩
theorem shaped_nis (cs : List Nat) : SeqAt.shaped (.tuple (cs.map fun c : Nat => PyData.int (c : Int))) = true := by
  obtain ⟨h1, h2⟩ := lay_nis cs
  unfold SeqAt.shaped
  rw [PyData.canLay0, PyData.depth, h1, h2]
  rfl
theorem scAllRev : FnScope ["system"] ["system"] (defScope sAllRev) := ⟨rfl, rfl, rfl, by decide +kernel, rfl, by decide +kernel, by decide +kernel⟩
def spAllRev : Sp := fun vs H Q _ => ∃ (s : Addr) (S : Sy), vs = [.ref s] ∧ IsSy H s S ∧ S.Ok ∧ ∀ (H' : Hp) (r : Bool), Same H H' → (r = true ↔ Reg S) → Q (.bl r) H'
theorem kAllRev (d : Dn K mg "all_revocable" sAllRev ["system"]) (cF : Kp P w K mg base 5 "failing_of" spFail) : Kp P w K mg base 6 "all_revocable" spAllRev := by
  refine d.keeps scAllRev (fun vs H Q E h => ?_) (fun f cdv A outer s H vs Q E hr h => ?_)
  · obtain ⟨sa, S, rfl, _⟩ := h
    rfl
  · obtain ⟨sa, S, rfl, hS, ok, q⟩ := h
    refine ⟨_, pss_one (ps_ret (pe_cmpR (op_eqD hr.units) (pe_k cF hr (by decide) (by rfl) (pa_cons (pv 0) pa_nil)) (pe_tup pa_nil) (nomark _))), ?_⟩
    refine ⟨_, rfl, sa, S, rfl, hS, ok, fun H1 t cs sm ht hl hcs => ⟨Nat.zero_le _, fun u hu => ?_⟩⟩
    have s1 : Same H1 (upd H1 u (.tup [])) := same_upd hu
    refine ⟨.tuple (cs.map fun c : Nat => PyData.int (c : Int)), .tuple [], .tup (SqT.of (s1 _ _ ht)) (dpAll_nis cs), .tup (SqT.of upd_same) .nil, shaped_nis cs, by rfl, ?_⟩
    rw [eqv_nil]
    exact q _ _ (sm.trans s1) (by rw [decide_eq_true_iff]; exact hcs)
/-! ### product_of, inverse_of -/
theorem scProd : FnScope ["system", "one", "other"] ["system", "one", "other"] (defScope sProd) := ⟨rfl, rfl, rfl, by decide +kernel, rfl, by decide +kernel, by decide +kernel⟩
/-- in a regular system -/
def spProd : Sp := fun vs H Q _ => ∃ (s : Addr) (S : Sy) (x y : Nat), vs = [.ref s, .int x, .int y] ∧ IsSy H s S ∧ S.Ok ∧ Reg S ∧ R S x ∧ R S y ∧ ∀ H', Same H H' → Q (.int (S.led y (wy S x) : Nat)) H'
theorem kProd (d : Dn K mg "product_of" sProd ["system", "one", "other"]) (cL : Kp P w K mg base 2 "led" (spLed K)) (cR : Kp P w K mg base 2 "reached" spRchd) : Kp P w K mg base 3 "product_of" spProd := by
  refine d.keeps scProd (fun vs H Q E h => ?_) (fun f cdv A outer s H vs Q E hr h => ?_)
  · obtain ⟨sa, S, x, y, rfl, _⟩ := h
    rfl
  · obtain ⟨sa, S, x, y, rfl, hS, ok, hreg, hx, hy, q⟩ := h
    have hu := hu_of hr
    refine ⟨_, pss_one (ps_ret (pe_k cL hr (by decide) (by rfl) (pa_cons (pv 0) (pa_cons (pv 2) (pa_cons (pe_dget hu (pe_k cR hr (by decide) (by rfl) (pa_cons (pv 0) (pa_cons (pe_ix ix_tup (pv 0) pe_int (fun _ _ => rfl)) pa_nil))) (pv 1) (fun _ _ => rfl)) pa_nil))))), ?_⟩
    refine ⟨_, rfl, _, rfl, _, rfl, vl_s hS (vl_var rfl) _ ⟨sa, S, S.s, rfl, hS, ok, ok.s, fun H1 dd l sm rf hk => ⟨_, rfl, ?_⟩⟩⟩
    rcases find_en1 x l with ⟨e, he, h1, h2⟩ | ⟨h1, _⟩
    · obtain ⟨p, hp1, hp2, hp3, hp4⟩ := rf.val e he
      have hdg : DGet H1 dd (.int (x : Int)) (some (.ref e.2)) := by
        have z := DGet.k (k := Sum.inl (x : Int)) rf.dict
        rw [h2] at z
        exact z
      refine ⟨dd, .ref e.2, rfl, hdg, sa, S, y, e.2, p, rfl, hS.same sm, ok, hy.lt ok, SqT.of hp3, hp1, ?_⟩
      have : S.led y p = S.led y (wy S x) := hreg.same ok hy hp1 (wy_sq hx) (by rw [hp2, h1, wy_led hx])
      rw [this]
      exact q H1 sm
    · exact absurd ((hk x).mpr hx) h1
theorem scInv : FnScope ["system", "state", "other"] ["system", "state"] (defScope sInv) := ⟨rfl, rfl, rfl, by decide +kernel, rfl, by decide +kernel, by decide +kernel⟩
def spInv : Sp := fun vs H Q _ => ∃ (s : Addr) (S : Sy) (x : Nat), vs = [.ref s, .int x] ∧ IsSy H s S ∧ S.Ok ∧ Reg S ∧ R S x ∧ ∀ H' iv, Same H H' → R S iv → S.led iv (wy S x) = S.s → Q (.int (iv : Nat)) H'
theorem kInv (d : Dn K mg "inverse_of" sInv ["system", "state"]) (cB : Kp P w K mg base 3 "reachable_of" spRchb) (cP : Kp P w K mg base 3 "product_of" spProd) : Kp P w K mg base 4 "inverse_of" spInv := by
  refine d.keeps scInv (fun vs H Q E h => ?_) (fun f cdv A outer s H vs Q E hr h => ?_)
  · obtain ⟨sa, S, x, rfl, _⟩ := h
    rfl
  · obtain ⟨sa, S, x, rfl, hS, ok, hreg, hx, q⟩ := h
    refine ⟨_, pss_one (ps_ret (pe_ix ix_list (pe_lc (own := [("other", 2)]) (tt := tTest (tOp rEq (tCall spProd [] E0 (tCons (tVar 0) (tCons (tVar 1) (tCons (tVar 2) tNil)))) (tOp (rIxT K) (tVar 0) (tC (.int 1))))) (by rfl) scInv.nd (pi_tup (pe_k cB hr (by decide) (by rfl) (pa_cons (pv 0) pa_nil)))
      (blkOk_by (own := [("other", 2)]) (N := ["system", "state", "other"]) (sc := defScope sInv) (by decide +kernel)) (fun _ _ _ _ _ => pg_name (i := 2) scInv.nd rfl (Or.inl rfl))
      (fun _ _ _ _ _ => pts_one (pt_cmpR op_eq (pe_k cP hr (by decide) (by rfl) (pa_cons (pv 0) (pa_cons (pv 1) (pa_cons (pv 2) pa_nil)))) (pe_ix ix_tup (pv 0) pe_int (fun _ _ => rfl)) (nomark _)))
      (fun _ _ _ _ _ => pv 2)) pe_int (fun _ _ => rfl))), ?_⟩
    refine ⟨_, rfl, sa, S, rfl, hS, ok, fun H1 t xs sm ht hs hm => ⟨t, rfl, ⟨_, SqT.of ht⟩, fun D hD => lc_tup (K := K) (a := t) (xs := nis xs)
      (fun i H2 => Same H1 H2 ∧ ∃ cs : List Nat, H2 D = some (.lst (nis cs)) ∧ cs.length ≤ i ∧ (∀ c ∈ cs, R S c ∧ S.led c (wy S x) = S.s) ∧ ∀ c ∈ xs.take i, S.led c (wy S x) = S.s → c ∈ cs)
      ⟨same_upd hD, [], upd_same, Nat.le_refl _, fun c hc => by simp at hc, fun c hc => by simp at hc⟩ (fun i H2 _ h => SqT.of (h.1 _ _ ht)) ?_ ?_⟩⟩
    · rintro i y H2 hi ⟨s2, cs, eD, hl, h1, h2⟩
      obtain ⟨c, hc, rfl⟩ := of_nis_get hi
      have hcx := (hm c).mp (List.mem_of_getElem? hc)
      have hS2 := hS.same (sm.trans s2)
      refine ⟨rfl, _, rfl, _, rfl, _, rfl, sa, S, x, c, rfl, hS2, ok, hreg, hx, hcx, fun H3 s3 => ?_⟩
      have s23 := s2.trans s3
      refine vl_s (hS2.same s3) (vl_var rfl) _ ⟨rfl, _, rfl, ?_⟩
      by_cases z : S.led c (wy S x) = S.s
      · rw [decide_eq_true (show V.int (S.led c (wy S x) : Nat) = V.int (S.s : Nat) by rw [z])]
        have hlx : xs.length ≤ 8 := states_le ok (hs.imp fun h => Nat.ne_of_lt h) fun x hx => ((hm x).mp hx).lt ok
        have hix := (List.getElem?_eq_some_iff.mp hc).1
        refine ⟨_, rfl, _, s3 _ _ eD, by rw [nis_len]; exact small1000 (by omega), fun b o e => ?_, cs ++ [c], ?_, by rw [List.length_append]; show cs.length + 1 ≤ _; omega, fun d hd => ?_, fun d hd hz => ?_⟩
        · rw [upd_ne (ne_of_none e hD)]
          exact s23 b o e
        · rw [upd_same]
          show _ = some (HO.lst ((cs ++ [c]).map _))
          rw [List.map_append]
          rfl
        · rcases List.mem_append.mp hd with hd | hd
          · exact h1 d hd
          · rw [List.mem_singleton.mp hd]
            exact ⟨hcx, z⟩
        · rw [take_snoc hc] at hd
          rcases List.mem_append.mp hd with hd | hd
          · exact List.mem_append_left _ (h2 d hd hz)
          · exact List.mem_append_right _ hd
      · rw [decide_eq_false (show ¬ V.int (S.led c (wy S x) : Nat) = V.int (S.s : Nat) from fun q => z (by have := V.int.inj q; omega))]
        refine ⟨s23, cs, s3 _ _ eD, by omega, h1, fun d hd hz => ?_⟩
        rw [take_snoc hc] at hd
        rcases List.mem_append.mp hd with hd | hd
        · exact h2 d hd hz
        · rw [List.mem_singleton.mp hd] at hz
          exact absurd hz z
    · rintro H2 ⟨s2, cs, eD, hl, h1, h2⟩
      rw [nis_len, List.take_length] at h2
      obtain ⟨iv, hiv, ez⟩ := hreg.meets ok (wy_sq hx) (R.start (S := S))
      have hmem := h2 iv ((hm iv).mpr hiv) ez
      cases cs with
      | nil => simp at hmem
      | cons c r =>
        obtain ⟨g1, g2⟩ := h1 c List.mem_cons_self
        exact ⟨D, _, _, .int c, rfl, rfl, SqL.of eD, atI_nat (j := 0) rfl, q H2 c (sm.trans s2) g1 g2⟩
end
end K32
/-! NotPossible, check_regular, factor, and the law's _law_told. -/
namespace K32
open PySem PySem.Spec PyProof.Rows L2
def clsDef (st : Stmt) (i : Nat) : Stmt := match st with
  | .ClassDef _ _ _ b _ _ _ _ _ _ _ => b.getD i (.Pass ⟨0, 0, 0, 0⟩)
  | _ => .Pass ⟨0, 0, 0, 0⟩
abbrev sNpInit : Stmt := clsDef (topS 3) 0
abbrev sChkReg : Stmt := topS 27
abbrev sFactor : Stmt := topS 30
abbrev sTold : Stmt := topS 53
/-- the class NotPossible stands at C -/
structure NpC (K : PySem.W.Frag) (mg : Str → Option Value) (C : Addr) : Prop where
  gC : mg "NotPossible" = some (.ref C)
  T : OexC K C
  F : XfC K C
  noW : PySem.W.findIn K (.ref C) "why" = some none
  te : PySem.W.exmOne K (.ref C) (.ref C) = some true
  init : ∃ (fI : Addr) (fd : FuncData), PySem.W.findIn K (.ref C) "__init__" = some (some (.ref fI)) ∧ PySem.W.typeIn K (.ref fI) = some (.type "function") ∧ Fun K "__init__" "NotPossible.__init__" sNpInit fI fd ∧ Binds K fd ["self", "why"] []
section
variable {P : Program} {w : World} {K : PySem.W.Frag} {mg : Str → Option Value} {base : Heap} {C : Addr}
theorem scNpInit : FnScope ["self", "why"] ["self", "why"] (defScope sNpInit) := ⟨rfl, rfl, rfl, by decide +kernel, rfl, by decide +kernel, by decide +kernel⟩
def spNpInit (C : Addr) : Sp := fun vs H Q _ => ∃ (a : Addr) (v : V), vs = [.ref a, v] ∧ H a = some (exo a C none) ∧ ∀ dx, H dx = none → dx ≠ a → Q .non (upd (upd H dx (exd dx [("why", v)])) a (exo a C (some dx)))
theorem okNpInit (N : NpC K mg C) {fI : Addr} {fd : FuncData} (F : Fun K "__init__" "NotPossible.__init__" sNpInit fI fd) : FnOk P w K mg base CX0 1 fI fd ["self", "why"] (spNpInit C) := by
  refine F.ok scNpInit (fun vs H Q E h => ?_) (fun cdv A outer s H vs Q E hr h => ?_)
  · obtain ⟨a, v, rfl, _⟩ := h
    rfl
  · obtain ⟨a, v, rfl, ha, q⟩ := h
    refine ⟨_, pss_one (ps_ost (pv 0) (pv 1)), ?_⟩
    exact ⟨_, rfl, _, rfl, a, C, rfl, N.T, N.noW, .inl ⟨ha, fun dx h1 h2 => q dx h1 h2⟩⟩
/-- a def that may raise keeps its promise -/
structure KpX (P : Program) (w : World) (K : PySem.W.Frag) (mg : Str → Option Value) (base : Heap) (k : Nat) (x : Str) (sp : Sp) : Prop where
  ex : ∃ (f : Addr) (fd : FuncData) (ps : List Str), FnOk P w K mg base (L2.CX P w) k f fd ps sp ∧ mg x = some (.ref f) ∧ PySem.W.keepIn K (.ref f) = true ∧ Binds K fd ps []
theorem Dn.keepsX {x : Str} {st : Stmt} {ps N : List Str} {k : Nat} {sp : Sp} (d : Dn K mg x st ps) (S : FnScope N ps (defScope st)) (len : ∀ vs H Q E, sp vs H Q E → vs.length = ps.length)
    (hbody : ∀ (f : Addr) (cdv : Value) (A : Around) (outer : List Env) (s : Shared) (H : Hp) (vs : List V) (Q : VK) (E : XK), Room k (A.deeper (envOfC x (defScope st) s.heap.objs.size f cdv)) → sp vs H Q E →
      ∃ t, PSs (cxOf (L2.CX P w) P w K mg base N x (defScope st) f cdv A outer s H E) (defBody st) t ∧ t { nx := fun _ H' => Q .non H', rt := Q } (start N vs) H) : KpX P w K mg base (k + 1) x sp := by
  obtain ⟨f, fd, F, hm, hb⟩ := d.ex
  exact ⟨f, fd, ps, F.okX S len fun cdv A outer s H vs Q E hr h => hbody f cdv A outer s H vs Q E hr h, hm, F.kp, hb⟩
/-- a call of such a def, what it raises wished for by W -/
theorem pe_kX {X : Cx} {k j : Nat} {x : Str} {sp : Sp} {W : WX} {e : Expr} {es : List Expr} {t : TA} {p pos : Pos} (c : KpX X.prog X.w X.K X.mg X.base k x sp) (hr : Room j X.A) (hk : k ≤ j) (hg : Gl X x) (tk : Takes X W) (ha : PA X (e :: es) t)
    (hdb : (x == ("__debug__" : Str)) = false := by decide) (he : starEach (e :: es) X.env = (false, eval e X.env) :: starEach es X.env := by rfl) (hpl : (backTo pos (starEach es X.env)).any (·.1) = false := by rfl) :
    PE X (.Call (.Name x p) (e :: es) [] pos) (tCallS sp (WE W) t) := by
  obtain ⟨f, fd, ps, F, hm, kp, b⟩ := c.ex
  exact pe_callS F (hr.mono hk) hg hm kp b (fun σ => passAt tk σ) ha hdb he hpl
theorem scChkReg : FnScope ["system"] ["system"] (defScope sChkReg) := ⟨rfl, rfl, rfl, by decide +kernel, rfl, by decide +kernel, by decide +kernel⟩
def spChkReg (C : Addr) : Sp := fun vs H Q E => ∃ (s : Addr) (S : Sy), vs = [.ref s] ∧ IsSy H s S ∧ S.Ok ∧ (Reg S → ∀ H', Same H H' → Q .non H') ∧
  (¬ Reg S → ∀ H' d, Same H H' → H' d = some (.xd [("why", .str "regular")]) → E (.ref C) (some d) H')
theorem kChkReg (N : NpC K mg C) (d : Dn K mg "check_regular" sChkReg ["system"]) (cA : Kp P w K mg base 6 "all_revocable" spAllRev) : KpX P w K mg base 7 "check_regular" (spChkReg C) := by
  obtain ⟨fI, fdI, iC, tI, FI, bI⟩ := N.init
  refine d.keepsX scChkReg (fun vs H Q E h => ?_) (fun f cdv A outer s H vs Q E hr h => ?_)
  · obtain ⟨sa, S, rfl, _⟩ := h
    rfl
  · obtain ⟨sa, S, rfl, hS, ok, q1, q2⟩ := h
    refine ⟨_, pss_one (ps_if (pt_not (pt_val (pe_k cA hr (by decide) (by rfl) (pa_cons (pv 0) pa_nil)))) (pss_one (ps_raise rfl (takes_of rfl rfl rfl rfl)
      (pmk_oex N.T iC tI (okNpInit N FI) (hr.mono (by decide)) bI .nil pass0 (by rfl) N.gC (pa_cons pe_str pa_nil)))) pss_nil), ?_⟩
    refine ⟨_, rfl, sa, S, rfl, hS, ok, fun H1 r sm hr1 => ⟨r, rfl, ?_⟩⟩
    cases r with
    | true => exact q1 (hr1.mp rfl) H1 sm
    | false =>
      have hn : ¬ Reg S := fun z => nomatch hr1.mpr z
      refine ⟨by decide, fun a ha => ⟨a, _, rfl, upd_same, fun dx h1 h2 => ⟨rfl, dx, [("why", .str "regular")], upd_same, ?_, ?_, ?_⟩⟩⟩
      · rw [upd_ne h2]
        exact upd_same
      · rw [upd_ne h2] at h1
        exact h1
      · rw [upd_ne h2] at h1
        refine q2 hn _ dx (fun c o e => ?_) upd_same
        have e1 := sm c o e
        rw [upd_ne (ne_of_none e1 h1), del_ne (ne_of_none e1 ha), upd_ne (ne_of_none e1 ha), upd_ne (ne_of_none e1 h1), upd_ne (ne_of_none e1 ha)]
        exact e1
/-! ### factor -/
def here (S : Sy) (p : List Nat) : Nat := S.led S.s p
def behind (S : Sy) (p : List Nat) (c : Nat) : Nat := S.step (here S p) c
/-- the factor as the program reckons it -/
def FacIs (S : Sy) (p : List Nat) (c told : Nat) : Prop := ∃ iv, R S iv ∧ S.led iv (wy S (behind S p c)) = S.s ∧ told = S.led (here S p) (wy S iv)
theorem scFactor : FnScope ["system", "sequence", "command", "before"] ["system", "sequence", "command"] (defScope sFactor) := ⟨rfl, rfl, rfl, by decide +kernel, rfl, by decide +kernel, by decide +kernel⟩
def spFactor (C : Addr) : Sp := fun vs H Q E => ∃ (s b : Addr) (S : Sy) (p : List Nat) (c : Nat), vs = [.ref s, .ref b, .int c] ∧ IsSy H s S ∧ S.Ok ∧ H b = some (.tup (nis p)) ∧ p.length ≤ 16 ∧ Sq S p ∧ c < S.m ∧
  (Reg S → ∀ H' told, Same H H' → FacIs S p c told → Q (.int (told : Nat)) H') ∧ (¬ Reg S → ∀ H' d, Same H H' → H' d = some (.xd [("why", .str "regular")]) → E (.ref C) (some d) H')
theorem kFactor (d : Dn K mg "factor" sFactor ["system", "sequence", "command"]) (cS : Kp P w K mg base 3 "check_system" spChkSys) (cQ : Kp P w K mg base 4 "is_sequence" spIsSeq) (cC : Kp P w K mg base 2 "is_command" spIsCmd)
    (cR : KpX P w K mg base 7 "check_regular" (spChkReg C)) (cL : Kp P w K mg base 2 "led" (spLed K)) (cP : Kp P w K mg base 3 "product_of" spProd) (cI : Kp P w K mg base 4 "inverse_of" spInv) (cSt : Kp P w K mg base 1 "step" spStep) :
    KpX P w K mg base 8 "factor" (spFactor C) := by
  refine d.keepsX scFactor (fun vs H Q E h => ?_) (fun f cdv A outer s H vs Q E hr h => ?_)
  · obtain ⟨sa, b, S, p, c, rfl, _⟩ := h
    rfl
  · obtain ⟨sa, b, S, p, c, rfl, hS, ok, hb, hl, hp, hc, q1, q2⟩ := h
    refine ⟨_, pss_cons (ps_expr (pe_k cS hr (by decide) (by rfl) (pa_cons (pv 0) pa_nil)))
      (pss_cons (ps_if (pt_not (pt_val (pe_k cQ hr (by decide) (by rfl) (pa_cons (pv 0) (pa_cons (pv 1) pa_nil))))) (pss_one ps_never) pss_nil)
      (pss_cons (ps_if (pt_not (pt_val (pe_k cC hr (by decide) (by rfl) (pa_cons (pv 0) (pa_cons (pv 2) pa_nil))))) (pss_one ps_never) pss_nil)
      (pss_cons (ps_expr (pe_kX (W := fun cls d _ H => E cls d H) cR hr (by decide) (by rfl) (takes_of rfl rfl rfl rfl) (pa_cons (pv 0) pa_nil)))
      (pss_cons (ps_set (i := 3) scFactor.nd rfl (.inl rfl) (pe_k cL hr (by decide) (by rfl) (pa_cons (pv 0) (pa_cons (pe_ix ix_tup (pv 0) pe_int (fun _ _ => rfl)) (pa_cons (pv 1) pa_nil)))))
      (pss_one (ps_ret (pe_k cP hr (by decide) (by rfl) (pa_cons (pv 0) (pa_cons (pe_k cI hr (by decide) (by rfl) (pa_cons (pv 0) (pa_cons (pe_k cSt hr (by decide) (by rfl) (pa_cons (pv 0) (pa_cons (pv 3) (pa_cons (pv 2) pa_nil)))) pa_nil))) (pa_cons (pv 3) pa_nil)))))))))), ?_⟩
    refine ⟨_, rfl, sa, S, rfl, hS, ok, fun H1 s1 => ?_⟩
    refine ⟨_, rfl, _, rfl, sa, b, S, p, rfl, hS.same s1, s1 _ _ hb, hl, hp, fun H2 s2 => ⟨_, rfl, ?_⟩⟩
    have s12 := s1.trans s2
    refine ⟨_, rfl, _, rfl, sa, S, c, rfl, hS.same s12, hc, _, rfl, ?_⟩
    refine ⟨_, rfl, sa, S, rfl, hS.same s12, ok, fun hreg H3 s3 => ?_, fun hn H3 dd s3 hd => q2 hn H3 dd (s12.trans s3) hd⟩
    have s13 := s12.trans s3
    have hS3 := hS.same s13
    have hh : R S (here S p) := ⟨p, hp, rfl⟩
    have hbh : R S (behind S p c) := by
      have := hh.led (Sq.one hc)
      exact this
    refine ⟨_, rfl, vl_s hS3 (vl_var rfl) _ ⟨_, rfl, sa, S, S.s, b, p, rfl, hS3, ok, ok.s, SqT.of (s13 _ _ hb), hp, ?_⟩⟩
    refine ⟨_, rfl, _, rfl, _, rfl, _, rfl, _, rfl, sa, S, here S p, c, rfl, hS3, ok, hh.lt ok, hc, ?_⟩
    refine ⟨sa, S, behind S p c, rfl, hS3, ok, hreg, hbh, fun H4 iv s4 hiv1 hiv2 => ?_⟩
    refine ⟨_, rfl, sa, S, iv, here S p, rfl, hS3.same s4, ok, hreg, hiv1, hh, fun H5 s5 => ?_⟩
    exact q1 hreg H5 _ ((s13.trans s4).trans s5) ⟨iv, hiv1, hiv2, rfl⟩
/-! ### _law_told -/
theorem scTold : FnScope ["_law_system_here", "_law_sequence", "_law_command", "e"] ["_law_system_here", "_law_sequence", "_law_command"] (defScope sTold) := ⟨rfl, rfl, rfl, by decide +kernel, rfl, by decide +kernel, by decide +kernel⟩
def spTold : Sp := fun vs H Q _ => ∃ (s b : Addr) (S : Sy) (p : List Nat) (c : Nat), vs = [.ref s, .ref b, .int c] ∧ IsSy H s S ∧ S.Ok ∧ H b = some (.tup (nis p)) ∧ p.length ≤ 16 ∧ Sq S p ∧ c < S.m ∧
  (Reg S → ∀ H' told, Same H H' → FacIs S p c told → Q (.int (told : Nat)) H') ∧ (¬ Reg S → ∀ H' l, Same H H' → H' l = some (.lst [.str "not", .str "regular"]) → Q (.ref l) H')
theorem kTold (N : NpC K mg C) (d : Dn K mg "_law_told" sTold ["_law_system_here", "_law_sequence", "_law_command"]) (cF : KpX P w K mg base 8 "factor" (spFactor C)) : Kp P w K mg base 9 "_law_told" spTold := by
  refine d.keeps scTold (fun vs H Q E h => ?_) (fun f cdv A outer s H vs Q E hr h => ?_)
  · obtain ⟨sa, b, S, p, c, rfl, _⟩ := h
    rfl
  · obtain ⟨sa, b, S, p, c, rfl, hS, ok, hb, hl, hp, hc, q1, q2⟩ := h
    refine ⟨_, pss_one (ps_try_as (i := 3) (tb := fun W => tRet (tCallS (spFactor C) (WE W) (tCons (tVar 0) (tCons (tVar 1) (tCons (tVar 2) tNil)))))
      (ts := fun a cls d => tRet (tLst (tCons (tC (.str "not")) (tCons (tXf a cls d C "why" (tVar 3)) tNil)))) (Wout := fun _ _ _ _ => False) rfl rfl scTold.nd rfl rfl ⟨rfl, by decide, .inl N.gC⟩ takes0
      (fun W pn xe tk _ => pss_one (ps_ret (pe_kX cF hr (by decide) (by rfl) tk (pa_cons (pv 0) (pa_cons (pv 1) (pa_cons (pv 2) pa_nil))))))
      (fun a oe cls d pn hz hf => pss_one (ps_ret (pe_lst (pa_cons pe_str (pa_cons (pe_xf N.F N.noW hz hf (pv 3)) pa_nil)))))), ?_⟩
    refine ⟨_, rfl, _, rfl, _, rfl, sa, b, S, p, c, rfl, hS, ok, hb, hl, hp, hc, q1, fun hn H1 dd sm hd => ⟨true, N.te, fun _ a ha => ?_, fun z => nomatch z⟩⟩
    refine ⟨_, rfl, rfl, rfl, dd, _, .str "regular", rfl, hd, rfl, by show 2 ≤ sizeLine; decide, fun l hl => ?_⟩
    exact q2 hn _ l (sm.trans (same_upd hl)) upd_same
end
end K32
/-! The law's draws: _law_stream, _law_next, _law_system, _law_turns, _law_great. -/
namespace K32
open PySem PySem.Spec PyProof.Rows L2
section
variable {P : Program} {w : World} {K : PySem.W.Frag} {mg : Str → Option Value} {base : Heap}
abbrev sStream : Stmt := topS 32
abbrev sNext : Stmt := topS 33
abbrev sSystem : Stmt := topS 36
abbrev sTurns : Stmt := topS 37
abbrev sGreat : Stmt := topS 54
/-- the stream at p: the script's numbers at a, the cell in hand, the next place -/
def Strm (H : Hp) (p a : Addr) : Prop := ∃ (ns : List Int) (v k : Int), H p = some (.lst [.ref a, .int v, .int k]) ∧ H a = some (.lst (ns.map V.int)) ∧ 0 ≤ k
theorem Strm.ne {H : Hp} {p a : Addr} {ns : List Int} {v k : Int} (h : H p = some (.lst [.ref a, .int v, .int k])) (ha : H a = some (.lst (ns.map V.int))) : a ≠ p := by
  refine ne_of ha h fun z => ?_
  have z := HO.lst.inj z
  cases ns with
  | nil => cases z
  | cons n r => cases z
theorem Strm.same {H H' : Hp} {p a : Addr} (h : Strm H p a) (s : Same H H') : Strm H' p a := by
  obtain ⟨ns, v, k, h1, h2, h3⟩ := h
  exact ⟨ns, v, k, s _ _ h1, s _ _ h2, h3⟩
theorem Strm.put {H : Hp} {p a : Addr} {ns : List Int} {v k v' k' : Int} (h : H p = some (.lst [.ref a, .int v, .int k])) (ha : H a = some (.lst (ns.map V.int))) (hk : 0 ≤ k') : Strm (upd H p (.lst [.ref a, .int v', .int k'])) p a :=
  ⟨ns, v', k', upd_same, by rw [upd_ne (Strm.ne h ha)]; exact ha, hk⟩
theorem Strm.lst {H : Hp} {p a : Addr} (h : Strm H p a) : ∃ xs, H p = some (.lst xs) := by
  obtain ⟨ns, v, k, h1, _⟩ := h
  exact ⟨_, h1⟩
theorem Strm.lstA {H : Hp} {p a : Addr} (h : Strm H p a) : ∃ xs, H a = some (.lst xs) := by
  obtain ⟨ns, v, k, h1, h2, _⟩ := h
  exact ⟨_, h2⟩
/-- another list is changed -/
theorem Strm.other {H : Hp} {p a l : Addr} {o : HO} (h : Strm H p a) (h1 : l ≠ p) (h2 : l ≠ a) : Strm (upd H l o) p a := by
  obtain ⟨ns, v, k, k1, k2, k3⟩ := h
  exact ⟨ns, v, k, by rw [upd_ne h1.symm]; exact k1, by rw [upd_ne h2.symm]; exact k2, k3⟩
theorem SB.free {p l : Addr} {H H' : Hp} (s : SB p H H') (h : H' l = none) (n : l ≠ p) : H l = none := by
  cases e : H l with
  | none => rfl
  | some o =>
    rw [s l o n e] at h
    cases h
theorem SB.other {p l : Addr} {H H' : Hp} {o : HO} (s : SB p H H') (h : H l = none) : SB p H (L2.upd H' l o) := fun b u n e => by
  rw [upd_ne (ne_of_none e h)]
  exact s b u n e
theorem scStream : FnScope ["_law_script"] ["_law_script"] (defScope sStream) := ⟨rfl, rfl, rfl, by decide +kernel, rfl, by decide +kernel, by decide +kernel⟩
def spStream (K : PySem.W.Frag) : Sp := fun vs H Q _ => ∃ (a : Addr) (ns : List Int), vs = [.ref a] ∧ SqL K H a (ns.map V.int) ∧ ∀ H' p a', Strm H' p a' → Q (.ref p) H'
theorem kStream (G : Gf mg) (d : Dn K mg "_law_stream" sStream ["_law_script"]) : Kp P w K mg base 1 "_law_stream" (spStream K) := by
  refine d.keeps scStream (fun vs H Q E h => ?_) (fun f cdv A outer s H vs Q E hr h => ?_)
  · obtain ⟨a, ns, rfl, _⟩ := h
    rfl
  · obtain ⟨a, ns, rfl, ha, q⟩ := h
    refine ⟨_, pss_one (ps_ret (pe_lst (pa_cons (pe_callTy call_list_of (by rfl) G.list (by decide +kernel) (pa_cons (pv 0) pa_nil)) (pa_cons pe_int (pa_cons pe_int pa_nil))))), ?_⟩
    refine ⟨_, rfl, a, _, rfl, .inl ha, fun l hl => ⟨by show 3 ≤ sizeLine; decide, fun p hp => ?_⟩⟩
    exact q _ p l ⟨ns, 0, 0, upd_same, by rw [upd_ne (ne_of_none upd_same hp)]; exact upd_same, Int.le_refl 0⟩
theorem scNext : FnScope ["_law_stream_here", "_law_many", "_law_k", "_law_cell", "_law_digit"] ["_law_stream_here", "_law_many"] (defScope sNext) := ⟨rfl, rfl, rfl, by decide +kernel, rfl, by decide +kernel, by decide +kernel⟩
/-- a digit below m; nothing but the stream is changed -/
def spNext : Sp := fun vs H Q _ => ∃ (p a : Addr) (m : Nat), vs = [.ref p, .int m] ∧ 1 ≤ m ∧ m ≤ 1000 ∧ Strm H p a ∧ ∀ H' (d : Nat), d < m → SB p H H' → Strm H' p a → Q (.int (d : Nat)) H'
theorem kNext (G : Gf mg) (d : Dn K mg "_law_next" sNext ["_law_stream_here", "_law_many"]) : Kp P w K mg base 1 "_law_next" spNext := by
  refine d.keeps scNext (fun vs H Q E h => ?_) (fun f cdv A outer s H vs Q E hr h => ?_)
  · obtain ⟨p, a, m, rfl, _⟩ := h
    rfl
  · obtain ⟨p, a, m, rfl, hm1, hm2, hst, q⟩ := h
    refine ⟨_, C8.pss_cut (ps_if (pt_cmpR op_eq (pe_ix ix_list (pv 0) pe_int (fun _ _ => rfl)) pe_int (nomark _))
        (pss_cons (ps_set (i := 2) scNext.nd rfl (.inl rfl) (pe_ix ix_list (pv 0) pe_int (fun _ _ => rfl)))
        (pss_cons (ps_set (i := 3) scNext.nd rfl (.inl rfl) (pe_op op_add pe_int (pv 2)))
        (C8.pss_cut (ps_if (pt_cmpR op_lt (pv 2) (pe_len (by rfl) G.len (pe_ix ix_list (pv 0) pe_int (fun _ _ => rfl))) (nomark _))
          (pss_one (ps_set (i := 3) scNext.nd rfl (.inl rfl) (pe_callB call_abs (by rfl) G.abs (by decide +kernel) (pa_cons (pe_ix ix_list (pe_ix ix_list (pv 0) pe_int (fun _ _ => rfl)) (pv 2) (fun _ _ => rfl)) pa_nil)))) pss_nil)
        (C8.pss_cut (ps_if (pt_cmpR op_lt (pv 3) (pe_op op_pow pe_int pe_int) (nomark _))
          (pss_cons (ps_set (i := 3) scNext.nd rfl (.inl rfl) (pe_op op_mod (pe_callTy call_int1 (by rfl) G.int (by decide +kernel) (pa_cons (pe_op op_add (pe_op op_add (pe_op op_mul (pv 3) pe_int) (pe_op op_mul (pv 2) pe_int)) pe_int) pa_nil)) pe_int))
          (pss_one (ps_set (i := 3) scNext.nd rfl (.inl rfl) (pe_op op_add (pe_op op_mul (pe_op op_mod (pe_callTy call_int1 (by rfl) G.int (by decide +kernel) (pa_cons (pe_op op_add (pe_op op_mul (pv 3) pe_int) pe_int) pa_nil)) pe_int) pe_int) (pv 3))))) pss_nil)
        (pss_cons (ps_asg (pv 3) (pg_sub (pv 0) pe_int set_list))
        (pss_one (ps_asg (pe_op op_add (pv 2) pe_int) (pg_sub (pv 0) pe_int set_list)))))))) pss_nil)
      (pss_cons (ps_set (i := 4) scNext.nd rfl (.inl rfl) (pe_op op_mod (pe_callTy call_int1 (by rfl) G.int (by decide +kernel) (pa_cons (pe_ix ix_list (pv 0) pe_int (fun _ _ => rfl)) pa_nil)) (pv 1)))
      (pss_cons (ps_asg (pe_op op_fdiv (pe_ix ix_list (pv 0) pe_int (fun _ _ => rfl)) (pv 1)) (pg_sub (pv 0) pe_int set_list))
      (pss_one (ps_ret (pv 4))))), ?_⟩
    obtain ⟨ns, v, k, hp, ha, hk⟩ := hst
    refine ⟨fun σ H' => ∃ y2 y3, σ = [some (.ref p), some (.int m), y2, y3, none] ∧ SB p H H' ∧ Strm H' p a, ?_, ?_⟩
    · refine vl_ixL (j := 1) (vl_var rfl) vl_c (SqL.of hp) rfl _ ⟨rfl, _, rfl, ?_⟩
      by_cases hv : v = 0
      · refine iteDT (congrArg V.int hv) ?_
        refine vl_ixL (j := 2) (vl_var rfl) vl_c (SqL.of hp) rfl _ ?_
        refine ⟨_, rfl, _, _, rfl, rfl, ?_⟩
        refine ⟨fun σ H' => H' = H ∧ ∃ c : Int, σ = [some (.ref p), some (.int m), some (.int k), some (.int c), none], ?_, ?_⟩
        · refine ⟨_, rfl, vl_lenL (vl_ixL (j := 0) (vl_var rfl) vl_c (SqL.of hp) rfl) (SqL.of ha) _ ⟨_, _, rfl, rfl, _, rfl, ?_⟩⟩
          by_cases hkl : k < ((ns.map V.int).length : Int)
          · refine iteDT hkl ?_
            have hkn : k.toNat < ns.length := by rw [List.length_map] at hkl; omega
            have e1 : (ns.map V.int)[k.toNat]? = some (.int ns[k.toNat]) := by
              rw [List.getElem?_map, List.getElem?_eq_getElem hkn]
              rfl
            have e2 : ((k.toNat : Nat) : Int) = k := Int.toNat_of_nonneg hk
            refine vl_ixL (j := k.toNat) (vl_ixL (j := 0) (vl_var rfl) vl_c (SqL.of hp) rfl) (vl_var (by rw [e2]; rfl)) (SqL.of ha) e1 _ ⟨_, rfl, rfl, _, rfl⟩
          · exact iteDF hkl ⟨rfl, _, rfl⟩
        · rintro σ H' ⟨rfl, c, rfl⟩
          refine ⟨fun σ H2 => H2 = H' ∧ ∃ c : Int, σ = [some (.ref p), some (.int m), some (.int k), some (.int c), none], ?_, ?_⟩
          · refine ⟨_, rfl, _, _, rfl, rfl, ⟨by decide, by decide, by decide⟩, _, _, rfl, rfl, _, rfl, ?_⟩
            refine ite2 (fun _ => ?_) (fun _ => ⟨rfl, _, rfl⟩)
            refine ⟨_, rfl, _, _, rfl, rfl, .inr (by decide), _, rfl, _, _, rfl, rfl, .inr (by decide), _, _, rfl, rfl, _, _, rfl, rfl, .inl ⟨_, rfl, _, _, rfl, rfl, by show (0 : Int) < 2147483647; decide, ?_⟩⟩
            refine ⟨_, rfl, _, _, rfl, rfl, .inr (by decide), _, _, rfl, rfl, .inl ⟨_, rfl, _, _, rfl, rfl, by show (0 : Int) < 2147483647; decide, _, _, rfl, rfl, .inr (by decide), _, rfl, _, _, rfl, rfl, ?_⟩⟩
            exact ⟨rfl, _, rfl⟩
          · rintro σ H2 ⟨rfl, c, rfl⟩
            refine ⟨_, rfl, _, rfl, p, _, 1, 1, rfl, rfl, hp, rfl, ?_⟩
            refine ⟨_, rfl, _, _, rfl, rfl, _, rfl, p, _, 2, 2, rfl, rfl, upd_same, rfl, ?_⟩
            rw [upd_upd]
            exact ⟨_, _, rfl, SB.upd, Strm.put hp ha (by omega)⟩
      · exact iteDF (fun z => hv (V.int.inj z)) ⟨_, _, rfl, SB.refl, ns, v, k, hp, ha, hk⟩
    · rintro σ H' ⟨y2, y3, rfl, sb, ns', v', k', hp', ha', hk'⟩
      have hm0 : (0 : Int) < m := by omega
      refine vl_ixL (j := 1) (vl_var rfl) vl_c (SqL.of hp') rfl _ (.inl ⟨_, rfl, _, rfl, _, _, rfl, rfl, hm0, ?_⟩)
      refine vl_ixL (j := 1) (vl_var rfl) vl_c (SqL.of hp') rfl _ ⟨_, rfl, _, _, rfl, rfl, ⟨hm0, by omega⟩, _, rfl, p, _, 1, 1, rfl, rfl, hp', rfl, ?_⟩
      refine ⟨_, rfl, ?_⟩
      have h0 := Int.emod_nonneg v' (show (m : Int) ≠ 0 by omega)
      have h1 := Int.emod_lt_of_pos v' hm0
      have := q (upd H' p (.lst [.ref a, .int (v' / m), .int k'])) (v' % m).toNat (by omega) (sb.trans SB.upd) (Strm.put hp' ha' hk')
      rw [Int.toNat_of_nonneg h0] at this
      exact this
/-! ### rows of a drawn system -/
/-- at rs stand the rows f, each of n states below n -/
structure Rws (H : Hp) (rs : List Addr) (f : List (List Nat)) (n : Nat) : Prop where
  len : rs.length = f.length
  at_ : ∀ k r, rs[k]? = some r → H r = some (.tup (nis (f.getD k [])))
  ok : ∀ r ∈ f, r.length = n ∧ ∀ x ∈ r, x < n
theorem Rws.same {H H' : Hp} {rs : List Addr} {f : List (List Nat)} {n : Nat} (h : Rws H rs f n) (k : ∀ b xs, H b = some (.tup xs) → H' b = some (.tup xs)) : Rws H' rs f n := ⟨h.len, fun i r e => k _ _ (h.at_ i r e), h.ok⟩
theorem SB.tup {p : Addr} {H H' : Hp} {ys : List V} (s : SB p H H') (hp : H p = some (.lst ys)) : ∀ b xs, H b = some (.tup xs) → H' b = some (.tup xs) := fun b xs e => s b _ (ne_of e hp (fun z => nomatch z)) e
theorem upd_tup {H : Hp} {l : Addr} {ys zs : List V} (hl : H l = some (.lst ys)) : ∀ b xs, H b = some (.tup xs) → upd H l (.lst zs) b = some (.tup xs) := fun b xs e => by
  rw [upd_ne (ne_of e hl (fun z => nomatch z))]
  exact e
theorem Rws.nil {H : Hp} {n : Nat} : Rws H [] [] n := ⟨rfl, fun k r e => by simp at e, fun r h => by simp at h⟩
theorem Rws.snoc {H : Hp} {rs : List Addr} {f : List (List Nat)} {n : Nat} (h : Rws H rs f n) {t : Addr} {row : List Nat} (ht : H t = some (.tup (nis row))) (hr : row.length = n ∧ ∀ x ∈ row, x < n) : Rws H (rs ++ [t]) (f ++ [row]) n := by
  refine ⟨by rw [List.length_append, List.length_append, h.len]; rfl, fun k r e => ?_, fun r hr' => ?_⟩
  · by_cases hk : k < rs.length
    · rw [List.getElem?_append_left hk] at e
      have := h.at_ k r e
      have e2 : (f ++ [row]).getD k [] = f.getD k [] := by
        rw [List.getD_eq_getElem?_getD, List.getD_eq_getElem?_getD, List.getElem?_append_left (by rw [← h.len]; exact hk)]
      rw [e2]
      exact this
    · rw [List.getElem?_append_right (by omega)] at e
      have hx0 : k - rs.length = 0 := by
        have := (List.getElem?_eq_some_iff.mp e).1
        rw [List.length_singleton] at this
        omega
      rw [hx0] at e
      obtain rfl : t = r := Option.some.inj e
      have e2 : (f ++ [row]).getD k [] = row := by
        have hl := h.len
        rw [List.getD_eq_getElem?_getD, List.getElem?_append_right (by omega), show k - f.length = 0 by omega]
        rfl
      rw [e2]
      exact ht
  · rcases List.mem_append.mp hr' with z | z
    · exact h.ok r z
    · rw [List.mem_singleton.mp z]; exact hr
theorem scTurns : FnScope ["_law_stream_here", "_law_states", "_law_found", "_law_k", "_law_by", "_law_state"] ["_law_stream_here", "_law_states"] (defScope sTurns) := ⟨rfl, rfl, rfl, by decide +kernel, rfl, by decide +kernel, by decide +kernel⟩
def spTurns : Sp := fun vs H Q _ => ∃ (p a : Addr) (n : Nat), vs = [.ref p, .int n] ∧ 1 ≤ n ∧ n ≤ 8 ∧ Strm H p a ∧
  ∀ H' (fl : Addr) (rs : List Addr) (f : List (List Nat)), SB p H H' → Strm H' p a → H' fl = some (.lst (rs.map V.ref)) → Rws H' rs f n → f.length ≤ 4 → Q (.ref fl) H'
theorem two_rows {H H1 : Hp} {p a : Addr} {n : Nat} {r1 r2 : List Nat} {Q : VK} (sb : SB p H H1) (st : Strm H1 p a) (h1 : r1.length = n ∧ ∀ x ∈ r1, x < n) (h2 : r2.length = n ∧ ∀ x ∈ r2, x < n)
    (q : ∀ H' (fl : Addr) (rs : List Addr) (f : List (List Nat)), SB p H H' → Strm H' p a → H' fl = some (.lst (rs.map V.ref)) → Rws H' rs f n → f.length ≤ 4 → Q (.ref fl) H') :
    ∀ t1, H1 t1 = none → ∀ t2, upd H1 t1 (.tup (nis r1)) t2 = none → ∀ l, upd (upd H1 t1 (.tup (nis r1))) t2 (.tup (nis r2)) l = none → Q (.ref l) (upd (upd (upd H1 t1 (.tup (nis r1))) t2 (.tup (nis r2))) l (.lst [.ref t1, .ref t2])) := by
  intro t1 ht1 t2 ht2 l hl
  have s1 : Same H1 (upd H1 t1 (.tup (nis r1))) := same_upd ht1
  have s2 : Same (upd H1 t1 (.tup (nis r1))) (upd (upd H1 t1 (.tup (nis r1))) t2 (.tup (nis r2))) := same_upd ht2
  have s3 : Same (upd (upd H1 t1 (.tup (nis r1))) t2 (.tup (nis r2))) (upd (upd (upd H1 t1 (.tup (nis r1))) t2 (.tup (nis r2))) l (.lst [.ref t1, .ref t2])) := same_upd hl
  have R0 := (Rws.nil (H := upd (upd (upd H1 t1 (.tup (nis r1))) t2 (.tup (nis r2))) l (.lst [.ref t1, .ref t2])) (n := n)).snoc (t := t1) (s3 _ _ (s2 _ _ upd_same)) h1
  have R1 := R0.snoc (t := t2) (s3 _ _ upd_same) h2
  exact q _ l [t1, t2] [r1, r2] (sb.trans (SB.of ((s1.trans s2).trans s3))) (st.same ((s1.trans s2).trans s3)) upd_same R1 (by show 2 ≤ 4; decide)
theorem kTurns (G : Gf mg) (d : Dn K mg "_law_turns" sTurns ["_law_stream_here", "_law_states"]) (cN : Kp P w K mg base 1 "_law_next" spNext) : Kp P w K mg base 2 "_law_turns" spTurns := by
  refine d.keeps scTurns (fun vs H Q E h => ?_) (fun f cdv A outer s H vs Q E hr h => ?_)
  · obtain ⟨p, a, n, rfl, _⟩ := h
    rfl
  · obtain ⟨p, a, n, rfl, hn1, hn8, hst, q⟩ := h
    refine ⟨_, C8.pss_cut (ps_if (PW.pt (pw_and (pt_cmpR op_eq (pv 1) pe_int (nomark _)) (pw_and1 (pt_cmpR op_eq (pe_k cN hr (by decide) (by rfl) (pa_cons (pv 0) (pa_cons pe_int pa_nil))) pe_int (nomark _)))))
        (pss_one (ps_ret (pe_lst (pa_cons (pe_tup (pa_cons pe_int (pa_cons pe_int (pa_cons pe_int (pa_cons pe_int (pa_cons pe_int (pa_cons pe_int pa_nil))))))) (pa_cons (pe_tup (pa_cons pe_int (pa_cons pe_int (pa_cons pe_int (pa_cons pe_int (pa_cons pe_int (pa_cons pe_int pa_nil))))))) pa_nil))))) pss_nil)
      (C8.pss_cut (ps_if (PW.pt (pw_and (pt_cmpR op_eq (pv 1) pe_int (nomark _)) (pw_and1 (pt_cmpR op_eq (pe_k cN hr (by decide) (by rfl) (pa_cons (pv 0) (pa_cons pe_int pa_nil))) pe_int (nomark _)))))
        (pss_one (ps_ret (pe_lst (pa_cons (pe_tup (pa_cons pe_int (pa_cons pe_int (pa_cons pe_int (pa_cons pe_int pa_nil))))) (pa_cons (pe_tup (pa_cons pe_int (pa_cons pe_int (pa_cons pe_int (pa_cons pe_int pa_nil))))) pa_nil))))) pss_nil)
      (pss_cons (ps_set (i := 2) scTurns.nd rfl (.inl rfl) (pe_lst pa_nil))
      (pss_cons (ps_for PassesOwn.never rfl (pi_range1 (by rfl) G.range (pa_cons (pe_op op_add pe_int (pe_k cN hr (by decide) (by rfl) (pa_cons (pv 0) (pa_cons pe_int pa_nil)))) pa_nil)) (pg_name (i := 3) scTurns.nd rfl (.inl rfl))
        (pss_cons (ps_set (i := 4) scTurns.nd rfl (.inr rfl) (pe_k cN hr (by decide) (by rfl) (pa_cons (pv 0) (pa_cons (pv 1) pa_nil))))
        (pss_one (ps_expr (pe_bm PySem.F.plainAttrs_list PySem.F.slot_list_append PySem.F.type_list_append mt_append (pv 2) (pa_cons (pe_tupleOf (by rfl) G.tuple
          (pe_lc (own := [("_law_state", 5)]) (by rfl) scTurns.nd (pi_range1 (by rfl) G.range (pa_cons (pv 1) pa_nil)) (blkOk_by (own := [("_law_state", 5)]) (N := ["_law_stream_here", "_law_states", "_law_found", "_law_k", "_law_by", "_law_state"]) (sc := defScope sTurns) (by decide +kernel))
            (fun _ _ _ _ _ => pg_name (i := 5) scTurns.nd rfl (Or.inl rfl)) (fun _ _ _ _ _ => pts_nil) (fun _ _ _ _ _ => pe_op op_mod (pe_op op_add (pv 5) (pv 4)) (pv 1)))) pa_nil))))))
      (pss_one (ps_ret (pv 2)))))), ?_⟩
    have hsz : ∀ {k : Nat}, k ≤ 100 → k ≤ sizeLine := fun {k} h => by rw [sizeLine_eq]; omega
    refine ⟨fun σ H' => σ = [some (.ref p), some (.int n), none, none, none, none] ∧ SB p H H' ∧ Strm H' p a, ?_, ?_⟩
    · refine ⟨_, rfl, rfl, _, rfl, ?_⟩
      refine ite2 (fun e6 => ?_) (fun _ => ⟨rfl, SB.refl, hst⟩)
      have e6 : n = 6 := by have := V.int.inj (of_decide_eq_true e6); omega
      refine ⟨_, rfl, p, a, 2, rfl, by decide, by decide, hst, fun H1 dg hdg sb1 st1 => ⟨rfl, _, rfl, ?_⟩⟩
      refine ite2 (fun _ => ?_) (fun _ => ⟨rfl, sb1, st1⟩)
      subst e6
      exact ⟨hsz (by decide), fun t1 ht1 => ⟨hsz (by decide), fun t2 ht2 => ⟨hsz (show 2 ≤ 100 by decide), two_rows (r1 := [1, 0, 4, 5, 2, 3]) (r2 := [2, 3, 0, 1, 5, 4]) sb1 st1 (by decide) (by decide) q t1 ht1 t2 ht2⟩⟩⟩
    rintro σ H1 ⟨rfl, sb1, st1⟩
    refine ⟨fun σ H' => σ = [some (.ref p), some (.int n), none, none, none, none] ∧ SB p H H' ∧ Strm H' p a, ?_, ?_⟩
    · refine ⟨_, rfl, rfl, _, rfl, ?_⟩
      refine ite2 (fun e6 => ?_) (fun _ => ⟨rfl, sb1, st1⟩)
      have e6 : n = 4 := by have := V.int.inj (of_decide_eq_true e6); omega
      refine ⟨_, rfl, p, a, 2, rfl, by decide, by decide, st1, fun H2 dg hdg sb2 st2 => ⟨rfl, _, rfl, ?_⟩⟩
      refine ite2 (fun _ => ?_) (fun _ => ⟨rfl, sb1.trans sb2, st2⟩)
      subst e6
      exact ⟨hsz (by decide), fun t1 ht1 => ⟨hsz (by decide), fun t2 ht2 => ⟨hsz (show 2 ≤ 100 by decide), two_rows (r1 := [1, 0, 3, 2]) (r2 := [2, 3, 0, 1]) (sb1.trans sb2) st2 (by decide) (by decide) q t1 ht1 t2 ht2⟩⟩⟩
    rintro σ H2 ⟨rfl, sb2, st2⟩
    -- found = [], the turns
    refine ⟨hsz (by decide), fun fl hfl => ?_⟩
    have s3 : Same H2 (upd H2 fl (.lst [])) := same_upd hfl
    have e3 : upd H2 fl (.lst []) fl = some (.lst []) := upd_same
    have st3 := st2.same s3
    have sb3 := sb2.trans (SB.of s3)
    obtain ⟨xp, hxp⟩ := st2.lst
    have npf : fl ≠ p := (ne_of_none hxp hfl).symm
    obtain ⟨xa, hxa⟩ := st2.lstA
    have naf : fl ≠ a := (ne_of_none hxa hfl).symm
    have h0f : H fl = none := sb2.free hfl npf
    generalize upd H2 fl (.lst []) = H3 at s3 e3 st3 sb3 ⊢
    refine ⟨_, rfl, p, a, 2, rfl, by decide, by decide, st3, fun H4 dg hdg sb4 st4 => ⟨_, _, rfl, rfl, _, rfl, by omega, by omega, ?_⟩⟩
    have hto : ((1 : Int) + (dg : Nat)).toNat = 1 + dg := by omega
    rw [hto]
    have e4 := sb4 _ _ npf e3
    refine for_range (lo := 0) (n := 1 + dg) (fun i σ H' => ∃ (v3 v4 : Option V) (rs : List Addr) (f : List (List Nat)), σ = [some (.ref p), some (.int n), some (.ref fl), v3, v4, none] ∧ SB p H H' ∧ Strm H' p a ∧ H' fl = some (.lst (rs.map V.ref)) ∧ Rws H' rs f n ∧ f.length = i)
      ⟨_, _, [], [], rfl, sb3.trans sb4, st4, e4, Rws.nil, rfl⟩ ?_ ?_
    · rintro i σ H5 hi ⟨v3, v4, rs, f, rfl, sb5, st5, e5, rw5, hfl5⟩
      refine ⟨_, rfl, _, rfl, p, a, n, rfl, hn1, by omega, st5, fun H6 by_ hby sb6 st6 => ?_⟩
      have e6 := sb6 _ _ npf e5
      obtain ⟨xp5, hxp5⟩ := st5.lst
      have rw6 := rw5.same (sb6.tup hxp5)
      refine ⟨_, rfl, .inl ⟨rfl, _, SqL.of e6⟩, ?_⟩
      refine ⟨_, rfl, _, rfl, by omega, by omega, fun D hD => ?_⟩
      rw [Int.toNat_natCast]
      refine lc_range (lo := 0) (n := n) (fun j H7 => Same H6 H7 ∧ ∃ row : List Nat, H7 D = some (.lst (nis row)) ∧ row.length = j ∧ ∀ x ∈ row, x < n) ⟨same_upd hD, [], upd_same, rfl, fun x hx => by simp at hx⟩ ?_ ?_
      · rintro j H7 hj ⟨s7, row, eD, hrl, hrow⟩
        have hn0 : (0 : Int) < n := by omega
        rw [Int.zero_add]
        refine ⟨rfl, _, rfl, _, rfl, _, _, rfl, rfl, _, rfl, _, _, rfl, rfl, hn0, _, eD, by rw [nis_len]; exact small1000 (by omega), fun b o e => ?_, row ++ [((j + by_) % n)], ?_, by rw [List.length_append, hrl]; rfl, fun x hx => ?_⟩
        · rw [upd_ne (ne_of_none e hD)]
          exact s7 b o e
        · rw [upd_same]
          show _ = some (HO.lst ((row ++ [((j + by_) % n)]).map _))
          rw [List.map_append]
          show some (HO.lst (nis row ++ [V.int ((((j : Nat) : Int) + ((by_ : Nat) : Int)) % ((n : Nat) : Int))])) = some (HO.lst (nis row ++ [V.int (((j + by_) % n : Nat) : Int)]))
          rw [Int.natCast_emod, Int.natCast_add]
        · rcases List.mem_append.mp hx with z | z
          · exact hrow x z
          · rw [List.mem_singleton.mp z]
            exact Nat.mod_lt _ (by omega)
      · rintro H7 ⟨s7, row, eD, hrl, hrow⟩
        refine .inl ⟨D, _, rfl, SqL.of eD, fun t ht => ?_⟩
        have s8 : Same H7 (upd H7 t (.tup (nis row))) := same_upd ht
        have s68 := s7.trans s8
        refine ⟨fl, _, _, rfl, rfl, s68 _ _ e6, by rw [List.length_map, rw5.len]; exact small1000 (by omega), ?_⟩
        have rw8 := (rw6.same (fun b xs e => s68 b _ e)).snoc (t := t) upd_same ⟨hrl, hrow⟩
        refine ⟨_, _, rs ++ [t], f ++ [row], rfl, fun b o nb e => ?_, ?_, ?_, rw8.same (upd_tup (s68 _ _ e6)), by rw [List.length_append, hfl5]; rfl⟩
        · exact (((sb5.trans sb6).trans (SB.of s68)).other h0f) b o nb e
        · exact (st6.same s68).other npf naf
        · rw [upd_same, List.map_append]
          rfl
    · rintro σ H5 ⟨v3, v4, rs, f, rfl, sb5, st5, e5, rw5, hfl5⟩
      exact ⟨_, rfl, q H5 fl rs f sb5 st5 e5 rw5 (by omega)⟩
/-! ### _law_system, _law_great -/
theorem map_erase {α β : Type} (f : α → β) : ∀ (l : List α) (i : Nat), (l.map f).eraseIdx i = (l.eraseIdx i).map f
  | [], _ => rfl
  | _ :: _, 0 => rfl
  | x :: l, i + 1 => congrArg (f x :: ·) (map_erase f l i)
/-- a drawn system is laid -/
theorem made_sys {H0 H1 : Hp} {p a : Addr} {n st : Nat} {rs : List Addr} {f : List (List Nat)} {cl : Addr} {Q : VK} (hn1 : 1 ≤ n) (hn8 : n ≤ 8) (hst : st < n) (sb : SB p H0 H1) (hs : Strm H1 p a) (rw1 : Rws H1 rs f n) (hf : f.length ≤ 4)
    (q : ∀ H' s S, SB p H0 H' → Strm H' p a → S.Ok → IsSy H' s S → Q (.ref s) H') :
    ∀ t, H1 t = none → ∀ u, upd H1 t (.tup (rs.map V.ref)) u = none → Q (.ref u) (upd (upd H1 t (.tup (rs.map V.ref))) u (.tup [.int n, .int st, .ref t])) := by
  intro t ht u hu
  have s1 : Same H1 (upd H1 t (.tup (rs.map V.ref))) := same_upd ht
  have s2 : Same (upd H1 t (.tup (rs.map V.ref))) (upd (upd H1 t (.tup (rs.map V.ref))) u (.tup [.int n, .int st, .ref t])) := same_upd hu
  refine q _ u ⟨n, st, f⟩ (sb.trans (SB.of (s1.trans s2))) (hs.same (s1.trans s2)) ⟨hn1, hn8, hst, hf, rw1.ok⟩ ⟨t, rs, upd_same, s2 _ _ upd_same, rw1.len, fun k r e => ?_⟩
  exact s2 _ _ (s1 _ _ (rw1.at_ k r e))
theorem scSystem : FnScope ["_law_stream_here", "_law_most", "_law_states", "_law_commands", "_law_kind", "_law_k", "_law_row", "_law_left", "_law_state"] ["_law_stream_here", "_law_most"] (defScope sSystem) := ⟨rfl, rfl, rfl, by decide +kernel, rfl, by decide +kernel, by decide +kernel⟩
def spSystem : Sp := fun vs H Q _ => ∃ (p a : Addr) (k : Nat), vs = [.ref p, .int k] ∧ 1 ≤ k ∧ k ≤ 8 ∧ Strm H p a ∧ ∀ H' s S, SB p H H' → Strm H' p a → S.Ok → IsSy H' s S → Q (.ref s) H'
theorem kSystem (G : Gf mg) (d : Dn K mg "_law_system" sSystem ["_law_stream_here", "_law_most"]) (cN : Kp P w K mg base 1 "_law_next" spNext) (cT : Kp P w K mg base 2 "_law_turns" spTurns) : Kp P w K mg base 3 "_law_system" spSystem := by
  refine d.keeps scSystem (fun vs H Q E h => ?_) (fun f cdv A outer s H vs Q E hr h => ?_)
  · obtain ⟨p, a, k, rfl, _⟩ := h
    rfl
  · obtain ⟨p, a, k, rfl, hk1, hk8, hst, q⟩ := h
    refine ⟨_, pss_cons (ps_set (i := 2) scSystem.nd rfl (.inr rfl) (pe_op op_add pe_int (pe_k cN hr (by decide) (by rfl) (pa_cons (pv 0) (pa_cons (pv 1) pa_nil)))))
      (pss_cons (ps_set (i := 3) scSystem.nd rfl (.inl rfl) (pe_lst pa_nil))
      (pss_cons (ps_set (i := 4) scSystem.nd rfl (.inl rfl) (pe_k cN hr (by decide) (by rfl) (pa_cons (pv 0) (pa_cons pe_int pa_nil))))
      (pss_cons (ps_for PassesOwn.never rfl (pi_range1 (by rfl) G.range (pa_cons (pe_k cN hr (by decide) (by rfl) (pa_cons (pv 0) (pa_cons pe_int pa_nil))) pa_nil)) (pg_name (i := 5) scSystem.nd rfl (.inl rfl))
        (pss_cons (ps_setLc (i := 6) (own := [("_law_state", 8)]) (by rfl) scSystem.nd rfl rfl (sw_true rfl rfl rfl (by decide +kernel)) (pi_range1 (by rfl) G.range (pa_cons (pv 2) pa_nil))
          (blkOk_by (own := [("_law_state", 8)]) (N := ["_law_stream_here", "_law_most", "_law_states", "_law_commands", "_law_kind", "_law_k", "_law_row", "_law_left", "_law_state"]) (sc := defScope sSystem) (by decide +kernel))
          (fun _ _ _ _ _ => pg_name (i := 8) scSystem.nd rfl (Or.inl rfl)) (fun _ _ _ _ _ => pts_nil) (fun _ _ _ _ _ => pe_k cN hr (by decide) (by rfl) (pa_cons (pv 0) (pa_cons (pv 2) pa_nil))))
        (C8.pss_cut (ps_if (pt_cmpR op_gt (pv 4) pe_int (nomark _))
          (pss_cons (ps_set (i := 7) scSystem.nd rfl (.inr rfl) (pe_listRg rfl (by rfl) G.list (prg_1 (by rfl) G.range (pv 2))))
          (pss_one (ps_setLc (i := 6) (own := [("_law_state", 8)]) (te := tBM K "list" rPopAt (tVar 7) (tCons (tCall spNext [] E0 (tCons (tVar 0) (tCons (tCB (rLn K) (tCons (tVar 7) tNil)) tNil))) tNil)) (by rfl) scSystem.nd rfl rfl (sw_true rfl rfl rfl (by decide +kernel)) (pi_range1 (by rfl) G.range (pa_cons (pv 2) pa_nil))
            (blkOk_by (own := [("_law_state", 8)]) (N := ["_law_stream_here", "_law_most", "_law_states", "_law_commands", "_law_kind", "_law_k", "_law_row", "_law_left", "_law_state"]) (sc := defScope sSystem) (by decide +kernel))
            (fun _ _ _ _ _ => pg_name (i := 8) scSystem.nd rfl (Or.inl rfl)) (fun _ _ _ _ _ => pts_nil)
            (fun _ _ _ _ _ => pe_bm PySem.F.plainAttrs_list PySem.F.slot_list_pop PySem.F.type_list_pop mt_popAt (pv 7) (pa_cons (pe_k cN hr (by decide) (by rfl) (pa_cons (pv 0) (pa_cons (pe_len (by rfl) G.len (pv 7)) pa_nil))) pa_nil))))) pss_nil)
        (pss_one (ps_expr (pe_bm PySem.F.plainAttrs_list PySem.F.slot_list_append PySem.F.type_list_append mt_append (pv 3) (pa_cons (pe_tupleOf (by rfl) G.tuple (pv 6)) pa_nil)))))))
      (C8.pss_cut (ps_if (pt_cmpR op_eq (pv 4) pe_int (nomark _)) (pss_one (ps_set (i := 3) scSystem.nd rfl (.inl rfl) (pe_k cT hr (by decide) (by rfl) (pa_cons (pv 0) (pa_cons (pv 2) pa_nil))))) pss_nil)
      (pss_one (ps_ret (pe_tup (pa_cons (pv 2) (pa_cons (pe_k cN hr (by decide) (by rfl) (pa_cons (pv 0) (pa_cons (pv 2) pa_nil))) (pa_cons (pe_tupleOf (by rfl) G.tuple (pv 3)) pa_nil)))))))))), ?_⟩
    -- states
    refine ⟨_, rfl, _, rfl, p, a, k, rfl, hk1, by omega, hst, fun H1 dg hdg sb1 st1 => ⟨_, _, rfl, rfl, ?_⟩⟩
    show gName 2 (V.int ((1 : Int) + ((dg : Nat) : Int))) _ _ _
    rw [show (1 : Int) + ((dg : Nat) : Int) = ((1 + dg : Nat) : Int) by omega]
    have hn1 : 1 ≤ 1 + dg := by omega
    have hn8 : 1 + dg ≤ 8 := by omega
    generalize 1 + dg = n at hn1 hn8 ⊢
    -- commands = []
    refine ⟨Nat.zero_le _, fun cl hcl => ?_⟩
    obtain ⟨xp, hxp⟩ := st1.lst
    obtain ⟨xa, hxa⟩ := st1.lstA
    have ncp : cl ≠ p := (ne_of_none hxp hcl).symm
    have nca : cl ≠ a := (ne_of_none hxa hcl).symm
    have h0c : H cl = none := sb1.free hcl ncp
    have s2 : Same H1 (upd H1 cl (.lst [])) := same_upd hcl
    have e2 : upd H1 cl (.lst []) cl = some (.lst []) := upd_same
    have st2 := st1.same s2
    have sb2 := sb1.trans (SB.of s2)
    generalize upd H1 cl (.lst []) = H2 at s2 e2 st2 sb2 ⊢
    -- kind
    refine ⟨_, rfl, p, a, 3, rfl, by decide, by decide, st2, fun H3 kd hkd sb3 st3 => ?_⟩
    have e3 := sb3 _ _ ncp e2
    -- the rows
    refine ⟨_, rfl, p, a, 4, rfl, by decide, by decide, st3, fun H4 mm hmm sb4 st4 => ⟨_, rfl, by omega, by omega, ?_⟩⟩
    rw [Int.toNat_natCast]
    have e4 := sb4 _ _ ncp e3
    have sb24 := (sb2.trans sb3).trans sb4
    refine for_range (lo := 0) (n := mm) (fun i σ H' => ∃ (v5 v6 v7 : Option V) (rs : List Addr) (f : List (List Nat)), σ = [some (.ref p), some (.int k), some (.int n), some (.ref cl), some (.int kd), v5, v6, v7, none] ∧ SB p H H' ∧ Strm H' p a ∧ H' cl = some (.lst (rs.map V.ref)) ∧ Rws H' rs f n ∧ f.length = i)
      ⟨_, _, _, [], [], rfl, sb24, st4, e4, Rws.nil, rfl⟩ ?_ ?_
    · rintro i σ H5 hi ⟨v5, v6, v7, rs, f, rfl, sb5, st5, e5, rw5, hf5⟩
      -- row = [next ..]
      refine ⟨_, rfl, _, rfl, by omega, by omega, fun D hD => ?_⟩
      rw [Int.toNat_natCast]
      obtain ⟨yp, hyp⟩ := st5.lst
      obtain ⟨ya, hya⟩ := st5.lstA
      have nDp : D ≠ p := (ne_of_none hyp hD).symm
      have nDa : D ≠ a := (ne_of_none hya hD).symm
      refine lc_range (lo := 0) (n := n) (fun j H7 => SB p H5 H7 ∧ Strm H7 p a ∧ ∃ row : List Nat, H7 D = some (.lst (nis row)) ∧ row.length = j ∧ ∀ x ∈ row, x < n)
        ⟨SB.of (same_upd hD), st5.same (same_upd hD), [], upd_same, rfl, fun x hx => by simp at hx⟩ ?_ ?_
      · rintro j H7 hj ⟨sb7, st7, row, eD, hrl, hrow⟩
        refine ⟨rfl, _, rfl, _, rfl, p, a, n, rfl, hn1, by omega, st7, fun H8 x hx sb8 st8 => ⟨_, sb8 _ _ nDp eD, by rw [nis_len]; exact small1000 (by omega), (sb7.trans sb8).other hD, st8.other nDp nDa, row ++ [x], ?_, by rw [List.length_append, hrl]; rfl, fun y hy => ?_⟩⟩
        · rw [upd_same]
          show _ = some (HO.lst ((row ++ [x]).map _))
          rw [List.map_append]
          rfl
        · rcases List.mem_append.mp hy with z | z
          · exact hrow y z
          · rw [List.mem_singleton.mp z]; exact hx
      rintro H7 ⟨sb7, st7, row, eD, hrl, hrow⟩
      -- if kind > 0
      refine ⟨fun σ H' => ∃ (v5 v7 : Option V) (D' : Addr) (row : List Nat), σ = [some (.ref p), some (.int k), some (.int n), some (.ref cl), some (.int kd), v5, some (.ref D'), v7, none] ∧ SB p H5 H' ∧ Strm H' p a ∧ H' D' = some (.lst (nis row)) ∧ row.length = n ∧ ∀ x ∈ row, x < n, ?_, ?_⟩
      · refine ⟨_, rfl, _, _, rfl, rfl, _, rfl, ?_⟩
        refine ite2 (fun _ => ?_) (fun _ => ⟨_, _, D, row, rfl, sb7, st7, eD, hrl, hrow⟩)
        refine ⟨_, rfl, _, rfl, ⟨by decide, by decide, by omega, by omega⟩, fun L hL => ?_⟩
        rw [rg_nis]
        obtain ⟨zp, hzp⟩ := st7.lst
        obtain ⟨za, hza⟩ := st7.lstA
        have nLp : L ≠ p := (ne_of_none hzp hL).symm
        have nLa : L ≠ a := (ne_of_none hza hL).symm
        have h5L : H5 L = none := sb7.free hL nLp
        have s8 : Same H7 (upd H7 L (.lst (nis (List.range n)))) := same_upd hL
        have e8 : upd H7 L (.lst (nis (List.range n))) L = some (.lst (nis (List.range n))) := upd_same
        have st8 := st7.same s8
        have sb8 := sb7.trans (SB.of s8)
        generalize upd H7 L (.lst (nis (List.range n))) = H8 at s8 e8 st8 sb8 ⊢
        refine ⟨_, rfl, _, rfl, by omega, by omega, fun D2 hD2 => ?_⟩
        rw [Int.toNat_natCast]
        obtain ⟨wp, hwp⟩ := st8.lst
        obtain ⟨wa, hwa⟩ := st8.lstA
        have nD2p : D2 ≠ p := (ne_of_none hwp hD2).symm
        have nD2a : D2 ≠ a := (ne_of_none hwa hD2).symm
        have nLD : L ≠ D2 := ne_of_none e8 hD2
        have h5D : H5 D2 = none := sb8.free hD2 nD2p
        refine lc_range (lo := 0) (n := n) (fun j H9 => SB p H5 H9 ∧ Strm H9 p a ∧ ∃ row left : List Nat, H9 D2 = some (.lst (nis row)) ∧ H9 L = some (.lst (nis left)) ∧ row.length = j ∧ left.length + j = n ∧ (∀ x ∈ row, x < n) ∧ ∀ x ∈ left, x < n)
          ⟨sb8.trans (SB.of (same_upd hD2)), st8.same (same_upd hD2), [], List.range n, upd_same, by rw [upd_ne nLD]; exact e8, rfl, by rw [List.length_range]; rfl, fun x hx => by simp at hx, fun x hx => List.mem_range.mp hx⟩ ?_ ?_
        · rintro j H9 hj ⟨sb9, st9, row, left, eD, eL, hrl, hll, hrow, hleft⟩
          refine ⟨rfl, _, rfl, .inl ⟨rfl, _, SqL.of eL⟩, _, rfl, vl_lenL (vl_var rfl) (SqL.of eL) _ ⟨p, a, left.length, by rw [nis_len]; rfl, by omega, by omega, st9, fun H10 x hx sb10 st10 => ?_⟩⟩
          have eL10 := sb10 _ _ nLp eL
          have eD10 := sb10 _ _ nD2p eD
          have hget : left[x]? = some left[x] := List.getElem?_eq_getElem hx
          refine ⟨L, _, _, x, .int (left[x] : Nat), rfl, rfl, eL10, by omega, by omega, (ixN_seq (show ixN (nis left).length (x : Int) = some x by unfold ixN; rw [if_pos (by omega), if_pos (by rw [nis_len]; omega)]; rfl)).1, nis_get hget, ?_⟩
          refine ⟨_, by rw [upd_ne nLD.symm]; exact eD10, by rw [nis_len]; exact small1000 (by omega), ((sb9.trans sb10).other h5L).other h5D, (st10.other nLp nLa).other nD2p nD2a, row ++ [left[x]], left.eraseIdx x, ?_, ?_, by rw [List.length_append, hrl]; rfl, ?_, fun y hy => ?_, fun y hy => hleft y (List.mem_of_mem_eraseIdx hy)⟩
          · rw [upd_same]
            show _ = some (HO.lst ((row ++ [left[x]]).map _))
            rw [List.map_append]
            rfl
          · rw [upd_ne nLD, upd_same]
            show some (HO.lst ((left.map _).eraseIdx x)) = some (HO.lst ((left.eraseIdx x).map _))
            rw [map_erase]
          · rw [List.length_eraseIdx_of_lt hx]
            omega
          · rcases List.mem_append.mp hy with z | z
            · exact hrow y z
            · rw [List.mem_singleton.mp z]; exact hleft _ (List.getElem_mem hx)
        · rintro H9 ⟨sb9, st9, row, left, eD, eL, hrl, hll, hrow, hleft⟩
          exact ⟨_, _, D2, row, rfl, sb9, st9, eD, hrl, hrow⟩
      · rintro σ H6 ⟨v5, v7, D', row, rfl, sb6, st6, eD6, hrl, hrow⟩
        -- commands.append(tuple(row))
        have e6 := sb6 _ _ ncp e5
        have rw6 := rw5.same (sb6.tup hyp)
        refine ⟨_, rfl, .inl ⟨rfl, _, SqL.of e6⟩, _, rfl, .inl ⟨D', _, rfl, SqL.of eD6, fun t ht => ?_⟩⟩
        have s7 : Same H6 (upd H6 t (.tup (nis row))) := same_upd ht
        refine ⟨cl, _, _, rfl, rfl, s7 _ _ e6, by rw [List.length_map, rw5.len]; exact small1000 (by omega), ?_⟩
        have rw7 := (rw6.same (fun b xs e => s7 b _ e)).snoc (t := t) upd_same ⟨hrl, hrow⟩
        refine ⟨_, _, _, rs ++ [t], f ++ [row], rfl, ((sb5.trans sb6).trans (SB.of s7)).other h0c, (st6.same s7).other ncp nca, ?_, rw7.same (upd_tup (s7 _ _ e6)), by rw [List.length_append, hf5]; rfl⟩
        rw [upd_same, List.map_append]
        rfl
    · rintro σ H5 ⟨v5, v6, v7, rs, f, rfl, sb5, st5, e5, rw5, hf5⟩
      -- if kind == 2
      refine ⟨fun σ H' => ∃ (v5 v6 v7 : Option V) (cl : Addr) (rs : List Addr) (f : List (List Nat)), σ = [some (.ref p), some (.int k), some (.int n), some (.ref cl), some (.int kd), v5, v6, v7, none] ∧ SB p H H' ∧ Strm H' p a ∧ H' cl = some (.lst (rs.map V.ref)) ∧ cl ≠ p ∧ Rws H' rs f n ∧ f.length ≤ 4, ?_, ?_⟩
      · refine ⟨_, rfl, rfl, _, rfl, ?_⟩
        refine ite2 (fun _ => ?_) (fun _ => ⟨_, _, _, cl, rs, f, rfl, sb5, st5, e5, ncp, rw5, by omega⟩)
        refine ⟨_, rfl, _, rfl, p, a, n, rfl, hn1, hn8, st5, fun H6 fl rs6 f6 sb6 st6 e6 rw6 hf6 => ⟨_, _, _, fl, rs6, f6, rfl, sb5.trans sb6, st6, e6, ?_, rw6, hf6⟩⟩
        rintro rfl
        obtain ⟨ns, v, k0, g1, _⟩ := st6
        rw [g1] at e6
        have e6 := HO.lst.inj (Option.some.inj e6)
        match rs6, e6 with
        | [], e6 => cases e6
        | [_], e6 => cases e6
        | x :: y :: r, e6 =>
          rw [List.map_cons, List.map_cons] at e6
          injection e6 with _ e6
          injection e6 with e6 _
          cases e6
      · rintro σ H6 ⟨v5, v6, v7, cl6, rs6, f6, rfl, sb6, st6, e6, nc6, rw6, hf6⟩
        obtain ⟨yp, hyp⟩ := st6.lst
        refine ⟨_, rfl, _, rfl, _, rfl, p, a, n, rfl, hn1, by omega, st6, fun H7 x hx sb7 st7 => ⟨_, rfl, .inl ⟨cl6, _, rfl, SqL.of (sb7 _ _ nc6 e6), fun t ht => ⟨by show 3 ≤ sizeLine; decide, ?_⟩⟩⟩⟩
        exact made_sys hn1 hn8 hx (sb6.trans sb7) st7 (rw6.same (sb7.tup hyp)) hf6 (cl := cl6) q t ht
theorem Rws.take {H : Hp} {rs : List Addr} {f : List (List Nat)} {n : Nat} (h : Rws H rs f n) (m : Nat) : Rws H (rs.take m) (f.take m) n := by
  refine ⟨by rw [List.length_take, List.length_take, h.len], fun k r e => ?_, fun r hr => h.ok r (List.mem_of_mem_take hr)⟩
  have hk : k < m := by
    have := (List.getElem?_eq_some_iff.mp e).1
    rw [List.length_take] at this
    omega
  rw [List.getElem?_take_of_lt hk] at e
  have := h.at_ k r e
  rw [show (f.take m).getD k [] = f.getD k [] by rw [List.getD_eq_getElem?_getD, List.getD_eq_getElem?_getD, List.getElem?_take_of_lt hk]]
  exact this
theorem scGreat : FnScope ["_law_stream_here", "_law_many", "_law_rows_here"] ["_law_stream_here"] (defScope sGreat) := ⟨rfl, rfl, rfl, by decide +kernel, rfl, by decide +kernel, by decide +kernel⟩
def spGreat : Sp := fun vs H Q _ => ∃ (p a : Addr), vs = [.ref p] ∧ Strm H p a ∧ ∀ H' s S, SB p H H' → Strm H' p a → S.Ok → IsSy H' s S → Q (.ref s) H'
abbrev gr1 : List Nat := [1, 2, 3, 0, 7, 4, 5, 6]
abbrev gr2 : List Nat := [4, 5, 6, 7, 0, 1, 2, 3]
abbrev gr3 : List Nat := [2, 3, 0, 1, 6, 7, 4, 5]
abbrev gr4 : List Nat := [7, 4, 5, 6, 1, 2, 3, 0]
theorem kGreat (G : Gf mg) (d : Dn K mg "_law_great" sGreat ["_law_stream_here"]) (cN : Kp P w K mg base 1 "_law_next" spNext) : Kp P w K mg base 2 "_law_great" spGreat := by
  refine d.keeps scGreat (fun vs H Q E h => ?_) (fun f cdv A outer s H vs Q E hr h => ?_)
  · obtain ⟨p, a, rfl, _⟩ := h
    rfl
  · obtain ⟨p, a, rfl, hst, q⟩ := h
    refine ⟨_, pss_cons (ps_set (i := 1) scGreat.nd rfl (.inl rfl) (pe_op op_add pe_int (pe_k cN hr (by decide) (by rfl) (pa_cons (pv 0) (pa_cons pe_int pa_nil)))))
      (pss_cons (ps_set (i := 2) scGreat.nd rfl (.inl rfl) (pe_lst (pa_cons (pe_tup (pa_cons pe_int (pa_cons pe_int (pa_cons pe_int (pa_cons pe_int (pa_cons pe_int (pa_cons pe_int (pa_cons pe_int (pa_cons pe_int pa_nil))))))))) (pa_cons (pe_tup (pa_cons pe_int (pa_cons pe_int (pa_cons pe_int (pa_cons pe_int (pa_cons pe_int (pa_cons pe_int (pa_cons pe_int (pa_cons pe_int pa_nil))))))))) (pa_cons (pe_tup (pa_cons pe_int (pa_cons pe_int (pa_cons pe_int (pa_cons pe_int (pa_cons pe_int (pa_cons pe_int (pa_cons pe_int (pa_cons pe_int pa_nil))))))))) (pa_cons (pe_tup (pa_cons pe_int (pa_cons pe_int (pa_cons pe_int (pa_cons pe_int (pa_cons pe_int (pa_cons pe_int (pa_cons pe_int (pa_cons pe_int pa_nil))))))))) pa_nil))))))
      (pss_cons (ps_if (pt_cmpR op_eq (pe_k cN hr (by decide) (by rfl) (pa_cons (pv 0) (pa_cons pe_int pa_nil))) pe_int (nomark _))
        (pss_one (ps_ret (pe_tup (pa_cons pe_int (pa_cons (pe_k cN hr (by decide) (by rfl) (pa_cons (pv 0) (pa_cons pe_int pa_nil))) (pa_cons (pe_tup (pa_cons (pe_tup (pa_cons pe_int (pa_cons pe_int (pa_cons pe_int (pa_cons pe_int (pa_cons pe_int (pa_cons pe_int pa_nil))))))) (pa_cons (pe_tup (pa_cons pe_int (pa_cons pe_int (pa_cons pe_int (pa_cons pe_int (pa_cons pe_int (pa_cons pe_int pa_nil))))))) pa_nil))) pa_nil)))))) pss_nil)
      (pss_one (ps_ret (pe_tup (pa_cons pe_int (pa_cons (pe_k cN hr (by decide) (by rfl) (pa_cons (pv 0) (pa_cons pe_int pa_nil))) (pa_cons (pe_tupleOf (by rfl) G.tuple (pe_slice sl_list (pv 2) po_none (po_some (pv 1)))) pa_nil)))))))), ?_⟩
    have hsz : ∀ {k : Nat}, k ≤ 100 → k ≤ sizeLine := fun {k} h => by rw [sizeLine_eq]; omega
    refine ⟨_, rfl, p, a, 4, rfl, by decide, by decide, hst, fun H1 dg hdg sb1 st1 => ⟨_, _, rfl, rfl, ?_⟩⟩
    -- the rows
    refine ⟨hsz (show 8 ≤ 100 by decide), fun t1 ht1 => ⟨hsz (show 8 ≤ 100 by decide), fun t2 ht2 => ⟨hsz (show 8 ≤ 100 by decide), fun t3 ht3 => ⟨hsz (show 8 ≤ 100 by decide), fun t4 ht4 => ⟨hsz (show 4 ≤ 100 by decide), fun l hl => ?_⟩⟩⟩⟩⟩
    have s1 : Same H1 (upd H1 t1 (.tup (nis gr1))) := same_upd ht1
    have r1 := (Rws.nil (H := upd H1 t1 (.tup (nis gr1))) (n := 8)).snoc (t := t1) (row := gr1) upd_same (by decide)
    have s2 : Same (upd H1 t1 (.tup (nis gr1))) (upd (upd H1 t1 (.tup (nis gr1))) t2 (.tup (nis gr2))) := same_upd ht2
    have r2 := (r1.same fun b xs e => s2 b _ e).snoc (t := t2) (row := gr2) upd_same (by decide)
    have s3 : Same (upd (upd H1 t1 (.tup (nis gr1))) t2 (.tup (nis gr2))) (upd (upd (upd H1 t1 (.tup (nis gr1))) t2 (.tup (nis gr2))) t3 (.tup (nis gr3))) := same_upd ht3
    have r3 := (r2.same fun b xs e => s3 b _ e).snoc (t := t3) (row := gr3) upd_same (by decide)
    have s4 : Same (upd (upd (upd H1 t1 (.tup (nis gr1))) t2 (.tup (nis gr2))) t3 (.tup (nis gr3))) (upd (upd (upd (upd H1 t1 (.tup (nis gr1))) t2 (.tup (nis gr2))) t3 (.tup (nis gr3))) t4 (.tup (nis gr4))) := same_upd ht4
    have r4 := (r3.same fun b xs e => s4 b _ e).snoc (t := t4) (row := gr4) upd_same (by decide)
    have s5 : Same (upd (upd (upd (upd H1 t1 (.tup (nis gr1))) t2 (.tup (nis gr2))) t3 (.tup (nis gr3))) t4 (.tup (nis gr4))) (upd (upd (upd (upd (upd H1 t1 (.tup (nis gr1))) t2 (.tup (nis gr2))) t3 (.tup (nis gr3))) t4 (.tup (nis gr4))) l (.lst [.ref t1, .ref t2, .ref t3, .ref t4])) := same_upd hl
    have r5 : Rws _ [t1, t2, t3, t4] [gr1, gr2, gr3, gr4] 8 := r4.same fun b xs e => s5 b _ e
    have s15 := (((s1.trans s2).trans s3).trans s4).trans s5
    have e5 : upd (upd (upd (upd (upd H1 t1 (.tup (nis gr1))) t2 (.tup (nis gr2))) t3 (.tup (nis gr3))) t4 (.tup (nis gr4))) l (.lst [.ref t1, .ref t2, .ref t3, .ref t4]) l = some (.lst [.ref t1, .ref t2, .ref t3, .ref t4]) := upd_same
    change tSeq _ _ _ _ (upd (upd (upd (upd (upd H1 t1 (.tup (nis gr1))) t2 (.tup (nis gr2))) t3 (.tup (nis gr3))) t4 (.tup (nis gr4))) l (.lst [.ref t1, .ref t2, .ref t3, .ref t4]))
    generalize upd (upd (upd (upd (upd H1 t1 (.tup (nis gr1))) t2 (.tup (nis gr2))) t3 (.tup (nis gr3))) t4 (.tup (nis gr4))) l (.lst [.ref t1, .ref t2, .ref t3, .ref t4]) = H2 at s5 r5 s15 e5 ⊢
    have st2 := st1.same s15
    have sb2 := sb1.trans (SB.of s15)
    have nlp : l ≠ p := by
      rintro rfl
      obtain ⟨ns, v, k, g1, _⟩ := st2
      rw [g1] at e5
      cases e5
    refine ⟨_, rfl, p, a, 3, rfl, by decide, by decide, st2, fun H3 d3 hd3 sb3 st3 => ⟨rfl, _, rfl, ?_⟩⟩
    refine ite2 (fun _ => ?_) (fun _ => ?_)
    · refine ⟨_, rfl, p, a, 6, rfl, by decide, by decide, st3, fun H4 x hx sb4 st4 => ?_⟩
      refine ⟨hsz (show 6 ≤ 100 by decide), fun u1 hu1 => ⟨hsz (show 6 ≤ 100 by decide), fun u2 hu2 => ⟨hsz (show 2 ≤ 100 by decide), fun c hc => ⟨hsz (show 3 ≤ 100 by decide), ?_⟩⟩⟩⟩
      have z1 : Same H4 (upd H4 u1 (.tup (nis [1, 0, 4, 5, 2, 3]))) := same_upd hu1
      have w1 := (Rws.nil (H := upd H4 u1 (.tup (nis [1, 0, 4, 5, 2, 3]))) (n := 6)).snoc (t := u1) (row := [1, 0, 4, 5, 2, 3]) upd_same (by decide)
      have z2 : Same (upd H4 u1 (.tup (nis [1, 0, 4, 5, 2, 3]))) (upd (upd H4 u1 (.tup (nis [1, 0, 4, 5, 2, 3]))) u2 (.tup (nis [2, 3, 0, 1, 5, 4]))) := same_upd hu2
      have w2 := (w1.same fun b xs e => z2 b _ e).snoc (t := u2) (row := [2, 3, 0, 1, 5, 4]) upd_same (by decide)
      exact made_sys (n := 6) (rs := [u1, u2]) (f := [[1, 0, 4, 5, 2, 3], [2, 3, 0, 1, 5, 4]]) (cl := l) (by decide) (by decide) hx (((sb2.trans sb3).trans sb4).trans (SB.of (z1.trans z2))) (st4.same (z1.trans z2)) w2 (by decide) q c hc
    · obtain ⟨yp, hyp⟩ := st2.lst
      obtain ⟨zp, hzp⟩ := st3.lst
      refine ⟨_, rfl, p, a, 8, rfl, by decide, by decide, st3, fun H4 x hx sb4 st4 => ?_⟩
      have e4 := (sb3.trans sb4) _ _ nlp e5
      have r6 := ((r5.same (sb3.tup hyp)).same (sb4.tup hzp)).take (1 + dg)
      refine ⟨_, rfl, _, rfl, 1 + ((dg : Nat) : Int), rfl, l, _, rfl, SqL.of e4, fun sl hsl => ?_⟩
      have hcut : cutV [V.ref t1, .ref t2, .ref t3, .ref t4] none (some (1 + ((dg : Nat) : Int))) = ([t1, t2, t3, t4].take (1 + dg)).map V.ref := by
        unfold cutV
        rw [show (1 : Int) + ((dg : Nat) : Int) = ((1 + dg : Nat) : Int) by omega, HT.sIx_nat, HT.sIx_none, List.drop_zero, Nat.sub_zero, List.map_take]
        rw [show min (1 + dg) [V.ref t1, .ref t2, .ref t3, .ref t4].length = 1 + dg from Nat.min_eq_left (by show 1 + dg ≤ 4; omega)]
        rfl
      rw [hcut]
      have z1 : Same H4 (upd H4 sl (.lst (([t1, t2, t3, t4].take (1 + dg)).map V.ref))) := same_upd hsl
      refine .inl ⟨sl, _, rfl, SqL.of upd_same, fun c hc => ⟨hsz (show 3 ≤ 100 by decide), ?_⟩⟩
      exact made_sys (n := 8) (cl := l) (by decide) (by decide) hx (((sb2.trans sb3).trans sb4).trans (SB.of z1)) (st4.same z1) (r6.same fun b xs e => z1 b _ e) (by rw [List.length_take]; exact Nat.min_le_right _ _) q c hc
end
end K32
/-! The law's own functions: _law_led, _law_pairs, _law_reached, _law_counterparts, _law_determines, _law_failing. -/
namespace K32
open PySem PySem.Spec PyProof.Rows L2
section
variable {P : Program} {w : World} {K : PySem.W.Frag} {mg : Str → Option Value} {base : Heap}
abbrev sLLed : Stmt := topS 38
abbrev sLPairs : Stmt := topS 39
abbrev sLReached : Stmt := topS 40
abbrev sLCtp : Stmt := topS 41
abbrev sLDet : Stmt := topS 42
abbrev sLFail : Stmt := topS 49
/-! ### _law_led -/
theorem scLLed : FnScope ["_law_system_here", "_law_state", "_law_sequence", "_law_here", "_law_command"] ["_law_system_here", "_law_state", "_law_sequence"] (defScope sLLed) := ⟨rfl, rfl, rfl, by decide +kernel, rfl, by decide +kernel, by decide +kernel⟩
theorem kLLed (d : Dn K mg "_law_led" sLLed ["_law_system_here", "_law_state", "_law_sequence"]) : Kp P w K mg base 1 "_law_led" (spLed K) := by
  refine d.keeps scLLed (fun vs H Q E h => ?_) (fun f cdv A outer s H vs Q E hr h => ?_)
  · obtain ⟨a, S, x, b, p, rfl, _⟩ := h
    rfl
  · obtain ⟨a, S, x, b, p, rfl, hS, ok, hx, hb, hp, q⟩ := h
    refine ⟨_, pss_cons (ps_set (i := 3) scLLed.nd rfl (.inl rfl) (pv 1))
      (pss_cons (ps_for PassesOwn.never rfl (pi_tup (pv 2)) (pg_name (i := 4) scLLed.nd rfl (.inl rfl))
        (pss_one (ps_set (i := 3) scLLed.nd rfl (.inl rfl) (pe_ix ix_tup (pe_ix ix_tup (pe_ix ix_tup (pv 0) pe_int (fun _ _ => rfl)) (pv 4) (fun _ _ => rfl)) (pv 3) (fun _ _ => rfl)))))
      (pss_one (ps_ret (pv 3)))), ?_⟩
    refine ⟨_, rfl, _, rfl, b, rfl, ⟨_, hb⟩, for_tup (K := K) (a := b) (xs := nis p) (fun i σ H' => H' = H ∧ ∃ v, σ = [some (.ref a), some (.int x), some (.ref b), some (.int (S.led x (p.take i) : Nat)), v]) ⟨rfl, _, rfl⟩ (fun i σ H' _ h => h.1 ▸ hb) ?_ ?_⟩
    · rintro i y σ H' hi ⟨rfl, v, rfl⟩
      obtain ⟨c, hc, rfl⟩ := of_nis_get hi
      have hc' : c < S.m := hp c (List.mem_of_getElem? hc)
      have hx' : S.led x (p.take i) < S.n := ok.led_lt hx fun d hd => hp d (List.mem_of_mem_take hd)
      refine vl_step hS ok hx' hc' (vl_var rfl) (vl_var rfl) (vl_var rfl) _ ⟨rfl, some (.int c), ?_⟩
      rw [List.take_add_one, hc]
      show [some (V.ref a), some (V.int ↑x), some (V.ref b), some (V.int ↑(S.step (S.led x (List.take i p)) c)), some (V.int ↑c)] = _
      rw [Option.toList_some, led_snoc]
    · rintro σ H' ⟨rfl, v, rfl⟩
      rw [nis_len, List.take_length]
      exact ⟨_, rfl, q⟩
/-! ### _law_pairs -/
/-- an entry: the pair, its sequence, where the entry stands -/
abbrev En : Type := (Nat × Nat) × List Nat × Addr
abbrev k2 (es : List En) : List (Nat × Nat) := es.map Prod.fst
def en2 (e : En) : List Key × V := (ky e.1, .bl true)
theorem find_en2 (p : Nat × Nat) : ∀ l : List En, (p ∈ k2 l ∧ valV (l.map en2) (ky p) = some (.bl true)) ∨ (p ∉ k2 l ∧ valV (l.map en2) (ky p) = none)
  | [] => .inr ⟨by simp, rfl⟩
  | e :: l => by
    by_cases h : e.1 = p
    · refine .inl ⟨List.mem_map.mpr ⟨e, List.mem_cons_self, h⟩, ?_⟩
      rw [List.map_cons]
      exact valV_pos (p := en2 e) (by show ky e.1 = ky p; rw [h])
    · have hne : ¬ (en2 e).1 = ky p := fun z => h (ky_inj z)
      rw [List.map_cons, valV_neg hne]
      rcases find_en2 p l with ⟨h1, h2⟩ | ⟨h1, h2⟩
      · exact .inl ⟨List.mem_cons_of_mem _ h1, h2⟩
      · refine .inr ⟨fun hm => ?_, h2⟩
        have hm : p ∈ e.1 :: k2 l := hm
        rcases List.mem_cons.mp hm with z | z
        · exact h z.symm
        · exact h1 z
/-- the entry stands -/
def EnAt (H : Hp) (e : En) : Prop := ∃ tp tq : Addr, H e.2.2 = some (.tup [.ref tp, .ref tq]) ∧ H tp = some (.tup (pvv e.1)) ∧ H tq = some (.tup (nis e.2.1))
theorem EnAt.keep {H H' : Hp} {e : En} (h : EnAt H e) (k : ∀ b xs, H b = some (.tup xs) → H' b = some (.tup xs)) : EnAt H' e := by
  obtain ⟨tp, tq, h1, h2, h3⟩ := h
  exact ⟨tp, tq, k _ _ h1, k _ _ h2, k _ _ h3⟩
/-- the list of found entries at fl -/
structure LF (S : Sy) (a b : Nat) (H : Hp) (fl : Addr) (es : List En) : Prop where
  lst : H fl = some (.lst (es.map fun e => V.ref e.2.2))
  at_ : ∀ e ∈ es, EnAt H e
  nd : (k2 es).Nodup
  seq : ∀ e ∈ es, Sq S e.2.1 ∧ S.led a e.2.1 = e.1.1 ∧ S.led b e.2.1 = e.1.2 ∧ e.2.1.length ≤ es.length
theorem LF.same {S : Sy} {a b : Nat} {H H' : Hp} {fl : Addr} {es : List En} (h : LF S a b H fl es) (s : Same H H') : LF S a b H' fl es := ⟨s _ _ h.lst, fun e he => (h.at_ e he).keep fun b xs e => s b _ e, h.nd, h.seq⟩
theorem LF.rch {S : Sy} {a b : Nat} {H : Hp} {fl : Addr} {es : List En} (h : LF S a b H fl es) {p : Nat × Nat} (hp : p ∈ k2 es) : PR S a b p := by
  obtain ⟨e, he, rfl⟩ := List.mem_map.mp hp
  obtain ⟨h1, h2, h3, _⟩ := h.seq e he
  exact ⟨e.2.1, h1, h2, h3⟩
theorem LF.le {S : Sy} {a b : Nat} {H : Hp} {fl : Addr} {es : List En} (h : LF S a b H fl es) (ok : S.Ok) (ha : a < S.n) (hb : b < S.n) : es.length ≤ 64 := by
  have := pairs_le ok h.nd fun p hp => (h.rch hp).lt ok ha hb
  rw [List.length_map] at this
  exact this
/-- i: the place in hand; its pair is done to the k-th command -/
structure Li (S : Sy) (a b : Nat) (H0 H : Hp) (fl d : Addr) (es : List En) (i : Nat) (k : Nat) : Prop where
  sm : Same H0 H
  lf : LF S a b H fl es
  dict : H d = some (.dT (es.map en2))
  st : (a, b) ∈ k2 es
  done : ∀ j e, es[j]? = some e → j < i → Dto S (k2 es) e.1 S.m
  hd : ∀ e, es[i]? = some e → Dto S (k2 es) e.1 k
theorem Li.same {S : Sy} {a b : Nat} {H0 H H' : Hp} {fl d : Addr} {es : List En} {i k : Nat} (h : Li S a b H0 H fl d es i k) (s : Same H H') : Li S a b H0 H' fl d es i k :=
  ⟨h.sm.trans s, h.lf.same s, s _ _ h.dict, h.st, h.done, h.hd⟩
theorem Li.add {S : Sy} {a b : Nat} {H0 H H2 : Hp} {fl d : Addr} {es : List En} {i k : Nat} {e : En} {p : Nat × Nat} (h : Li S a b H0 H fl d es i k) (n0 : H0 d = none) (nf : H0 fl = none) (he : es[i]? = some e) (hkm : k < S.m)
    (hp : p = (S.step e.1.1 k, S.step e.1.2 k)) (hk : p ∉ k2 es) {t u v : Addr} (hs : Same (upd H d (.dT (putK (es.map en2) (ky p) (.bl true)))) H2) (ht : H2 t = some (.tup (pvv p))) (hv : H2 v = some (.tup (nis (e.2.1 ++ [k])))) (hu : H2 u = some (.tup [.ref t, .ref v])) :
    Li S a b H0 (upd H2 fl (.lst (es.map (fun e => V.ref e.2.2) ++ [.ref u]))) fl d (es ++ [(p, e.2.1 ++ [k], u)]) i (k + 1) := by
  have hn : valV (es.map en2) (ky p) = none := by
    rcases find_en2 p es with ⟨h1, _⟩ | ⟨_, h2⟩
    · exact absurd h1 hk
    · exact h2
  have hmem : e ∈ es := List.mem_of_getElem? he
  obtain ⟨q1, q2, q3, q4⟩ := h.lf.seq e hmem
  have hfd : fl ≠ d := ne_of h.lf.lst h.dict (fun z => nomatch z)
  have f2 : H2 fl = some (.lst (es.map fun e => V.ref e.2.2)) := hs _ _ (by rw [upd_ne hfd]; exact h.lf.lst)
  have d2 : H2 d = some (.dT (es.map en2 ++ [(ky p, .bl true)])) := by
    rw [← putK_new _ hn]
    exact hs _ _ upd_same
  have kt : ∀ c xs, H c = some (.tup xs) → upd H2 fl (.lst (es.map (fun e => V.ref e.2.2) ++ [.ref u])) c = some (.tup xs) := fun c xs hc => by
    have h1 : upd H d (.dT (putK (es.map en2) (ky p) (.bl true))) c = some (.tup xs) := by
      rw [upd_ne (ne_of hc h.dict (fun z => nomatch z))]
      exact hc
    rw [upd_ne (ne_of (hs _ _ h1) f2 (fun z => nomatch z))]
    exact hs _ _ h1
  have kt2 : ∀ {c : Addr} {xs : List V}, H2 c = some (.tup xs) → upd H2 fl (.lst (es.map (fun e => V.ref e.2.2) ++ [.ref u])) c = some (.tup xs) := fun {c xs} hc => by
    rw [upd_ne (ne_of hc f2 (fun z => nomatch z))]
    exact hc
  have hsub : ∀ y ∈ k2 es, y ∈ k2 (es ++ [(p, e.2.1 ++ [k], u)]) := fun y hy => by
    show y ∈ (es ++ [(p, e.2.1 ++ [k], u)]).map Prod.fst
    rw [List.map_append]
    exact List.mem_append_left _ hy
  have hnew : p ∈ k2 (es ++ [(p, e.2.1 ++ [k], u)]) := by
    show _ ∈ (es ++ [(p, e.2.1 ++ [k], u)]).map Prod.fst
    rw [List.map_append]
    exact List.mem_append_right _ (List.mem_singleton.mpr rfl)
  have hlt : i < es.length := (List.getElem?_eq_some_iff.mp he).1
  refine ⟨fun c o ec => ?_, ⟨?_, fun e' he' => ?_, ?_, fun e' he' => ?_⟩, ?_, hsub _ h.st, fun j e' hj hji => ?_, fun e' he' => ?_⟩
  · rw [upd_ne (ne_of_none ec nf)]
    refine hs _ _ ?_
    rw [upd_ne (ne_of_none ec n0)]
    exact h.sm c o ec
  · rw [upd_same, List.map_append]
    rfl
  · rcases List.mem_append.mp he' with z | z
    · exact (h.lf.at_ e' z).keep kt
    · rw [List.mem_singleton.mp z]
      exact ⟨t, v, kt2 hu, kt2 ht, kt2 hv⟩
  · show ((es ++ [(p, e.2.1 ++ [k], u)]).map Prod.fst).Nodup
    rw [List.map_append]
    exact nd_snoc h.lf.nd hk
  · rw [List.length_append]
    rcases List.mem_append.mp he' with z | z
    · obtain ⟨h1, h2, h3, h4⟩ := h.lf.seq e' z
      exact ⟨h1, h2, h3, Nat.le_trans h4 (Nat.le_add_right _ _)⟩
    · rw [List.mem_singleton.mp z]
      refine ⟨q1.app (Sq.one hkm), by rw [led_snoc, q2, hp], by rw [led_snoc, q3, hp], ?_⟩
      rw [List.length_append]
      exact Nat.add_le_add_right q4 1
  · rw [upd_ne hfd.symm, d2, List.map_append]
    rfl
  · by_cases hj2 : j < es.length
    · rw [List.getElem?_append_left hj2] at hj
      exact (h.done j e' hj hji).mono hsub
    · omega
  · rw [List.getElem?_append_left hlt, he] at he'
    cases he'
    exact ((h.hd e he).mono hsub).succ (hp ▸ hnew)
theorem scLPairs : FnScope ["_law_system_here", "_law_one", "_law_other", "_law_found", "_law_known", "_law_at", "_law_pair", "_law_sequence", "_law_command", "_law_later"] ["_law_system_here", "_law_one", "_law_other"] (defScope sLPairs) := ⟨rfl, rfl, rfl, by decide +kernel, rfl, by decide +kernel, by decide +kernel⟩
def spLPairs : Sp := fun vs H Q _ => ∃ (s : Addr) (S : Sy) (a b : Nat), vs = [.ref s, .int a, .int b] ∧ IsSy H s S ∧ S.Ok ∧ a < S.n ∧ b < S.n ∧
  ∀ (H' : Hp) (fl : Addr) (es : List En), Same H H' → LF S a b H' fl es → Prs S a b (k2 es) → Q (.ref fl) H'
theorem kLPairs (G : Gf mg) (d : Dn K mg "_law_pairs" sLPairs ["_law_system_here", "_law_one", "_law_other"]) : Kp P w K mg base 1 "_law_pairs" spLPairs := by
  refine d.keeps scLPairs (fun vs H Q E h => ?_) (fun f cdv A outer s H vs Q E hr h => ?_)
  · obtain ⟨sa, S, a, b, rfl, _⟩ := h
    rfl
  · obtain ⟨sa, S, a, b, rfl, hS, ok, ha, hb, q⟩ := h
    have hu := hu_of hr
    refine ⟨_, pss_cons (ps_set (i := 3) scLPairs.nd rfl (.inl rfl) (pe_lst (pa_cons (pe_tup (pa_cons (pe_tup (pa_cons (pv 1) (pa_cons (pv 2) pa_nil))) (pa_cons (pe_tup pa_nil) pa_nil))) pa_nil)))
      (pss_cons (ps_set (i := 4) scLPairs.nd rfl (.inl rfl) (pe_disp1T hu (pe_tup (pa_cons (pv 1) (pa_cons (pv 2) pa_nil))) pe_bl))
      (pss_cons (ps_for PassesOwn.never rfl (pi_range1 (by rfl) G.range (pa_cons pe_int pa_nil)) (pg_name (i := 5) scLPairs.nd rfl (.inl rfl))
        (pss_one (ps_if (pt_cmpR op_lt (pv 5) (pe_len (by rfl) G.len (pv 3)) (nomark _))
          (pss_cons (ps_asg (pe_ix ix_list (pv 3) (pv 5) (fun _ _ => rfl)) (pg_tup rfl (pgs_cons (pg_name (i := 6) scLPairs.nd rfl (.inl rfl)) (pgs_cons (pg_name (i := 7) scLPairs.nd rfl (.inl rfl)) pgs_nil))))
          (pss_one (ps_for PassesOwn.never rfl (pi_range1 (by rfl) G.range (pa_cons (pe_len (by rfl) G.len (pe_ix ix_tup (pv 0) pe_int (fun _ _ => rfl))) pa_nil)) (pg_name (i := 8) scLPairs.nd rfl (.inl rfl))
            (pss_cons (ps_set (i := 9) scLPairs.nd rfl (.inl rfl) (pe_tup (pa_cons (pe_ix ix_tup (pe_ix ix_tup (pe_ix ix_tup (pv 0) pe_int (fun _ _ => rfl)) (pv 8) (fun _ _ => rfl)) (pe_ix ix_tup (pv 6) pe_int (fun _ _ => rfl)) (fun _ _ => rfl))
                (pa_cons (pe_ix ix_tup (pe_ix ix_tup (pe_ix ix_tup (pv 0) pe_int (fun _ _ => rfl)) (pv 8) (fun _ _ => rfl)) (pe_ix ix_tup (pv 6) pe_int (fun _ _ => rfl)) (fun _ _ => rfl)) pa_nil))))
            (pss_one (ps_if (pt_cmp (pc_dnotin hu (pv 9) (pv 4)) (by rfl))
              (pss_cons (ps_dput hu (pv 4) (pv 9) pe_bl rfl)
              (pss_one (ps_expr (pe_bm PySem.F.plainAttrs_list PySem.F.slot_list_append PySem.F.type_list_append mt_append (pv 3) (pa_cons (pe_tup (pa_cons (pv 9) (pa_cons (pe_op op_catA (pv 7) (pe_tup (pa_cons (pv 8) pa_nil))) pa_nil))) pa_nil))))) pss_nil)))))) pss_nil)))
      (pss_one (ps_ret (pv 3))))), ?_⟩
    have hsz : ∀ {k : Nat}, k ≤ 100 → k ≤ sizeLine := fun {k} h => by rw [sizeLine_eq]; omega
    -- found = [((one, other), ())]
    refine ⟨_, rfl, _, rfl, hsz (show 2 ≤ 100 by decide), fun tp htp => ⟨hsz (show 0 ≤ 100 by decide), fun tq htq => ⟨hsz (show 2 ≤ 100 by decide), fun te hte => ⟨hsz (show 1 ≤ 100 by decide), fun fl hfl => ?_⟩⟩⟩⟩
    have s1 : Same H (upd H tp (.tup (pvv (a, b)))) := same_upd htp
    have e1 : upd H tp (.tup (pvv (a, b))) tp = some (.tup (pvv (a, b))) := upd_same
    have s2 : Same (upd H tp (.tup (pvv (a, b)))) (upd (upd H tp (.tup (pvv (a, b)))) tq (.tup [])) := same_upd htq
    have e2 : upd (upd H tp (.tup (pvv (a, b)))) tq (.tup []) tq = some (.tup []) := upd_same
    have s3 : Same (upd (upd H tp (.tup (pvv (a, b)))) tq (.tup [])) (upd (upd (upd H tp (.tup (pvv (a, b)))) tq (.tup [])) te (.tup [.ref tp, .ref tq])) := same_upd hte
    have e3 : upd (upd (upd H tp (.tup (pvv (a, b)))) tq (.tup [])) te (.tup [.ref tp, .ref tq]) te = some (.tup [.ref tp, .ref tq]) := upd_same
    have s4 : Same (upd (upd (upd H tp (.tup (pvv (a, b)))) tq (.tup [])) te (.tup [.ref tp, .ref tq])) (upd (upd (upd (upd H tp (.tup (pvv (a, b)))) tq (.tup [])) te (.tup [.ref tp, .ref tq])) fl (.lst [.ref te])) := same_upd hfl
    have e4 : upd (upd (upd (upd H tp (.tup (pvv (a, b)))) tq (.tup [])) te (.tup [.ref tp, .ref tq])) fl (.lst [.ref te]) fl = some (.lst [.ref te]) := upd_same
    have nf : H fl = none := ((s1.trans s2).trans s3).free hfl
    have lf : LF S a b (upd (upd (upd (upd H tp (.tup (pvv (a, b)))) tq (.tup [])) te (.tup [.ref tp, .ref tq])) fl (.lst [.ref te])) fl [((a, b), [], te)] := by
      refine ⟨e4, fun e he => ?_, by simp [k2], fun e he => ?_⟩
      · rw [List.mem_singleton.mp he]
        exact ⟨tp, tq, s4 _ _ e3, s4 _ _ (s3 _ _ (s2 _ _ e1)), s4 _ _ (s3 _ _ e2)⟩
      · rw [List.mem_singleton.mp he]
        exact ⟨Sq.nil, rfl, rfl, Nat.zero_le _⟩
    have s14 := ((s1.trans s2).trans s3).trans s4
    change tSeq _ _ _ _ (upd (upd (upd (upd H tp (.tup (pvv (a, b)))) tq (.tup [])) te (.tup [.ref tp, .ref tq])) fl (.lst [.ref te]))
    generalize upd (upd (upd (upd H tp (.tup (pvv (a, b)))) tq (.tup [])) te (.tup [.ref tp, .ref tq])) fl (.lst [.ref te]) = H1 at lf s14 ⊢
    clear s1 e1 s2 e2 s3 e3 s4 e4 htp htq hte hfl
    -- known = {(one, other): True}
    refine fun dd hd => ⟨_, rfl, _, rfl, hsz (show 2 ≤ 100 by decide), fun t ht => ⟨?_, t, ky (a, b), rfl, upd_same, ?_⟩⟩
    · rw [upd_ne (ne_of_none upd_same ht)]
      exact upd_same
    have hn : H dd = none := s14.free hd
    have s5 : Same H1 (upd (upd (upd H1 dd (.dT [])) t (.tup (pvv (a, b)))) dd (.dT [(ky (a, b), .bl true)])) := fun c o e => by
      have h1 : H1 t = none := by
        have := ht
        rw [upd_ne (ne_of_none upd_same ht).symm] at this
        exact this
      rw [upd_ne (ne_of_none e hd), upd_ne (ne_of_none e h1), upd_ne (ne_of_none e hd)]
      exact e
    have li : Li S a b H (upd (upd (upd H1 dd (.dT [])) t (.tup (pvv (a, b)))) dd (.dT [(ky (a, b), .bl true)])) fl dd [((a, b), [], te)] 0 0 :=
      ⟨s14.trans s5, lf.same s5, upd_same, List.mem_singleton.mpr rfl, fun j e _ hj => absurd hj (Nat.not_lt_zero j), fun e _ c hc => absurd hc (Nat.not_lt_zero c)⟩
    change tSeq _ _ _ _ (upd (upd (upd H1 dd (.dT [])) t (.tup (pvv (a, b)))) dd (.dT [(ky (a, b), .bl true)]))
    generalize upd (upd (upd H1 dd (.dT [])) t (.tup (pvv (a, b)))) dd (.dT [(ky (a, b), .bl true)]) = H2 at li ⊢
    clear s5 lf s14 ht hd
    -- the places
    refine ⟨64, rfl, by decide, by decide, ?_⟩
    refine for_range (lo := 0) (n := 64) (fun i σ H' => ∃ (es : List En) (v5 v6 v7 v8 v9 : Option V), σ = [some (.ref sa), some (.int a), some (.int b), some (.ref fl), some (.ref dd), v5, v6, v7, v8, v9] ∧ Li S a b H H' fl dd es i 0)
      ⟨_, _, _, _, _, _, rfl, li⟩ ?_ ?_
    · rintro i σ H3 hi ⟨es, v5, v6, v7, v8, v9, rfl, li⟩
      rw [Int.zero_add]
      have h64 := li.lf.le ok ha hb
      refine ⟨_, rfl, vl_lenL (vl_var rfl) (SqL.of li.lf.lst) _ ⟨_, _, rfl, rfl, _, rfl, ?_⟩⟩
      rw [List.length_map]
      refine ite2 (fun hlt => ?_) (fun hlt => ?_)
      · have hlt : i < es.length := by have := of_decide_eq_true hlt; omega
        have he : es[i]? = some es[i] := List.getElem?_eq_getElem hlt
        have hmem : es[i] ∈ es := List.getElem_mem hlt
        obtain ⟨tp, tq, g1, g2, g3⟩ := li.lf.at_ _ hmem
        have hx : (es.map fun e => V.ref e.2.2)[i]? = some (.ref es[i].2.2) := by
          rw [List.getElem?_map, he]
          rfl
        generalize hes : es[i] = e at he hmem g1 g2 g3 hx
        refine vl_ixL (j := i) (vl_var rfl) (vl_var rfl) (SqL.of li.lf.lst) hx _ ⟨_, _, rfl, SqT.of g1, rfl, _, _, rfl, _, _, rfl, rfl, ?_⟩
        have hmm : S.m ≤ 4 := ok.m4
        refine vl_m (hS.same li.sm) (vl_var rfl) _ ⟨_, rfl, by omega, by omega, ?_⟩
        rw [Int.toNat_natCast]
        refine for_range (lo := 0) (n := S.m) (fun k σ H4 => ∃ (es' : List En) (v8 v9 : Option V), σ = [some (.ref sa), some (.int a), some (.int b), some (.ref fl), some (.ref dd), some (.int i), some (.ref tp), some (.ref tq), v8, v9] ∧ Li S a b H H4 fl dd es' i k ∧ es'[i]? = some e ∧ H4 tp = some (.tup (pvv e.1)) ∧ H4 tq = some (.tup (nis e.2.1)))
          ⟨es, _, _, rfl, li, he, g2, g3⟩ ?_ ?_
        · rintro k σ H4 hk ⟨es', v8, v9, rfl, lk, hek, k2', k3⟩
          rw [Int.zero_add]
          have hmem' : e ∈ es' := List.mem_of_getElem? hek
          have h64' := lk.lf.le ok ha hb
          obtain ⟨hx1, hx2⟩ := (lk.lf.rch (List.mem_map.mpr ⟨e, hmem', rfl⟩)).lt ok ha hb
          have hS4 := hS.same lk.sm
          refine vl_step hS4 ok hx1 hk (vl_var rfl) (vl_var rfl) (vl_ixT (j := 0) (vl_var rfl) vl_c (SqT.of k2') rfl) _ ?_
          refine vl_step hS4 ok hx2 hk (vl_var rfl) (vl_var rfl) (vl_ixT (j := 1) (vl_var rfl) vl_c (SqT.of k2') rfl) _ ⟨hsz (show 2 ≤ 100 by decide), fun t ht => ?_⟩
          have st : Same H4 (upd H4 t (.tup (pvv (S.step e.1.1 k, S.step e.1.2 k)))) := same_upd ht
          have htt : upd H4 t (.tup (pvv (S.step e.1.1 k, S.step e.1.2 k))) t = some (.tup (pvv (S.step e.1.1 k, S.step e.1.2 k))) := upd_same
          change tSeq _ _ _ _ (upd H4 t (.tup (pvv (S.step e.1.1 k, S.step e.1.2 k))))
          generalize upd H4 t (.tup (pvv (S.step e.1.1 k, S.step e.1.2 k))) = H5 at st htt ⊢
          have lt := lk.same st
          refine ⟨_, rfl, _, rfl, dd, _, rfl, DGet.t (k := ky (S.step e.1.1 k, S.step e.1.2 k)) lt.dict htt, _, rfl, ?_⟩
          rcases find_en2 (S.step e.1.1 k, S.step e.1.2 k) es' with ⟨h1, h2⟩ | ⟨h1, h2⟩
          · rw [h2]
            refine ⟨es', _, _, rfl, ⟨lt.sm, lt.lf, lt.dict, lt.st, lt.done, fun e' he' => ?_⟩, hek, st _ _ k2', st _ _ k3⟩
            have e3 := he'
            rw [hek] at e3
            cases e3
            exact (lt.hd e hek).succ h1
          · rw [h2]
            -- known[later] = True
            refine ⟨_, rfl, _, rfl, dd, _, rfl, DPut.t (k := ky (S.step e.1.1 k, S.step e.1.2 k)) lt.dict htt (by rw [List.length_map]; exact small1000 (by omega)), ?_⟩
            have hfd : fl ≠ dd := ne_of lt.lf.lst lt.dict (fun z => nomatch z)
            have kd : ∀ {c : Addr} {xs : List V}, H5 c = some (.tup xs) → upd H5 dd (.dT (putK (es'.map en2) (ky (S.step e.1.1 k, S.step e.1.2 k)) (.bl true))) c = some (.tup xs) := fun {c xs} hc => by
              rw [upd_ne (ne_of hc lt.dict (fun z => nomatch z))]
              exact hc
            have f6 : upd H5 dd (.dT (putK (es'.map en2) (ky (S.step e.1.1 k, S.step e.1.2 k)) (.bl true))) fl = some (.lst (es'.map fun e => V.ref e.2.2)) := by
              rw [upd_ne hfd]
              exact lt.lf.lst
            have t6 := kd htt
            have q6 := kd (st _ _ k3)
            have p6 := kd (st _ _ k2')
            have add := fun {H2 : Hp} {u v : Addr} (hs : Same _ H2) (ht) (hv) (hu) => lt.add (H2 := H2) (u := u) (v := v) (t := t) hn nf hek hk rfl h1 hs ht hv hu
            generalize upd H5 dd (.dT (putK (es'.map en2) (ky (S.step e.1.1 k, S.step e.1.2 k)) (.bl true))) = H6 at kd f6 t6 q6 p6 add ⊢
            refine ⟨_, rfl, .inl ⟨rfl, _, SqL.of f6⟩, _, rfl, _, rfl, _, rfl, hsz (show 1 ≤ 100 by decide), fun u1 hu1 => ?_⟩
            have su : Same H6 (upd H6 u1 (.tup [.int (k : Nat)])) := same_upd hu1
            have eu : upd H6 u1 (.tup [.int (k : Nat)]) u1 = some (.tup [.int (k : Nat)]) := upd_same
            generalize upd H6 u1 (.tup [.int (k : Nat)]) = H7 at su eu ⊢
            obtain ⟨_, _, _, hql⟩ := lk.lf.seq e hmem'
            have fin : ∀ (H8 : Hp) (v : Addr), Same H6 H8 → H8 v = some (.tup (nis (e.2.1 ++ [k]))) → ∀ u, H8 u = none →
                (upd H8 u (.tup [.ref t, .ref v])) fl = some (.lst (es'.map fun e => V.ref e.2.2)) ∧ (es'.map fun e => V.ref e.2.2).length < sizeLine ∧
                ∃ es'' : List En, Li S a b H (upd (upd H8 u (.tup [.ref t, .ref v])) fl (.lst (es'.map (fun e => V.ref e.2.2) ++ [.ref u]))) fl dd es'' i (k + 1) ∧ es''[i]? = some e ∧
                  upd (upd H8 u (.tup [.ref t, .ref v])) fl (.lst (es'.map (fun e => V.ref e.2.2) ++ [.ref u])) tp = some (.tup (pvv e.1)) ∧ upd (upd H8 u (.tup [.ref t, .ref v])) fl (.lst (es'.map (fun e => V.ref e.2.2) ++ [.ref u])) tq = some (.tup (nis e.2.1)) := by
              intro H8 v s8 hv u hu8
              have s9 : Same H8 (upd H8 u (.tup [.ref t, .ref v])) := same_upd hu8
              have s69 := s8.trans s9
              have f9 := s69 _ _ f6
              have hlt' : i < es'.length := (List.getElem?_eq_some_iff.mp hek).1
              refine ⟨f9, by rw [List.length_map]; exact small1000 (by omega), _, add s69 (s69 _ _ t6) (s9 _ _ hv) upd_same, by rw [List.getElem?_append_left hlt']; exact hek, ?_, ?_⟩
              · rw [upd_ne (ne_of (s69 _ _ p6) f9 (fun z => nomatch z))]
                exact s69 _ _ p6
              · rw [upd_ne (ne_of (s69 _ _ q6) f9 (fun z => nomatch z))]
                exact s69 _ _ q6
            refine ⟨tq, u1, nis e.2.1, [.int (k : Nat)], rfl, rfl, SqT.of (su _ _ q6), SqT.of eu, by rw [nis_len]; exact hsz (by show e.2.1.length + 1 ≤ 100; omega), fun hz => ?_, fun _ hz => absurd hz (List.cons_ne_nil _ _), fun _ _ v hv => ?_⟩
            · have hp0 : e.2.1 = [] := List.map_eq_nil_iff.mp hz
              refine ⟨hsz (show 2 ≤ 100 by decide), fun u hu8 => ?_⟩
              obtain ⟨z1, z2, es'', z3, z4, z5, z6⟩ := fin H7 u1 su (by rw [hp0]; exact eu) u hu8
              exact ⟨fl, _, _, rfl, rfl, z1, z2, es'', _, _, rfl, z3, z4, z5, z6⟩
            · refine ⟨hsz (show 2 ≤ 100 by decide), fun u hu8 => ?_⟩
              obtain ⟨z1, z2, es'', z3, z4, z5, z6⟩ := fin _ v (su.trans (same_upd hv)) (by
                show _ = some (HO.tup ((e.2.1 ++ [k]).map _))
                rw [List.map_append]
                exact upd_same) u hu8
              exact ⟨fl, _, _, rfl, rfl, z1, z2, es'', _, _, rfl, z3, z4, z5, z6⟩
        · rintro σ H4 ⟨es', v8, v9, rfl, lk, hek, _, _⟩
          refine ⟨es', _, _, _, _, _, rfl, lk.sm, lk.lf, lk.dict, lk.st, fun j e' hj hji => ?_, fun e' _ c hc => absurd hc (Nat.not_lt_zero c)⟩
          by_cases hj2 : j = i
          · subst hj2
            rw [hek] at hj
            cases hj
            exact lk.hd e hek
          · exact lk.done j e' hj (by omega)
      · have hge : es.length ≤ i := by
          refine Nat.le_of_not_lt fun z => hlt (decide_eq_true ?_)
          omega
        refine ⟨es, _, _, _, _, _, rfl, li.sm, li.lf, li.dict, li.st, fun j e' hj hji => ?_, fun e' _ c hc => absurd hc (Nat.not_lt_zero c)⟩
        have := (List.getElem?_eq_some_iff.mp hj).1
        exact li.done j e' hj (by omega)
    · rintro σ H3 ⟨es, v5, v6, v7, v8, v9, rfl, li⟩
      refine ⟨_, rfl, q H3 fl es li.sm li.lf (Prs.of li.lf.nd li.st (fun p hp => li.lf.rch hp) fun p hp c hc => ?_)⟩
      obtain ⟨e, he, rfl⟩ := List.mem_map.mp hp
      obtain ⟨j, hj, ej⟩ := List.mem_iff_getElem.mp he
      have h64 := li.lf.le ok ha hb
      exact li.done j e (by rw [List.getElem?_eq_getElem hj, ej]) (by omega) c hc hc
end
end K32
/-! _law_reached, _law_counterparts, _law_determines, _law_failing. -/
namespace K32
open PySem PySem.Spec PyProof.Rows L2
section
variable {P : Program} {w : World} {K : PySem.W.Frag} {mg : Str → Option Value} {base : Heap}
/-! ### _law_reached -/
theorem scLReached : FnScope ["_law_system_here", "_law_state", "_law_pair", "_law_sequence"] ["_law_system_here", "_law_state"] (defScope sLReached) := ⟨rfl, rfl, rfl, by decide +kernel, rfl, by decide +kernel, by decide +kernel⟩
def spLReached : Sp := fun vs H Q _ => ∃ (s : Addr) (S : Sy), vs = [.ref s, .int S.s] ∧ IsSy H s S ∧ S.Ok ∧ ∀ (H' : Hp) (l : Addr) (xs : List Nat), Same H H' → H' l = some (.lst (nis xs)) → xs.Pairwise (· < ·) → (∀ x, x ∈ xs ↔ R S x) → Q (.ref l) H'
/-- the first states of the pairs of one state with itself -/
theorem diag_nd {S : Sy} {a : Nat} {es : List En} (h : Prs S a a (k2 es)) : (es.map fun e => e.1.1).Nodup := by
  have h1 : ∀ l : List (Nat × Nat), l.Nodup → (∀ p ∈ l, p.1 = p.2) → (l.map Prod.fst).Nodup := by
    intro l
    induction l with
    | nil => intro _ _; exact List.nodup_nil
    | cons p l ih =>
      intro hn hd
      have h2 := List.nodup_cons.mp hn
      rw [List.map_cons]
      refine List.nodup_cons.mpr ⟨fun hm => ?_, ih h2.2 fun q hq => hd q (List.mem_cons_of_mem _ hq)⟩
      obtain ⟨q, hq, e⟩ := List.mem_map.mp hm
      have e2 : q = p := Prod.ext e (by rw [← hd q (List.mem_cons_of_mem _ hq), ← hd p List.mem_cons_self, e])
      exact h2.1 (e2 ▸ hq)
  have := h1 (k2 es) h.nd fun p hp => ((diag_iff (S := S) (a := a) (x := p.1) (y := p.2)).mp ((h.mem p).mp hp)).1
  rw [List.map_map] at this
  exact this
theorem diag_mem {S : Sy} {es : List En} (h : Prs S S.s S.s (k2 es)) (x : Nat) : x ∈ (es.map fun e => e.1.1) ↔ R S x := by
  constructor
  · intro hx
    obtain ⟨e, he, rfl⟩ := List.mem_map.mp hx
    exact (diag_iff.mp ((h.mem e.1).mp (List.mem_map.mpr ⟨e, he, rfl⟩))).2
  · intro hx
    have : (x, x) ∈ k2 es := (h.mem (x, x)).mpr (diag_iff.mpr ⟨rfl, hx⟩)
    obtain ⟨e, he, e1⟩ := List.mem_map.mp this
    exact List.mem_map.mpr ⟨e, he, by rw [e1]⟩
theorem kLReached (G : Gf mg) (d : Dn K mg "_law_reached" sLReached ["_law_system_here", "_law_state"]) (cP : Kp P w K mg base 1 "_law_pairs" spLPairs) : Kp P w K mg base 2 "_law_reached" spLReached := by
  refine d.keeps scLReached (fun vs H Q E h => ?_) (fun f cdv A outer s H vs Q E hr h => ?_)
  · obtain ⟨sa, S, rfl, _⟩ := h
    rfl
  · obtain ⟨sa, S, rfl, hS, ok, q⟩ := h
    refine ⟨_, pss_one (ps_ret (pe_callB cr_sortedI (by rfl) G.sorted (by decide +kernel) (pa_cons (pe_lc (own := [("_law_pair", 2), ("_law_sequence", 3)]) (g := gTup K 2 (gCons (gName 2) (gCons (gName 3) gNil))) (te := tOp (rIxT K) (tVar 2) (tC (.int 0))) (by rfl) scLReached.nd
      (pi_list (pe_k cP hr (by decide) (by rfl) (pa_cons (pv 0) (pa_cons (pv 1) (pa_cons (pv 1) pa_nil)))))
      (blkOk_by (own := [("_law_pair", 2), ("_law_sequence", 3)]) (N := ["_law_system_here", "_law_state", "_law_pair", "_law_sequence"]) (sc := defScope sLReached) (by decide +kernel))
      (fun _ _ _ _ _ => pg_tup rfl (pgs_cons (pg_name (i := 2) scLReached.nd rfl (Or.inl rfl)) (pgs_cons (pg_name (i := 3) scLReached.nd rfl (Or.inl rfl)) pgs_nil))) (fun _ _ _ _ _ => pts_nil)
      (fun _ _ _ _ _ => pe_ix ix_tup (pv 2) pe_int (fun _ _ => rfl))) pa_nil))), ?_⟩
    refine ⟨_, rfl, _, rfl, _, rfl, sa, S, S.s, S.s, rfl, hS, ok, ok.s, ok.s, fun H1 fl es sm lf pr => ⟨fl, rfl, ⟨_, SqL.of lf.lst⟩, fun D hD => lc_list (K := K) (a := fl) (xs := es.map fun e => V.ref e.2.2)
      (fun i H2 => Same H1 H2 ∧ H2 D = some (.lst (nis ((es.take i).map fun e => e.1.1)))) ⟨same_upd hD, upd_same⟩ (fun i H2 _ h => SqL.of (h.1 _ _ lf.lst)) ?_ ?_⟩⟩
    · rintro i y H2 hi ⟨s2, eD⟩
      rw [List.getElem?_map] at hi
      cases ei : es[i]? with
      | none => rw [ei] at hi; cases hi
      | some e =>
        rw [ei] at hi
        obtain rfl : V.ref e.2.2 = y := Option.some.inj hi
        obtain ⟨tp, tq, g1, g2, g3⟩ := lf.at_ e (List.mem_of_getElem? ei)
        have h64 := lf.le ok ok.s ok.s
        refine ⟨_, _, rfl, SqT.of (s2 _ _ g1), rfl, _, _, rfl, _, _, rfl, rfl, rfl, ?_⟩
        refine vl_ixT (j := 0) (vl_var rfl) vl_c (SqT.of (s2 _ _ g2)) rfl _ ⟨_, eD, ?_, fun c o ec => ?_, ?_⟩
        · rw [nis_len, List.length_map, List.length_take]
          exact small1000 (by omega)
        · rw [upd_ne (ne_of_none ec hD)]
          exact s2 c o ec
        · rw [upd_same, take_snoc ei]
          show _ = some (HO.lst (((es.take i ++ [e]).map fun e => e.1.1).map _))
          rw [List.map_append, List.map_append]
          rfl
    · rintro H2 ⟨s2, eD⟩
      rw [List.length_map, List.take_length] at eD
      refine ⟨D, ((es.map fun e => e.1.1).map fun c : Nat => (c : Int)), rfl, SqL.of (by rw [eD, List.map_map]; rfl), fun ys p hp1 hp2 hp => ?_⟩
      obtain ⟨xs, e1, e2, e3⟩ := nat_sorted hp1 hp2 (diag_nd pr)
      rw [e1]
      exact q _ p xs ((sm.trans s2).trans (same_upd hp)) upd_same e3 fun x => e2.mem_iff.trans (diag_mem pr x)
/-! ### _law_counterparts -/
theorem scLCtp : FnScope ["_law_system_here", "_law_one", "_law_other", "_law_pairs_here", "_law_pair", "_law_sequence", "_law_state", "_law_first", "_law_second"] ["_law_system_here", "_law_one", "_law_other"] (defScope sLCtp) := ⟨rfl, rfl, rfl, by decide +kernel, rfl, by decide +kernel, by decide +kernel⟩
theorem kLCtp (G : Gf mg) (d : Dn K mg "_law_counterparts" sLCtp ["_law_system_here", "_law_one", "_law_other"]) (cP : Kp P w K mg base 1 "_law_pairs" spLPairs) : Kp P w K mg base 2 "_law_counterparts" spCtp := by
  refine d.keeps scLCtp (fun vs H Q E h => ?_) (fun f cdv A outer s H vs Q E hr h => ?_)
  · obtain ⟨sa, S, a, b, rfl, _⟩ := h
    rfl
  · obtain ⟨sa, S, a, b, rfl, hS, ok, ha, hb, q⟩ := h
    refine ⟨_, pss_cons (ps_set (i := 3) scLCtp.nd rfl (.inr rfl) (pe_callB cr_sortedP (by rfl) G.sorted (by decide +kernel) (pa_cons
        (pe_lc (own := [("_law_pair", 4), ("_law_sequence", 5)]) (g := gTup K 2 (gCons (gName 4) (gCons (gName 5) gNil))) (by rfl) scLCtp.nd (pi_list (pe_k cP hr (by decide) (by rfl) (pa_cons (pv 0) (pa_cons (pv 1) (pa_cons (pv 2) pa_nil)))))
          (blkOk_by (own := [("_law_pair", 4), ("_law_sequence", 5)]) (N := ["_law_system_here", "_law_one", "_law_other", "_law_pairs_here", "_law_pair", "_law_sequence", "_law_state", "_law_first", "_law_second"]) (sc := defScope sLCtp) (by decide +kernel))
          (fun _ _ _ _ _ => pg_tup rfl (pgs_cons (pg_name (i := 4) scLCtp.nd rfl (Or.inl rfl)) (pgs_cons (pg_name (i := 5) scLCtp.nd rfl (Or.inl rfl)) pgs_nil))) (fun _ _ _ _ _ => pts_nil) (fun _ _ _ _ _ => pv 4)) pa_nil)))
      (pss_one (ps_ret (pe_lc (own := [("_law_state", 6)]) (te := tThen (tLc (iList K (tVar 3)) (gTup K 2 (gCons (gName 7) (gCons (gName 8) gNil))) (tTest (tOp rEq (tVar 7) (tVar 6))) (tVar 8) [7, 8]) (kTup K)) (by rfl) scLCtp.nd
        (pi_range1 (by rfl) G.range (pa_cons (pe_ix ix_tup (pv 0) pe_int (fun _ _ => rfl)) pa_nil))
        (blkOk_by (own := [("_law_state", 6)]) (N := ["_law_system_here", "_law_one", "_law_other", "_law_pairs_here", "_law_pair", "_law_sequence", "_law_state", "_law_first", "_law_second"]) (sc := defScope sLCtp) (by decide +kernel)) (fun _ _ _ _ _ => pg_name (i := 6) scLCtp.nd rfl (Or.inr rfl)) (fun _ _ _ _ _ => pts_nil)
        (fun _ _ _ _ _ => pe_tupleOf (by rfl) G.tuple (pe_lc (own := [("_law_first", 7), ("_law_second", 8)]) (by rfl) scLCtp.nd (pi_list (pv 3))
          (blkOk_by (own := [("_law_first", 7), ("_law_second", 8)]) (N := ["_law_system_here", "_law_one", "_law_other", "_law_pairs_here", "_law_pair", "_law_sequence", "_law_state", "_law_first", "_law_second"])
            (sc := relS { kind := .function, names := [(".0", .local), ("_law_state", .cell), ("tuple", .globalImplicit), ("_law_pairs_here", .free)], isGenerator := false, isCoroutine := false } (defScope sLCtp)) (by decide +kernel))
          (fun _ _ _ _ _ => pg_tup rfl (pgs_cons (pg_name (i := 7) scLCtp.nd rfl (Or.inl rfl)) (pgs_cons (pg_name (i := 8) scLCtp.nd rfl (Or.inl rfl)) pgs_nil))) (fun _ _ _ _ _ => pts_one (pt_cmpR op_eq (pv 7) (pv 6) (nomark _))) (fun _ _ _ _ _ => pv 8)))))), ?_⟩
    -- pairs_here
    refine ⟨_, rfl, _, rfl, _, rfl, sa, S, a, b, rfl, hS, ok, ha, hb, fun H1 el es sm1 lf pr => ⟨el, rfl, ⟨_, SqL.of lf.lst⟩, fun D0 hD0 => lc_list (K := K) (a := el) (xs := es.map fun e => V.ref e.2.2)
      (fun i H2 => Same H1 H2 ∧ ∃ fs : List ((Nat × Nat) × Addr), H2 D0 = some (.lst (fs.map fun e => V.ref e.2)) ∧ (∀ e ∈ fs, H2 e.2 = some (.tup (pvv e.1))) ∧ ks fs = k2 (es.take i)) ⟨same_upd hD0, [], upd_same, fun e he => by simp at he, rfl⟩ (fun i H2 _ h => SqL.of (h.1 _ _ lf.lst)) ?_ ?_⟩⟩
    · rintro i y H2 hi ⟨s2, fs, eD, hfs, hk⟩
      rw [List.getElem?_map] at hi
      cases ei : es[i]? with
      | none => rw [ei] at hi; cases hi
      | some e =>
        rw [ei] at hi
        obtain rfl : V.ref e.2.2 = y := Option.some.inj hi
        obtain ⟨tp, tq, g1, g2, g3⟩ := lf.at_ e (List.mem_of_getElem? ei)
        have h64 := lf.le ok ha hb
        refine ⟨_, _, rfl, SqT.of (s2 _ _ g1), rfl, _, _, rfl, _, _, rfl, rfl, rfl, _, rfl, _, eD, ?_, fun c o ec => ?_, fs ++ [(e.1, tp)], ?_, fun e' he' => ?_, ?_⟩
        · have := congrArg List.length hk
          rw [List.length_map, List.length_map, List.length_take] at this
          rw [List.length_map]
          exact small1000 (by omega)
        · rw [upd_ne (ne_of_none ec hD0)]
          exact s2 c o ec
        · rw [upd_same, List.map_append]
          rfl
        · have tD : ∀ {c : Addr} {ts : List V}, H2 c = some (.tup ts) → upd H2 D0 (.lst (fs.map (fun e => V.ref e.2) ++ [.ref tp])) c = some (.tup ts) := fun {c ts} hc => by
            rw [upd_ne (ne_of hc eD (fun z => nomatch z))]
            exact hc
          rcases List.mem_append.mp he' with z | z
          · exact tD (hfs e' z)
          · rw [List.mem_singleton.mp z]
            exact tD (s2 _ _ g2)
        · show (fs ++ [(e.1, tp)]).map Prod.fst = (es.take (i + 1)).map Prod.fst
          rw [take_snoc ei, List.map_append, List.map_append]
          show ks fs ++ [e.1] = k2 (es.take i) ++ [e.1]
          rw [hk]
    rintro H2 ⟨s2, fs0, eD0, hfs0, hk0⟩
    rw [List.length_map, List.take_length] at hk0
    refine ⟨D0, _, rfl, SqL.of eD0, fun x hx => ?_, fun ys fl hperm hfl => ?_⟩
    · obtain ⟨e, he, rfl⟩ := List.mem_map.mp hx
      exact ⟨e.2, _, _, rfl, hfs0 e he⟩
    obtain ⟨fs, k4, k5⟩ := perm_lift hperm fs0 rfl
    have hpr : Prs S a b (ks fs) := pr.perm (hk0 ▸ k4.map Prod.fst)
    have s3' : Same H2 (upd H2 fl (.lst ys)) := same_upd hfl
    have wl2 : WL (upd H2 fl (.lst ys)) fl fs := ⟨by rw [upd_same, ← k5], fun e he => s3' _ _ (hfs0 e (k4.mem_iff.mp he))⟩
    have sm2 := (sm1.trans s2).trans s3'
    generalize upd H2 fl (.lst ys) = H3 at s3' wl2 sm2 ⊢
    have hfs : fs.length ≤ 64 := by
      have := pairs_le ok hpr.nd fun p hp => ((hpr.mem p).mp hp).lt ok ha hb
      rw [List.length_map] at this
      exact this
    have hn8 := ok.n8
    -- the rows
    refine vl_n (hS.same sm2) (vl_var rfl) _ ⟨_, rfl, by omega, by omega, fun D hD => ?_⟩
    rw [Int.toNat_natCast]
    refine lc_range (lo := 0) (n := S.n) (fun i H4 => Same H3 H4 ∧ ∃ rs : List Addr, H4 D = some (.lst (rs.map V.ref)) ∧ rs.length = i ∧ ∀ x r, rs[x]? = some r → ∃ ts, H4 r = some (.tup ts) ∧ ts.length = cnt (ks fs) x)
      ⟨same_upd hD, [], upd_same, rfl, fun x r e => by simp at e⟩ ?_ ?_
    · rintro i H4 hi ⟨s4, rs, eD, hrl, hrs⟩
      have w4 := wl2.same s4
      rw [Int.zero_add]
      refine ⟨rfl, _, rfl, fl, rfl, ⟨_, SqL.of w4.lst⟩, fun D2 hD2 => ?_⟩
      have hne : D ≠ D2 := ne_of_none eD hD2
      refine lc_list (K := K) (a := fl) (xs := fs.map fun e => V.ref e.2) (fun j H5 => Same H4 H5 ∧ ∃ acc, H5 D2 = some (.lst acc) ∧ acc.length = cnt (ks (fs.take j)) i) ⟨same_upd hD2, [], upd_same, rfl⟩ (fun j H5 _ h => SqL.of (h.1 _ _ w4.lst)) ?_ ?_
      · rintro j y H5 hj ⟨s5, acc, ea, hacc⟩
        rw [List.getElem?_map] at hj
        cases ej : fs[j]? with
        | none => rw [ej] at hj; cases hj
        | some e =>
          rw [ej] at hj
          obtain rfl : V.ref e.2 = y := Option.some.inj hj
          have het := s5 _ _ (w4.tup e (List.mem_of_getElem? ej))
          have hc := cnt_take ej i
          refine ⟨e.2, _, rfl, SqT.of het, rfl, _, _, rfl, _, _, rfl, rfl, rfl, _, rfl, _, rfl, rfl, _, rfl, ?_⟩
          by_cases z : e.1.1 = i
          · rw [decide_eq_true (show V.int (e.1.1 : Int) = V.int (i : Int) by rw [z])]
            rw [if_pos z] at hc
            refine ⟨_, rfl, acc, ea, ?_, fun c o ec => ?_, _, upd_same, ?_⟩
            · have h1 := cnt_le (ks (fs.take j)) i
              rw [List.length_map, List.length_take] at h1
              exact small1000 (by omega)
            · rw [upd_ne (ne_of_none ec hD2)]
              exact s5 c o ec
            · rw [List.length_append, hacc, hc]
              rfl
          · rw [decide_eq_false (show ¬ V.int (e.1.1 : Int) = V.int (i : Int) from fun q => z (by have := V.int.inj q; omega))]
            rw [if_neg z] at hc
            exact ⟨s5, acc, ea, by rw [hacc, hc]; rfl⟩
      · rintro H5 ⟨s5, acc, ea, hacc⟩
        rw [List.length_map, List.take_length] at hacc
        refine .inl ⟨D2, acc, rfl, SqL.of ea, fun t ht => ?_⟩
        have s6 : Same H5 (upd H5 t (.tup acc)) := same_upd ht
        have e6 : upd H5 t (.tup acc) t = some (.tup acc) := upd_same
        generalize upd H5 t (.tup acc) = H6 at s6 e6 ⊢
        have s46 := s5.trans s6
        refine ⟨_, s46 _ _ eD, ?_, fun c o ec => ?_, rs ++ [t], ?_, ?_, fun x r er => ?_⟩
        · rw [List.length_map]
          exact small1000 (by omega)
        · rw [upd_ne (ne_of_none ec hD)]
          exact s46 c o (s4 c o ec)
        · rw [upd_same, List.map_append]
          rfl
        · rw [List.length_append, hrl]
          rfl
        · have tD : ∀ {c : Addr} {ts : List V}, H6 c = some (.tup ts) → upd H6 D (.lst (rs.map V.ref ++ [.ref t])) c = some (.tup ts) := fun {c ts} hc => by
            rw [upd_ne (ne_of hc (s46 _ _ eD) (fun z => nomatch z))]
            exact hc
          by_cases hx : x < rs.length
          · rw [List.getElem?_append_left hx] at er
            obtain ⟨ts, h1, h2⟩ := hrs x r er
            exact ⟨ts, tD (s46 _ _ h1), h2⟩
          · rw [List.getElem?_append_right (by omega)] at er
            have hx0 : x - rs.length = 0 := by
              have := (List.getElem?_eq_some_iff.mp er).1
              rw [List.length_singleton] at this
              omega
            rw [hx0] at er
            obtain rfl : t = r := Option.some.inj er
            refine ⟨acc, tD e6, ?_⟩
            rw [hacc, show x = i by omega]
    · rintro H4 ⟨s4, rs, eD, hrl, hrs⟩
      exact q H4 D (ks fs) rs (sm2.trans s4) hpr eD hrl hrs
/-! ### _law_determines, _law_failing -/
theorem scLDet : FnScope ["_law_system_here", "_law_one", "_law_other", "_law_row"] ["_law_system_here", "_law_one", "_law_other"] (defScope sLDet) := ⟨rfl, rfl, rfl, by decide +kernel, rfl, by decide +kernel, by decide +kernel⟩
theorem kLDet (G : Gf mg) (d : Dn K mg "_law_determines" sLDet ["_law_system_here", "_law_one", "_law_other"]) (cC : Kp P w K mg base 2 "_law_counterparts" spCtp) : Kp P w K mg base 3 "_law_determines" spDet := by
  refine d.keeps scLDet (fun vs H Q E h => ?_) (fun f cdv A outer s H vs Q E hr h => ?_)
  · obtain ⟨sa, S, a, b, rfl, _⟩ := h
    rfl
  · obtain ⟨sa, S, a, b, rfl, hS, ok, ha, hb, q⟩ := h
    refine ⟨_, pss_one (ps_ret (pe_callB (cr_all rfl) (by rfl) G.all (by decide +kernel) (pa_cons
      (pe_lc (own := [("_law_row", 3)]) (te := tOp (rI0 fun i j => .bl (decide (i < j))) (tCB (rLn K) (tCons (tVar 3) tNil)) (tC (.int 2))) (by rfl) scLDet.nd (pi_list (pe_k cC hr (by decide) (by rfl) (pa_cons (pv 0) (pa_cons (pv 1) (pa_cons (pv 2) pa_nil)))))
        (blkOk_by (own := [("_law_row", 3)]) (N := ["_law_system_here", "_law_one", "_law_other", "_law_row"]) (sc := defScope sLDet) (by decide +kernel)) (fun _ _ _ _ _ => pg_name (i := 3) scLDet.nd rfl (Or.inl rfl)) (fun _ _ _ _ _ => pts_nil)
        (fun _ _ _ _ _ => pe_cmpR op_lt (pe_len (by rfl) G.len (pv 3)) pe_int (nomark _))) pa_nil))), ?_⟩
    have hn8 := ok.n8
    refine ⟨_, rfl, _, rfl, _, rfl, sa, S, a, b, rfl, hS, ok, ha, hb, fun H1 p l rs sm hpr hp hrl hrs => ⟨p, rfl, ⟨_, SqL.of hp⟩, fun D hD => lc_list (K := K) (a := p) (xs := rs.map V.ref)
      (fun i H2 => Same H1 H2 ∧ H2 D = some (.lst (((List.range i).map fun x => decide ((cnt l x : Int) < 2)).map V.bl))) ⟨same_upd hD, upd_same⟩ (fun i H2 _ h => SqL.of (h.1 _ _ hp)) ?_ ?_⟩⟩
    · rintro i y H2 hi ⟨s2, eD⟩
      rw [List.getElem?_map] at hi
      cases er : rs[i]? with
      | none => rw [er] at hi; cases hi
      | some r =>
        rw [er] at hi
        obtain rfl : V.ref r = y := Option.some.inj hi
        obtain ⟨ts, h1, h2⟩ := hrs i r er
        have hil := (List.getElem?_eq_some_iff.mp er).1
        refine ⟨rfl, ?_⟩
        refine vl_lenT (vl_var rfl) (SqT.of (s2 _ _ h1)) _ ⟨_, _, rfl, rfl, _, eD, ?_, fun c o e => ?_, ?_⟩
        · rw [List.length_map, List.length_map, List.length_range]
          exact small1000 (by omega)
        · rw [upd_ne (ne_of_none e hD)]
          exact s2 c o e
        · rw [upd_same, List.range_succ, List.map_append, List.map_append, h2]
          rfl
    · rintro H2 ⟨s2, eD⟩
      rw [List.length_map, hrl] at eD
      refine ⟨D, _, rfl, SqL.of eD, q H2 _ (sm.trans s2) ?_⟩
      rw [det_iff ok ha hb hpr, List.all_eq_true]
      constructor
      · intro h x hx
        have := h _ (List.mem_map.mpr ⟨x, List.mem_range.mpr hx, rfl⟩)
        have := of_decide_eq_true this
        omega
      · intro h v hv
        obtain ⟨x, hx, rfl⟩ := List.mem_map.mp hv
        have := h x (List.mem_range.mp hx)
        exact decide_eq_true (by omega)
theorem scLFail : FnScope ["_law_system_here", "_law_start", "_law_k"] ["_law_system_here"] (defScope sLFail) := ⟨rfl, rfl, rfl, by decide +kernel, rfl, by decide +kernel, by decide +kernel⟩
theorem kLFail (G : Gf mg) (d : Dn K mg "_law_failing" sLFail ["_law_system_here"]) (cD : Kp P w K mg base 3 "_law_determines" spDet) : Kp P w K mg base 4 "_law_failing" spFail := by
  refine d.keeps scLFail (fun vs H Q E h => ?_) (fun f cdv A outer s H vs Q E hr h => ?_)
  · obtain ⟨sa, S, rfl, _⟩ := h
    rfl
  · obtain ⟨sa, S, rfl, hS, ok, q⟩ := h
    refine ⟨_, pss_cons (ps_set (i := 1) scLFail.nd rfl (.inr rfl) (pe_ix ix_tup (pv 0) pe_int (fun _ _ => rfl)))
      (pss_one (ps_ret (pe_tupleOf (by rfl) G.tuple (pe_lc (own := [("_law_k", 2)]) (tt := tNot (tB (tCall spDet [] E0 (tCons (tVar 0) (tCons (tOp (rIxT K) (tOp (rIxT K) (tOp (rIxT K) (tVar 0) (tC (.int 2))) (tVar 2)) (tVar 1)) (tCons (tVar 1) tNil)))))) (by rfl) scLFail.nd
        (pi_range1 (by rfl) G.range (pa_cons (pe_len (by rfl) G.len (pe_ix ix_tup (pv 0) pe_int (fun _ _ => rfl))) pa_nil)) (blkOk_by (own := [("_law_k", 2)]) (N := ["_law_system_here", "_law_start", "_law_k"]) (sc := defScope sLFail) (by decide +kernel))
        (fun _ _ _ _ _ => pg_name (i := 2) scLFail.nd rfl (Or.inl rfl))
        (fun _ _ _ _ _ => pts_one (pt_not (pt_val (pe_k cD hr (by decide) (by rfl) (pa_cons (pv 0) (pa_cons (pe_ix ix_tup (pe_ix ix_tup (pe_ix ix_tup (pv 0) pe_int (fun _ _ => rfl)) (pv 2) (fun _ _ => rfl)) (pv 1) (fun _ _ => rfl)) (pa_cons (pv 1) pa_nil)))))))
        (fun _ _ _ _ _ => pv 2))))), ?_⟩
    have hm4 : S.m ≤ 4 := ok.m4
    refine vl_s hS (vl_var rfl) _ ?_
    refine vl_m hS (vl_var rfl) _ ⟨_, rfl, by omega, by omega, fun D hD => ?_⟩
    rw [Int.toNat_natCast]
    refine lc_range (lo := 0) (n := S.m) (fun i H2 => Same H H2 ∧ ∃ cs : List Nat, H2 D = some (.lst (nis cs)) ∧ cs.length ≤ i ∧ (cs = [] ↔ ∀ c, c < i → Det S (S.step S.s c) S.s))
      ⟨same_upd hD, [], upd_same, Nat.le_refl _, fun _ c hc => absurd hc (Nat.not_lt_zero c), fun _ => rfl⟩ ?_ ?_
    · rintro i H2 hi ⟨s2, cs, eD, hl, hcs⟩
      rw [Int.zero_add]
      have hS2 := hS.same s2
      have hst := ok.step_lt ok.s hi
      refine ⟨rfl, _, rfl, vl_step hS2 ok ok.s hi (vl_var rfl) (vl_var rfl) (vl_var rfl) _ ⟨_, rfl, sa, S, _, _, rfl, hS2, ok, hst, ok.s, fun H3 r s3 hr3 => ⟨r, rfl, ?_⟩⟩⟩
      have s23 := s2.trans s3
      by_cases hd : Det S (S.step S.s i) S.s
      · rw [hr3.mpr hd]
        refine ⟨s23, cs, s3 _ _ eD, by omega, hcs.trans ⟨fun h c hc => ?_, fun h c hc => h c (by omega)⟩⟩
        by_cases e : c = i
        · rw [e]; exact hd
        · exact h c (by omega)
      · have hr0 : r = false := by
          cases r with
          | false => rfl
          | true => exact absurd (hr3.mp rfl) hd
        subst hr0
        refine ⟨_, rfl, _, s3 _ _ eD, by rw [nis_len]; exact small1000 (by omega), fun b o e => ?_, cs ++ [i], ?_, by rw [List.length_append]; show cs.length + 1 ≤ _; omega, ?_⟩
        · rw [upd_ne (ne_of_none e hD)]
          exact s23 b o e
        · rw [upd_same]
          show _ = some (HO.lst ((cs ++ [i]).map _))
          rw [List.map_append]
          rfl
        · exact ⟨fun h => absurd h (by simp), fun h => absurd (h i (Nat.lt_succ_self i)) hd⟩
    · rintro H2 ⟨s2, cs, eD, hl, hcs⟩
      refine .inl ⟨D, _, rfl, SqL.of eD, fun t ht => ?_⟩
      exact q _ t cs (s2.trans (same_upd ht)) upd_same (by omega) hcs
end
end K32
/-! _law_ways, _law_rows, _law_is_integer, _law_equal. -/
namespace K32
open PySem PySem.Spec PyProof.Rows L2
section
variable {P : Program} {w : World} {K : PySem.W.Frag} {mg : Str → Option Value} {base : Heap}
abbrev sLWays : Stmt := topS 50
abbrev sLRows : Stmt := topS 51
abbrev sLIsInt : Stmt := topS 34
abbrev sLEqual : Stmt := topS 35
/-- the dict at d: each reachable state with a sequence that leads to it -/
structure WF (S : Sy) (H : Hp) (d : Addr) (l : List (Nat × Addr)) : Prop where
  dict : H d = some (.dK (l.map en1))
  nd : (k1 l).Nodup
  val : ∀ e ∈ l, ∃ q, Sq S q ∧ S.led S.s q = e.1 ∧ H e.2 = some (.tup (nis q))
theorem WF.same {S : Sy} {H H' : Hp} {d : Addr} {l : List (Nat × Addr)} (h : WF S H d l) (s : Same H H') : WF S H' d l :=
  ⟨s _ _ h.dict, h.nd, fun e he => by obtain ⟨q, h1, h2, h3⟩ := h.val e he; exact ⟨q, h1, h2, s _ _ h3⟩⟩
theorem scLWays : FnScope ["_law_system_here", "_law_ways_here", "_law_pair", "_law_sequence"] ["_law_system_here"] (defScope sLWays) := ⟨rfl, rfl, rfl, by decide +kernel, rfl, by decide +kernel, by decide +kernel⟩
def spLWays : Sp := fun vs H Q _ => ∃ (s : Addr) (S : Sy), vs = [.ref s] ∧ IsSy H s S ∧ S.Ok ∧ ∀ (H' : Hp) (d : Addr) (l : List (Nat × Addr)), Same H H' → WF S H' d l → (∀ x, x ∈ k1 l ↔ R S x) → Q (.ref d) H'
theorem kLWays (d : Dn K mg "_law_ways" sLWays ["_law_system_here"]) (cP : Kp P w K mg base 1 "_law_pairs" spLPairs) : Kp P w K mg base 2 "_law_ways" spLWays := by
  refine d.keeps scLWays (fun vs H Q E h => ?_) (fun f cdv A outer s H vs Q E hr h => ?_)
  · obtain ⟨sa, S, rfl, _⟩ := h
    rfl
  · obtain ⟨sa, S, rfl, hS, ok, q⟩ := h
    have hu := hu_of hr
    refine ⟨_, pss_cons (ps_set (i := 1) scLWays.nd rfl (.inl rfl) pe_dnewK)
      (pss_cons (ps_for PassesOwn.never rfl (pi_list (pe_k cP hr (by decide) (by rfl) (pa_cons (pv 0) (pa_cons (pe_ix ix_tup (pv 0) pe_int (fun _ _ => rfl)) (pa_cons (pe_ix ix_tup (pv 0) pe_int (fun _ _ => rfl)) pa_nil)))))
        (pg_tup rfl (pgs_cons (pg_name (i := 2) scLWays.nd rfl (.inl rfl)) (pgs_cons (pg_name (i := 3) scLWays.nd rfl (.inl rfl)) pgs_nil)))
        (pss_one (ps_dput hu (pv 1) (pe_ix ix_tup (pv 2) pe_int (fun _ _ => rfl)) (pv 3) rfl)))
      (pss_one (ps_ret (pv 1)))), ?_⟩
    refine fun dd hd => ?_
    have s0 : Same H (upd H dd (.dK [])) := same_upd hd
    have e0 : upd H dd (.dK []) dd = some (.dK []) := upd_same
    change tSeq _ _ _ _ (upd H dd (.dK []))
    generalize upd H dd (.dK []) = H0 at s0 e0 ⊢
    refine ⟨_, rfl, vl_s (hS.same s0) (vl_var rfl) _ (vl_s (hS.same s0) (vl_var rfl) _ ⟨sa, S, S.s, S.s, rfl, hS.same s0, ok, ok.s, ok.s, fun H1 fl es sm lf pr => ⟨fl, rfl, ⟨_, SqL.of lf.lst⟩, ?_⟩⟩)⟩
    have s01 := s0.trans sm
    have e1 := sm _ _ e0
    refine for_list (K := K) (a := fl) (xs := es.map fun e => V.ref e.2.2) (fun i σ H2 => ∃ (l : List (Nat × Addr)) (v2 v3 : Option V), σ = [some (.ref sa), some (.ref dd), v2, v3] ∧ (∀ b o, b ≠ dd → H1 b = some o → H2 b = some o) ∧ WF S H2 dd l ∧ k1 l = (es.take i).map fun e => e.1.1)
      ⟨[], _, _, rfl, fun b o _ e => e, ⟨e1, List.nodup_nil, fun e he => by simp at he⟩, rfl⟩ (fun i σ H2 _ h => ?_) ?_ ?_
    · obtain ⟨l, v2, v3, rfl, k, wf, _⟩ := h
      exact SqL.of (k _ _ (ne_of lf.lst e1 (fun z => nomatch z)) lf.lst)
    · rintro i y σ H2 hi ⟨l, v2, v3, rfl, kk, wf, hk⟩
      rw [List.getElem?_map] at hi
      cases ei : es[i]? with
      | none => rw [ei] at hi; cases hi
      | some e =>
        rw [ei] at hi
        obtain rfl : V.ref e.2.2 = y := Option.some.inj hi
        have hmem := List.mem_of_getElem? ei
        obtain ⟨tp, tq, g1, g2, g3⟩ := lf.at_ e hmem
        obtain ⟨q1, q2, q3, q4⟩ := lf.seq e hmem
        have h64 := lf.le ok ok.s ok.s
        have kt : ∀ {c : Addr} {xs : List V}, H1 c = some (.tup xs) → H2 c = some (.tup xs) := fun {c xs} hc => kk _ _ (ne_of hc e1 (fun z => nomatch z)) hc
        have hll : l.length ≤ es.length := by
          have := congrArg List.length hk
          rw [List.length_map, List.length_map, List.length_take] at this
          omega
        have hnd := diag_nd pr
        have hnot : e.1.1 ∉ k1 l := by
          rw [hk]
          intro hm
          obtain ⟨e', he', e2⟩ := List.mem_map.mp hm
          obtain ⟨j, hj, ej⟩ := List.mem_iff_getElem.mp he'
          rw [List.length_take] at hj
          rw [List.getElem_take] at ej
          have h1 : (es.map fun e => e.1.1)[j]? = some e.1.1 := by
            rw [List.getElem?_map, List.getElem?_eq_getElem (by omega), ej]
            exact congrArg some e2
          have h2 : (es.map fun e => e.1.1)[i]? = some e.1.1 := by
            rw [List.getElem?_map, ei]
            rfl
          have := nd_ix hnd h1 h2
          omega
        have hn : valV (l.map en1) (Sum.inl (e.1.1 : Int)) = none := by
          rcases find_en1 e.1.1 l with ⟨e', he', h1, _⟩ | ⟨_, h2⟩
          · exact absurd (List.mem_map.mpr ⟨e', he', h1⟩) hnot
          · exact h2
        refine ⟨e.2.2, _, rfl, SqT.of (kt g1), rfl, _, _, rfl, _, _, rfl, rfl, ?_⟩
        refine ⟨_, rfl, _, rfl, vl_ixT (j := 0) (vl_var rfl) vl_c (SqT.of (kt g2)) rfl _ ⟨dd, _, rfl, DPut.k (k := Sum.inl (e.1.1 : Int)) wf.dict (by rw [List.length_map]; exact small1000 (by omega)), ?_⟩⟩
        refine ⟨l ++ [(e.1.1, tq)], _, _, rfl, fun b o nb eb => ?_, ⟨?_, ?_, fun e' he' => ?_⟩, ?_⟩
        · rw [upd_ne nb]
          exact kk b o nb eb
        · rw [upd_same, putK_new _ hn, List.map_append]
          rfl
        · show ((l ++ [(e.1.1, tq)]).map Prod.fst).Nodup
          rw [List.map_append]
          exact nd_snoc wf.nd hnot
        · have kd : ∀ {c : Addr} {xs : List V}, H2 c = some (.tup xs) → upd H2 dd (.dK (putK (l.map en1) (Sum.inl (e.1.1 : Int)) (.ref tq))) c = some (.tup xs) := fun {c xs} hc => by
            rw [upd_ne (ne_of hc wf.dict (fun z => nomatch z))]
            exact hc
          rcases List.mem_append.mp he' with z | z
          · obtain ⟨p, h1, h2, h3⟩ := wf.val e' z
            exact ⟨p, h1, h2, kd h3⟩
          · rw [List.mem_singleton.mp z]
            exact ⟨e.2.1, q1, q2, kd (kt g3)⟩
        · show (l ++ [(e.1.1, tq)]).map Prod.fst = _
          rw [List.map_append, take_snoc ei, List.map_append]
          show k1 l ++ [e.1.1] = _
          rw [hk]
          rfl
    · rintro σ H2 ⟨l, v2, v3, rfl, kk, wf, hk⟩
      rw [List.length_map, List.take_length] at hk
      refine ⟨_, rfl, q H2 dd l (fun b o e => kk b o (ne_of_none e hd) (s01 b o e)) wf fun x => ?_⟩
      rw [hk]
      exact diag_mem pr x
/-! ### _law_rows -/
theorem scLRows : FnScope ["_law_system_here", "_law_ways_here", "_law_states", "_law_one", "_law_other"] ["_law_system_here"] (defScope sLRows) := ⟨rfl, rfl, rfl, by decide +kernel, rfl, by decide +kernel, by decide +kernel⟩
/-- the rows of products: of the i-th state the tuple of where some sequence to it leads from each -/
structure RowsAt (S : Sy) (H : Hp) (t : Addr) (xs : List Nat) (rs : List Addr) : Prop where
  at_ : H t = some (.tup (rs.map V.ref))
  len : rs.length = xs.length
  row : ∀ (i : Nat) (r : Addr) (x : Nat), rs[i]? = some r → xs[i]? = some x → ∃ q, Sq S q ∧ S.led S.s q = x ∧ H r = some (.tup (nis (xs.map fun y => S.led y q)))
theorem RowsAt.keep {S : Sy} {H H' : Hp} {t : Addr} {xs : List Nat} {rs : List Addr} (h : RowsAt S H t xs rs) (k : ∀ b xs, H b = some (.tup xs) → H' b = some (.tup xs)) : RowsAt S H' t xs rs :=
  ⟨k _ _ h.at_, h.len, fun i r x h1 h2 => by obtain ⟨q, g1, g2, g3⟩ := h.row i r x h1 h2; exact ⟨q, g1, g2, k _ _ g3⟩⟩
def spLRows : Sp := fun vs H Q _ => ∃ (s : Addr) (S : Sy), vs = [.ref s] ∧ IsSy H s S ∧ S.Ok ∧ ∀ (H' : Hp) (t : Addr) (xs : List Nat) (rs : List Addr), Same H H' → xs.Pairwise (· < ·) → (∀ x, x ∈ xs ↔ R S x) → RowsAt S H' t xs rs → Q (.ref t) H'
theorem kLRows (G : Gf mg) (d : Dn K mg "_law_rows" sLRows ["_law_system_here"]) (cW : Kp P w K mg base 2 "_law_ways" spLWays) (cL : Kp P w K mg base 1 "_law_led" (spLed K)) : Kp P w K mg base 3 "_law_rows" spLRows := by
  refine d.keeps scLRows (fun vs H Q E h => ?_) (fun f cdv A outer s H vs Q E hr h => ?_)
  · obtain ⟨sa, S, rfl, _⟩ := h
    rfl
  · obtain ⟨sa, S, rfl, hS, ok, q⟩ := h
    have hu := hu_of hr
    refine ⟨_, pss_cons (ps_set (i := 1) scLRows.nd rfl (.inr rfl) (pe_k cW hr (by decide) (by rfl) (pa_cons (pv 0) pa_nil)))
      (pss_cons (ps_set (i := 2) scLRows.nd rfl (.inr rfl) (pe_callB (call_sortedDI rfl) (by rfl) G.sorted (by decide +kernel) (pa_cons (pv 1) pa_nil)))
      (pss_one (ps_ret (pe_tupleOf (by rfl) G.tuple (pe_lc (own := [("_law_one", 3)])
        (te := tThen (tLc (iList K (tVar 2)) (gName 4) tYes (tCall (spLed K) [] E0 (tCons (tVar 0) (tCons (tVar 4) (tCons (tDGet (tVar 1) (tVar 3)) tNil)))) [4]) (kTup K)) (by rfl) scLRows.nd (pi_list (pv 2))
        (blkOk_by (own := [("_law_one", 3)]) (N := ["_law_system_here", "_law_ways_here", "_law_states", "_law_one", "_law_other"]) (sc := defScope sLRows) (by decide +kernel)) (fun _ _ _ _ _ => pg_name (i := 3) scLRows.nd rfl (Or.inr rfl)) (fun _ _ _ _ _ => pts_nil)
        (fun _ _ _ _ _ => pe_tupleOf (by rfl) G.tuple (pe_lc (own := [("_law_other", 4)]) (te := tCall (spLed K) [] E0 (tCons (tVar 0) (tCons (tVar 4) (tCons (tDGet (tVar 1) (tVar 3)) tNil)))) (by rfl) scLRows.nd (pi_list (pv 2))
          (blkOk_by (own := [("_law_other", 4)]) (N := ["_law_system_here", "_law_ways_here", "_law_states", "_law_one", "_law_other"])
            (sc := relS { kind := .function, names := [(".0", .local), ("_law_one", .cell), ("tuple", .globalImplicit), ("_law_states", .free), ("_law_system_here", .free), ("_law_ways_here", .free)], isGenerator := false, isCoroutine := false } (defScope sLRows)) (by decide +kernel))
          (fun _ _ _ _ _ => pg_name (i := 4) scLRows.nd rfl (Or.inl rfl)) (fun _ _ _ _ _ => pts_nil)
          (fun _ _ _ _ _ => pe_k cL hr (by decide) (by rfl) (pa_cons (pv 0) (pa_cons (pv 4) (pa_cons (pe_dget hu (pv 1) (pv 3) (fun _ _ => rfl)) pa_nil))))))))))), ?_⟩
    refine ⟨_, rfl, sa, S, rfl, hS, ok, fun H1 dd l sm wf hk => ?_⟩
    have hlt : ∀ x ∈ k1 l, x < S.n := fun x hx => ((hk x).mp hx).lt ok
    have hl8 : l.length ≤ 8 := by
      have := states_le ok wf.nd hlt
      rw [List.length_map] at this
      exact this
    refine ⟨_, rfl, dd, l.map en1, (k1 l).map fun c : Nat => (c : Int), rfl, .inl wf.dict, k1_keys l, by rw [List.length_map, List.length_map]; omega, fun ys p hp1 hp2 hp => ?_⟩
    obtain ⟨xs, e1, e2, e3⟩ := nat_sorted hp1 hp2 wf.nd
    rw [e1]
    have hxs8 : xs.length ≤ 8 := by
      rw [e2.length_eq, List.length_map]
      exact hl8
    have hxm : ∀ x, x ∈ xs ↔ R S x := fun x => e2.mem_iff.trans (hk x)
    have s2 : Same H1 (upd H1 p (.lst (nis xs))) := same_upd hp
    have ep : upd H1 p (.lst (nis xs)) p = some (.lst (nis xs)) := upd_same
    generalize upd H1 p (.lst (nis xs)) = H2 at s2 ep ⊢
    have wf2 := wf.same s2
    have sm2 := sm.trans s2
    refine ⟨_, rfl, p, rfl, ⟨_, SqL.of ep⟩, fun D hD => lc_list (K := K) (a := p) (xs := nis xs) (fun i H3 => Same H2 H3 ∧ ∃ rs : List Addr, H3 D = some (.lst (rs.map V.ref)) ∧ rs.length = i ∧
      ∀ (j : Nat) (r : Addr) (x : Nat), rs[j]? = some r → xs[j]? = some x → ∃ q, Sq S q ∧ S.led S.s q = x ∧ H3 r = some (.tup (nis (xs.map fun y => S.led y q))))
      ⟨same_upd hD, [], upd_same, rfl, fun j r x e => by simp at e⟩ (fun i H3 _ h => SqL.of (h.1 _ _ ep)) ?_ ?_⟩
    · rintro i y H3 hi ⟨s3, rs, eD, hrl, hrs⟩
      obtain ⟨x, hx, rfl⟩ := of_nis_get hi
      have hxR := (hxm x).mp (List.mem_of_getElem? hx)
      rcases find_en1 x l with ⟨e, he, h1, h2⟩ | ⟨h1, _⟩
      · obtain ⟨q0, hq1, hq2, hq3⟩ := wf2.val e he
        refine ⟨rfl, _, rfl, p, rfl, ⟨_, SqL.of (s3 _ _ ep)⟩, fun D2 hD2 => ?_⟩
        have hne : D ≠ D2 := ne_of_none eD hD2
        refine lc_list (K := K) (a := p) (xs := nis xs) (fun j H4 => Same H3 H4 ∧ H4 D2 = some (.lst (nis ((xs.take j).map fun y => S.led y q0)))) ⟨same_upd hD2, upd_same⟩ (fun j H4 _ h => SqL.of (h.1 _ _ (s3 _ _ ep))) ?_ ?_
        · rintro j y H4 hj ⟨s4, ea⟩
          obtain ⟨z, hz, rfl⟩ := of_nis_get hj
          have hzR := (hxm z).mp (List.mem_of_getElem? hz)
          have s34 := s3.trans s4
          have hdg : DGet H4 dd (.int (x : Int)) (some (.ref e.2)) := by
            have z := DGet.k (k := Sum.inl (x : Int)) (wf2.same s34).dict
            rw [h2] at z
            exact z
          refine ⟨rfl, _, rfl, _, rfl, _, rfl, _, rfl, dd, .ref e.2, rfl, hdg, sa, S, z, e.2, q0, rfl, hS.same (sm2.trans s34), ok, hzR.lt ok, SqT.of (s34 _ _ hq3), hq1, _, ea, ?_, fun c o ec => ?_, ?_⟩
          · rw [nis_len, List.length_map, List.length_take]
            exact small1000 (by omega)
          · rw [upd_ne (ne_of_none ec hD2)]
            exact s4 c o ec
          · rw [upd_same, take_snoc hz]
            show _ = some (HO.lst (((xs.take j ++ [z]).map fun y => S.led y q0).map _))
            rw [List.map_append, List.map_append]
            rfl
        · rintro H4 ⟨s4, ea⟩
          rw [nis_len, List.take_length] at ea
          refine .inl ⟨D2, _, rfl, SqL.of ea, fun t ht => ?_⟩
          have s6 : Same H4 (upd H4 t (.tup (nis (xs.map fun y => S.led y q0)))) := same_upd ht
          have e6 : upd H4 t (.tup (nis (xs.map fun y => S.led y q0))) t = some (.tup (nis (xs.map fun y => S.led y q0))) := upd_same
          generalize upd H4 t (.tup (nis (xs.map fun y => S.led y q0))) = H6 at s6 e6 ⊢
          have s36 := s4.trans s6
          have hix := (List.getElem?_eq_some_iff.mp hx).1
          refine ⟨_, s36 _ _ eD, by rw [List.length_map]; exact small1000 (by omega), fun c o ec => ?_, rs ++ [t], ?_, by rw [List.length_append, hrl]; rfl, fun j r x' er ex => ?_⟩
          · rw [upd_ne (ne_of_none ec hD)]
            exact s36 c o (s3 c o ec)
          · rw [upd_same, List.map_append]
            rfl
          · have tD : ∀ {c : Addr} {ts : List V}, H6 c = some (.tup ts) → upd H6 D (.lst (rs.map V.ref ++ [.ref t])) c = some (.tup ts) := fun {c ts} hc => by
              rw [upd_ne (ne_of hc (s36 _ _ eD) (fun z => nomatch z))]
              exact hc
            by_cases hj : j < rs.length
            · rw [List.getElem?_append_left hj] at er
              obtain ⟨q2, g1, g2, g3⟩ := hrs j r x' er ex
              exact ⟨q2, g1, g2, tD (s36 _ _ g3)⟩
            · rw [List.getElem?_append_right (by omega)] at er
              have hx0 : j - rs.length = 0 := by
                have := (List.getElem?_eq_some_iff.mp er).1
                rw [List.length_singleton] at this
                omega
              rw [hx0] at er
              obtain rfl : t = r := Option.some.inj er
              rw [show j = i by omega, hx] at ex
              cases ex
              exact ⟨q0, hq1, by rw [hq2, h1], tD e6⟩
      · exact absurd ((hk x).mpr hxR) h1
    · rintro H3 ⟨s3, rs, eD, hrl, hrs⟩
      rw [nis_len] at hrl
      refine .inl ⟨D, _, rfl, SqL.of eD, fun t ht => ?_⟩
      have s4 : Same H3 (upd H3 t (.tup (rs.map V.ref))) := same_upd ht
      exact q _ t xs rs ((sm2.trans s3).trans s4) e3 hxm ⟨upd_same, hrl, fun j r x h1 h2 => by
        obtain ⟨q2, g1, g2, g3⟩ := hrs j r x h1 h2
        exact ⟨q2, g1, g2, s4 _ _ g3⟩⟩
/-! ### _law_is_integer, _law_equal -/
theorem scLIsInt : FnScope ["_law_actual"] ["_law_actual"] (defScope sLIsInt) := ⟨rfl, rfl, rfl, by decide +kernel, rfl, by decide +kernel, by decide +kernel⟩
def spLIsInt : Sp := fun vs H Q _ => ∃ i : Int, vs = [.int i] ∧ Q (.bl true) H
theorem kLIsInt (G : Gf mg) (d : Dn K mg "_law_is_integer" sLIsInt ["_law_actual"]) : Kp P w K mg base 1 "_law_is_integer" spLIsInt := by
  refine d.keeps scLIsInt (fun vs H Q E h => ?_) (fun f cdv A outer s H vs Q E hr h => ?_)
  · obtain ⟨i, rfl, _⟩ := h
    rfl
  · obtain ⟨i, rfl, q⟩ := h
    refine ⟨_, pss_one (ps_ret (pe_and (pe_isi (n := "int") G (by rfl) (by rfl) G.int (by decide +kernel) (pv 0)) (pe_one (pe_not (pe_isi (n := "bool") G (by rfl) (by rfl) G.bool (by decide +kernel) (pv 0)))))), ?_⟩
    refine vl_isi (m := "int") (b := true) (vl_var rfl) (.base (.int i)) (by decide +kernel) _ ⟨true, rfl, ?_⟩
    exact vl_isi (m := "int") (b := false) (vl_var rfl) (.base (.int i)) (by decide +kernel) _ ⟨false, rfl, q⟩
theorem scLEqual : FnScope ["_law_actual", "_law_due", "_law_at"] ["_law_actual", "_law_due"] (defScope sLEqual) := ⟨rfl, rfl, rfl, by decide +kernel, rfl, by decide +kernel, by decide +kernel⟩
/-- two equal ints -/
def spLEqI : Sp := fun vs H Q _ => ∃ i : Int, vs = [.int i, .int i] ∧ Q (.bl true) H
/-- two lists of one and the same int -/
def spLEqL : Sp := fun vs H Q _ => ∃ (a b : Addr) (i : Int), vs = [.ref a, .ref b] ∧ H a = some (.lst [.int i]) ∧ H b = some (.lst [.int i]) ∧ ∀ H', Same H H' → Q (.bl true) H'
theorem kLEqI (G : Gf mg) (d : Dn K mg "_law_equal" sLEqual ["_law_actual", "_law_due"]) (cI : Kp P w K mg base 1 "_law_is_integer" spLIsInt) : Kp P w K mg base 2 "_law_equal" spLEqI := by
  refine d.keeps scLEqual (fun vs H Q E h => ?_) (fun f cdv A outer s H vs Q E hr h => ?_)
  · obtain ⟨i, rfl, _⟩ := h
    rfl
  · obtain ⟨i, rfl, q⟩ := h
    refine ⟨_, pss_cons (ps_if (pt_cmpR op_isN (pv 1) pe_non (nomark _)) (pss_one ps_never) pss_nil)
      (pss_cons (ps_if (pt_val (pe_isi (n := "bool") G (by rfl) (by rfl) G.bool (by decide +kernel) (pv 1))) (pss_one ps_never) pss_nil)
      (pss_cons (ps_if (pt_val (pe_isi (n := "int") G (by rfl) (by rfl) G.int (by decide +kernel) (pv 1))) (pss_one (ps_ret (pe_and (pe_k cI hr (by decide) (by rfl) (pa_cons (pv 0) pa_nil)) (pe_one (pe_cmpR op_eq (pv 0) (pv 1) (nomark _)))))) pss_nil)
      pss_never)), ?_⟩
    refine ⟨_, rfl, rfl, _, rfl, ?_⟩
    refine vl_isi (m := "int") (b := false) (vl_var rfl) (.base (.int i)) (by decide +kernel) _ ⟨_, rfl, ?_⟩
    refine vl_isi (m := "int") (b := true) (vl_var rfl) (.base (.int i)) (by decide +kernel) _ ⟨_, rfl, ?_⟩
    refine ⟨_, rfl, i, rfl, true, rfl, _, rfl, _, rfl, rfl, ?_⟩
    rw [decide_eq_true (show V.int i = V.int i from rfl)]
    exact q
theorem kLEqL (G : Gf mg) (d : Dn K mg "_law_equal" sLEqual ["_law_actual", "_law_due"]) (cE : Kp P w K mg base 2 "_law_equal" spLEqI) : Kp P w K mg base 3 "_law_equal" spLEqL := by
  refine d.keeps scLEqual (fun vs H Q E h => ?_) (fun f cdv A outer s H vs Q E hr h => ?_)
  · obtain ⟨a, b, i, rfl, _⟩ := h
    rfl
  · obtain ⟨a, b, i, rfl, ha, hb, q⟩ := h
    refine ⟨_, pss_cons (ps_if (pt_cmpR op_isN (pv 1) pe_non (nomark _)) (pss_one ps_never) pss_nil)
      (pss_cons (ps_if (pt_val (pe_isi (n := "bool") G (by rfl) (by rfl) G.bool (by decide +kernel) (pv 1))) (pss_one ps_never) pss_nil)
      (pss_cons (ps_if (pt_val (pe_isi (n := "int") G (by rfl) (by rfl) G.int (by decide +kernel) (pv 1))) (pss_one ps_never) pss_nil)
      (pss_cons (ps_if (pt_val (pe_isi (n := "str") G (by rfl) (by rfl) G.str (by decide +kernel) (pv 1))) (pss_one ps_never) pss_nil)
      (pss_cons (ps_if (PW.pt (pw_and (pt_val (pe_isi (n := "tuple") G (by rfl) (by rfl) G.tuple (by decide +kernel) (pv 1))) (pw_and1 (pt_not (pt_val (pe_isi (n := "tuple") G (by rfl) (by rfl) G.tuple (by decide +kernel) (pv 0))))))) (pss_one ps_never) pss_nil)
      (pss_cons (ps_if (PW.pt (pw_and (pt_val (pe_isi (n := "list") G (by rfl) (by rfl) G.list (by decide +kernel) (pv 1))) (pw_and1 (pt_not (pt_val (pe_isi (n := "list") G (by rfl) (by rfl) G.list (by decide +kernel) (pv 0))))))) (pss_one ps_never) pss_nil)
      (pss_cons (ps_if (pt_cmpR op_ne (pe_len (by rfl) G.len (pv 0)) (pe_len (by rfl) G.len (pv 1)) (nomark _)) (pss_one ps_never) pss_nil)
      (pss_one (ps_ret (pe_callB (cr_all rfl) (by rfl) G.all (by decide +kernel) (pa_cons
        (pe_lc (own := [("_law_at", 2)]) (te := tCall spLEqI [] E0 (tCons (tOp (rIxL K) (tVar 0) (tVar 2)) (tCons (tOp (rIxL K) (tVar 1) (tVar 2)) tNil))) (by rfl) scLEqual.nd (pi_range1 (by rfl) G.range (pa_cons (pe_len (by rfl) G.len (pv 1)) pa_nil))
          (blkOk_by (own := [("_law_at", 2)]) (N := ["_law_actual", "_law_due", "_law_at"]) (sc := defScope sLEqual) (by decide +kernel)) (fun _ _ _ _ _ => pg_name (i := 2) scLEqual.nd rfl (Or.inl rfl)) (fun _ _ _ _ _ => pts_nil)
          (fun _ _ _ _ _ => pe_k cE hr (by decide) (by rfl) (pa_cons (pe_ix ix_list (pv 0) (pv 2) (fun _ _ => rfl)) (pa_cons (pe_ix ix_list (pv 1) (pv 2) (fun _ _ => rfl)) pa_nil)))) pa_nil)))))))))), ?_⟩
    refine ⟨_, rfl, rfl, _, rfl, ?_⟩
    refine vl_isi (m := "list") (b := false) (vl_var rfl) (.base (.lst hb)) (by decide +kernel) _ ⟨_, rfl, ?_⟩
    refine vl_isi (m := "list") (b := false) (vl_var rfl) (.base (.lst hb)) (by decide +kernel) _ ⟨_, rfl, ?_⟩
    refine vl_isi (m := "list") (b := false) (vl_var rfl) (.base (.lst hb)) (by decide +kernel) _ ⟨_, rfl, ?_⟩
    refine vl_isi (m := "list") (b := false) (vl_var rfl) (.base (.lst hb)) (by decide +kernel) _ ⟨_, rfl, ?_⟩
    refine vl_isi (m := "list") (b := true) (vl_var rfl) (.base (.lst hb)) (by decide +kernel) _ ⟨_, rfl, ?_⟩
    refine vl_isi (m := "list") (b := true) (vl_var rfl) (.base (.lst ha)) (by decide +kernel) _ ⟨_, rfl, ?_⟩
    refine vl_lenL (vl_var rfl) (SqL.of ha) _ (vl_lenL (vl_var rfl) (SqL.of hb) _ ⟨rfl, _, rfl, iteNS rfl ?_⟩)
    refine vl_lenL (vl_var rfl) (SqL.of hb) _ ⟨_, rfl, by show -(2 ^ 62) ≤ (1 : Int); decide, by show (1 : Int) < 2 ^ 62; decide, fun D hD => ?_⟩
    refine lc_range (lo := 0) (n := 1) (fun j H2 => Same H H2 ∧ H2 D = some (.lst ((List.replicate j true).map V.bl))) ⟨same_upd hD, upd_same⟩ ?_ ?_
    · rintro j H2 hj ⟨s2, eD⟩
      obtain rfl : j = 0 := by omega
      refine ⟨rfl, ?_⟩
      refine vl_ixL (j := 0) (vl_var rfl) (vl_var rfl) (SqL.of (s2 _ _ ha)) rfl _ (vl_ixL (j := 0) (vl_var rfl) (vl_var rfl) (SqL.of (s2 _ _ hb)) rfl _ ⟨i, rfl, _, eD, by decide, fun c o ec => ?_, ?_⟩)
      · rw [upd_ne (ne_of_none ec hD)]
        exact s2 c o ec
      · rw [upd_same]
        rfl
    · rintro H2 ⟨s2, eD⟩
      refine ⟨D, _, rfl, SqL.of eD, ?_⟩
      exact q H2 s2
end
end K32
/-! The law. -/
namespace K32
open PySem PySem.Spec PyProof.Rows L2
section
variable {P : Program} {w : World} {K : PySem.W.Frag} {mg : Str → Option Value} {base : Heap}
abbrev sLaw : Stmt := topS 55
abbrev nLaw : List Str := ["_law_script", "_law_stream_here", "_law_system_here", "_law_many", "_law_states", "_law_good", "_law_rows_here", "_law_turn", "_law_p", "_law_w", "_law_command", "_law_told_here", "_law_here", "_law_behind", "_law_due", "_law_last", "_law_k", "_law_one"]
theorem scLaw : FnScope nLaw ["_law_script"] (defScope sLaw) := ⟨rfl, rfl, rfl, by decide +kernel, rfl, by decide +kernel, by decide +kernel⟩
/-- states.index(x) -/
abbrev tIdx (K : PySem.W.Frag) (i j : Nat) : TE := tBM K "list" (rIndex K) (tVar i) (tCons (tVar j) tNil)
theorem vl_index {σ : L2.St} {H : Hp} {la : Addr} {xs : List Nat} {i j : Nat} {k x : Nat} (hi : σ[i]? = some (some (.ref la))) (hj : σ[j]? = some (some (.int (x : Nat)))) (hl : H la = some (.lst (nis xs))) (hn : xs.Nodup) (hk : xs[k]? = some x) : Vl (tIdx K i j) σ H (.int (k : Nat)) := by
  intro Q q
  refine ⟨_, hi, .inl ⟨rfl, _, SqL.of hl⟩, _, hj, la, _, _, k, .int (x : Nat), rfl, rfl, SqL.of hl, rfl, ?_, nis_get hk, by show ((x : Int) == (x : Int)) = true; exact beq_self_eq_true _, fun m z hm hz => ?_, q⟩
  · refine List.all_eq_true.mpr fun v hv => ?_
    obtain ⟨c, _, rfl⟩ := List.mem_map.mp hv
    rfl
  · obtain ⟨c, hc, rfl⟩ := of_nis_get hz
    show ((c : Int) == (x : Int)) = false
    refine beq_eq_false_iff_ne.mpr fun e => ?_
    have e' : c = x := by omega
    subst e'
    have := nd_ix hn hc hk
    omega
/-- rows[states.index(x)][states.index(y)] -/
abbrev tRow (K : PySem.W.Frag) (i j : Nat) : TE := tOp (rIxT K) (tOp (rIxT K) (tVar 6) (tIdx K 4 i)) (tIdx K 4 j)
theorem vl_row {S : Sy} {σ : L2.St} {H : Hp} {la rt : Addr} {xs : List Nat} {rs : List Addr} {i j : Nat} {x y ix iy : Nat} {r : Addr} {q : List Nat} (h6 : σ[6]? = some (some (.ref rt))) (h4 : σ[4]? = some (some (.ref la))) (hi : σ[i]? = some (some (.int (x : Nat)))) (hj : σ[j]? = some (some (.int (y : Nat))))
    (hl : H la = some (.lst (nis xs))) (hn : xs.Nodup) (ra : RowsAt S H rt xs rs) (hx : xs[ix]? = some x) (hy : xs[iy]? = some y) (hr : rs[ix]? = some r) (hq : H r = some (.tup (nis (xs.map fun y => S.led y q)))) : Vl (tRow K i j) σ H (.int (S.led y q : Nat)) := by
  refine vl_ixT (vl_ixT (vl_var h6) (vl_index h4 hi hl hn hx) (SqT.of ra.at_) (by rw [List.getElem?_map, hr]; rfl)) (vl_index h4 hj hl hn hy) (SqT.of hq) (nis_get ?_)
  rw [List.getElem?_map, hy]
  rfl
theorem filter_one {α : Type} [DecidableEq α] : ∀ {xs : List α} {p : α → Bool} {z : α}, xs.Nodup → z ∈ xs → p z = true → (∀ y ∈ xs, p y = true → y = z) → xs.filter p = [z]
  | [], _, _, _, h, _, _ => by simp at h
  | x :: r, p, z, hn, hz, hp, hu => by
    have h1 := List.nodup_cons.mp hn
    rw [List.filter_cons]
    by_cases hx : p x = true
    · have e : x = z := hu x List.mem_cons_self hx
      rw [if_pos hx]
      subst e
      have : r.filter p = [] := List.filter_eq_nil_iff.mpr fun y hy hpy => h1.1 (hu y (List.mem_cons_of_mem _ hy) hpy ▸ hy)
      rw [this]
    · rw [if_neg hx]
      have hz' : z ∈ r := by
        rcases List.mem_cons.mp hz with e | h
        · rw [e] at hp; exact absurd hp hx
        · exact h
      exact filter_one h1.2 hz' hp fun y hy => hu y (List.mem_cons_of_mem _ hy)
theorem ix_of {α : Type} [DecidableEq α] {xs : List α} {x : α} (h : x ∈ xs) : ∃ i : Nat, xs[i]? = some x := by
  obtain ⟨i, hi, e⟩ := List.mem_iff_getElem.mp h
  exact ⟨i, by rw [List.getElem?_eq_getElem hi, e]⟩
/-- the drawn sequence -/
abbrev teNext : TE := tCall spNext [] E0 (tCons (tVar 1) (tCons (tVar 3) tNil))
theorem rd_seq {S : Sy} {H : Hp} {p a : Addr} {mx : Nat} {Q : VK} {x0 x2 x4 x5 x6 x7 x8 x9 x10 x11 x12 x13 x14 x15 x16 x17 : Option V} (ok : S.Ok) (hm : 1 ≤ S.m) (h1 : 1 ≤ mx) (hmx : mx ≤ 100) (st : Strm H p a)
    (q : ∀ H' t (pq : List Nat), SB p H H' → Strm H' p a → H' t = some (.tup (nis pq)) → pq.length < mx → Sq S pq → Q (.ref t) H') :
    tThen (tLc (iRng1 (tCons (tCall spNext [] E0 (tCons (tVar 1) (tCons (tC (.int (mx : Nat))) tNil))) tNil)) (gName 16) tYes teNext [16]) (kTup K)
      [x0, some (.ref p), x2, some (.int (S.m : Nat)), x4, x5, x6, x7, x8, x9, x10, x11, x12, x13, x14, x15, x16, x17] H Q := by
  have hm4 : S.m ≤ 4 := ok.m4
  refine ⟨_, rfl, p, a, mx, rfl, h1, by omega, st, fun H1 n hn sb1 st1 => ⟨_, rfl, by omega, by omega, fun D hD => ?_⟩⟩
  rw [Int.toNat_natCast]
  obtain ⟨yp, hyp⟩ := st1.lst
  obtain ⟨ya, hya⟩ := st1.lstA
  have nDp : D ≠ p := (ne_of_none hyp hD).symm
  have nDa : D ≠ a := (ne_of_none hya hD).symm
  refine lc_range (lo := 0) (n := n) (fun j H7 => SB p H1 H7 ∧ Strm H7 p a ∧ ∃ pq : List Nat, H7 D = some (.lst (nis pq)) ∧ pq.length = j ∧ Sq S pq)
    ⟨SB.of (same_upd hD), st1.same (same_upd hD), [], upd_same, rfl, Sq.nil⟩ ?_ ?_
  · rintro j H7 hj ⟨sb7, st7, pq, eD, hl, hq⟩
    refine ⟨rfl, _, rfl, _, rfl, p, a, S.m, rfl, hm, by omega, st7, fun H8 x hx sb8 st8 => ⟨_, sb8 _ _ nDp eD, by rw [nis_len]; exact small1000 (by omega), (sb7.trans sb8).other hD, st8.other nDp nDa, pq ++ [x], ?_, by rw [List.length_append, hl]; rfl, hq.app (Sq.one hx)⟩⟩
    rw [upd_same]
    show _ = some (HO.lst ((pq ++ [x]).map _))
    rw [List.map_append]
    rfl
  · rintro H7 ⟨sb7, st7, pq, eD, hl, hq⟩
    refine .inl ⟨D, _, rfl, SqL.of eD, fun t ht => ?_⟩
    exact q _ t pq ((sb1.trans sb7).trans (SB.of (same_upd ht))) (st7.same (same_upd ht)) upd_same (by omega) hq
theorem nis_ne {H : Hp} {la p a : Addr} {xs : List Nat} (hl : H la = some (.lst (nis xs))) (st : Strm H p a) : la ≠ p := by
  obtain ⟨ns, v, k, h1, _⟩ := st
  refine ne_of hl h1 fun z => ?_
  have z := HO.lst.inj z
  cases xs with
  | nil => cases z
  | cons n r => cases z
/-- what a turn of the law needs -/
structure Tn (S : Sy) (H : Hp) (p a s la rt : Addr) (xs : List Nat) (rs : List Addr) : Prop where
  st : Strm H p a
  sy : IsSy H s S
  la : H la = some (.lst (nis xs))
  ra : RowsAt S H rt xs rs
theorem Tn.same {S : Sy} {H H' : Hp} {p a s la rt : Addr} {xs : List Nat} {rs : List Addr} (h : Tn S H p a s la rt xs rs) (k : Same H H') : Tn S H' p a s la rt xs rs :=
  ⟨h.st.same k, h.sy.same k, k _ _ h.la, h.ra.keep fun b xs e => k b _ e⟩
theorem Tn.sb {S : Sy} {H H' : Hp} {p a s la rt : Addr} {xs : List Nat} {rs : List Addr} (h : Tn S H p a s la rt xs rs) (k : SB p H H') (st : Strm H' p a) : Tn S H' p a s la rt xs rs := by
  obtain ⟨yp, hyp⟩ := h.st.lst
  exact ⟨st, h.sy.sb k hyp, k _ _ (nis_ne h.la h.st) h.la, h.ra.keep (k.tup hyp)⟩
def spLaw (K : PySem.W.Frag) : Sp := fun vs H Q _ => ∃ (a : Addr) (ns : List Int), vs = [.ref a] ∧ SqL K H a (ns.map V.int) ∧ ∀ H', Q (.bl true) H'
theorem okLaw (G : Gf mg) {f : Addr} {fd : FuncData} (F : Fun K "law" "law" sLaw f fd) (cSt : Kp P w K mg base 1 "_law_stream" (spStream K)) (cSy : Kp P w K mg base 3 "_law_system" spSystem) (cN : Kp P w K mg base 1 "_law_next" spNext) (cG : Kp P w K mg base 2 "_law_great" spGreat)
    (cR : Kp P w K mg base 2 "_law_reached" spLReached) (cF : Kp P w K mg base 4 "_law_failing" spFail) (cRw : Kp P w K mg base 3 "_law_rows" spLRows) (cT : Kp P w K mg base 9 "_law_told" spTold) (cL : Kp P w K mg base 1 "_law_led" (spLed K)) (cE : Kp P w K mg base 3 "_law_equal" spLEqL) :
    FnOk P w K mg base CX0 10 f fd ["_law_script"] (spLaw K) := by
  refine F.ok scLaw (fun vs H Q E h => ?_) (fun cdv A outer s H vs Q E hr h => ?_)
  · obtain ⟨a, ns, rfl, _⟩ := h
    rfl
  · obtain ⟨sc, ns, rfl, hsc, q⟩ := h
    refine ⟨_, pss_cons (ps_set (i := 1) scLaw.nd rfl (.inr rfl) (pe_k cSt hr (by decide) (by rfl) (pa_cons (pv 0) pa_nil)))
      (pss_cons (ps_set (i := 2) scLaw.nd rfl (.inl rfl) (pe_k cSy hr (by decide) (by rfl) (pa_cons (pv 1) (pa_cons pe_int pa_nil))))
      (C8.pss_cut (ps_if (pt_cmpR op_eq (pe_k cN hr (by decide) (by rfl) (pa_cons (pv 1) (pa_cons pe_int pa_nil))) pe_int (nomark _)) (pss_one (ps_set (i := 2) scLaw.nd rfl (.inl rfl) (pe_k cG hr (by decide) (by rfl) (pa_cons (pv 1) pa_nil)))) pss_nil)
      (pss_cons (ps_set (i := 3) scLaw.nd rfl (.inr rfl) (pe_len (by rfl) G.len (pe_ix ix_tup (pv 2) pe_int (fun _ _ => rfl))))
      (pss_cons (ps_if (pt_cmpR op_eq (pv 3) pe_int (nomark _)) (pss_one (ps_ret pe_bl)) pss_nil)
      (pss_cons (ps_set (i := 4) scLaw.nd rfl (.inr rfl) (pe_k cR hr (by decide) (by rfl) (pa_cons (pv 2) (pa_cons (pe_ix ix_tup (pv 2) pe_int (fun _ _ => rfl)) pa_nil))))
      (pss_cons (ps_set (i := 5) scLaw.nd rfl (.inl rfl) (pe_cmpR (op_eqD hr.units) (pe_k cF hr (by decide) (by rfl) (pa_cons (pv 2) pa_nil)) (pe_tup pa_nil) (nomark _)))
      (pss_cons (ps_set (i := 6) scLaw.nd rfl (.inr rfl) (pe_k cRw hr (by decide) (by rfl) (pa_cons (pv 2) pa_nil)))
      (pss_cons (ps_for PassesOwn.never rfl (pi_range1 (by rfl) G.range (pa_cons pe_int pa_nil)) (pg_name (i := 7) scLaw.nd rfl (.inl rfl))
        (pss_cons (ps_set (i := 8) scLaw.nd rfl (.inl rfl) (pe_tupleOf (by rfl) G.tuple (pe_lc (own := [("_law_k", 16)]) (te := teNext) (by rfl) scLaw.nd (pi_range1 (by rfl) G.range (pa_cons (pe_k cN hr (by decide) (by rfl) (pa_cons (pv 1) (pa_cons pe_int pa_nil))) pa_nil))
          (blkOk_by (own := [("_law_k", 16)]) (N := nLaw) (sc := defScope sLaw) (by decide +kernel)) (fun _ _ _ _ _ => pg_name (i := 16) scLaw.nd rfl (Or.inl rfl)) (fun _ _ _ _ _ => pts_nil) (fun _ _ _ _ _ => pe_k cN hr (by decide) (by rfl) (pa_cons (pv 1) (pa_cons (pv 3) pa_nil))))))
        (pss_cons (ps_set (i := 9) scLaw.nd rfl (.inl rfl) (pe_tupleOf (by rfl) G.tuple (pe_lc (own := [("_law_k", 16)]) (te := teNext) (by rfl) scLaw.nd (pi_range1 (by rfl) G.range (pa_cons (pe_k cN hr (by decide) (by rfl) (pa_cons (pv 1) (pa_cons pe_int pa_nil))) pa_nil))
          (blkOk_by (own := [("_law_k", 16)]) (N := nLaw) (sc := defScope sLaw) (by decide +kernel)) (fun _ _ _ _ _ => pg_name (i := 16) scLaw.nd rfl (Or.inl rfl)) (fun _ _ _ _ _ => pts_nil) (fun _ _ _ _ _ => pe_k cN hr (by decide) (by rfl) (pa_cons (pv 1) (pa_cons (pv 3) pa_nil))))))
        (pss_cons (ps_set (i := 10) scLaw.nd rfl (.inl rfl) (pe_k cN hr (by decide) (by rfl) (pa_cons (pv 1) (pa_cons (pv 3) pa_nil))))
        (pss_cons (ps_set (i := 11) scLaw.nd rfl (.inl rfl) (pe_k cT hr (by decide) (by rfl) (pa_cons (pv 2) (pa_cons (pv 8) (pa_cons (pv 10) pa_nil)))))
        (pss_one (ps_if (pt_not (pt_val (pv 5)))
          (pss_one (ps_if (pt_cmpR (op_neD hr.units) (pv 11) (pe_lst (pa_cons pe_str (pa_cons pe_str pa_nil))) (nomark _)) (pss_one ps_never) pss_nil))
          (pss_cons (ps_set (i := 12) scLaw.nd rfl (.inr rfl) (pe_k cL hr (by decide) (by rfl) (pa_cons (pv 2) (pa_cons (pe_ix ix_tup (pv 2) pe_int (fun _ _ => rfl)) (pa_cons (pv 8) pa_nil)))))
          (pss_cons (ps_set (i := 13) scLaw.nd rfl (.inr rfl) (pe_ix ix_tup (pe_ix ix_tup (pe_ix ix_tup (pv 2) pe_int (fun _ _ => rfl)) (pv 10) (fun _ _ => rfl)) (pv 12) (fun _ _ => rfl)))
          (pss_cons (ps_setLc (i := 14) (own := [("_law_one", 17)]) (tt := tTest (tOp rEq (tRow K 13 17) (tVar 12))) (by rfl) scLaw.nd rfl rfl (sw_true rfl rfl rfl (by decide +kernel)) (pi_list (pv 4))
            (blkOk_by (own := [("_law_one", 17)]) (N := nLaw) (sc := defScope sLaw) (by decide +kernel)) (fun _ _ _ _ _ => pg_name (i := 17) scLaw.nd rfl (Or.inl rfl))
            (fun _ _ _ _ _ => pts_one (pt_cmpR op_eq (pe_ix ix_tup (pe_ix ix_tup (pv 6) (pe_bm PySem.F.plainAttrs_list PySem.F.slot_list_index PySem.F.type_list_index mt_index (pv 4) (pa_cons (pv 13) pa_nil)) (fun _ _ => rfl)) (pe_bm PySem.F.plainAttrs_list PySem.F.slot_list_index PySem.F.type_list_index mt_index (pv 4) (pa_cons (pv 17) pa_nil)) (fun _ _ => rfl)) (pv 12) (nomark _)))
            (fun _ _ _ _ _ => pv 17))
          (pss_cons (ps_if (pt_not (pt_val (pe_k cE hr (by decide) (by rfl) (pa_cons (pe_lst (pa_cons (pv 11) pa_nil)) (pa_cons (pv 14) pa_nil))))) (pss_one ps_never) pss_nil)
          (pss_cons (ps_set (i := 15) scLaw.nd rfl (.inl rfl) (pe_k cL hr (by decide) (by rfl) (pa_cons (pv 2) (pa_cons (pv 13) (pa_cons (pv 9) pa_nil)))))
          (pss_one (ps_if (pt_cmpR op_ne (pe_ix ix_tup (pe_ix ix_tup (pv 6) (pe_bm PySem.F.plainAttrs_list PySem.F.slot_list_index PySem.F.type_list_index mt_index (pv 4) (pa_cons (pv 15) pa_nil)) (fun _ _ => rfl)) (pe_bm PySem.F.plainAttrs_list PySem.F.slot_list_index PySem.F.type_list_index mt_index (pv 4) (pa_cons (pv 11) pa_nil)) (fun _ _ => rfl))
              (pe_k cL hr (by decide) (by rfl) (pa_cons (pv 2) (pa_cons (pv 12) (pa_cons (pv 9) pa_nil)))) (nomark _)) (pss_one ps_never) pss_nil))))))))))))))
      (pss_one (ps_ret pe_bl)))))))))), ?_⟩
    refine ⟨_, rfl, sc, ns, rfl, hsc, fun H1 p a st1 => ?_⟩
    refine ⟨_, rfl, p, a, 6, rfl, by decide, by decide, st1, fun H2 s2 S2 sb2 st2 ok2 hS2 => ?_⟩
    -- the great systems
    refine ⟨fun σ H' => ∃ (s : Addr) (S : Sy), σ = [some (.ref sc), some (.ref p), some (.ref s), none, none, none, none, none, none, none, none, none, none, none, none, none, none, none] ∧ Strm H' p a ∧ S.Ok ∧ IsSy H' s S, ?_, ?_⟩
    · refine ⟨_, rfl, p, a, 3, rfl, by decide, by decide, st2, fun H3 x hx sb3 st3 => ⟨rfl, _, rfl, ?_⟩⟩
      obtain ⟨yp, hyp⟩ := st2.lst
      refine ite2 (fun _ => ?_) (fun _ => ⟨s2, S2, rfl, st3, ok2, hS2.sb sb3 hyp⟩)
      exact ⟨_, rfl, p, a, rfl, st3, fun H4 s4 S4 sb4 st4 ok4 hS4 => ⟨s4, S4, rfl, st4, ok4, hS4⟩⟩
    rintro σ H3 ⟨s, S, rfl, st3, ok, hS3⟩
    have hm4 : S.m ≤ 4 := ok.m4
    refine vl_m hS3 (vl_var rfl) _ ?_
    refine ⟨_, rfl, rfl, _, rfl, ite2 (fun _ => q H3) (fun hm => ?_)⟩
    have hm1 : 1 ≤ S.m := by
      refine Nat.pos_of_ne_zero fun z => hm (decide_eq_true ?_)
      show V.int ((S.m : Nat) : Int) = V.int 0
      rw [z]
      rfl
    -- states
    refine ⟨_, rfl, vl_s hS3 (vl_var rfl) _ ⟨s, S, rfl, hS3, ok, fun H4 la xs s4 hla hxs hxm => ?_⟩⟩
    have hnd : xs.Nodup := hxs.imp fun h => Nat.ne_of_lt h
    have hS4 := hS3.same s4
    -- good
    refine ⟨_, rfl, s, S, rfl, hS4, ok, fun H5 t5 cs s5 ht5 hl5 hcs => ⟨Nat.zero_le _, fun u hu => ?_⟩⟩
    have s6 : Same H5 (upd H5 u (.tup [])) := same_upd hu
    refine ⟨.tuple (cs.map fun c : Nat => PyData.int (c : Int)), .tuple [], .tup (SqT.of (s6 _ _ ht5)) (dpAll_nis cs), .tup (SqT.of upd_same) .nil, shaped_nis cs, by rfl, ?_⟩
    rw [eqv_nil]
    have hgood : decide (cs = []) = true ↔ Reg S := by
      rw [decide_eq_true_iff]
      exact hcs
    generalize decide (cs = []) = good at hgood ⊢
    generalize upd H5 u (.tup []) = H6 at s6 ⊢
    have s46 := s5.trans s6
    -- rows
    refine ⟨_, rfl, s, S, rfl, hS4.same s46, ok, fun H7 rt xs' rs s7 hxs' hxm' ra => ?_⟩
    obtain rfl : xs = xs' := eq_of_rising hxs hxs' fun x => (hxm x).trans (hxm' x).symm
    have s47 := s46.trans s7
    have t7 : Tn S H7 p a s la rt xs rs := ⟨(st3.same s4).same s47, hS4.same s47, s47 _ _ hla, ra⟩
    have hxs8 : xs.length ≤ 8 := states_le ok hnd fun x hx => ((hxm x).mp hx).lt ok
    clear s4 s5 s6 s7 s46 s47 hS4 hS3 st3 hS2 st2 st1 sb2 ra hla ht5 hu
    -- the turns
    refine ⟨4, rfl, by decide, by decide, ?_⟩
    refine for_range (lo := 0) (n := 4) (fun i σ H' => ∃ v7 v8 v9 v10 v11 v12 v13 v14 v15 : Option V, σ = [some (.ref sc), some (.ref p), some (.ref s), some (.int (S.m : Nat)), some (.ref la), some (.bl good), some (.ref rt), v7, v8, v9, v10, v11, v12, v13, v14, v15, none, none] ∧ Tn S H' p a s la rt xs rs)
      ⟨_, _, _, _, _, _, _, _, _, rfl, t7⟩ ?_ ?_
    · rintro i σ H8 hi ⟨v7, v8, v9, v10, v11, v12, v13, v14, v15, rfl, t8⟩
      -- p, w
      refine rd_seq (mx := 17) ok hm1 (by decide) (by decide) t8.st fun H9 tp pq sb9 st9 hp hpl hpq => ?_
      have t9 := t8.sb sb9 st9
      refine rd_seq (mx := 13) ok hm1 (by decide) (by decide) st9 fun H10 tw wq sb10 st10 hw hwl hwq => ?_
      have t10 := t9.sb sb10 st10
      obtain ⟨yp, hyp⟩ := st9.lst
      have hp10 := sb10.tup hyp _ _ hp
      -- command
      refine ⟨_, rfl, _, rfl, p, a, S.m, rfl, hm1, by omega, st10, fun H11 c hc sb11 st11 => ?_⟩
      have t11 := t10.sb sb11 st11
      obtain ⟨zp, hzp⟩ := st10.lst
      have hp11 := sb11.tup hzp _ _ hp10
      have hw11 := sb11.tup hzp _ _ hw
      -- told
      refine ⟨_, rfl, _, rfl, _, rfl, s, tp, S, pq, c, rfl, t11.sy, ok, hp11, by omega, hpq, hc, fun hreg H12 told s12 hfac => ?_, fun hn H12 l s12 hl => ?_⟩
      · -- a regular system
        obtain rfl : good = true := hgood.mpr hreg
        have t12 := t11.same s12
        have hp12 := s12 _ _ hp11
        have hw12 := s12 _ _ hw11
        have hhR : R S (S.led S.s pq) := ⟨pq, hpq, rfl⟩
        have hbR : R S (S.step (S.led S.s pq) c) := hhR.led (Sq.one hc)
        obtain ⟨iv, hiv1, hiv2, htold⟩ := hfac
        have htR : R S told := by
          rw [htold]
          exact hhR.led (wy_sq hiv1)
        refine ⟨_, rfl, true, rfl, ?_⟩
        refine ⟨_, rfl, vl_s t12.sy (vl_var rfl) _ ⟨_, rfl, s, S, S.s, tp, pq, rfl, t12.sy, ok, ok.s, SqT.of hp12, hpq, ?_⟩⟩
        refine vl_step t12.sy ok (hhR.lt ok) hc (vl_var rfl) (vl_var rfl) (vl_var rfl) _ ?_
        -- due
        obtain ⟨ib, hib⟩ := ix_of ((hxm _).mpr hbR)
        obtain ⟨it, hit⟩ := ix_of ((hxm _).mpr htR)
        have hibl : ib < rs.length := by
          rw [t12.ra.len]
          exact (List.getElem?_eq_some_iff.mp hib).1
        obtain ⟨qb, hqb1, hqb2, hqb3⟩ := t12.ra.row ib rs[ib] _ (List.getElem?_eq_getElem hibl) hib
        have hivb : S.led iv qb = S.s := by
          rw [← hiv2]
          exact hreg.same ok hiv1 hqb1 (wy_sq hbR) (by rw [hqb2]; exact (wy_led hbR).symm)
        have hfin : S.led told qb = S.led S.s pq := by
          rw [htold]
          exact hreg.factor ok hhR hqb1 (wy_sq hiv1) (wy_led hiv1) hivb
        refine ⟨_, rfl, la, rfl, ⟨_, SqL.of t12.la⟩, fun D hD => lc_list (K := K) (a := la) (xs := nis xs) (fun j H13 => Same H12 H13 ∧ H13 D = some (.lst (nis ((xs.take j).filter fun y => decide (S.led y qb = S.led S.s pq))))) ⟨same_upd hD, upd_same⟩ (fun j H13 _ h => SqL.of (h.1 _ _ t12.la)) ?_ ?_⟩
        · rintro j y H13 hj ⟨s13, eD⟩
          obtain ⟨z, hz, rfl⟩ := of_nis_get hj
          have t13 := t12.same s13
          refine ⟨rfl, ?_⟩
          refine vl_row (S := S) rfl rfl rfl rfl t13.la hnd t13.ra hib hz (List.getElem?_eq_getElem hibl) (s13 _ _ hqb3) _ ⟨_, rfl, rfl, _, rfl, ?_⟩
          by_cases e : S.led z qb = S.led S.s pq
          · rw [decide_eq_true (show V.int (S.led z qb : Nat) = V.int (S.led S.s pq : Nat) by rw [e])]
            refine ⟨_, rfl, _, eD, ?_, fun b o eb => ?_, ?_⟩
            · have h1 := List.length_filter_le (fun y => decide (S.led y qb = S.led S.s pq)) (xs.take j)
              rw [List.length_take] at h1
              rw [nis_len]
              exact small1000 (by omega)
            · rw [upd_ne (ne_of_none eb hD)]
              exact s13 b o eb
            · rw [upd_same, take_snoc hz, List.filter_append, List.filter_cons, if_pos (decide_eq_true e)]
              show _ = some (HO.lst (((xs.take j).filter (fun y => decide (S.led y qb = S.led S.s pq)) ++ [z]).map _))
              rw [List.map_append]
              rfl
          · rw [decide_eq_false (show ¬ V.int (S.led z qb : Nat) = V.int (S.led S.s pq : Nat) from fun q => e (by have := V.int.inj q; omega))]
            refine ⟨s13, ?_⟩
            rw [take_snoc hz, List.filter_append, List.filter_cons, if_neg (by simp [e])]
            show _ = some (HO.lst (nis (_ ++ [])))
            rw [List.append_nil]
            exact eD
        · rintro H13 ⟨s13, eD⟩
          rw [nis_len, List.take_length, filter_one (z := told) hnd ((hxm _).mpr htR) (decide_eq_true hfin) (fun y hy hpy => hreg.inj ok hqb1 ((hxm y).mp hy) htR ((of_decide_eq_true hpy).trans hfin.symm))] at eD
          have t13 := t12.same s13
          -- if not _law_equal([told], due)
          refine ⟨_, rfl, by show 1 ≤ sizeLine; decide, fun L hL => ⟨_, rfl, L, D, (told : Nat), rfl, upd_same, ?_, fun H14 s14 => ⟨_, rfl, ?_⟩⟩⟩
          · rw [upd_ne (ne_of_none eD hL)]
            exact eD
          have s1314 : Same H13 H14 := (same_upd hL).trans s14
          have t14 := t13.same s1314
          have hw14 := s1314 _ _ (s13 _ _ hw12)
          -- last
          have hlR : R S (S.led (S.step (S.led S.s pq) c) wq) := hbR.led hwq
          refine ⟨_, rfl, _, rfl, _, rfl, s, S, _, tw, wq, rfl, t14.sy, ok, hbR.lt ok, SqT.of hw14, hwq, ?_⟩
          obtain ⟨il, hil⟩ := ix_of ((hxm _).mpr hlR)
          have hill : il < rs.length := by
            rw [t14.ra.len]
            exact (List.getElem?_eq_some_iff.mp hil).1
          obtain ⟨ql, hql1, hql2, hql3⟩ := t14.ra.row il rs[il] _ (List.getElem?_eq_getElem hill) hil
          have hlast : S.led told ql = S.led (S.led S.s pq) wq := hreg.last ok htR hqb1 hql1 hwq hqb2 hql2 hfin
          refine vl_row (S := S) rfl rfl rfl rfl t14.la hnd t14.ra hil hit (List.getElem?_eq_getElem hill) hql3 _ ⟨_, rfl, _, rfl, _, rfl, s, S, _, tw, wq, rfl, t14.sy, ok, hhR.lt ok, SqT.of hw14, hwq, rfl, _, rfl, iteNS (by rw [hlast]) ?_⟩
          exact ⟨_, _, _, _, _, _, _, _, _, rfl, t14⟩
      · -- another one
        have t12 := t11.same s12
        have hg : good = false := by
          cases good with
          | false => rfl
          | true => exact absurd (hgood.mp rfl) hn
        subst hg
        refine ⟨_, rfl, false, rfl, ?_⟩
        refine ⟨_, rfl, by show 2 ≤ sizeLine; decide, fun L hL => ?_⟩
        have sL : Same H12 (upd H12 L (.lst [.str "not", .str "regular"])) := same_upd hL
        refine ⟨.list [.str "not", .str "regular"], .list [.str "not", .str "regular"], .lst (SqL.of (sL _ _ hl)) (.cons (.str _) (.cons (.str _) .nil)), .lst (SqL.of upd_same) (.cons (.str _) (.cons (.str _) .nil)), by decide +kernel, by decide +kernel, _, rfl, ?_⟩
        rw [show PyData.eqv (.list [.str "not", .str "regular"]) (.list [.str "not", .str "regular"]) = true by decide +kernel]
        exact ⟨_, _, _, _, _, _, _, _, _, rfl, t12.same sL⟩
    · rintro σ H8 ⟨v7, v8, v9, v10, v11, v12, v13, v14, v15, rfl, t8⟩
      exact q H8
end
end K32
set_option maxHeartbeats 0
/-! The head: what the top leaves, by one kernel run; the law's end. (Printed by gen_head.py.) -/
namespace K32
open PySem PySem.Spec PyProof.Rows L2
/-! ### the class NotPossible by Bools -/
def oexCls (K : PySem.W.Frag) (C : Addr) : Bool := match K.lookup C with
  | some ⟨.type "type", _, .cls cd, sl⟩ => (match cd.mro, sl.toList with
    | .ref C' :: bm, [_, _, _, _, some (.builtin n), _] => C' == C && (n == "ValueError.__new__" && (!cd.hasDel && (PySem.HandSPX.refsVE bm && cd.hasDict)))
    | _, _ => false)
  | _ => false
theorem oexCls_ok {K : PySem.W.Frag} {C : Addr} (h : oexCls K C = true) : ∃ nm q N bs bm sn sub ab col dd k0 k1 k2 k3 k5, K.lookup C = some (excClassObj nm q C N bs bm true sn sub ab col dd k0 k1 k2 k3 k5 "ValueError.__new__") ∧ PySem.HandSPX.refsVE bm = true := by
  unfold oexCls at h
  split at h
  · rename_i dd cd sl ho
    split at h
    · rename_i C' bm k0 k1 k2 k3 n k5 hm hs
      simp only [Bool.and_eq_true, beq_iff_eq, Bool.not_eq_true'] at h
      obtain ⟨rfl, rfl, hdel, hr, hd⟩ := h
      obtain ⟨nm, bs, mro, ns, qn, hd', sn, sub, ab, col, del⟩ := cd
      dsimp only at hm hdel hd
      subst hm hdel hd
      have hsl : sl = #[k0, k1, k2, k3, some (.builtin "ValueError.__new__"), k5] := by
        obtain ⟨l⟩ := sl
        simp only at hs
        rw [hs]
      subst hsl
      exact ⟨nm, qn, ns, bs, bm, sn, sub, ab, col, dd, k0, k1, k2, k3, k5, ho, hr⟩
    · cases h
  · cases h
abbrev npC (K : PySem.W.Frag) : Addr := He.ga K "NotPossible"
def npB (K : PySem.W.Frag) : Bool := oexCls K (npC K) && (decide (PySem.W.findIn K (.ref (npC K)) "__setattr__" = some (some (.builtin "object.__setattr__"))) && (decide (PySem.W.subIn K (.ref (npC K)) (.type "BaseException") = some true) &&
  (decide (PySem.W.typeIn K (.ref (npC K)) = some (.type "type")) && (PySem.W.keepIn K (.ref (npC K)) && (xfB K (npC K) && (decide (PySem.W.findIn K (.ref (npC K)) "why" = some none) && (decide (PySem.W.exmOne K (.ref (npC K)) (.ref (npC K)) = some true) &&
  (decide (PySem.W.findIn K (.ref (npC K)) "__init__" = some (some (.ref (He.ma K (npC K) "__init__")))) && decide (PySem.W.typeIn K (.ref (He.ma K (npC K) "__init__")) = some (.type "function"))))))))))
/-! ### the Hook: facts by names, the defs, one more Bool -/
def hookE (n : Nat) (fa : List He.Fa) (fn : List He.DefD) (ex : PySem.W.Frag → Bool) : PySem.W.Hook where
  α := He.AlD × Bool
  obs := fun s => (He.obsDG n fa fn s.heap.get?, ex (He.frG s.heap.get? (He.asD s.heap.get? n)))
  val := fun _ => (He.valD fn, true)
  says := fun _ h => ∃ K : PySem.W.Frag, K.In h ∧ He.SaysD fa fn K ∧ ex K = true
  of := fun _ _ e => ⟨_, He.frG_in, congrArg Prod.fst e, congrArg Prod.snd e⟩
  keeps := fun _ _ _ ⟨K, hK, c⟩ k => ⟨K, PySem.W.Frag.In.keeps hK k, c⟩
theorem fun_ofD {K : PySem.W.Frag} {x qual : Str} {st : Stmt} {f : Addr} {fd : FuncData} (F : FunD K x qual (defArgs st) (defBody st) (defScope st) [] [] f fd) : Fun K x qual st f fd := by
  obtain ⟨⟨oc, od, dV, kV, doc, pm, an, cdv, ct, osl, rfl, lk, hcd, hd, _⟩, kp⟩ := F
  rcases hd with ⟨_, rfl⟩ | ⟨e2, _⟩
  · exact ⟨⟨oc, od, kV, doc, pm, an, cdv, ct, osl, rfl, lk, hcd⟩, kp⟩
  · exact absurd rfl e2
def dD (x : Str) (st : Stmt) : He.DefD := ⟨(x, none), x, x, defArgs st, defBody st, defScope st, [], []⟩
def fn : List He.DefD := [dD "is_whole" (topS 8),
  dD "is_system" (topS 9),
  dD "is_command" (topS 10),
  dD "are_commands" (topS 11),
  dD "is_sequence" (topS 12),
  dD "states_of" (topS 13),
  dD "step" (topS 14),
  dD "led" (topS 15),
  dD "check_system" (topS 16),
  dD "pairs_from" (topS 18),
  dD "counterparts_of" (topS 19),
  dD "determines" (topS 20),
  dD "reached" (topS 22),
  dD "reachable_of" (topS 23),
  dD "failing_of" (topS 25),
  dD "all_revocable" (topS 26),
  dD "check_regular" (topS 27),
  dD "product_of" (topS 28),
  dD "inverse_of" (topS 29),
  dD "factor" (topS 30),
  dD "_law_stream" (topS 32),
  dD "_law_next" (topS 33),
  dD "_law_is_integer" (topS 34),
  dD "_law_equal" (topS 35),
  dD "_law_system" (topS 36),
  dD "_law_turns" (topS 37),
  dD "_law_led" (topS 38),
  dD "_law_pairs" (topS 39),
  dD "_law_reached" (topS 40),
  dD "_law_counterparts" (topS 41),
  dD "_law_determines" (topS 42),
  dD "_law_failing" (topS 49),
  dD "_law_ways" (topS 50),
  dD "_law_rows" (topS 51),
  dD "_law_told" (topS 53),
  dD "_law_great" (topS 54),
  dD "law" (topS 55),
  ⟨("NotPossible", some "__init__"), "__init__", "NotPossible.__init__", defArgs sNpInit, defBody sNpInit, defScope sNpInit, [], []⟩]
def fa1 : List He.Fa := [.glo "is_whole", .glo "is_system", .glo "is_command", .glo "are_commands", .glo "is_sequence", .glo "states_of", .glo "step", .glo "led", .glo "check_system", .glo "pairs_from", .glo "counterparts_of", .glo "determines", .glo "reached", .glo "reachable_of", .glo "failing_of", .glo "all_revocable", .glo "check_regular", .glo "product_of", .glo "inverse_of", .glo "factor", .glo "_law_stream", .glo "_law_next", .glo "_law_is_integer", .glo "_law_equal", .glo "_law_system", .glo "_law_turns", .glo "_law_led", .glo "_law_pairs", .glo "_law_reached", .glo "_law_counterparts"]
def fa2 : List He.Fa := [.glo "_law_determines", .glo "_law_failing", .glo "_law_ways", .glo "_law_rows", .glo "_law_told", .glo "_law_great", .glo "law", .glo "NotPossible", .free "len", .free "isinstance", .free "int", .free "bool", .free "str", .free "tuple", .free "list", .free "all", .free "range", .free "sorted", .free "max", .free "abs", .int "MOST_STATES" 8, .int "MOST_COMMANDS" 4, .int "LONGEST_SEQUENCE" 16]
def fa : List He.Fa := fa1 ++ fa2
def lo1 : List PySem.Str := ["UndoError", "BadValue", "NotPossible", "MOST_STATES", "MOST_COMMANDS", "LONGEST_SEQUENCE", "is_whole", "is_system", "is_command", "are_commands", "is_sequence", "states_of", "step", "led", "check_system", "pairs_from", "counterparts_of", "determines", "reached", "reachable_of", "failing_of", "all_revocable", "check_regular", "product_of", "inverse_of", "factor", "_law_stream", "_law_next", "_law_is_integer", "_law_equal"]
def lo2 : List PySem.Str := ["_law_system", "_law_turns", "_law_led", "_law_pairs", "_law_reached", "_law_counterparts", "_law_determines", "_law_failing", "_law_ways", "_law_rows", "_law_told", "_law_great", "_law_action", "_law_is_table", "_law_passes", "_law_is_sequence", "_law_refutes", "_law_refutation", "_law_shows"]
abbrev R0 : PySem.W.OpenRow := PySem.W.OpenLaw.row PySem.Challenge.rw_undobystate_k32_whole_factors
abbrev hk : PySem.W.Hook := hookE 5 fa fn npB
def ob (s : PySem.W.SharedT) : He.AlD × Bool := (He.obsDG 5 fa fn (HandSHeadRun.getT s), npB (He.frG (HandSHeadRun.getT s) (He.asD (HandSHeadRun.getT s) 5)))
theorem ob_eq (s : PySem.W.SharedT) : ob s = hk.obs s.abs := by
  have e : HandSHeadRun.getT s = s.abs.heap.get? := funext (HandSHeadRun.getT_eq s)
  unfold ob
  rw [e]
  rfl
theorem run (w : World) : HandSHeadRun.RunEq R0 (PySem.W.view R0.prog [55]) hk ob 4000 (lo1 ++ lo2) w := by
  intro os
  kernel_rfl
/-! ### what the head tells -/
section
variable {K : PySem.W.Frag} {h : Heap} {mg : Str → Option Value}
theorem dn_of (X : K.In h) (G : h.Ns mainGlobals mg) (c : He.SaysD fa fn K) (i j : Nat) {x : Str} {st : Stmt} {ps : List Str} (hd : fn[i]? = some (dD x st)) (hg : fa[j]? = some (.glo x)) (hb : ∀ {f : Addr} {fd : FuncData}, Fun K x x st f fd → Binds K fd ps []) : Dn K mg x st ps := by
  obtain ⟨fd, F⟩ := c.def_ i (d := dD x st) hd
  exact ⟨He.fAd K (x, none), fd, fun_ofD F, He.glo_ok X G (c.fact j (f := .glo x) hg), hb (fun_ofD F)⟩
theorem gf_of (X : K.In h) (G : h.Ns mainGlobals mg) (c : He.SaysD fa fn K) : Gf mg where
  len := He.free_ok X G (c.fact 38 (f := .free "len") rfl)
  isinstance := He.free_ok X G (c.fact 39 (f := .free "isinstance") rfl)
  int := He.free_ok X G (c.fact 40 (f := .free "int") rfl)
  bool := He.free_ok X G (c.fact 41 (f := .free "bool") rfl)
  str := He.free_ok X G (c.fact 42 (f := .free "str") rfl)
  tuple := He.free_ok X G (c.fact 43 (f := .free "tuple") rfl)
  list := He.free_ok X G (c.fact 44 (f := .free "list") rfl)
  all := He.free_ok X G (c.fact 45 (f := .free "all") rfl)
  range := He.free_ok X G (c.fact 46 (f := .free "range") rfl)
  sorted := He.free_ok X G (c.fact 47 (f := .free "sorted") rfl)
  max := He.free_ok X G (c.fact 48 (f := .free "max") rfl)
  abs := He.free_ok X G (c.fact 49 (f := .free "abs") rfl)
  ms := He.int_ok X G (c.fact 50 (f := .int "MOST_STATES" 8) rfl)
  mc := He.int_ok X G (c.fact 51 (f := .int "MOST_COMMANDS" 4) rfl)
  ls := He.int_ok X G (c.fact 52 (f := .int "LONGEST_SEQUENCE" 16) rfl)
theorem np_of (X : K.In h) (G : h.Ns mainGlobals mg) (c : He.SaysD fa fn K) (e : npB K = true) : NpC K mg (npC K) := by
  unfold npB at e
  obtain ⟨e1, e⟩ := Bool.and_eq_true_iff.mp e
  obtain ⟨e2, e⟩ := Bool.and_eq_true_iff.mp e
  obtain ⟨e3, e⟩ := Bool.and_eq_true_iff.mp e
  obtain ⟨e4, e⟩ := Bool.and_eq_true_iff.mp e
  obtain ⟨e5, e⟩ := Bool.and_eq_true_iff.mp e
  obtain ⟨e6, e⟩ := Bool.and_eq_true_iff.mp e
  obtain ⟨e7, e⟩ := Bool.and_eq_true_iff.mp e
  obtain ⟨e8, e⟩ := Bool.and_eq_true_iff.mp e
  obtain ⟨e9, e10⟩ := Bool.and_eq_true_iff.mp e
  obtain ⟨fd, F⟩ := c.def_ 37 (d := ⟨("NotPossible", some "__init__"), "__init__", "NotPossible.__init__", defArgs sNpInit, defBody sNpInit, defScope sNpInit, [], []⟩) rfl
  have F2 : Fun K "__init__" "NotPossible.__init__" sNpInit _ fd := fun_ofD F
  exact ⟨He.glo_ok X G (c.fact 37 (f := .glo "NotPossible") rfl), ⟨oexCls_ok e1, of_decide_eq_true e2, of_decide_eq_true e3, of_decide_eq_true e4, e5⟩, xfB_ok e6, of_decide_eq_true e7, of_decide_eq_true e8,
    ⟨_, fd, of_decide_eq_true e9, of_decide_eq_true e10, F2, F2.binds (ps := ["self", "why"]) fun _ _ _ _ _ _ us hl => match us, hl with | [_, _], _ => rfl⟩⟩
theorem facts {P : Program} {w : World} {f : Addr} (X : K.In h) (G : h.Ns mainGlobals mg) (hfa : mg ("law" : Str) = some (.ref f)) (c : He.SaysD fa fn K) (e : npB K = true) :
    ∃ fd : FuncData, (∀ (s : Shared) (v : Value), BindsTo s fd ⟨[v], []⟩ [("_law_script", v)]) ∧ ∀ base : Heap, K.In base → base.Ns mainGlobals mg → FnOk P w K mg base CX0 10 f fd ["_law_script"] (spLaw K) := by
  have g := gf_of X G c
  have N := np_of X G c e
  have d_is_whole : Dn K mg "is_whole" (topS 8) ["value", "low", "high"] := dn_of X G c 0 0 rfl rfl fun F => F.binds fun _ _ _ _ _ _ us hl => match us, hl with | [_, _, _], _ => rfl
  have d_is_system : Dn K mg "is_system" (topS 9) ["value"] := dn_of X G c 1 1 rfl rfl fun F => F.binds fun _ _ _ _ _ _ us hl => match us, hl with | [_], _ => rfl
  have d_is_command : Dn K mg "is_command" (topS 10) ["system", "value"] := dn_of X G c 2 2 rfl rfl fun F => F.binds fun _ _ _ _ _ _ us hl => match us, hl with | [_, _], _ => rfl
  have d_are_commands : Dn K mg "are_commands" (topS 11) ["system", "value"] := dn_of X G c 3 3 rfl rfl fun F => F.binds fun _ _ _ _ _ _ us hl => match us, hl with | [_, _], _ => rfl
  have d_is_sequence : Dn K mg "is_sequence" (topS 12) ["system", "value"] := dn_of X G c 4 4 rfl rfl fun F => F.binds fun _ _ _ _ _ _ us hl => match us, hl with | [_, _], _ => rfl
  have d_states_of : Dn K mg "states_of" (topS 13) ["system"] := dn_of X G c 5 5 rfl rfl fun F => F.binds fun _ _ _ _ _ _ us hl => match us, hl with | [_], _ => rfl
  have d_step : Dn K mg "step" (topS 14) ["system", "state", "command"] := dn_of X G c 6 6 rfl rfl fun F => F.binds fun _ _ _ _ _ _ us hl => match us, hl with | [_, _, _], _ => rfl
  have d_led : Dn K mg "led" (topS 15) ["system", "state", "sequence"] := dn_of X G c 7 7 rfl rfl fun F => F.binds fun _ _ _ _ _ _ us hl => match us, hl with | [_, _, _], _ => rfl
  have d_check_system : Dn K mg "check_system" (topS 16) ["system"] := dn_of X G c 8 8 rfl rfl fun F => F.binds fun _ _ _ _ _ _ us hl => match us, hl with | [_], _ => rfl
  have d_pairs_from : Dn K mg "pairs_from" (topS 18) ["system", "one", "other"] := dn_of X G c 9 9 rfl rfl fun F => F.binds fun _ _ _ _ _ _ us hl => match us, hl with | [_, _, _], _ => rfl
  have d_counterparts_of : Dn K mg "counterparts_of" (topS 19) ["system", "one", "other"] := dn_of X G c 10 10 rfl rfl fun F => F.binds fun _ _ _ _ _ _ us hl => match us, hl with | [_, _, _], _ => rfl
  have d_determines : Dn K mg "determines" (topS 20) ["system", "one", "other"] := dn_of X G c 11 11 rfl rfl fun F => F.binds fun _ _ _ _ _ _ us hl => match us, hl with | [_, _, _], _ => rfl
  have d_reached : Dn K mg "reached" (topS 22) ["system", "state"] := dn_of X G c 12 12 rfl rfl fun F => F.binds fun _ _ _ _ _ _ us hl => match us, hl with | [_, _], _ => rfl
  have d_reachable_of : Dn K mg "reachable_of" (topS 23) ["system"] := dn_of X G c 13 13 rfl rfl fun F => F.binds fun _ _ _ _ _ _ us hl => match us, hl with | [_], _ => rfl
  have d_failing_of : Dn K mg "failing_of" (topS 25) ["system"] := dn_of X G c 14 14 rfl rfl fun F => F.binds fun _ _ _ _ _ _ us hl => match us, hl with | [_], _ => rfl
  have d_all_revocable : Dn K mg "all_revocable" (topS 26) ["system"] := dn_of X G c 15 15 rfl rfl fun F => F.binds fun _ _ _ _ _ _ us hl => match us, hl with | [_], _ => rfl
  have d_check_regular : Dn K mg "check_regular" (topS 27) ["system"] := dn_of X G c 16 16 rfl rfl fun F => F.binds fun _ _ _ _ _ _ us hl => match us, hl with | [_], _ => rfl
  have d_product_of : Dn K mg "product_of" (topS 28) ["system", "one", "other"] := dn_of X G c 17 17 rfl rfl fun F => F.binds fun _ _ _ _ _ _ us hl => match us, hl with | [_, _, _], _ => rfl
  have d_inverse_of : Dn K mg "inverse_of" (topS 29) ["system", "state"] := dn_of X G c 18 18 rfl rfl fun F => F.binds fun _ _ _ _ _ _ us hl => match us, hl with | [_, _], _ => rfl
  have d_factor : Dn K mg "factor" (topS 30) ["system", "sequence", "command"] := dn_of X G c 19 19 rfl rfl fun F => F.binds fun _ _ _ _ _ _ us hl => match us, hl with | [_, _, _], _ => rfl
  have d__law_stream : Dn K mg "_law_stream" (topS 32) ["_law_script"] := dn_of X G c 20 20 rfl rfl fun F => F.binds fun _ _ _ _ _ _ us hl => match us, hl with | [_], _ => rfl
  have d__law_next : Dn K mg "_law_next" (topS 33) ["_law_stream_here", "_law_many"] := dn_of X G c 21 21 rfl rfl fun F => F.binds fun _ _ _ _ _ _ us hl => match us, hl with | [_, _], _ => rfl
  have d__law_is_integer : Dn K mg "_law_is_integer" (topS 34) ["_law_actual"] := dn_of X G c 22 22 rfl rfl fun F => F.binds fun _ _ _ _ _ _ us hl => match us, hl with | [_], _ => rfl
  have d__law_equal : Dn K mg "_law_equal" (topS 35) ["_law_actual", "_law_due"] := dn_of X G c 23 23 rfl rfl fun F => F.binds fun _ _ _ _ _ _ us hl => match us, hl with | [_, _], _ => rfl
  have d__law_system : Dn K mg "_law_system" (topS 36) ["_law_stream_here", "_law_most"] := dn_of X G c 24 24 rfl rfl fun F => F.binds fun _ _ _ _ _ _ us hl => match us, hl with | [_, _], _ => rfl
  have d__law_turns : Dn K mg "_law_turns" (topS 37) ["_law_stream_here", "_law_states"] := dn_of X G c 25 25 rfl rfl fun F => F.binds fun _ _ _ _ _ _ us hl => match us, hl with | [_, _], _ => rfl
  have d__law_led : Dn K mg "_law_led" (topS 38) ["_law_system_here", "_law_state", "_law_sequence"] := dn_of X G c 26 26 rfl rfl fun F => F.binds fun _ _ _ _ _ _ us hl => match us, hl with | [_, _, _], _ => rfl
  have d__law_pairs : Dn K mg "_law_pairs" (topS 39) ["_law_system_here", "_law_one", "_law_other"] := dn_of X G c 27 27 rfl rfl fun F => F.binds fun _ _ _ _ _ _ us hl => match us, hl with | [_, _, _], _ => rfl
  have d__law_reached : Dn K mg "_law_reached" (topS 40) ["_law_system_here", "_law_state"] := dn_of X G c 28 28 rfl rfl fun F => F.binds fun _ _ _ _ _ _ us hl => match us, hl with | [_, _], _ => rfl
  have d__law_counterparts : Dn K mg "_law_counterparts" (topS 41) ["_law_system_here", "_law_one", "_law_other"] := dn_of X G c 29 29 rfl rfl fun F => F.binds fun _ _ _ _ _ _ us hl => match us, hl with | [_, _, _], _ => rfl
  have d__law_determines : Dn K mg "_law_determines" (topS 42) ["_law_system_here", "_law_one", "_law_other"] := dn_of X G c 30 30 rfl rfl fun F => F.binds fun _ _ _ _ _ _ us hl => match us, hl with | [_, _, _], _ => rfl
  have d__law_failing : Dn K mg "_law_failing" (topS 49) ["_law_system_here"] := dn_of X G c 31 31 rfl rfl fun F => F.binds fun _ _ _ _ _ _ us hl => match us, hl with | [_], _ => rfl
  have d__law_ways : Dn K mg "_law_ways" (topS 50) ["_law_system_here"] := dn_of X G c 32 32 rfl rfl fun F => F.binds fun _ _ _ _ _ _ us hl => match us, hl with | [_], _ => rfl
  have d__law_rows : Dn K mg "_law_rows" (topS 51) ["_law_system_here"] := dn_of X G c 33 33 rfl rfl fun F => F.binds fun _ _ _ _ _ _ us hl => match us, hl with | [_], _ => rfl
  have d__law_told : Dn K mg "_law_told" (topS 53) ["_law_system_here", "_law_sequence", "_law_command"] := dn_of X G c 34 34 rfl rfl fun F => F.binds fun _ _ _ _ _ _ us hl => match us, hl with | [_, _, _], _ => rfl
  have d__law_great : Dn K mg "_law_great" (topS 54) ["_law_stream_here"] := dn_of X G c 35 35 rfl rfl fun F => F.binds fun _ _ _ _ _ _ us hl => match us, hl with | [_], _ => rfl
  obtain ⟨fdL, FL⟩ := c.def_ 36 (d := dD "law" (topS 55)) rfl
  have ef := hfa.symm.trans (He.glo_ok X G (c.fact 36 (f := .glo "law") rfl))
  cases ef
  have b := FunD.bindsA (ps := ["_law_script"]) FL fun _ _ _ _ _ _ us hl => match us, hl with | [_], _ => rfl
  refine ⟨fdL, fun s v => b s [v] rfl, fun base _ _ => ?_⟩
  have cW : Kp P w K mg base 1 "is_whole" spWhole := kWhole g d_is_whole
  have cS : Kp P w K mg base 1 "step" spStep := kStep d_step
  have cL : Kp P w K mg base 2 "led" (spLed K) := kLed d_led d_step
  have cC : Kp P w K mg base 2 "is_command" spIsCmd := kIsCmd g d_is_command d_is_whole
  have cA : Kp P w K mg base 3 "are_commands" spAreCmd := kAreCmd g d_are_commands d_is_command d_is_whole
  have cQ : Kp P w K mg base 4 "is_sequence" spIsSeq := kIsSeq g d_is_sequence cA
  have cO : Kp P w K mg base 1 "states_of" spStatesOf := kStatesOf g d_states_of
  have cY : Kp P w K mg base 2 "is_system" spIsSys := kIsSys g d_is_system cW
  have cCh : Kp P w K mg base 3 "check_system" spChkSys := kChkSys d_check_system cY
  have cP : Kp P w K mg base 2 "pairs_from" spPairs := kPairs g d_pairs_from cS
  have cCt : Kp P w K mg base 3 "counterparts_of" spCtp := kCtp g d_counterparts_of cP cO
  have cD : Kp P w K mg base 4 "determines" spDet := kDet g d_determines cCt
  have cR : Kp P w K mg base 2 "reached" spRchd := kRchd g d_reached cS
  have cB : Kp P w K mg base 3 "reachable_of" spRchb := kRchb g d_reachable_of cR
  have cF : Kp P w K mg base 5 "failing_of" spFail := kFail g d_failing_of cD cS
  have cAR : Kp P w K mg base 6 "all_revocable" spAllRev := kAllRev d_all_revocable cF
  have cCR : KpX P w K mg base 7 "check_regular" (spChkReg (npC K)) := kChkReg N d_check_regular cAR
  have cPr : Kp P w K mg base 3 "product_of" spProd := kProd d_product_of cL cR
  have cI : Kp P w K mg base 4 "inverse_of" spInv := kInv d_inverse_of cB cPr
  have cFa : KpX P w K mg base 8 "factor" (spFactor (npC K)) := kFactor d_factor cCh cQ cC cCR cL cPr cI cS
  have cT : Kp P w K mg base 9 "_law_told" spTold := kTold N d__law_told cFa
  have cSt : Kp P w K mg base 1 "_law_stream" (spStream K) := kStream g d__law_stream
  have cN : Kp P w K mg base 1 "_law_next" spNext := kNext g d__law_next
  have cTu : Kp P w K mg base 2 "_law_turns" spTurns := kTurns g d__law_turns cN
  have cSy : Kp P w K mg base 3 "_law_system" spSystem := kSystem g d__law_system cN cTu
  have cG : Kp P w K mg base 2 "_law_great" spGreat := kGreat g d__law_great cN
  have cLL : Kp P w K mg base 1 "_law_led" (spLed K) := kLLed d__law_led
  have cLP : Kp P w K mg base 1 "_law_pairs" spLPairs := kLPairs g d__law_pairs
  have cLR : Kp P w K mg base 2 "_law_reached" spLReached := kLReached g d__law_reached cLP
  have cLC : Kp P w K mg base 2 "_law_counterparts" spCtp := kLCtp g d__law_counterparts cLP
  have cLD : Kp P w K mg base 3 "_law_determines" spDet := kLDet g d__law_determines cLC
  have cLF : Kp P w K mg base 4 "_law_failing" spFail := kLFail g d__law_failing cLD
  have cLW : Kp P w K mg base 2 "_law_ways" spLWays := kLWays d__law_ways cLP
  have cLRw : Kp P w K mg base 3 "_law_rows" spLRows := kLRows g d__law_rows cLW cLL
  have cLI : Kp P w K mg base 1 "_law_is_integer" spLIsInt := kLIsInt g d__law_is_integer
  have cLE1 : Kp P w K mg base 2 "_law_equal" spLEqI := kLEqI g d__law_equal cLI
  have cLE : Kp P w K mg base 3 "_law_equal" spLEqL := kLEqL g d__law_equal cLE1
  exact okLaw g (fun_ofD FL) cSt cSy cN cG cLR cLF cLRw cT cLL cLE
end
end K32
open PySem PySem.W PySem.Calls PyProof.Rows
theorem PySem.Challenge.cw_undobystate_k32_whole_factors_holds : PySem.Challenge.rw_undobystate_k32_whole_factors.Holds := by
  w_on; o_law
  refine HandSHeadRun.head_any (r := K32.R0) (q := view K32.R0.prog [55]) (H := K32.hk) (ob := K32.ob) (M := 4000) (loose := K32.lo1 ++ K32.lo2) (d := HandSHeadRun.topDef K32.R0.prog 55) (kwd := []) K32.ob_eq
    (by kernel_rfl) (fun s => by kernel_rfl) K32.run (by kernel_rfl) (by kernel_rfl) (by kernel_rfl) (by rfl) (by first | assumption | decide +kernel) (by decide +kernel) ⟨rfl, rfl, rfl, rfl, rfl, by decide +kernel⟩ ?hw ?hc
  case hw => w_witness2
  case hc =>
    refine L2.walk_ofE (l := PySem.Challenge.rw_undobystate_k32_whole_factors) (n := 63) (k := 10) (x := "_law_script") (CX := L2.CX0) rfl (by decide) (by kernel_rfl) ⟨rfl, by decide, by decide⟩ ?F (fun _ _ _ _ z => z)
    intro w mg fa h Y G hmg0
    obtain ⟨K, KX, c, e⟩ := Y
    have hmg : mg ("law" : PySem.Str) = some (.ref fa) := by
      have e : (HandSHeadRun.topDef K32.R0.prog 55).name = ("law" : PySem.Str) := by kernel_rfl
      rw [← e]
      exact hmg0
    obtain ⟨fd, hb, hF⟩ := K32.facts (P := (PySem.Challenge.rw_undobystate_k32_whole_factors).prog) (w := w) KX G hmg c e
    exact ⟨K, fd, K32.spLaw K, KX, hb, fun H a ns hl _ hS => ⟨a, ns, rfl, hS, fun _ => rfl⟩, hF⟩
