import PyProof.Rows.All
import Wide.All
import OpenK.AllK
import Wide.FinOn
import HandS.ForMost
import HandS.IsInst
import HandS.Star
import HandS.Codes
import HandS.Walk
import HandS.SlotsOwn
import HandS.More
import PySem.Challenge.RW_wholeline_k09_whole_which_lengths_go
set_option Elab.async false
set_option linter.all false
set_option maxRecDepth 100000
set_option maxHeartbeats 4000000
namespace WL

/-! ### told, reach, top -/
def told (bs : List Int) (f : Int) : Int := bs.foldl (fun r b => if b ≤ f then b else r) 0
structure Bnds (bs : List Int) : Prop where
  lo : ∀ b ∈ bs, 1 ≤ b ∧ b ≤ 60
  up : bs.Pairwise (· < ·)
  ne : 1 ≤ bs.length
  le : bs.length ≤ 4
def reach (bs : List Int) (z c h : Int) : Int := if told bs (z - h) < c then told bs (z - h) else c
def tp (bs : List Int) (z c : Int) : Int :=
  if bs.headD 0 > z ∨ c = 0 then 0 else z - bs.headD 0 + (if bs.headD 0 < c then bs.headD 0 else c)

theorem fold_told (f : Int) : ∀ (bs : List Int) (r : Int), bs.Pairwise (· < ·) → (∀ b ∈ bs, r < b) →
    let t := bs.foldl (fun r b => if b ≤ f then b else r) r
    (t = r ∨ (t ∈ bs ∧ t ≤ f)) ∧ r ≤ t ∧ ∀ b ∈ bs, b ≤ f → b ≤ t
  | [], r, _, _ => ⟨.inl rfl, Int.le_refl _, fun b h => by cases h⟩
  | a :: bs, r, hp, hr => by
    obtain ⟨ha, hp'⟩ := List.pairwise_cons.mp hp
    have hra : r < a := hr a (List.mem_cons_self)
    show let t := bs.foldl (fun r b => if b ≤ f then b else r) (if a ≤ f then a else r)
      (t = r ∨ (t ∈ a :: bs ∧ t ≤ f)) ∧ r ≤ t ∧ ∀ b ∈ a :: bs, b ≤ f → b ≤ t
    by_cases h : a ≤ f
    · rw [if_pos h]
      have ih := fold_told f bs a hp' ha
      dsimp only at ih ⊢
      generalize List.foldl (fun r b => if b ≤ f then b else r) a bs = t at ih ⊢
      obtain ⟨h1, h2, h3⟩ := ih
      refine ⟨?_, by omega, fun b hb hbf => ?_⟩
      · rcases h1 with e | ⟨h4, h5⟩
        · exact .inr ⟨by rw [e]; exact List.mem_cons_self, by omega⟩
        · exact .inr ⟨List.mem_cons_of_mem _ h4, h5⟩
      · rcases List.mem_cons.mp hb with e | hb
        · omega
        · exact h3 b hb hbf
    · rw [if_neg h]
      have ih := fold_told f bs r hp' fun b hb => hr b (List.mem_cons_of_mem _ hb)
      dsimp only at ih ⊢
      generalize List.foldl (fun r b => if b ≤ f then b else r) r bs = t at ih ⊢
      obtain ⟨h1, h2, h3⟩ := ih
      refine ⟨?_, h2, fun b hb hbf => ?_⟩
      · rcases h1 with e | ⟨h4, h5⟩
        · exact .inl e
        · exact .inr ⟨List.mem_cons_of_mem _ h4, h5⟩
      · rcases List.mem_cons.mp hb with e | hb
        · omega
        · exact h3 b hb hbf
theorem told_spec {bs : List Int} (B : Bnds bs) (f : Int) : (told bs f = 0 ∨ (told bs f ∈ bs ∧ told bs f ≤ f)) ∧ 0 ≤ told bs f ∧ ∀ b ∈ bs, b ≤ f → b ≤ told bs f :=
  fold_told f bs 0 B.up fun b hb => by have := B.lo b hb; omega
theorem told_lo {bs : List Int} (B : Bnds bs) (f : Int) : 0 ≤ told bs f := (told_spec B f).2.1
theorem told_hi {bs : List Int} (B : Bnds bs) {f : Int} (h : 0 ≤ f) : told bs f ≤ f := by
  rcases (told_spec B f).1 with e | ⟨_, e⟩ <;> omega
theorem told_mono {bs : List Int} (B : Bnds bs) {f g : Int} (h : f ≤ g) : told bs f ≤ told bs g := by
  rcases (told_spec B f).1 with e | ⟨m, e⟩
  · rw [e]; exact told_lo B g
  · exact (told_spec B g).2.2 _ m (by omega)
theorem told_more {bs cs : List Int} (B : Bnds bs) (C : Bnds cs) (hs : ∀ b ∈ bs, b ∈ cs) (f : Int) : told bs f ≤ told cs f := by
  rcases (told_spec B f).1 with e | ⟨m, e⟩
  · rw [e]; exact told_lo C f
  · exact (told_spec C f).2.2 _ (hs _ m) e
theorem head_mem {bs : List Int} (B : Bnds bs) : bs.headD 0 ∈ bs := by
  cases bs with
  | nil => have := B.ne; simp at this
  | cons a r => exact List.mem_cons_self
theorem head_le {bs : List Int} (B : Bnds bs) : ∀ b ∈ bs, bs.headD 0 ≤ b := by
  cases bs with
  | nil => intro b h; cases h
  | cons a r =>
    intro b hb
    show a ≤ b
    rcases List.mem_cons.mp hb with e | hb
    · omega
    · have := (List.pairwise_cons.mp B.up).1 b hb; omega
theorem head_lo {bs : List Int} (B : Bnds bs) : 1 ≤ bs.headD 0 := (B.lo _ (head_mem B)).1
theorem head_get {bs : List Int} (B : Bnds bs) : bs[0]? = some (bs.headD 0) := by
  cases bs with
  | nil => have := B.ne; simp at this
  | cons a r => rfl
theorem told_zero {bs : List Int} (B : Bnds bs) {f : Int} (h : f < bs.headD 0) : told bs f = 0 := by
  rcases (told_spec B f).1 with e | ⟨m, e⟩
  · exact e
  · have := head_le B _ m; omega
theorem told_least {bs : List Int} (B : Bnds bs) {f : Int} (h : bs.headD 0 ≤ f) : bs.headD 0 ≤ told bs f := (told_spec B f).2.2 _ (head_mem B) h

/-! ### layers, of any reach -/
structure Rch (r : Int → Int) (z : Int) : Prop where
  z0 : 0 ≤ z
  lo : ∀ h, 0 ≤ h → h ≤ z → 0 ≤ r h
  hi : ∀ h, 0 ≤ h → h ≤ z → h + r h ≤ z
theorem rch_of {bs : List Int} {z c : Int} (B : Bnds bs) (hz : 0 ≤ z) (hc : 0 ≤ c) : Rch (reach bs z c) z where
  z0 := hz
  lo := fun h h0 h1 => by
    have := told_lo B (z - h)
    unfold reach; split <;> omega
  hi := fun h h0 h1 => by
    have := told_hi B (f := z - h) (by omega)
    unfold reach; split <;> omega
/-- the greatest of h + r h, h from 0 to n -/
def nxt (r : Int → Int) : Nat → Int
  | 0 => 0 + r 0
  | n + 1 => if nxt r n < ((n + 1 : Nat) : Int) + r ((n + 1 : Nat) : Int) then ((n + 1 : Nat) : Int) + r ((n + 1 : Nat) : Int) else nxt r n
theorem nxt_spec (r : Int → Int) : ∀ n : Nat, (∃ h : Nat, h ≤ n ∧ nxt r n = (h : Int) + r (h : Int)) ∧ ∀ h : Nat, h ≤ n → (h : Int) + r (h : Int) ≤ nxt r n
  | 0 => ⟨⟨0, Nat.le_refl _, rfl⟩, fun h hh => by
      have : h = 0 := by omega
      subst this
      exact Int.le_refl _⟩
  | n + 1 => by
    obtain ⟨⟨h, hh, e⟩, up⟩ := nxt_spec r n
    unfold nxt
    split
    · rename_i hlt
      refine ⟨⟨n + 1, Nat.le_refl _, rfl⟩, fun k hk => ?_⟩
      by_cases e2 : k = n + 1
      · subst e2; exact Int.le_refl _
      · have := up k (by omega); omega
    · rename_i hlt
      refine ⟨⟨h, by omega, e⟩, fun k hk => ?_⟩
      by_cases e2 : k = n + 1
      · subst e2; omega
      · exact up k (by omega)
theorem nxt_uniq {r : Int → Int} {n : Nat} {m : Int} (h1 : ∃ h : Nat, h ≤ n ∧ m = (h : Int) + r (h : Int)) (h2 : ∀ h : Nat, h ≤ n → (h : Int) + r (h : Int) ≤ m) : m = nxt r n := by
  obtain ⟨⟨h, hh, e⟩, up⟩ := nxt_spec r n
  obtain ⟨k, hk, e2⟩ := h1
  have a := up k hk
  have b := h2 h hh
  omega
def L (r : Int → Int) : Nat → Int
  | 0 => 0
  | k + 1 => nxt r (L r k).toNat
section
variable {r : Int → Int} {z : Int}
theorem L_lohi (R : Rch r z) : ∀ k : Nat, 0 ≤ L r k ∧ L r k ≤ z
  | 0 => ⟨Int.le_refl _, R.z0⟩
  | k + 1 => by
    obtain ⟨h1, h2⟩ := L_lohi R k
    obtain ⟨⟨h, hh, e⟩, up⟩ := nxt_spec r (L r k).toNat
    show 0 ≤ nxt r (L r k).toNat ∧ nxt r (L r k).toNat ≤ z
    have hz : (h : Int) ≤ z := by omega
    have a := R.lo h (by omega) hz
    have b := R.hi h (by omega) hz
    omega
theorem L_le (R : Rch r z) {k : Nat} {h : Int} (h0 : 0 ≤ h) (h1 : h ≤ L r k) : h + r h ≤ L r (k + 1) := by
  obtain ⟨n, rfl⟩ : ∃ n : Nat, h = (n : Int) := ⟨h.toNat, by omega⟩
  exact (nxt_spec r (L r k).toNat).2 n (by omega)
theorem L_ex (R : Rch r z) (k : Nat) : ∃ h : Int, 0 ≤ h ∧ h ≤ L r k ∧ L r (k + 1) = h + r h := by
  obtain ⟨⟨h, hh, e⟩, _⟩ := nxt_spec r (L r k).toNat
  have := L_lohi R k
  exact ⟨h, by omega, by omega, e⟩
theorem L_up (R : Rch r z) (k : Nat) : L r k ≤ L r (k + 1) := by
  obtain ⟨a, b⟩ := L_lohi R k
  have := L_le R (k := k) a (Int.le_refl _)
  have := R.lo _ a b
  omega
theorem L_mono (R : Rch r z) {i : Nat} : ∀ {j : Nat}, i ≤ j → L r i ≤ L r j
  | 0, h => by
    have : i = 0 := by omega
    subst this; exact Int.le_refl _
  | j + 1, h => by
    by_cases e : i = j + 1
    · subst e; exact Int.le_refl _
    · exact Int.le_trans (L_mono R (by omega)) (L_up R j)
theorem L_stop (R : Rch r z) {n : Nat} (h : L r (n + 1) ≤ L r n) : ∀ j, n ≤ j → L r j = L r n
  | 0, hj => by
    have : n = 0 := by omega
    subst this; rfl
  | j + 1, hj => by
    by_cases e : n = j + 1
    · rw [e]
    · have ih := L_stop R h j (by omega)
      have e1 : L r (j + 1) = L r (n + 1) := by
        show nxt r (L r j).toNat = nxt r (L r n).toNat
        rw [ih]
      have := L_up R n
      omega
theorem L_grow (R : Rch r z) {n : Nat} (h : ∀ k : Nat, k < n → L r k < L r (k + 1)) : (n : Int) ≤ L r n := by
  induction n with
  | zero => exact Int.le_refl _
  | succ n ih =>
    have a := ih fun k hk => h k (by omega)
    have b := h n (by omega)
    omega
/-- the list of the layers ends at n -/
structure LayN (r : Int → Int) (n : Nat) : Prop where
  up : ∀ k : Nat, k < n → L r k < L r (k + 1)
  stop : L r (n + 1) ≤ L r n
theorem LayN.uniq {n m : Nat} (a : LayN r n) (b : LayN r m) : n = m := by
  rcases Nat.lt_trichotomy n m with h | h | h
  · have := b.up n h; have := a.stop; omega
  · exact h
  · have := a.up m h; have := b.stop; omega
def lay (r : Int → Int) (n : Nat) : List Int := (List.range (n + 1)).map (L r)
theorem lay_succ (n : Nat) : lay r (n + 1) = lay r n ++ [L r (n + 1)] := by
  unfold lay
  rw [List.range_succ (n := n + 1), List.map_append]
  rfl
theorem lay_len (n : Nat) : (lay r n).length = n + 1 := by unfold lay; simp
theorem lay_get {n i : Nat} (h : i ≤ n) : (lay r n)[i]? = some (L r i) := by
  unfold lay
  rw [List.getElem?_map, List.getElem?_range (by omega)]
  rfl
theorem LayN.le (R : Rch r z) {n : Nat} (a : ∀ k : Nat, k < n → L r k < L r (k + 1)) : (n : Int) ≤ z := by
  have := L_grow R a
  have := L_lohi R n
  omega

/-! ### fewest -/
def Few (r : Int → Int) (len : Int) (o : Option Int) : Prop :=
  (len = 0 ∧ o = some 1) ∨ (0 < len ∧ ∃ k : Nat, o = some (k : Int) ∧ len ≤ L r k ∧ ∀ j : Nat, j < k → L r j < len) ∨ (0 < len ∧ o = none ∧ ∀ k, L r k < len)
theorem Few.uniq {len : Int} {o o' : Option Int} (a : Few r len o) (b : Few r len o') : o = o' := by
  rcases a with ⟨h, e⟩ | ⟨h, k, e, h1, h2⟩ | ⟨h, e, h1⟩ <;> rcases b with ⟨g, e'⟩ | ⟨g, k', e', g1, g2⟩ | ⟨g, e', g1⟩
  · rw [e, e']
  · omega
  · omega
  · omega
  · rcases Nat.lt_trichotomy k k' with q | q | q
    · have := g2 k q; omega
    · rw [e, e', q]
    · have := h2 k' q; omega
  · have := g1 k; omega
  · omega
  · have := h1 k'; omega
  · rw [e, e']
/-- by the list of indexes -/
theorem few_list (R : Rch r z) {n : Nat} (N : LayN r n) {len : Int} (h : 0 < len) {ks : List Nat} (e : ks = (List.range (n + 1)).filter fun k => decide (len ≤ L r k)) :
    (ks = [] → Few r len none) ∧ ∀ k rest, ks = k :: rest → Few r len (some (k : Int)) := by
  refine ⟨fun h0 => .inr (.inr ⟨h, rfl, fun k => ?_⟩), fun k rest h0 => .inr (.inl ⟨h, k, rfl, ?_, fun j hj => ?_⟩)⟩
  · have hm : ∀ j, j ≤ n → L r j < len := fun j hj => by
      rcases Int.lt_or_le (L r j) len with q | q
      · exact q
      · have : j ∈ ks := by rw [e]; exact List.mem_filter.mpr ⟨List.mem_range.mpr (by omega), decide_eq_true q⟩
        rw [h0] at this; cases this
    by_cases hk : k ≤ n
    · exact hm k hk
    · rw [L_stop R N.stop k (by omega)]; exact hm n (Nat.le_refl _)
  · have : k ∈ ks := by rw [h0]; exact List.mem_cons_self
    rw [e] at this
    exact of_decide_eq_true (List.mem_filter.mp this).2
  · rcases Int.lt_or_le (L r j) len with q | q
    · exact q
    · exfalso
      have hk : k ∈ ks := by rw [h0]; exact List.mem_cons_self
      have hkn : k < n + 1 := by
        rw [e] at hk
        exact List.mem_range.mp (List.mem_filter.mp hk).1
      have hj2 : j ∈ ks := by rw [e]; exact List.mem_filter.mpr ⟨List.mem_range.mpr (by omega), decide_eq_true q⟩
      have sorted : ks.Pairwise (· < ·) := by rw [e]; exact List.Pairwise.filter _ List.pairwise_lt_range
      rw [h0] at hj2 sorted
      rcases List.mem_cons.mp hj2 with q2 | q2
      · omega
      · have := (List.pairwise_cons.mp sorted).1 j q2; omega

/-! ### pieces, gone through -/
def Rk (r : Int → Int) : Nat → Int → Prop
  | 0, h => h = 0
  | i + 1, h => ∃ g, Rk r i g ∧ g + 1 ≤ h ∧ h ≤ g + r g
theorem Rk_le (R : Rch r z) : ∀ {i : Nat} {h : Int}, Rk r i h → (i : Int) ≤ h ∧ h ≤ L r i
  | 0, h, e => by
    have e : h = 0 := e
    subst e; exact ⟨Int.le_refl _, Int.le_refl _⟩
  | i + 1, h, ⟨g, hg, h1, h2⟩ => by
    have ih := Rk_le R hg
    have := L_le R (k := i) (h := g) (by omega) ih.2
    omega
theorem Rk_ex (R : Rch r z) : ∀ {k : Nat} {h : Int}, 0 ≤ h → h ≤ L r k → ∃ j, j ≤ k ∧ Rk r j h
  | 0, h, h0, h1 => ⟨0, Nat.le_refl _, by
      have : h ≤ 0 := h1
      show h = 0
      omega⟩
  | k + 1, h, h0, h1 => by
    by_cases q : h ≤ L r k
    · obtain ⟨j, hj, e⟩ := Rk_ex R h0 q
      exact ⟨j, by omega, e⟩
    · obtain ⟨g, g0, g1, e⟩ := L_ex R k
      obtain ⟨j, hj, hR⟩ := Rk_ex R g0 g1
      exact ⟨j + 1, by omega, g, hR, by omega, by omega⟩
theorem few_hit (R : Rch r z) {len : Int} {m : Nat} (h : 0 < len) (hit : Rk r m len) (no : ∀ j : Nat, j < m → ¬ Rk r j len) : Few r len (some (m : Int)) := by
  refine .inr (.inl ⟨h, m, rfl, (Rk_le R hit).2, fun j hj => ?_⟩)
  rcases Int.lt_or_le (L r j) len with q | q
  · exact q
  · obtain ⟨i, hi, e⟩ := Rk_ex R (by omega) q
    exact absurd e (no i (by omega))
theorem few_none (R : Rch r z) {len : Int} (h : 0 < len) (no : ∀ j : Nat, (j : Int) ≤ len → ¬ Rk r j len) : Few r len none := by
  refine .inr (.inr ⟨h, rfl, fun k => ?_⟩)
  rcases Int.lt_or_le (L r k) len with q | q
  · exact q
  · obtain ⟨i, hi, e⟩ := Rk_ex R (by omega) q
    exact absurd e (no i (Rk_le R e).1)
end

/-! ### which go -/
theorem L_tp {bs : List Int} {z c : Int} (B : Bnds bs) (hz : 0 ≤ z) (hc : 0 ≤ c) : ∀ k : Nat, L (reach bs z c) k ≤ tp bs z c
  | 0 => by
    show (0 : Int) ≤ tp bs z c
    have := head_lo B
    unfold tp; split
    · omega
    · split <;> omega
  | k + 1 => by
    have R := rch_of (c := c) B hz hc
    have ih := L_tp B hz hc k
    obtain ⟨h, h0, h1, e⟩ := L_ex R k
    have hz2 := (L_lohi R k).2
    have hd := head_lo B
    have t0 := told_lo B (z - h)
    have t1 := told_hi B (f := z - h) (by omega)
    rw [e]
    by_cases hf : z - h < bs.headD 0
    · have t := told_zero B hf
      have : reach bs z c h = 0 := by unfold reach; rw [t]; split <;> omega
      omega
    · have t2 := told_least B (f := z - h) (by omega)
      have hr : reach bs z c h = if told bs (z - h) < c then told bs (z - h) else c := rfl
      have ht : tp bs z c = if bs.headD 0 > z ∨ c = 0 then 0 else z - bs.headD 0 + (if bs.headD 0 < c then bs.headD 0 else c) := rfl
      split at ht
      · split at hr <;> omega
      · split at ht <;> split at hr <;> omega
theorem tp_L {bs : List Int} {z c : Int} (B : Bnds bs) (hz : 0 ≤ z) (hc : 0 ≤ c) : ∃ k : Nat, tp bs z c ≤ L (reach bs z c) k := by
  have R := rch_of (c := c) B hz hc
  by_cases q : bs.headD 0 > z ∨ c = 0
  · refine ⟨0, ?_⟩
    unfold tp
    rw [if_pos q]
    exact Int.le_refl _
  · have hd := head_lo B
    have one : ∀ h : Int, 0 ≤ h → h ≤ z - bs.headD 0 → 1 ≤ reach bs z c h := fun h h0 h1 => by
      have := told_least B (f := z - h) (by omega)
      unfold reach; split <;> omega
    have grow : ∀ n : Nat, (n : Int) ≤ z - bs.headD 0 → (n : Int) ≤ L (reach bs z c) n := by
      intro n
      induction n with
      | zero => intro _; exact Int.le_refl _
      | succ n ih =>
        intro hn
        have a := ih (by omega)
        have b := one n (by omega) (by omega)
        have d := L_le R (k := n) (h := (n : Int)) (by omega) a
        omega
    obtain ⟨n, hn⟩ : ∃ n : Nat, (n : Int) = z - bs.headD 0 := ⟨(z - bs.headD 0).toNat, by omega⟩
    refine ⟨n + 1, ?_⟩
    have a := grow n (by omega)
    have d := L_le R (k := n) (h := (n : Int)) (by omega) a
    have t := told_least B (f := z - (n : Int)) (by omega)
    have t1 := told_hi B (f := z - (n : Int)) (by omega)
    unfold tp
    rw [if_neg q]
    have hr : reach bs z c n = if told bs (z - n) < c then told bs (z - n) else c := rfl
    split at hr <;> split <;> omega
theorem few_top {bs : List Int} {z c len : Int} {o : Option Int} (B : Bnds bs) (hz : 0 ≤ z) (hc : 0 ≤ c) (f : Few (reach bs z c) len o) : len ≤ tp bs z c ↔ o ≠ none := by
  obtain ⟨k, hk⟩ := tp_L B hz hc
  have h0 := L_tp B hz hc 0
  have h0' : (0 : Int) ≤ tp bs z c := h0
  rcases f with ⟨h, e⟩ | ⟨h, m, e, h1, h2⟩ | ⟨h, e, h1⟩
  · rw [e]; exact ⟨fun _ z => (nomatch z), fun _ => by omega⟩
  · rw [e]; exact ⟨fun _ z => (nomatch z), fun _ => by have := L_tp B hz hc m; omega⟩
  · rw [e]; exact ⟨fun q => by have := h1 k; omega, fun q => absurd rfl q⟩

/-! ### milder -/
def NoWorse (o o' : Option Int) : Prop := o = none ∨ ∃ a b, o = some a ∧ o' = some b ∧ b ≤ a
theorem L_rise {r r' : Int → Int} {z z' : Int} (R : Rch r z) (R' : Rch r' z') (hr : ∀ h, 0 ≤ h → h ≤ z → r h ≤ r' h) : ∀ k : Nat, L r k ≤ L r' k
  | 0 => Int.le_refl _
  | k + 1 => by
    have ih := L_rise R R' hr k
    obtain ⟨h, h0, h1, e⟩ := L_ex R k
    have hz := (L_lohi R k).2
    have a := L_le R' (k := k) (h := h) h0 (by omega)
    have b := hr h h0 (by omega)
    omega
theorem few_mild {r r' : Int → Int} {z z' len : Int} {o o' : Option Int} (R : Rch r z) (R' : Rch r' z') (hr : ∀ h, 0 ≤ h → h ≤ z → r h ≤ r' h) (f : Few r len o) (f' : Few r' len o') : NoWorse o o' := by
  have up := L_rise R R' hr
  rcases f with ⟨h, e⟩ | ⟨h, k, e, h1, h2⟩ | ⟨h, e, h1⟩
  · rcases f' with ⟨g, e'⟩ | ⟨g, k', e', g1, g2⟩ | ⟨g, e', g1⟩
    · exact .inr ⟨1, 1, e, e', Int.le_refl _⟩
    · omega
    · omega
  · rcases f' with ⟨g, e'⟩ | ⟨g, k', e', g1, g2⟩ | ⟨g, e', g1⟩
    · omega
    · refine .inr ⟨k, k', e, e', ?_⟩
      rcases Int.lt_or_le (k : Int) (k' : Int) with q | q
      · have := g2 k (by omega); have := up k; omega
      · exact q
    · have := g1 k; have := up k; omega
  · exact .inl e
theorem reach_size {bs : List Int} {z z' c : Int} (B : Bnds bs) (h : z ≤ z') (g : Int) : reach bs z c g ≤ reach bs z' c g := by
  have := told_mono B (show z - g ≤ z' - g by omega)
  unfold reach; split <;> split <;> omega
theorem reach_bounds {bs cs : List Int} {z c : Int} (B : Bnds bs) (C : Bnds cs) (hs : ∀ b ∈ bs, b ∈ cs) (g : Int) : reach bs z c g ≤ reach cs z c g := by
  have := told_more B C hs (z - g)
  unfold reach; split <;> split <;> omega
theorem reach_cap {bs : List Int} {z c : Int} (g : Int) : reach bs z c g ≤ reach bs z (c + 1) g := by
  unfold reach; split <;> split <;> omega

/-! ### the least cap -/
def Lst (p : Int → Prop) (o : Option Int) : Prop := (∃ k : Nat, o = some (k : Int) ∧ p k ∧ ∀ j : Nat, j < k → ¬ p j) ∨ (o = none ∧ ∀ k : Nat, ¬ p k)
theorem Lst.uniq {p : Int → Prop} {o o' : Option Int} (a : Lst p o) (b : Lst p o') : o = o' := by
  rcases a with ⟨k, e, h1, h2⟩ | ⟨e, h⟩ <;> rcases b with ⟨k', e', g1, g2⟩ | ⟨e', g⟩
  · rcases Nat.lt_trichotomy k k' with q | q | q
    · exact absurd h1 (g2 k q)
    · rw [e, e', q]
    · exact absurd g1 (h2 k' q)
  · exact absurd h1 (g k)
  · exact absurd g1 (h k')
  · rw [e, e']
theorem tp_small {bs : List Int} {z len : Int} (B : Bnds bs) (hz : 0 ≤ z) {n : Nat} (hn : z ≤ (n : Int)) (no : ∀ k : Nat, k ≤ n → ¬ len ≤ tp bs z k) : ∀ k : Nat, ¬ len ≤ tp bs z k := by
  intro k hk
  by_cases q : k ≤ n
  · exact no k q hk
  · have hd := head_lo B
    refine no n (Nat.le_refl _) ?_
    unfold tp at hk ⊢
    by_cases h1 : bs.headD 0 > z
    · rw [if_pos (.inl h1)] at hk ⊢; exact hk
    · rw [if_neg (by omega)] at hk ⊢
      split at hk <;> split <;> omega
theorem lst_list {p : Int → Prop} [DecidablePred p] {n : Nat} (hn : (∀ k : Nat, k ≤ n → ¬ p k) → ∀ k : Nat, ¬ p k) {ks : List Nat} (e : ks = (List.range (n + 1)).filter fun k : Nat => decide (p (k : Int))) :
    (ks = [] → Lst p none) ∧ ∀ k rest, ks = k :: rest → Lst p (some (k : Int)) := by
  refine ⟨fun h0 => .inr ⟨rfl, hn fun k hk q => ?_⟩, fun k rest h0 => .inl ⟨k, rfl, ?_, fun j hj q => ?_⟩⟩
  · have : k ∈ ks := by rw [e]; exact List.mem_filter.mpr ⟨List.mem_range.mpr (by omega), decide_eq_true q⟩
    rw [h0] at this; cases this
  · have : k ∈ ks := by rw [h0]; exact List.mem_cons_self
    rw [e] at this
    exact of_decide_eq_true (List.mem_filter.mp this).2
  · have hk : k ∈ ks := by rw [h0]; exact List.mem_cons_self
    have hkn : k < n + 1 := by
      rw [e] at hk
      exact List.mem_range.mp (List.mem_filter.mp hk).1
    have hj2 : j ∈ ks := by rw [e]; exact List.mem_filter.mpr ⟨List.mem_range.mpr (by omega), decide_eq_true q⟩
    have sorted : ks.Pairwise (· < ·) := by rw [e]; exact List.Pairwise.filter _ List.pairwise_lt_range
    rw [h0] at hj2 sorted
    rcases List.mem_cons.mp hj2 with q2 | q2
    · omega
    · have := (List.pairwise_cons.mp sorted).1 j q2; omega

/-! ### bounds made -/
/-- what _law_bounds has found after i turns -/
structure Fnd (bs : List Int) (i : Nat) : Prop where
  lo : ∀ b ∈ bs, 1 ≤ b ∧ b ≤ 60
  up : bs.Pairwise (· < ·)
  ne : 1 ≤ i → 1 ≤ bs.length
  le : bs.length ≤ i
theorem Fnd.zero : Fnd [] 0 := ⟨fun b h => (by cases h), List.Pairwise.nil, fun h => (by omega), Nat.le_refl _⟩
theorem Fnd.keep {bs : List Int} {i : Nat} (F : Fnd bs i) {b : Int} (h : b ∈ bs) : Fnd bs (i + 1) :=
  ⟨F.lo, F.up, fun _ => List.length_pos_of_mem h, Nat.le_succ_of_le F.le⟩
theorem split_at : ∀ {bs : List Int} {b : Int}, bs.Pairwise (· < ·) → b ∉ bs → (∀ x ∈ bs.take (bs.filter fun x => decide (x < b)).length, x < b) ∧ ∀ x ∈ bs.drop (bs.filter fun x => decide (x < b)).length, b < x
  | [], b, _, _ => ⟨fun x h => by simp at h, fun x h => by simp at h⟩
  | a :: bs, b, hp, hn => by
    obtain ⟨ha, hp'⟩ := List.pairwise_cons.mp hp
    have hn' : b ∉ bs := fun q => hn (List.mem_cons_of_mem _ q)
    by_cases q : a < b
    · obtain ⟨h1, h2⟩ := split_at hp' hn'
      rw [List.filter_cons_of_pos (by simpa using q)]
      refine ⟨fun x hx => ?_, fun x hx => h2 x hx⟩
      rcases List.mem_cons.mp (show x ∈ a :: bs.take (bs.filter fun x => decide (x < b)).length from hx) with e | hx
      · omega
      · exact h1 x hx
    · have hab : b < a := by
        have : a ≠ b := fun e => hn (by rw [e]; exact List.mem_cons_self)
        omega
      have hnil : bs.filter (fun x => decide (x < b)) = [] := by
        rw [List.filter_eq_nil_iff]
        intro x hx q
        have := ha x hx
        have := of_decide_eq_true q
        omega
      rw [List.filter_cons_of_neg (by simpa using q), hnil]
      refine ⟨fun x hx => by simp at hx, fun x hx => ?_⟩
      rcases List.mem_cons.mp (show x ∈ a :: bs from hx) with e | hx
      · omega
      · have := ha x hx; omega
theorem Fnd.put {bs : List Int} {i : Nat} (F : Fnd bs i) {b : Int} (h : b ∉ bs) (hb : 1 ≤ b ∧ b ≤ 60) :
    Fnd (bs.take (bs.filter fun x => decide (x < b)).length ++ [b] ++ bs.drop (bs.filter fun x => decide (x < b)).length) (i + 1) := by
  obtain ⟨h1, h2⟩ := split_at F.up h
  have hlen : (bs.filter fun x => decide (x < b)).length ≤ bs.length := List.length_filter_le _ _
  refine ⟨fun x hx => ?_, ?_, fun _ => ?_, ?_⟩
  · rcases List.mem_append.mp hx with hx | hx
    · rcases List.mem_append.mp hx with hx | hx
      · exact F.lo x (List.mem_of_mem_take hx)
      · rcases List.mem_cons.mp hx with e | hx
        · rw [e]; exact hb
        · cases hx
    · exact F.lo x (List.mem_of_mem_drop hx)
  · rw [List.append_assoc, List.pairwise_append]
    have up' : (bs.take (bs.filter fun x => decide (x < b)).length ++ bs.drop (bs.filter fun x => decide (x < b)).length).Pairwise (· < ·) := by
      rw [List.take_append_drop]; exact F.up
    rw [List.pairwise_append] at up'
    obtain ⟨u1, u2, u3⟩ := up'
    refine ⟨u1, List.pairwise_cons.mpr ⟨h2, u2⟩, fun x hx y hy => ?_⟩
    rcases List.mem_cons.mp (show y ∈ b :: bs.drop (bs.filter fun x => decide (x < b)).length from hy) with e | hy
    · rw [e]; exact h1 x hx
    · exact u3 x hx y hy
  · simp; omega
  · have := F.le
    simp only [List.length_append, List.length_take, List.length_drop, List.length_cons, List.length_nil]
    omega
theorem Fnd.bnds {bs : List Int} {i : Nat} (F : Fnd bs i) (h1 : 1 ≤ i) (h2 : i ≤ 4) : Bnds bs := ⟨F.lo, F.up, F.ne h1, Nat.le_trans F.le h2⟩
/-- one bound more -/
theorem bnds_add {bs cs : List Int} {b : Int} (B : Bnds bs) (hl : bs.length < 4) (hn : b ∉ bs) (hb : 1 ≤ b ∧ b ≤ 60) (p : cs.Perm (bs ++ [b])) (s : cs.Pairwise (· ≤ ·)) : Bnds cs ∧ ∀ x ∈ bs, x ∈ cs := by
  have hm : ∀ x, x ∈ cs ↔ x ∈ bs ∨ x = b := fun x => by rw [p.mem_iff]; simp
  have nd : (bs ++ [b]).Nodup := by
    refine List.nodup_append.mpr ⟨B.up.imp fun h => by omega, by simp, fun x hx y hy e => ?_⟩
    have : y = b := by simpa using hy
    exact hn (by rw [← this, ← e]; exact hx)
  have nd' : cs.Nodup := p.nodup_iff.mpr nd
  refine ⟨⟨fun x hx => ?_, ?_, ?_, ?_⟩, fun x hx => (hm x).mpr (.inl hx)⟩
  · rcases (hm x).mp hx with h | h
    · exact B.lo x h
    · rw [h]; exact hb
  · exact (List.pairwise_and_iff.mpr ⟨s, nd'⟩).imp fun {x y} h => by
      have h1 := h.1; have h2 := h.2; omega
  · rw [p.length_eq]; simp
  · rw [p.length_eq]; simp; omega
/-- a list without doubles, all from 1 to n -/
theorem nodup_len : ∀ {l m : List Int}, l.Nodup → (∀ x ∈ l, x ∈ m) → l.length ≤ m.length
  | [], m, _, _ => Nat.zero_le _
  | a :: l, m, nd, h => by
    obtain ⟨hn, nd'⟩ := List.nodup_cons.mp nd
    have ha : a ∈ m := h a List.mem_cons_self
    have ih := nodup_len (m := m.erase a) nd' fun x hx => (List.mem_erase_of_ne (fun e => hn (by rw [← e]; exact hx))).mpr (h x (List.mem_cons_of_mem _ hx))
    rw [List.length_erase_of_mem ha] at ih
    have := List.length_pos_of_mem ha
    show l.length + 1 ≤ m.length
    omega
theorem nodup_small {l : List Int} {n : Nat} (nd : l.Nodup) (h : ∀ x ∈ l, 0 ≤ x ∧ x < (n : Int)) : l.length ≤ n := by
  have := nodup_len (m := (List.range n).map Int.ofNat) nd fun x hx => by
    obtain ⟨h0, h1⟩ := h x hx
    exact List.mem_map.mpr ⟨x.toNat, List.mem_range.mpr (by omega), by show ((x.toNat : Nat) : Int) = x; omega⟩
  simpa using this
end WL

namespace WL
open PySem PySem.Spec PyProof.Rows L2
/-! ### the text by places -/
def top (i : Nat) : Stmt := PySem.Challenge.pw_wholeline_k09_whole_which_lengths_go.main.body.getD i (.Pass ⟨0, 0, 0, 0⟩)
abbrev sInteger : Stmt := top 1
abbrev sBetween : Stmt := top 2
abbrev sIsList : Stmt := top 3
abbrev sBound : Stmt := top 14
abbrev sCap : Stmt := top 15
abbrev sSteps : Stmt := inClass (top 16) 0
abbrev sAdd : Stmt := inClass (top 16) 7
abbrev sToldOf : Stmt := top 17
abbrev sRoom : Stmt := inClass (top 18) 0
abbrev sTold : Stmt := inClass (top 18) 3
abbrev sReach : Stmt := inClass (top 18) 4
abbrev sTop : Stmt := inClass (top 18) 5
abbrev sCheckRoom : Stmt := top 19
abbrev sCheckLen : Stmt := top 22
abbrev sCheckAll : Stmt := top 23
abbrev sNext : Stmt := top 24
abbrev sLayers : Stmt := top 25
abbrev sFewest : Stmt := top 26
abbrev sFewIn : Stmt := top 27
abbrev sGoes : Stmt := top 28
abbrev sLeast : Stmt := top 29
abbrev sPool : Stmt := top 31
abbrev sDraw : Stmt := top 32
abbrev sBounds : Stmt := top 33
abbrev sLTold : Stmt := top 34
abbrev sLReach : Stmt := top 35
abbrev sCase : Stmt := top 36
abbrev sMade : Stmt := top 37
abbrev sLFew : Stmt := top 38
abbrev sLLay : Stmt := top 39
abbrev sNoW : Stmt := top 40
abbrev sMilder : Stmt := top 41
abbrev sLaw : Stmt := top 42

/-! ### heaps -/
theorem same_new {H : Hp} {p : Addr} {o : HO} (n : H p = none) : Same H (upd H p o) := fun b x e => by
  rw [upd_ne (ne_of_none e n)]; exact e
theorem same_upd {H H1 : Hp} {p : Addr} {o : HO} (s : Same H H1) (n : H p = none) : Same H (upd H1 p o) := fun b x e => by
  rw [upd_ne (ne_of_none e n)]; exact s b x e
theorem Same.seqT {K : PySem.W.Frag} {H H' : Hp} {a : Addr} {xs : List V} (e : Same H H') (h : SqT K H a xs) : SqT K H' a xs := by
  rcases h with (h | ⟨o, h⟩) | h
  · exact .inl (.inl (e _ _ h))
  · exact .inl (.inr ⟨o, e _ _ h⟩)
  · exact .inr h
/-- all but p is as it was -/
def SB (p : Addr) (H H' : Hp) : Prop := ∀ b o, H b = some o → b ≠ p → H' b = some o
theorem SB.refl (p : Addr) (H : Hp) : SB p H H := fun _ _ h _ => h
theorem SB.trans {p : Addr} {H H1 H2 : Hp} (a : SB p H H1) (b : SB p H1 H2) : SB p H H2 := fun c o h n => b c o (a c o h n) n
theorem SB.of {p : Addr} {H H' : Hp} (s : Same H H') : SB p H H' := fun b o h _ => s b o h
theorem SB.same {p : Addr} {H H' : Hp} (s : SB p H H') (n : H p = none) : Same H H' := fun b o h => s b o h (ne_of_none h n)
theorem SB.put {p : Addr} {H H1 : Hp} {o : HO} (s : SB p H H1) : SB p H (upd H1 p o) := fun b x e n => by rw [upd_ne n]; exact s b x e n
/-- a heap's own places, taken from a later one -/
theorem SB.back {p : Addr} {H0 H H' : Hp} (s : Same H0 H) (n : H0 p = none) (t : SB p H H') : Same H0 H' := fun b o h => t b o (s b o h) (ne_of_none h n)

/-! ### ints and lists of ints -/
abbrev vi (ns : List Int) : List V := ns.map V.int
def ov : Option Int → V
  | none => .non
  | some i => .int i
theorem ov_inj {a b : Option Int} (h : ov a = ov b) : a = b := by
  cases a <;> cases b
  · rfl
  · cases h
  · cases h
  · injection h with h; rw [h]
theorem vi_get {ns : List Int} {i : Nat} {y : V} (h : (vi ns)[i]? = some y) : ∃ z, ns[i]? = some z ∧ y = V.int z := by
  rw [List.getElem?_map] at h
  cases e : ns[i]? with
  | none => rw [e] at h; cases h
  | some z => rw [e] at h; exact ⟨z, rfl, (Option.some.inj h).symm⟩
theorem vi_inj : ∀ {a b : List Int}, vi a = vi b → a = b
  | [], [], _ => rfl
  | [], _ :: _, h => by cases h
  | _ :: _, [], h => by cases h
  | x :: a, y :: b, h => by
    injection h with h1 h2
    injection h1 with h1
    rw [h1, vi_inj h2]
theorem vi_snoc (ns : List Int) (i : Int) : vi ns ++ [V.int i] = vi (ns ++ [i]) := by
  show vi ns ++ vi [i] = vi (ns ++ [i])
  exact List.map_append.symm
theorem flat_vi : ∀ ns : List Int, (vi ns).all flatV = true
  | [] => rfl
  | _ :: r => by
    show (true && (vi r).all flatV) = true
    rw [flat_vi r]; rfl
theorem inV_vi (x : Int) : ∀ ns : List Int, inV (.int x) (vi ns) = decide (x ∈ ns)
  | [] => by simp [inV]
  | y :: r => by
    have ih := inV_vi x r
    show (eqV (.int y) (.int x) || inV (.int x) (vi r)) = decide (x ∈ y :: r)
    rw [ih]
    show ((y == x) || decide (x ∈ r)) = decide (x ∈ y :: r)
    by_cases h : y = x
    · subst h; simp
    · have h' : ¬ x = y := fun e => h e.symm
      simp [h, h']
theorem lenV (ns : List Int) : (vi ns).length = ns.length := List.length_map _

/-! ### objects -/
def stF (t : Addr) : List (Str × V) := putF "bounds" (.ref t) []
theorem stF_get (t : Addr) : (stF t).lookup ("bounds" : Str) = some (.ref t) := by unfold stF; rw [lookup_putF, if_pos rfl]
theorem ksz : ¬ (("size" : Str) = "steps") := by decide +kernel
def rmF (z : Int) (s : Addr) : List (Str × V) := putF "steps" (.ref s) (putF "size" (.int z) [])
theorem rmF_size (z : Int) (s : Addr) : (rmF z s).lookup ("size" : Str) = some (.int z) := by
  unfold rmF
  rw [lookup_putF, if_neg ksz, lookup_putF, if_pos rfl]
theorem rmF_steps (z : Int) (s : Addr) : (rmF z s).lookup ("steps" : Str) = some (.ref s) := by
  unfold rmF
  rw [lookup_putF, if_pos rfl]
theorem rmF_no (z : Int) (s : Addr) {m : Str} (h1 : ¬ m = "steps") (h2 : ¬ m = "size") : (rmF z s).lookup m = none := by
  unfold rmF
  rw [lookup_putF, if_neg h1, lookup_putF, if_neg h2]
  all_goals rfl
theorem rmF_told (z : Int) (s : Addr) : (rmF z s).lookup ("told" : Str) = none := rmF_no z s (by decide +kernel) (by decide +kernel)
theorem rmF_reach (z : Int) (s : Addr) : (rmF z s).lookup ("reach" : Str) = none := rmF_no z s (by decide +kernel) (by decide +kernel)
theorem rmF_top (z : Int) (s : Addr) : (rmF z s).lookup ("top" : Str) = none := rmF_no z s (by decide +kernel) (by decide +kernel)
/-- a Steps stands at s, its bounds bs -/
structure StepsAt (CS : Addr) (H : Hp) (s : Addr) (bs : List Int) : Prop where
  ex : ∃ dx t, H s = some (.ins CS dx (stF t)) ∧ H t = some (.tup (vi bs))
/-- a Room stands at x -/
structure RoomAt (CS CR : Addr) (H : Hp) (x : Addr) (z : Int) (bs : List Int) : Prop where
  ex : ∃ dx s, H x = some (.ins CR dx (rmF z s)) ∧ StepsAt CS H s bs
theorem StepsAt.same {CS : Addr} {H H' : Hp} {s : Addr} {bs : List Int} (k : Same H H') (h : StepsAt CS H s bs) : StepsAt CS H' s bs := by
  obtain ⟨dx, t, h1, h2⟩ := h.ex
  exact ⟨dx, t, k _ _ h1, k _ _ h2⟩
theorem RoomAt.same {CS CR : Addr} {H H' : Hp} {x : Addr} {z : Int} {bs : List Int} (k : Same H H') (h : RoomAt CS CR H x z bs) : RoomAt CS CR H' x z bs := by
  obtain ⟨dx, s, h1, h2⟩ := h.ex
  exact ⟨dx, s, k _ _ h1, h2.same k⟩
theorem RoomAt.sb {CS CR : Addr} {H H' : Hp} {p x : Addr} {xs : List V} {z : Int} {bs : List Int} (hp : H p = some (.lst xs)) (k : SB p H H') (h : RoomAt CS CR H x z bs) : RoomAt CS CR H' x z bs := by
  obtain ⟨dx, s, h1, ⟨dy, t, h2, h3⟩⟩ := h.ex
  exact ⟨dx, s, k _ _ h1 (ne_of h1 hp (by intro q; cases q)), dy, t, k _ _ h2 (ne_of h2 hp (by intro q; cases q)), k _ _ h3 (ne_of h3 hp (by intro q; cases q))⟩
/-- the law's own room: a tuple of a size and a list of bounds -/
structure CaseAt (H : Hp) (q : Addr) (z : Int) (bs : List Int) : Prop where
  ex : ∃ l, H q = some (.tup [.int z, .ref l]) ∧ H l = some (.lst (vi bs))
theorem CaseAt.same {H H' : Hp} {q : Addr} {z : Int} {bs : List Int} (k : Same H H') (h : CaseAt H q z bs) : CaseAt H' q z bs := by
  obtain ⟨l, h1, h2⟩ := h.ex
  exact ⟨l, k _ _ h1, k _ _ h2⟩
/-- the law's pool: the script, and four ints -/
def plF (a : Addr) (c i b s : Int) : List V := [.ref a, .int c, .int i, .int b, .int s]
structure PoolAt (K : PySem.W.Frag) (H : Hp) (p a : Addr) (ns : List Int) (B : Nat) : Prop where
  ex : ∃ (c i b s : Int), H p = some (.lst (plF a c i b s)) ∧ 0 ≤ c ∧ c ≤ (B : Int) ∧ 0 ≤ i ∧ 0 ≤ b ∧ 0 ≤ s ∧ s < 2147483629
  sc : SqL K H a (vi ns)
theorem PoolAt.same {K : PySem.W.Frag} {H H' : Hp} {p a : Addr} {ns : List Int} {B : Nat} (k : Same H H') (h : PoolAt K H p a ns B) : PoolAt K H' p a ns B := by
  obtain ⟨c, i, b, s, h1, h3⟩ := h.ex
  exact ⟨⟨c, i, b, s, k _ _ h1, h3⟩, k.seq h.sc⟩
theorem PoolAt.mono {K : PySem.W.Frag} {H : Hp} {p a : Addr} {ns : List Int} {B B' : Nat} (hB : B ≤ B') (h : PoolAt K H p a ns B) : PoolAt K H p a ns B' := by
  obtain ⟨c, i, b, s, h1, h3, h4, h5⟩ := h.ex
  exact ⟨⟨c, i, b, s, h1, h3, by omega, h5⟩, h.sc⟩
theorem PoolAt.lst {K : PySem.W.Frag} {H : Hp} {p a : Addr} {ns : List Int} {B : Nat} (h : PoolAt K H p a ns B) : ∃ r, H p = some (.lst (.ref a :: r)) := by
  obtain ⟨c, i, b, s, h1, h3⟩ := h.ex
  exact ⟨_, h1⟩
theorem SqL.sbp {K : PySem.W.Frag} {H H' : Hp} {p a : Addr} {b : Addr} {r : List V} {ns : List Int} (hp : H p = some (.lst (.ref b :: r))) (k : SB p H H') (h : SqL K H a (vi ns)) : SqL K H' a (vi ns) := by
  rcases h with (h | ⟨o, h⟩) | h
  · refine .inl (.inl (k _ _ h fun e => ?_))
    rw [e, hp] at h
    injection h with h
    injection h with h
    cases ns with
    | nil => cases h
    | cons x t => injection h with h1 h2; cases h1
  · refine .inl (.inr ⟨o, k _ _ h fun e => ?_⟩)
    rw [e, hp] at h
    injection h with h
    cases h
  · exact .inr h
/-- the pool as it stands at H1, in a heap that has kept all else of H -/
theorem PoolAt.move {K : PySem.W.Frag} {H H1 H' : Hp} {p a : Addr} {ns : List Int} {B B' : Nat} (h : PoolAt K H p a ns B) (h1 : PoolAt K H1 p a ns B') (k : SB p H H') (e : H' p = H1 p) : PoolAt K H' p a ns B' := by
  obtain ⟨r, hr⟩ := h.lst
  obtain ⟨c, i, b, s, g, h3⟩ := h1.ex
  exact ⟨⟨c, i, b, s, e.trans g, h3⟩, SqL.sbp hr k h.sc⟩
theorem CaseAt.sb {K : PySem.W.Frag} {H H' : Hp} {p q a : Addr} {ns : List Int} {B : Nat} {z : Int} {bs : List Int} (hp : PoolAt K H p a ns B) (k : SB p H H') (h : CaseAt H q z bs) : CaseAt H' q z bs := by
  obtain ⟨c, i, b, s, e1, _⟩ := hp.ex
  obtain ⟨l, h1, h2⟩ := h.ex
  refine ⟨l, k _ _ h1 (ne_of h1 e1 (by intro q; cases q)), k _ _ h2 (ne_of h2 e1 fun q => ?_)⟩
  injection q with q
  cases bs with
  | nil => cases q
  | cons x r => injection q with q1 q2; cases q1
theorem RoomAt.sbp {K : PySem.W.Frag} {CS CR : Addr} {H H' : Hp} {p x a : Addr} {ns : List Int} {B : Nat} {z : Int} {bs : List Int} (hp : PoolAt K H p a ns B) (k : SB p H H') (h : RoomAt CS CR H x z bs) : RoomAt CS CR H' x z bs := by
  obtain ⟨xs, e⟩ := hp.lst
  exact h.sb e k

/-! ### what the walk asks of the top -/
structure Txt (K : PySem.W.Frag) (mg : Str → Option Value) (CS CR : Addr) : Prop where
  iS : C8.InsC K CS
  iR : C8.InsC K CR
  nB : NoAttr K CS "bounds"
  nZ : NoAttr K CR "size"
  nS : NoAttr K CR "steps"
  mgS : mg "Steps" = some (.ref CS)
  mgR : mg "Room" = some (.ref CR)
  isinst : mg "isinstance" = none
  int : mg "int" = none
  bool : mg "bool" = none
  list : mg "list" = none
  tuple : mg "tuple" = none
  len : mg "len" = none
  enum : mg "enumerate" = none
  range : mg "range" = none
  max : mg "max" = none
  min : mg "min" = none
  abs : mg "abs" = none
  sorted : mg "sorted" = none
  size60 : ∃ t, mg "MOST_SIZE" = some (.int 60 t)
  bnds4 : ∃ t, mg "MOST_BOUNDS" = some (.int 4 t)
  cap99 : ∃ t, mg "MOST_CAP" = some (.int 99 t)
  len99 : ∃ t, mg "MOST_LENGTH" = some (.int 99 t)

/-! ### defs that keep their promises -/
section
variable (P : Program) (w : World) (K : PySem.W.Frag) (mg : Str → Option Value) (base : Heap)
structure DefOk (x : Str) (k : Nat) (ps : List Str) (sp : Sp) : Prop where
  ex : ∃ f fd, mg x = some (.ref f) ∧ PySem.W.keepIn K (.ref f) = true ∧ Binds K fd ps [] ∧ FnOk P w K mg base CX0 k f fd ps sp
structure MethOk (C : Addr) (m : Str) (k : Nat) (ps : List Str) (sp : Sp) : Prop where
  ex : ∃ f fd, Meth K C m f ∧ Binds K fd ps [] ∧ FnOk P w K mg base CX0 k f fd ps sp
structure MakeOk (x : Str) (C : Addr) (k : Nat) (ps : List Str) (sp : Sp) : Prop where
  ex : ∃ f fd, mg x = some (.ref C) ∧ Mk K C f ∧ Binds K fd ps [] ∧ FnOk P w K mg base CX0 k f fd ps sp
end
section
variable {X : Cx} {k j : Nat} {ps : List Str} {sp : Sp} {x m : Str} {C : Addr} {e o : Expr} {es : List Expr} {t : TA} {ta : TE} {p apos pos : Pos}
theorem pe_def (D : DefOk X.prog X.w X.K X.mg X.base x k ps sp) (hr : Room j X.A) (ha : PA X (e :: es) t) (hg : Gl X x := by rfl) (hk : k ≤ j := by decide) (hdb : (x == ("__debug__" : Str)) = false := by decide) (he : starEach (e :: es) X.env = (false, eval e X.env) :: starEach es X.env := by rfl) (hpl : (backTo pos (starEach es X.env)).any (·.1) = false := by rfl) :
    PE X (.Call (.Name x p) (e :: es) [] pos) (tCall sp [] E0 t) := by
  obtain ⟨f, fd, h1, h2, h3, h4⟩ := D.ex
  exact pe_call h4 (hr.mono hk) hg h1 h2 h3 .nil pass0 ha hdb he hpl
theorem pe_mk (D : MakeOk X.prog X.w X.K X.mg X.base x C k ps sp) (hr : Room j X.A) (ha : PA X (e :: es) t) (hg : Gl X x := by rfl) (hk : k + 1 ≤ j := by decide) (hdb : (x == ("__debug__" : Str)) = false := by decide) (he : starEach (e :: es) X.env = (false, eval e X.env) :: starEach es X.env := by rfl) (hpl : (backTo pos (starEach es X.env)).any (·.1) = false := by rfl) :
    PE X (.Call (.Name x p) (e :: es) [] pos) (tMake C sp [] E0 t) := by
  obtain ⟨f, fd, h1, h2, h3, h4⟩ := D.ex
  exact pe_make h2 h4 (hr.mono hk) hg h1 h3 .nil pass0 ha hdb he hpl
theorem pe_mt {pl : Sem Bool} (D : MethOk X.prog X.w X.K X.mg X.base C m k ps sp) (c : Cls X.K C) (hr : Room j X.A) (ho : PE X o ta) (ha : PA X (e :: es) t) (hk : k ≤ j := by decide)
    (hst : starEach (e :: es) X.env = (false, eval e X.env) :: starEach es X.env := by rfl) (hpl : (backTo pos (starEach es X.env)).any (·.1) = false := by rfl)
    (ht : eval (.Call (.Attribute o m apos) (e :: es) [] pos) X.env = (do
      let ov ← eval o X.env
      standAt apos.atName
      let (f, first) ← holding [ov] (getMethod ov m pl)
      callWith pos f first (backTo pos (starEach (e :: es) X.env)) (backToKw pos (keywordEach [] X.env))) := by rfl) :
    PE X (.Call (.Attribute o m apos) (e :: es) [] pos) (tMeth C m sp [] E0 ta t) := by
  obtain ⟨f, fd, h2, h3, h4⟩ := D.ex
  exact pe_meth ho c h2 h4 (hr.mono hk) h3 .nil pass0 ha hst hpl ht
/-- a constant of the module -/
theorem pe_k {i : Int} (h : ∃ t, X.mg x = some (.int i t)) (hg : Gl X x := by rfl) (hd : (x == ("__debug__" : Str)) = false := by decide) : PE X (.Name x pos) (tC (.int i)) := by
  obtain ⟨t, h⟩ := h
  exact pe_glob hg h ⟨t, rfl⟩ hd
theorem pe_ty {n : String} (hm : X.mg x = none) (hv : bootBuiltins x = some (.type n)) (hg : Gl X x := by rfl) (hn : x ≠ "__name__" := by decide) (hd : (x == ("__debug__" : Str)) = false := by decide) : PE X (.Name x pos) (tC (.ty n)) :=
  pe_bltn hg hm hv rfl hn hd
end

/-! ### built-ins by name -/
theorem bt_isinst : bootBuiltins "isinstance" = some (.builtin "isinstance") := by decide +kernel
theorem bt_len : bootBuiltins "len" = some (.builtin "len") := by decide +kernel
theorem bt_max : bootBuiltins "max" = some (.builtin "max") := by decide +kernel
theorem bt_min : bootBuiltins "min" = some (.builtin "min") := by decide +kernel
theorem bt_abs : bootBuiltins "abs" = some (.builtin "abs") := by decide +kernel
theorem bt_sorted : bootBuiltins "sorted" = some (.builtin "sorted") := by decide +kernel
theorem bt_int : bootBuiltins "int" = some (.type "int") := by decide +kernel
theorem bt_bool : bootBuiltins "bool" = some (.type "bool") := by decide +kernel
theorem bt_list : bootBuiltins "list" = some (.type "list") := by decide +kernel
theorem bt_tuple : bootBuiltins "tuple" = some (.type "tuple") := by decide +kernel

/-! ### the promises of the small defs -/
def spInteger : Sp := fun vs H Q _ => ∃ i : Int, vs = [.int i] ∧ Q (.bl true) H
def spBetween : Sp := fun vs H Q _ => ∃ i lo hi : Int, vs = [.int i, .int lo, .int hi] ∧ Q (.bl (decide (lo ≤ i ∧ i ≤ hi))) H
def spIsList : Sp := fun vs H Q _ => ∃ (a : Addr) (xs : List V), vs = [.ref a] ∧ H a = some (.lst xs) ∧ ∀ H', Same H H' → Q (.bl true) H'
def spBound : Sp := fun vs H Q _ => ∃ i : Int, vs = [.int i] ∧ Q (.bl (decide (1 ≤ i ∧ i ≤ 60))) H
/-- check_cap, check_length: nothing is raised -/
def spChk : Sp := fun vs H Q _ => ∃ i : Int, vs = [.int i] ∧ 0 ≤ i ∧ i ≤ 99 ∧ Q .non H
def spToldOf : Sp := fun vs H Q _ => ∃ (t : Addr) (bs : List Int) (f : Int), vs = [.ref t, .int f] ∧ H t = some (.tup (vi bs)) ∧ Q (.int (told bs f)) H
def spCheckRoom (CR : Addr) : Sp := fun vs H Q _ => ∃ (x dx : Addr) (fs : List (Str × V)), vs = [.ref x] ∧ H x = some (.ins CR dx fs) ∧ Q .non H
def spCheckAll (CR : Addr) : Sp := fun vs H Q _ => ∃ (x dx : Addr) (fs : List (Str × V)) (c l : Int), vs = [.ref x, .int c, .int l] ∧ H x = some (.ins CR dx fs) ∧ 0 ≤ c ∧ c ≤ 99 ∧ 0 ≤ l ∧ l ≤ 99 ∧ Q .non H
end WL

namespace WL
open PySem PySem.Spec PyProof.Rows L2
section
variable {P : Program} {w : World} {K : PySem.W.Frag} {mg : Str → Option Value} {base : Heap} {CS CR : Addr}
theorem sc_integer : FnScope ["value"] ["value"] (defScope sInteger) := ⟨rfl, rfl, rfl, by decide +kernel, rfl, by decide +kernel, by decide +kernel⟩
theorem ok_integer {f : Addr} {fd : FuncData} (F : Fun K "is_integer" "is_integer" sInteger f fd) (T : Txt K mg CS CR) : FnOk P w K mg base CX0 1 f fd ["value"] spInteger := by
  refine F.ok sc_integer (fun vs H Q E h => ?_) (fun cdv A outer s H vs Q E hr h => ?_)
  · obtain ⟨i, rfl, _⟩ := h; rfl
  · obtain ⟨i, rfl, q⟩ := h
    refine ⟨_, pss_one (ps_ret (pe_and (pe_callB call_isi (by rfl) T.isinst bt_isinst (pa_cons (pv 0) (pa_cons (pe_ty T.int bt_int) pa_nil)))
      (pe_one (pe_not (pe_callB call_isi (by rfl) T.isinst bt_isinst (pa_cons (pv 0) (pa_cons (pe_ty T.bool bt_bool) pa_nil))))))), ?_⟩
    refine ⟨_, rfl, .int i, .ty "int", .type "int", .type "int", true, rfl, ClsV.ty _, TyX.base (TyOf.int i), kit_ty (by decide +kernel), true, rfl, iteT ?_⟩
    exact ⟨_, rfl, .int i, .ty "bool", .type "int", .type "bool", false, rfl, ClsV.ty _, TyX.base (TyOf.int i), kit_ty (by decide +kernel), false, rfl, q⟩
theorem sc_between : FnScope ["value", "least", "most"] ["value", "least", "most"] (defScope sBetween) := ⟨rfl, rfl, rfl, by decide +kernel, rfl, by decide +kernel, by decide +kernel⟩
theorem ok_between {f : Addr} {fd : FuncData} (F : Fun K "is_between" "is_between" sBetween f fd) (D : DefOk P w K mg base "is_integer" 1 ["value"] spInteger) : FnOk P w K mg base CX0 2 f fd ["value", "least", "most"] spBetween := by
  refine F.ok sc_between (fun vs H Q E h => ?_) (fun cdv A outer s H vs Q E hr h => ?_)
  · obtain ⟨i, lo, hi, rfl, _⟩ := h; rfl
  · obtain ⟨i, lo, hi, rfl, q⟩ := h
    refine ⟨_, pss_one (ps_ret (pe_and (pe_def D hr (pa_cons (pv 0) pa_nil)) (pe_one (pe_chain op_le op_le (pv 1) (pv 0) (pv 2))))), ?_⟩
    refine ⟨_, rfl, i, rfl, true, rfl, iteT ?_⟩
    refine ⟨_, rfl, _, rfl, _, _, rfl, rfl, _, rfl, ite2 (fun h1 => ?_) (fun h1 => ?_)⟩
    · refine ⟨_, rfl, _, _, rfl, rfl, ?_⟩
      have e : decide (i ≤ hi) = decide (lo ≤ i ∧ i ≤ hi) := by
        have := of_decide_eq_true h1
        by_cases h2 : i ≤ hi <;> simp [this, h2]
      show Q (V.bl (decide (i ≤ hi))) H
      rw [e]; exact q
    · have e : decide (lo ≤ i ∧ i ≤ hi) = false := decide_eq_false fun z => h1 (decide_eq_true z.1)
      rw [e] at q; exact q
theorem sc_isList : FnScope ["value"] ["value"] (defScope sIsList) := ⟨rfl, rfl, rfl, by decide +kernel, rfl, by decide +kernel, by decide +kernel⟩
theorem ok_isList {f : Addr} {fd : FuncData} (F : Fun K "is_list" "is_list" sIsList f fd) (T : Txt K mg CS CR) : FnOk P w K mg base CX0 1 f fd ["value"] spIsList := by
  refine F.ok sc_isList (fun vs H Q E h => ?_) (fun cdv A outer s H vs Q E hr h => ?_)
  · obtain ⟨a, xs, rfl, _⟩ := h; rfl
  · obtain ⟨a, xs, rfl, ha, q⟩ := h
    refine ⟨_, pss_one (ps_ret (pe_callB call_isiT (by rfl) T.isinst bt_isinst (pa_cons (pv 0) (pa_cons (pe_tup (pa_cons (pe_ty T.list bt_list) (pa_cons (pe_ty T.tuple bt_tuple) pa_nil))) pa_nil)))), ?_⟩
    refine ⟨_, rfl, (by show 2 ≤ sizeLine; decide), fun t ht => ?_⟩
    refine ⟨.ref a, t, [.ty "list", .ty "tuple"], .type "list", [.type "list", .type "tuple"], true, rfl, upd_same, .cons (ClsV.ty _) (.cons (ClsV.ty _) .nil), TyX.base (TyOf.lst (by rw [upd_ne (ne_of_none ha ht)]; exact ha)), kitAny_cons (b := true) (kit_ty (by decide +kernel)) (fun z => by cases z) (fun _ => rfl), q _ (same_new ht)⟩
theorem sc_bound : FnScope ["value"] ["value"] (defScope sBound) := ⟨rfl, rfl, rfl, by decide +kernel, rfl, by decide +kernel, by decide +kernel⟩
theorem ok_bound {f : Addr} {fd : FuncData} (F : Fun K "is_bound" "is_bound" sBound f fd) (T : Txt K mg CS CR) (D : DefOk P w K mg base "is_between" 2 ["value", "least", "most"] spBetween) : FnOk P w K mg base CX0 3 f fd ["value"] spBound := by
  refine F.ok sc_bound (fun vs H Q E h => ?_) (fun cdv A outer s H vs Q E hr h => ?_)
  · obtain ⟨i, rfl, _⟩ := h; rfl
  · obtain ⟨i, rfl, q⟩ := h
    refine ⟨_, pss_one (ps_ret (pe_def D hr (pa_cons (pv 0) (pa_cons pe_int (pa_cons (pe_k T.size60) pa_nil))))), ?_⟩
    exact ⟨_, rfl, i, 1, 60, rfl, q⟩
theorem sc_cap : FnScope ["cap"] ["cap"] (defScope sCap) := ⟨rfl, rfl, rfl, by decide +kernel, rfl, by decide +kernel, by decide +kernel⟩
theorem ok_cap {f : Addr} {fd : FuncData} (F : Fun K "check_cap" "check_cap" sCap f fd) (T : Txt K mg CS CR) (D : DefOk P w K mg base "is_between" 2 ["value", "least", "most"] spBetween) : FnOk P w K mg base CX0 3 f fd ["cap"] spChk := by
  refine F.ok sc_cap (fun vs H Q E h => ?_) (fun cdv A outer s H vs Q E hr h => ?_)
  · obtain ⟨i, rfl, _⟩ := h; rfl
  · obtain ⟨i, rfl, h0, h1, q⟩ := h
    refine ⟨_, pss_one (ps_if (pt_not (pt_val (pe_def D hr (pa_cons (pv 0) (pa_cons pe_int (pa_cons (pe_k T.cap99) pa_nil)))))) (pss_one ps_never) pss_nil), ?_⟩
    refine ⟨_, rfl, i, 0, 99, rfl, _, rfl, ?_⟩
    rw [decide_eq_true (show 0 ≤ i ∧ i ≤ 99 from ⟨h0, h1⟩)]
    exact iteF q
theorem sc_len : FnScope ["length"] ["length"] (defScope sCheckLen) := ⟨rfl, rfl, rfl, by decide +kernel, rfl, by decide +kernel, by decide +kernel⟩
theorem ok_len {f : Addr} {fd : FuncData} (F : Fun K "check_length" "check_length" sCheckLen f fd) (T : Txt K mg CS CR) (D : DefOk P w K mg base "is_between" 2 ["value", "least", "most"] spBetween) : FnOk P w K mg base CX0 3 f fd ["length"] spChk := by
  refine F.ok sc_len (fun vs H Q E h => ?_) (fun cdv A outer s H vs Q E hr h => ?_)
  · obtain ⟨i, rfl, _⟩ := h; rfl
  · obtain ⟨i, rfl, h0, h1, q⟩ := h
    refine ⟨_, pss_one (ps_if (pt_not (pt_val (pe_def D hr (pa_cons (pv 0) (pa_cons pe_int (pa_cons (pe_k T.len99) pa_nil)))))) (pss_one ps_never) pss_nil), ?_⟩
    refine ⟨_, rfl, i, 0, 99, rfl, _, rfl, ?_⟩
    rw [decide_eq_true (show 0 ≤ i ∧ i ≤ 99 from ⟨h0, h1⟩)]
    exact iteF q
theorem sc_croom : FnScope ["room"] ["room"] (defScope sCheckRoom) := ⟨rfl, rfl, rfl, by decide +kernel, rfl, by decide +kernel, by decide +kernel⟩
theorem ok_croom {f : Addr} {fd : FuncData} (F : Fun K "check_room" "check_room" sCheckRoom f fd) (T : Txt K mg CS CR) : FnOk P w K mg base CX0 1 f fd ["room"] (spCheckRoom CR) := by
  refine F.ok sc_croom (fun vs H Q E h => ?_) (fun cdv A outer s H vs Q E hr h => ?_)
  · obtain ⟨x, dx, fs, rfl, _⟩ := h; rfl
  · obtain ⟨x, dx, fs, rfl, hx, q⟩ := h
    refine ⟨_, pss_one (ps_if (pt_not (pt_val (pe_callB (C8.call_isC T.iR) (by rfl) T.isinst bt_isinst (pa_cons (pv 0) (pa_cons (pe_glob (v := .ref CR) (by rfl) T.mgR rfl) pa_nil))))) (pss_one ps_never) pss_nil), ?_⟩
    exact ⟨_, rfl, x, dx, fs, rfl, hx, true, rfl, iteF q⟩
theorem sc_call : FnScope ["room", "cap", "length"] ["room", "cap", "length"] (defScope sCheckAll) := ⟨rfl, rfl, rfl, by decide +kernel, rfl, by decide +kernel, by decide +kernel⟩
theorem ok_call {f : Addr} {fd : FuncData} (F : Fun K "check_all" "check_all" sCheckAll f fd) (D1 : DefOk P w K mg base "check_room" 1 ["room"] (spCheckRoom CR)) (D2 : DefOk P w K mg base "check_cap" 3 ["cap"] spChk) (D3 : DefOk P w K mg base "check_length" 3 ["length"] spChk) :
    FnOk P w K mg base CX0 4 f fd ["room", "cap", "length"] (spCheckAll CR) := by
  refine F.ok sc_call (fun vs H Q E h => ?_) (fun cdv A outer s H vs Q E hr h => ?_)
  · obtain ⟨x, dx, fs, c, l, rfl, _⟩ := h; rfl
  · obtain ⟨x, dx, fs, c, l, rfl, hx, c0, c1, l0, l1, q⟩ := h
    refine ⟨_, pss_cons (ps_expr (pe_def D1 hr (pa_cons (pv 0) pa_nil))) (pss_cons (ps_expr (pe_def D2 hr (pa_cons (pv 1) pa_nil))) (pss_one (ps_expr (pe_def D3 hr (pa_cons (pv 2) pa_nil))))), ?_⟩
    exact ⟨_, rfl, x, dx, fs, rfl, hx, _, rfl, c, rfl, c0, c1, _, rfl, l, rfl, l0, l1, q⟩
theorem sc_toldOf : FnScope ["bounds", "free", "found", "bound"] ["bounds", "free"] (defScope sToldOf) := ⟨rfl, rfl, rfl, by decide +kernel, rfl, by decide +kernel, by decide +kernel⟩
theorem told_take {bs : List Int} {i : Nat} {b : Int} (f : Int) (h : bs[i]? = some b) : told (bs.take (i + 1)) f = if b ≤ f then b else told (bs.take i) f := by
  unfold told
  rw [List.take_add_one, h, List.foldl_append]
  rfl
theorem ok_toldOf {f : Addr} {fd : FuncData} (F : Fun K "told_of" "told_of" sToldOf f fd) : FnOk P w K mg base CX0 1 f fd ["bounds", "free"] spToldOf := by
  refine F.ok sc_toldOf (fun vs H Q E h => ?_) (fun cdv A outer s H vs Q E hr h => ?_)
  · obtain ⟨t, bs, f, rfl, _⟩ := h; rfl
  · obtain ⟨t, bs, f, rfl, ht, q⟩ := h
    refine ⟨_, pss_cons (ps_set (i := 2) sc_toldOf.nd rfl (.inl rfl) pe_int)
      (pss_cons (ps_for PassesOwn.never rfl (pi_tup (pv 0)) (pg_name (i := 3) sc_toldOf.nd rfl (.inl rfl))
        (pss_one (ps_if (pt_cmpR op_le (pv 3) (pv 1) (nomark _)) (pss_one (ps_set (i := 2) sc_toldOf.nd rfl (.inl rfl) (pv 3))) pss_nil)))
      (pss_one (ps_ret (pv 2)))), ?_⟩
    refine ⟨_, rfl, t, rfl, ⟨_, SqT.of ht⟩, for_tup (K := K) (a := t) (xs := vi bs) (fun i σ H1 => ∃ v, σ = [some (.ref t), some (.int f), some (.int (told (bs.take i) f)), v] ∧ H1 = H)
      ⟨none, rfl, rfl⟩ (fun i σ H1 _ ⟨_, _, e⟩ => by rw [e]; exact SqT.of ht) ?_ ?_⟩
    · rintro i y σ H1 hi ⟨v, rfl, rfl⟩
      obtain ⟨b, hb, rfl⟩ := vi_get hi
      refine ⟨_, rfl, _, rfl, _, _, rfl, rfl, _, rfl, ite2 (fun h1 => ?_) (fun h1 => ?_)⟩
      · have e := told_take f hb
        rw [if_pos (of_decide_eq_true h1)] at e
        exact ⟨_, rfl, _, by rw [e]; rfl, rfl⟩
      · have e := told_take f hb
        rw [if_neg (fun z => h1 (decide_eq_true z))] at e
        exact ⟨_, by rw [e]; rfl, rfl⟩
    · rintro σ H1 ⟨v, rfl, rfl⟩
      refine ⟨_, rfl, ?_⟩
      have e : bs.take (vi bs).length = bs := by rw [lenV, List.take_length]
      rw [e]; exact q
end
end WL

namespace WL
open PySem PySem.Spec PyProof.Rows L2
def spSteps (CS : Addr) : Sp := fun vs H Q _ => ∃ (x dx l : Addr) (bs : List Int), vs = [.ref x, .ref l] ∧ H x = some (.ins CS dx []) ∧ H l = some (.lst (vi bs)) ∧ Bnds bs ∧
  ∀ t H', H t = none → H' x = some (.ins CS dx (stF t)) → H' t = some (.tup (vi bs)) → SB x H H' → Q .non H'
def spRoom (CS CR : Addr) : Sp := fun vs H Q _ => ∃ (x dx s ds : Addr) (z : Int) (fs : List (Str × V)), vs = [.ref x, .int z, .ref s] ∧ H x = some (.ins CR dx []) ∧ 1 ≤ z ∧ z ≤ 60 ∧ H s = some (.ins CS ds fs) ∧
  ∀ H', H' x = some (.ins CR dx (rmF z s)) → SB x H H' → Q .non H'
def spTold (CS CR : Addr) : Sp := fun vs H Q _ => ∃ (x : Addr) (z h : Int) (bs : List Int), vs = [.ref x, .int h] ∧ RoomAt CS CR H x z bs ∧ 0 ≤ h ∧ h ≤ z ∧ Q (.int (told bs (z - h))) H
def spReach (CS CR : Addr) : Sp := fun vs H Q _ => ∃ (x : Addr) (z h c : Int) (bs : List Int), vs = [.ref x, .int h, .int c] ∧ RoomAt CS CR H x z bs ∧ 0 ≤ h ∧ h ≤ z ∧ 0 ≤ c ∧ c ≤ 99 ∧ Q (.int (reach bs z c h)) H
def spTop (CS CR : Addr) : Sp := fun vs H Q _ => ∃ (x : Addr) (z c : Int) (bs : List Int), vs = [.ref x, .int c] ∧ RoomAt CS CR H x z bs ∧ Bnds bs ∧ 0 ≤ c ∧ c ≤ 99 ∧ Q (.int (tp bs z c)) H
def spAdd (CS : Addr) : Sp := fun vs H Q _ => ∃ (s : Addr) (b : Int) (bs : List Int), vs = [.ref s, .int b] ∧ StepsAt CS H s bs ∧ Bnds bs ∧ bs.length < 4 ∧ b ∉ bs ∧ 1 ≤ b ∧ b ≤ 60 ∧
  ∀ H' s' cs, Same H H' → StepsAt CS H' s' cs → Bnds cs → (∀ x ∈ bs, x ∈ cs) → Q (.ref s') H'
section
variable {P : Program} {w : World} {K : PySem.W.Frag} {mg : Str → Option Value} {base : Heap} {CS CR : Addr}
theorem sc_steps : FnScope ["self", "bounds", "index", "bound"] ["self", "bounds"] (defScope sSteps) := ⟨rfl, rfl, rfl, by decide +kernel, rfl, by decide +kernel, by decide +kernel⟩
theorem ok_steps {f : Addr} {fd : FuncData} (F : Fun K "__init__" "Steps.__init__" sSteps f fd) (T : Txt K mg CS CR) (D1 : DefOk P w K mg base "is_list" 1 ["value"] spIsList) (D2 : DefOk P w K mg base "is_bound" 3 ["value"] spBound) :
    FnOk P w K mg base CX0 4 f fd ["self", "bounds"] (spSteps CS) := by
  refine F.ok sc_steps (fun vs H Q E h => ?_) (fun cdv A outer s H vs Q E hr h => ?_)
  · obtain ⟨x, dx, l, bs, rfl, _⟩ := h; rfl
  · obtain ⟨x, dx, l, bs, rfl, hx, hl, B, q⟩ := h
    refine ⟨_, pss_cons (ps_if (PW.pt (pw_or (pt_not (pt_val (pe_def D1 hr (pa_cons (pv 1) pa_nil)))) (pw_or1 (pt_not (pt_chain op_le op_le pe_int (pe_callB call_len_seq (by rfl) T.len bt_len (pa_cons (pv 1) pa_nil)) (pe_k T.bnds4)))))) (pss_one ps_never) pss_nil)
      (pss_cons (ps_for PassesOwn.never rfl (pi_enum (by rfl) T.enum (pa_cons (pv 1) pa_nil)) (pg_tup rfl (pgs_cons (pg_name (i := 2) sc_steps.nd rfl (.inl rfl)) (pgs_cons (pg_name (i := 3) sc_steps.nd rfl (.inl rfl)) pgs_nil)))
        (pss_one (ps_if (PW.pt (pw_or (pt_not (pt_val (pe_def D2 hr (pa_cons (pv 3) pa_nil)))) (pw_or1 (PW.pt (pw_and (pt_cmpR op_gt (pv 2) pe_int (nomark _)) (pw_and1 (pt_cmpR op_le (pv 3) (pe_ix ix_list (pv 1) (pe_op op_sub (pv 2) pe_int) (fun _ _ => rfl)) (nomark _)))))))) (pss_one ps_never) pss_nil)))
      (pss_one (ps_fld (pv 0) (pe_callTy call_tuple_of (by rfl) T.tuple bt_tuple (pa_cons (pv 1) pa_nil)) rfl))), ?_⟩
    refine ⟨_, rfl, l, _, rfl, hl, fun H1 k1 => ⟨_, rfl, iteF ?_⟩⟩
    refine ⟨_, rfl, l, vi bs, rfl, .inl (SqL.of (k1 _ _ hl)), _, _, rfl, rfl, true, congrArg V.bl (decide_eq_true ?_), iteT ?_⟩
    · rw [lenV]; have := B.ne; omega
    refine ⟨_, _, rfl, rfl, true, congrArg V.bl (decide_eq_true ?_), iteF ?_⟩
    · rw [lenV]; have := B.le; omega
    refine ⟨_, rfl, l, vi bs, rfl, SqL.of (k1 _ _ hl), for_it walk_enum (fun i σ H2 => ∃ v2 v3, σ = [some (.ref x), some (.ref l), v2, v3] ∧ Same H H2) ⟨none, none, rfl, k1⟩ (fun i σ H2 _ ⟨_, _, _, k2⟩ => SqL.of (k2 _ _ hl)) ?_ ?_⟩
    · rintro i y σ H2 H2' hi ⟨v2, v3, rfl, k2⟩ ⟨t, y1, y2, rfl, nt, rfl, e1, e2⟩
      cases e1
      obtain ⟨b, hb, rfl⟩ := vi_get e2
      have k3 := same_upd (o := .tup [V.int i, V.int b]) k2 (k2.free nt)
      refine ⟨t, _, rfl, SqT.of upd_same, rfl, _, _, rfl, _, _, rfl, rfl, ?_⟩
      refine ⟨_, rfl, b, rfl, _, rfl, ?_⟩
      rw [decide_eq_true (B.lo b (List.mem_of_getElem? hb))]
      refine iteF ⟨_, rfl, _, _, rfl, rfl, _, rfl, ite2 (fun h1 => ?_) (fun h1 => iteF ⟨_, _, rfl, k3⟩)⟩
      have hi0 : 0 < i := by have := of_decide_eq_true h1; omega
      obtain ⟨j, rfl⟩ : ∃ j, i = j + 1 := ⟨i - 1, by omega⟩
      have hjl : j < bs.length := by have := (List.getElem?_eq_some_iff.mp hb).1; omega
      refine ⟨_, rfl, _, rfl, _, rfl, _, _, rfl, rfl, l, vi bs, _, .int bs[j], rfl, rfl, SqL.of (k3 _ _ hl), at_of (j := j) (by omega) (by rw [List.getElem?_map, List.getElem?_eq_getElem hjl]; rfl), _, _, rfl, rfl, false, congrArg V.bl (decide_eq_false ?_), iteF ⟨_, _, rfl, k3⟩⟩
      obtain ⟨hl2, e3⟩ := List.getElem?_eq_some_iff.mp hb
      have := List.pairwise_iff_getElem.mp B.up j (j + 1) hjl hl2 (by omega)
      omega
    · rintro σ H2 ⟨v2, v3, rfl, k2⟩
      refine ⟨_, rfl, l, vi bs, rfl, .inl ⟨SqL.of (k2 _ _ hl), fun t nt => ?_⟩⟩
      have k3 := same_upd (o := .tup (vi bs)) k2 (k2.free nt)
      have nx : x ≠ t := ne_of_none (k2 _ _ hx) nt
      refine ⟨_, rfl, x, CS, dx, [], rfl, k3 _ _ hx, T.iS.cl, T.nB, (by show 0 < 1000; decide), q t _ (k2.free nt) upd_same ?_ (SB.put (SB.of k3))⟩
      rw [upd_ne nx.symm]; exact upd_same
theorem sc_room : FnScope ["self", "size", "steps"] ["self", "size", "steps"] (defScope sRoom) := ⟨rfl, rfl, rfl, by decide +kernel, rfl, by decide +kernel, by decide +kernel⟩
theorem ok_room {f : Addr} {fd : FuncData} (F : Fun K "__init__" "Room.__init__" sRoom f fd) (T : Txt K mg CS CR) (D : DefOk P w K mg base "is_between" 2 ["value", "least", "most"] spBetween) : FnOk P w K mg base CX0 3 f fd ["self", "size", "steps"] (spRoom CS CR) := by
  refine F.ok sc_room (fun vs H Q E h => ?_) (fun cdv A outer s H vs Q E hr h => ?_)
  · obtain ⟨x, dx, s, ds, z, fs, rfl, _⟩ := h; rfl
  · obtain ⟨x, dx, s, ds, z, fs, rfl, hx, h1, h2, hs, q⟩ := h
    refine ⟨_, pss_cons (ps_if (pt_not (pt_val (pe_def D hr (pa_cons (pv 1) (pa_cons pe_int (pa_cons (pe_k T.size60) pa_nil)))))) (pss_one ps_never) pss_nil)
      (pss_cons (ps_if (pt_not (pt_val (pe_callB (C8.call_isC T.iS) (by rfl) T.isinst bt_isinst (pa_cons (pv 2) (pa_cons (pe_glob (v := .ref CS) (by rfl) T.mgS rfl) pa_nil))))) (pss_one ps_never) pss_nil)
      (pss_cons (ps_fld (pv 0) (pv 1) rfl) (pss_one (ps_fld (pv 0) (pv 2) rfl)))), ?_⟩
    refine ⟨_, rfl, z, 1, 60, rfl, _, rfl, ?_⟩
    rw [decide_eq_true (show 1 ≤ z ∧ z ≤ 60 from ⟨h1, h2⟩)]
    refine iteF ⟨_, rfl, s, ds, fs, rfl, hs, _, rfl, iteF ?_⟩
    refine ⟨_, rfl, _, rfl, x, CR, dx, [], rfl, hx, T.iR.cl, T.nZ, (by show 0 < 1000; decide), _, rfl, _, rfl, x, CR, dx, _, rfl, upd_same, T.iR.cl, T.nS, (by show 1 < 1000; decide), q _ upd_same (SB.put (SB.put (SB.refl _ _)))⟩
theorem sc_told : FnScope ["self", "held"] ["self", "held"] (defScope sTold) := ⟨rfl, rfl, rfl, by decide +kernel, rfl, by decide +kernel, by decide +kernel⟩
theorem ok_told {f : Addr} {fd : FuncData} (F : Fun K "told" "Room.told" sTold f fd) (T : Txt K mg CS CR) (D : DefOk P w K mg base "is_between" 2 ["value", "least", "most"] spBetween) (D2 : DefOk P w K mg base "told_of" 1 ["bounds", "free"] spToldOf) : FnOk P w K mg base CX0 3 f fd ["self", "held"] (spTold CS CR) := by
  refine F.ok sc_told (fun vs H Q E h => ?_) (fun cdv A outer s H vs Q E hr h => ?_)
  · obtain ⟨x, z, h, bs, rfl, _⟩ := h; rfl
  · obtain ⟨x, z, h, bs, rfl, R, h0, h1, q⟩ := h
    obtain ⟨dx, s, hx, ⟨ds, t, hs, ht⟩⟩ := R.ex
    refine ⟨_, pss_cons (ps_if (pt_not (pt_val (pe_def D hr (pa_cons (pv 1) (pa_cons pe_int (pa_cons (pe_fld (pv 0) rfl) pa_nil)))))) (pss_one ps_never) pss_nil)
      (pss_one (ps_ret (pe_def D2 hr (pa_cons (pe_fld (pe_fld (pv 0) rfl) rfl) (pa_cons (pe_op op_sub (pe_fld (pv 0) rfl) (pv 1)) pa_nil))))), ?_⟩
    refine ⟨_, rfl, _, rfl, x, CR, dx, _, _, rfl, hx, T.iR.cl, T.nZ, rmF_size _ _, h, 0, z, rfl, _, rfl, ?_⟩
    rw [decide_eq_true (show 0 ≤ h ∧ h ≤ z from ⟨h0, h1⟩)]
    refine iteF ⟨_, rfl, x, CR, dx, _, _, rfl, hx, T.iR.cl, T.nS, rmF_steps _ _, s, CS, ds, _, _, rfl, hs, T.iS.cl, T.nB, stF_get _, _, rfl, x, CR, dx, _, _, rfl, hx, T.iR.cl, T.nZ, rmF_size _ _, _, rfl, _, _, rfl, rfl, t, bs, _, rfl, ht, q⟩
theorem sc_reach : FnScope ["self", "held", "cap", "told"] ["self", "held", "cap"] (defScope sReach) := ⟨rfl, rfl, rfl, by decide +kernel, rfl, by decide +kernel, by decide +kernel⟩
theorem ok_reach {f : Addr} {fd : FuncData} (F : Fun K "reach" "Room.reach" sReach f fd) (T : Txt K mg CS CR) (M : MethOk P w K mg base CR "told" 3 ["self", "held"] (spTold CS CR)) (D2 : DefOk P w K mg base "check_cap" 3 ["cap"] spChk) : FnOk P w K mg base CX0 4 f fd ["self", "held", "cap"] (spReach CS CR) := by
  refine F.ok sc_reach (fun vs H Q E h => ?_) (fun cdv A outer s H vs Q E hr h => ?_)
  · obtain ⟨x, z, h, c, bs, rfl, _⟩ := h; rfl
  · obtain ⟨x, z, h, c, bs, rfl, R, h0, h1, c0, c1, q⟩ := h
    obtain ⟨dx, s, hx, hS⟩ := R.ex
    refine ⟨_, pss_cons (ps_set (i := 3) sc_reach.nd rfl (.inl rfl) (pe_mt M T.iR.cl hr (pv 0) (pa_cons (pv 1) pa_nil)))
      (pss_cons (ps_expr (pe_def D2 hr (pa_cons (pv 2) pa_nil)))
      (pss_one (ps_ret (pe_ifExp (pt_cmpR op_lt (pv 3) (pv 2) (nomark _)) (pv 3) (pv 2))))), ?_⟩
    refine ⟨_, rfl, x, dx, _, rfl, hx, rmF_told _ _, _, rfl, x, z, h, bs, rfl, R, h0, h1, _, rfl, c, rfl, c0, c1, ?_⟩
    have e : WL.reach bs z c h = if told bs (z - h) < c then told bs (z - h) else c := rfl
    refine ⟨_, rfl, _, rfl, _, _, rfl, rfl, _, rfl, ite2 (fun h1 => ?_) (fun h1 => ?_)⟩
    · rw [if_pos (of_decide_eq_true h1)] at e
      exact ⟨_, rfl, by rw [e] at q; exact q⟩
    · rw [if_neg (fun z => h1 (decide_eq_true z))] at e
      exact ⟨_, rfl, by rw [e] at q; exact q⟩
theorem sc_top : FnScope ["self", "cap", "least"] ["self", "cap"] (defScope sTop) := ⟨rfl, rfl, rfl, by decide +kernel, rfl, by decide +kernel, by decide +kernel⟩
theorem ok_top {f : Addr} {fd : FuncData} (F : Fun K "top" "Room.top" sTop f fd) (T : Txt K mg CS CR) (D2 : DefOk P w K mg base "check_cap" 3 ["cap"] spChk) : FnOk P w K mg base CX0 4 f fd ["self", "cap"] (spTop CS CR) := by
  refine F.ok sc_top (fun vs H Q E h => ?_) (fun cdv A outer s H vs Q E hr h => ?_)
  · obtain ⟨x, z, c, bs, rfl, _⟩ := h; rfl
  · obtain ⟨x, z, c, bs, rfl, R, B, c0, c1, q⟩ := h
    obtain ⟨dx, s, hx, ⟨ds, t, hs, ht⟩⟩ := R.ex
    refine ⟨_, pss_cons (ps_expr (pe_def D2 hr (pa_cons (pv 1) pa_nil)))
      (pss_cons (ps_set (i := 2) sc_top.nd rfl (.inl rfl) (pe_ix ix_tup (pe_fld (pe_fld (pv 0) rfl) rfl) pe_int (fun _ _ => rfl)))
      (pss_cons (ps_if (PW.pt (pw_or (pt_cmpR op_gt (pv 2) (pe_fld (pv 0) rfl) (nomark _)) (pw_or1 (pt_cmpR op_eq (pv 1) pe_int (nomark _))))) (pss_one (ps_ret pe_int)) pss_nil)
      (pss_one (ps_ret (pe_op op_add (pe_op op_sub (pe_fld (pv 0) rfl) (pv 2)) (pe_ifExp (pt_cmpR op_lt (pv 2) (pv 1) (nomark _)) (pv 2) (pv 1))))))), ?_⟩
    refine ⟨_, rfl, c, rfl, c0, c1, ?_⟩
    refine ⟨_, rfl, x, CR, dx, _, _, rfl, hx, T.iR.cl, T.nS, rmF_steps _ _, s, CS, ds, _, _, rfl, hs, T.iS.cl, T.nB, stF_get _, t, vi bs, 0, .int (bs.headD 0), rfl, rfl, SqT.of ht, at_of (j := 0) rfl (by rw [List.getElem?_map, head_get B]; rfl), ?_⟩
    have e : tp bs z c = if bs.headD 0 > z ∨ c = 0 then 0 else z - bs.headD 0 + (if bs.headD 0 < c then bs.headD 0 else c) := rfl
    have last : ¬ (bs.headD 0 > z ∨ c = 0) → Q (.int (z - bs.headD 0 + (if bs.headD 0 < c then bs.headD 0 else c))) H := fun n => by
      rw [if_neg n] at e; rw [← e]; exact q
    refine ⟨_, rfl, _, rfl, x, CR, dx, _, _, rfl, hx, T.iR.cl, T.nZ, rmF_size _ _, _, _, rfl, rfl, _, rfl, ite2 (fun h1 => iteT ?_) (fun h1 => ?_)⟩
    · rw [if_pos (.inl (by have := of_decide_eq_true h1; omega))] at e
      rw [e] at q; exact q
    refine ⟨_, rfl, rfl, _, rfl, ite2 (fun h2 => ?_) (fun h2 => ?_)⟩
    · have h3 : c = 0 := V.int.inj (of_decide_eq_true h2)
      rw [if_pos (.inr h3)] at e
      rw [e] at q; exact q
    have n : ¬ (bs.headD 0 > z ∨ c = 0) := by
      rintro (h3 | h3)
      · exact h1 (decide_eq_true (by omega))
      · exact h2 (decide_eq_true (by rw [h3]))
    have la := last n
    refine ⟨_, rfl, x, CR, dx, _, _, rfl, hx, T.iR.cl, T.nZ, rmF_size _ _, _, rfl, _, _, rfl, rfl, _, rfl, _, rfl, _, _, rfl, rfl, _, rfl, ite2 (fun h4 => ?_) (fun h4 => ?_)⟩
    · rw [if_pos (of_decide_eq_true h4)] at la
      exact ⟨_, rfl, _, _, rfl, rfl, la⟩
    · rw [if_neg (fun z => h4 (decide_eq_true z))] at la
      exact ⟨_, rfl, _, _, rfl, rfl, la⟩
end
end WL

namespace WL
open PySem PySem.Spec PyProof.Rows L2
/-! ### x + i by an own __add__ -/
structure AddC (K : PySem.W.Frag) (C g : Addr) : Prop where
  sf : PySem.W.selfFirst K C = true
  at_ : PySem.W.findIn K (.ref C) (PySem.dunder Operator.Add.info.2) = some (some (.ref g))
  fn : PySem.W.isFn K (.ref g) = true
  no : PySem.W.findIn K (.ref C) (PySem.dunderR Operator.Add.info.2) = some none
  i1 : ∃ fo, PySem.W.findIn K (.type "int") (PySem.dunder Operator.Add.info.2) = some fo
  i2 : ∃ ro, PySem.W.findIn K (.type "int") (PySem.dunderR Operator.Add.info.2) = some ro
  su : PySem.W.subIn K (.type "int") (.ref C) = some false
structure AddOk (P : Program) (w : World) (K : PySem.W.Frag) (mg : Str → Option Value) (base : Heap) (C : Addr) (k : Nat) (ps : List Str) (sp : Sp) : Prop where
  ex : ∃ g fd, AddC K C g ∧ Binds K fd ps [] ∧ FnOk P w K mg base CX0 k g fd ps sp
def rAddOwn (C : Addr) (sp : Sp) : R2 := fun x y H Q => ∃ a dx fs i, x = .ref a ∧ y = .int i ∧ H a = some (.ins C dx fs) ∧ sp [.ref a, .int i] H Q E0
theorem op_addOwn {X : Cx} {C : Addr} {k j : Nat} {ps : List Str} {sp : Sp} (D : AddOk X.prog X.w X.K X.mg X.base C k ps sp) (hr : Room j X.A) (hk : k ≤ j := by decide) : OpR X (binaryOp .Add) (rAddOwn C sp) := by
  intro pins s σ H x y v u Q I rx ry h
  obtain ⟨g, fd, A, b, F⟩ := D.ex
  obtain ⟨a, dx, fs, i, rfl, rfl, ha, q⟩ := h
  cases (show v = Value.ref a from rx)
  obtain ⟨t, rfl⟩ := (show ∃ t, u = Value.int i t from ry)
  obtain ⟨mA, O, _⟩ := ins_get I.hok ha
  obtain ⟨od, J, _⟩ := O.look
  obtain ⟨m, hF⟩ := I.fr
  obtain ⟨fo, h1⟩ := A.i1
  obtain ⟨ro, h2⟩ := A.i2
  refine PySem.W.ksp_binT (op := .Add) hF I.ok.mod.kin J rfl A.sf A.at_ A.fn A.no (.inl rfl) h1 h2 A.su ?_
  refine wpAny_mono (run_fn (us := [.ref a, .int i t]) (vs := [.ref a, .int i]) F (hr.mono hk) b .nil pass0 I (.cons rfl (.cons ⟨t, rfl⟩ .nil)) q) (fun w s' z => ?_) fun _ _ x => x
  obtain ⟨z', H', I', rz, qz⟩ := z
  exact SlX.cmpback rz ⟨z', H', I', rz, qz⟩
section
variable {P : Program} {w : World} {K : PySem.W.Frag} {mg : Str → Option Value} {base : Heap} {CS CR : Addr}
theorem sc_add : FnScope ["self", "bound", "one"] ["self", "bound"] (defScope sAdd) := ⟨rfl, rfl, rfl, by decide +kernel, rfl, by decide +kernel, by decide +kernel⟩
theorem ok_add {f : Addr} {fd : FuncData} (F : Fun K "__add__" "Steps.__add__" sAdd f fd) (T : Txt K mg CS CR) (D : DefOk P w K mg base "is_bound" 3 ["value"] spBound) (M : MakeOk P w K mg base "Steps" CS 4 ["self", "bounds"] (spSteps CS)) : FnOk P w K mg base CX0 6 f fd ["self", "bound"] (spAdd CS) := by
  refine F.ok sc_add (fun vs H Q E h => ?_) (fun cdv A outer s H vs Q E hr h => ?_)
  · obtain ⟨s, b, bs, rfl, _⟩ := h; rfl
  · obtain ⟨s, b, bs, rfl, S, B, hl, hn, b0, b1, q⟩ := h
    obtain ⟨ds, t, hs, ht⟩ := S.ex
    refine ⟨_, pss_cons (ps_if (PW.pt (pw_or (pt_not (pt_val (pe_def D hr (pa_cons (pv 1) pa_nil)))) (pw_or1 (pt_cmpR op_in_seq (pv 1) (pe_fld (pv 0) rfl) (by rfl))))) (pss_one ps_never) pss_nil)
      (pss_cons (ps_if (pt_cmpR op_eq (pe_callB call_len_seq (by rfl) T.len bt_len (pa_cons (pe_fld (pv 0) rfl) pa_nil)) (pe_k T.bnds4) (nomark _)) (pss_one ps_never) pss_nil)
      (pss_one (ps_ret (pe_mk M hr (pa_cons (pe_callB cr_sorted (by rfl) T.sorted bt_sorted (pa_cons
        (pe_lc (own := [("one", 2)]) (g := gName 2) rfl sc_add.nd (pi_tup (pe_tup (StX.pa_star (pe_fld (pv 0) rfl) (pa_cons (pv 1) pa_nil)))) (blkOk_by (own := [("one", 2)]) (N := ["self", "bound", "one"]) (sc := defScope sAdd) (by decide +kernel))
          (fun _ _ _ _ _ => pg_name (i := 2) sc_add.nd rfl (Or.inl rfl)) (fun _ _ _ _ _ => pts_nil) (fun _ _ _ _ _ => pe_callTy call_int1 (by rfl) T.int bt_int (pa_cons (pv 2) pa_nil))) pa_nil)) pa_nil))))), ?_⟩
    refine ⟨_, rfl, b, rfl, _, rfl, ?_⟩
    rw [decide_eq_true (show 1 ≤ b ∧ b ≤ 60 from ⟨b0, b1⟩)]
    refine iteF ⟨_, rfl, _, rfl, s, CS, ds, _, _, rfl, hs, T.iS.cl, T.nB, stF_get _, t, vi bs, rfl, .inr (SqT.of ht), rfl, flat_vi bs, false, ?_, iteF ?_⟩
    · show V.bl (inV (.int b) (vi bs)) = V.bl false
      rw [inV_vi, decide_eq_false hn]
    refine ⟨_, rfl, s, CS, ds, _, _, rfl, hs, T.iS.cl, T.nB, stF_get _, t, vi bs, rfl, .inr (SqT.of ht), rfl, false, ?_, iteF ?_⟩
    · show V.bl (decide (V.int ((vi bs).length : Int) = V.int 4)) = V.bl false
      rw [lenV, decide_eq_false]
      intro e
      have := V.int.inj e
      omega
    -- Steps(sorted([int(one) for one in (*self.bounds, bound)]))
    refine ⟨_, rfl, s, CS, ds, _, _, rfl, hs, T.iS.cl, T.nB, stF_get _, t, vi bs, rfl, .inl (SqT.of ht), _, rfl, ?_, fun t2 n2 => ⟨t2, rfl, ⟨_, SqT.of upd_same⟩, fun D nD => ?_⟩⟩
    · show (vi bs ++ [V.int b]).length ≤ sizeLine
      rw [vi_snoc, lenV, List.length_append]
      exact Nat.le_of_lt (small1000 (by simp; omega))
    have k1 : Same H (upd H t2 (.tup (vi bs ++ [V.int b]))) := same_new n2
    have e2 : vi bs ++ [V.int b] = vi (bs ++ [b]) := vi_snoc bs b
    have nDt : t2 ≠ D := ne_of_none upd_same nD
    refine lc_tup (K := K) (a := t2) (xs := vi (bs ++ [b])) (fun i H1 => Same H H1 ∧ H1 t2 = some (.tup (vi (bs ++ [b]))) ∧ H1 D = some (.lst (vi ((bs ++ [b]).take i))))
      ⟨same_upd k1 (k1.free nD), by rw [upd_ne nDt, upd_same, e2], upd_same⟩ (fun i H1 _ h => SqT.of h.2.1) ?_ ?_
    · rintro i y H1 hi ⟨k2, h2, h3⟩
      obtain ⟨z, hz, rfl⟩ := vi_get hi
      refine ⟨rfl, _, rfl, .inl ⟨z, rfl, _, h3, ?_, same_upd k2 (k1.free nD), by rw [upd_ne nDt]; exact h2, ?_⟩⟩
      · rw [lenV, List.length_take, List.length_append]
        exact small1000 (by simp; omega)
      · rw [upd_same, List.take_add_one, hz]
        show some (HO.lst (vi _ ++ [V.int z])) = _
        rw [vi_snoc]; rfl
    · rintro H1 ⟨k2, h2, h3⟩
      rw [lenV, List.take_length] at h3
      refine ⟨D, bs ++ [b], rfl, SqL.of h3, (by simp; omega), fun cs p pm so np => ?_⟩
      have k3 := same_upd (o := .lst (vi cs)) k2 (k2.free np)
      obtain ⟨C, inc⟩ := bnds_add B hl hn ⟨b0, b1⟩ pm so
      intro x dx nx ndx nex
      have k4 : Same H (upd (upd (upd H1 p (.lst (vi cs))) dx (.own x)) x (.ins CS dx [])) := same_upd (same_upd k3 (k3.free ndx)) (k3.free nx)
      refine ⟨x, dx, p, cs, rfl, upd_same, ?_, C, fun t3 H2 n3 h4 h5 sb => ⟨rfl, q H2 x cs ?_ ⟨dx, t3, h4, h5⟩ C inc⟩⟩
      · have n1 : p ≠ x := ne_of_none upd_same nx
        have n2 : p ≠ dx := ne_of_none upd_same ndx
        rw [upd_ne n1, upd_ne n2, upd_same]
      · exact fun c o e => sb c o (k4 c o e) (ne_of_none e (k3.free nx))
end
end WL

namespace WL
open PySem PySem.Spec PyProof.Rows L2
/-! ### lists of ints compared -/
theorem dpAll_vi {K : PySem.W.Frag} {H : Hp} : ∀ ns : List Int, DpAll K H (vi ns) (ns.map PyData.int)
  | [] => .nil
  | x :: r => .cons (.int x) (dpAll_vi r)
theorem canLay_vi : ∀ ns : List Int, PyData.canLayAll0 (ns.map PyData.int) = true
  | [] => by simp [PyData.canLayAll0]
  | x :: r => by
    have := canLay_vi r
    simp only [List.map_cons, PyData.canLayAll0, PyData.canLay0, this, Bool.and_self]
theorem depth_vi : ∀ ns : List Int, PyData.depthAll (ns.map PyData.int) = 0
  | [] => by simp [PyData.depthAll]
  | x :: r => by
    have := depth_vi r
    simp only [List.map_cons, PyData.depthAll, PyData.depth, this, Nat.max_self]
theorem shaped_vi (ns : List Int) : SeqAt.shaped (.list (ns.map PyData.int)) = true := by
  unfold SeqAt.shaped
  simp only [PyData.canLay0, PyData.depth, canLay_vi, depth_vi]
  decide
theorem eqvAll_vi : ∀ ns ms : List Int, PyData.eqvAll (ns.map PyData.int) (ms.map PyData.int) = decide (ns = ms)
  | [], [] => by simp [PyData.eqvAll]
  | [], _ :: _ => by simp [PyData.eqvAll]
  | _ :: _, [] => by simp [PyData.eqvAll]
  | x :: r, y :: t => by
    have := eqvAll_vi r t
    simp only [List.map_cons, PyData.eqvAll, PyData.eqv, this]
    by_cases h : x = y <;> by_cases h2 : r = t <;> simp [h, h2]
theorem eqv_vi (ns ms : List Int) : PyData.eqv (.list (ns.map PyData.int)) (.list (ms.map PyData.int)) = decide (ns = ms) := by
  rw [PyData.eqv]; exact eqvAll_vi ns ms

/-! ### promises -/
def spNext (CS CR : Addr) : Sp := fun vs H Q _ => ∃ (x : Addr) (z c t : Int) (bs : List Int), vs = [.ref x, .int c, .int t] ∧ RoomAt CS CR H x z bs ∧ 0 ≤ c ∧ c ≤ 99 ∧ 0 ≤ t ∧ t ≤ z ∧ z ≤ 60 ∧
  ∀ H', Same H H' → Q (.int (nxt (reach bs z c) t.toNat)) H'
def spLayers (CS CR : Addr) : Sp := fun vs H Q _ => ∃ (x : Addr) (z c : Int) (bs : List Int), vs = [.ref x, .int c] ∧ RoomAt CS CR H x z bs ∧ Bnds bs ∧ 0 ≤ c ∧ c ≤ 99 ∧ 0 ≤ z ∧ z ≤ 60 ∧
  ∀ H' p n, Same H H' → LayN (reach bs z c) n → H' p = some (.lst (vi (lay (reach bs z c) n))) → Q (.ref p) H'
def spFewIn (K : PySem.W.Frag) : Sp := fun vs H Q _ => ∃ (p : Addr) (len z : Int) (r : Int → Int) (n : Nat), vs = [.ref p, .int len] ∧ SqL K H p (vi (lay r n)) ∧ Rch r z ∧ LayN r n ∧ n ≤ 100 ∧ 0 ≤ len ∧
  ∀ H' o, Same H H' → Few r len o → Q (ov o) H'
def spFewest (CS CR : Addr) : Sp := fun vs H Q _ => ∃ (x : Addr) (z c len : Int) (bs : List Int), vs = [.ref x, .int c, .int len] ∧ RoomAt CS CR H x z bs ∧ Bnds bs ∧ 0 ≤ c ∧ c ≤ 99 ∧ 0 ≤ z ∧ z ≤ 60 ∧ 0 ≤ len ∧ len ≤ 99 ∧
  ∀ H' o, Same H H' → Few (reach bs z c) len o → Q (ov o) H'
def spGoes (CS CR : Addr) : Sp := fun vs H Q _ => ∃ (x : Addr) (z c len : Int) (bs : List Int), vs = [.ref x, .int c, .int len] ∧ RoomAt CS CR H x z bs ∧ Bnds bs ∧ 0 ≤ c ∧ c ≤ 99 ∧ 0 ≤ len ∧ len ≤ 99 ∧
  Q (.bl (decide (len ≤ tp bs z c))) H
def spLeast (CS CR : Addr) : Sp := fun vs H Q _ => ∃ (x : Addr) (z len : Int) (bs : List Int), vs = [.ref x, .int len] ∧ RoomAt CS CR H x z bs ∧ Bnds bs ∧ 0 ≤ z ∧ z ≤ 60 ∧ 0 ≤ len ∧ len ≤ 99 ∧
  ∀ o, Lst (fun c => len ≤ tp bs z c) o → Q (ov o) H
section
variable {P : Program} {w : World} {K : PySem.W.Frag} {mg : Str → Option Value} {base : Heap} {CS CR : Addr}
theorem sc_next : FnScope ["room", "cap", "top", "held"] ["room", "cap", "top"] (defScope sNext) := ⟨rfl, rfl, rfl, by decide +kernel, rfl, by decide +kernel, by decide +kernel⟩
/-- the list of held + reach -/
def sums (r : Int → Int) (n : Nat) : List Int := (List.range n).map fun h : Nat => (h : Int) + r (h : Int)
theorem sums_succ (r : Int → Int) (n : Nat) : sums r (n + 1) = sums r n ++ [(n : Int) + r (n : Int)] := by
  unfold sums; rw [List.range_succ, List.map_append]; rfl
theorem sums_len (r : Int → Int) (n : Nat) : (sums r n).length = n := by unfold sums; simp
theorem sums_max {r : Int → Int} {n : Nat} {m : Int} (h1 : m ∈ sums r (n + 1)) (h2 : ∀ y, y ∈ sums r (n + 1) → y ≤ m) : m = nxt r n := by
  unfold sums at h1 h2
  obtain ⟨h, hh, e⟩ := List.mem_map.mp h1
  have := List.mem_range.mp hh
  exact nxt_uniq ⟨h, by omega, e.symm⟩ fun k hk => h2 _ (List.mem_map.mpr ⟨k, List.mem_range.mpr (by omega), rfl⟩)
theorem ok_next {f : Addr} {fd : FuncData} (F : Fun K "next_layer" "next_layer" sNext f fd) (T : Txt K mg CS CR) (M : MethOk P w K mg base CR "reach" 4 ["self", "held", "cap"] (spReach CS CR)) : FnOk P w K mg base CX0 5 f fd ["room", "cap", "top"] (spNext CS CR) := by
  refine F.ok sc_next (fun vs H Q E h => ?_) (fun cdv A outer s H vs Q E hr h => ?_)
  · obtain ⟨x, z, c, t, bs, rfl, _⟩ := h; rfl
  · obtain ⟨x, z, c, t, bs, rfl, R, c0, c1, t0, t1, z1, q⟩ := h
    refine ⟨_, pss_one (ps_ret (pe_callB (cr_max rfl) (by rfl) T.max bt_max (pa_cons
      (pe_lc (own := [("held", 3)]) (g := gName 3) rfl sc_next.nd (pi_range1 (by rfl) T.range (pa_cons (pe_op op_add (pv 2) pe_int) pa_nil)) (blkOk_by (own := [("held", 3)]) (N := ["room", "cap", "top", "held"]) (sc := defScope sNext) (by decide +kernel))
        (fun _ _ _ _ _ => pg_name (i := 3) sc_next.nd rfl (Or.inl rfl)) (fun _ _ _ _ _ => pts_nil)
        (fun _ _ _ _ _ => pe_callTy call_int1 (by rfl) T.int bt_int (pa_cons (pe_op op_add (pv 3) (pe_mt M T.iR.cl hr (pv 0) (pa_cons (pv 3) (pa_cons (pv 1) pa_nil)))) pa_nil))) pa_nil))), ?_⟩
    refine ⟨_, rfl, _, _, rfl, rfl, t + 1, rfl, by omega, by omega, fun D nD => ?_⟩
    obtain ⟨n, rfl⟩ : ∃ n : Nat, t = (n : Int) := ⟨t.toNat, by omega⟩
    have en : ((n : Int) + 1).toNat = n + 1 := by omega
    rw [en]
    refine lc_range (lo := 0) (n := n + 1) (fun i H1 => Same H H1 ∧ H1 D = some (.lst (vi (sums (WL.reach bs z c) i)))) ⟨same_new nD, upd_same⟩ ?_ ?_
    · rintro i H1 hi ⟨k1, h1⟩
      obtain ⟨dx, s, hx, _⟩ := (R.same k1).ex
      refine ⟨rfl, _, rfl, _, rfl, x, dx, _, rfl, hx, rmF_reach _ _, _, rfl, _, rfl, x, z, _, c, bs, rfl, R.same k1, by omega, by omega, c0, c1, _, _, rfl, rfl, .inl ⟨_, rfl, _, h1, ?_, same_upd k1 nD, ?_⟩⟩
      · rw [lenV, sums_len]; exact small1000 (by omega)
      · rw [upd_same, sums_succ]
        show some (HO.lst (vi _ ++ [V.int (0 + (i : Int) + WL.reach bs z c (0 + (i : Int)))])) = _
        rw [Int.zero_add, vi_snoc]
    · rintro H1 ⟨k1, h1⟩
      refine ⟨D, _, rfl, SqL.of h1, (by rw [sums_len]; omega), fun m hm hle => ?_⟩
      rw [sums_max hm hle]
      exact q H1 k1
theorem sc_layers : FnScope ["room", "cap", "found", "later"] ["room", "cap"] (defScope sLayers) := ⟨rfl, rfl, rfl, by decide +kernel, rfl, by decide +kernel, by decide +kernel⟩
theorem vi_lay_last (r : Int → Int) (n : Nat) : vi (lay r n) = vi ((List.range n).map (L r)) ++ [V.int (L r n)] := by
  unfold lay
  rw [List.range_succ, List.map_append, vi_snoc]; rfl
theorem lay_last (r : Int → Int) (n : Nat) : atI (vi (lay r n)) (-1) = some (V.int (L r n)) := by
  rw [vi_lay_last]; exact atI_last _ _
theorem ok_layers {f : Addr} {fd : FuncData} (F : Fun K "layers" "layers" sLayers f fd) (T : Txt K mg CS CR) (D1 : DefOk P w K mg base "check_room" 1 ["room"] (spCheckRoom CR)) (D2 : DefOk P w K mg base "check_cap" 3 ["cap"] spChk) (D3 : DefOk P w K mg base "next_layer" 5 ["room", "cap", "top"] (spNext CS CR)) : FnOk P w K mg base CX0 6 f fd ["room", "cap"] (spLayers CS CR) := by
  refine F.ok sc_layers (fun vs H Q E h => ?_) (fun cdv A outer s H vs Q E hr h => ?_)
  · obtain ⟨x, z, c, bs, rfl, _⟩ := h; rfl
  · obtain ⟨x, z, c, bs, rfl, R, B, c0, c1, z0, z1, q⟩ := h
    obtain ⟨dx, s, hx, _⟩ := R.ex
    have RC := rch_of (c := c) B z0 c0
    refine ⟨_, pss_cons (ps_expr (pe_def D1 hr (pa_cons (pv 0) pa_nil))) (pss_cons (ps_expr (pe_def D2 hr (pa_cons (pv 1) pa_nil)))
      (pss_cons (ps_set (i := 2) sc_layers.nd rfl (.inl rfl) (pe_lst (pa_cons pe_int pa_nil)))
      (pss_cons (ps_set (i := 3) sc_layers.nd rfl (.inl rfl) (pe_def D3 hr (pa_cons (pv 0) (pa_cons (pv 1) (pa_cons pe_int pa_nil)))))
      (pss_cons (ps_while PassesOwn.never (pt_cmpR op_gt (pv 3) (pe_ix ix_list (pv 2) (pe_un un_neg pe_int) (fun _ _ => rfl)) (nomark _))
        (pss_cons (ps_expr (pe_bm PySem.F.plainAttrs_list PySem.F.slot_list_append PySem.F.type_list_append mt_append (pv 2) (pa_cons (pv 3) pa_nil)))
        (pss_one (ps_set (i := 3) sc_layers.nd rfl (.inl rfl) (pe_def D3 hr (pa_cons (pv 0) (pa_cons (pv 1) (pa_cons (pv 3) pa_nil))))))))
      (pss_one (ps_ret (pv 2))))))), ?_⟩
    refine ⟨_, rfl, x, dx, _, rfl, hx, _, rfl, c, rfl, c0, c1, ?_⟩
    refine ⟨(by show 1 ≤ sizeLine; decide), fun l nl => ?_⟩
    refine ⟨_, rfl, _, rfl, x, z, c, 0, bs, rfl, R.same (same_new nl), c0, c1, Int.le_refl _, z0, z1, fun H1 k1 => ?_⟩
    have k0 : Same H H1 := (same_new nl).trans k1
    refine while_by (fun σ H2 => ∃ n, σ = [some (.ref x), some (.int c), some (.ref l), some (.int (L (WL.reach bs z c) (n + 1)))] ∧ Same H H2 ∧ H2 l = some (.lst (vi (lay (WL.reach bs z c) n))) ∧ ∀ k : Nat, k < n → L (WL.reach bs z c) k < L (WL.reach bs z c) (k + 1))
      (fun σ H2 => match H2 l with | some (.lst xs) => 100 - xs.length | _ => 0) ⟨0, rfl, k0, k1 _ _ upd_same, fun k hk => by omega⟩ ?_
      (fun σ H Q Q' hq ⟨a, ha, b, hb, i, hi, p, xs, j, v, e1, e2, e3, e4, m, n, e5, e6, k, e7, q⟩ => ⟨a, ha, b, hb, i, hi, p, xs, j, v, e1, e2, e3, e4, m, n, e5, e6, k, e7, hq _ _ q⟩)
    rintro σ H2 ⟨n, rfl, k2, hl, up⟩
    have hn := LayN.le RC up
    refine ⟨_, rfl, _, rfl, 1, rfl, l, _, _, _, rfl, rfl, SqL.of hl, lay_last _ _, _, _, rfl, rfl, _, rfl, ite2 (fun h1 => ?_) (fun h1 => ?_)⟩
    · have h1 := of_decide_eq_true h1
      have lo := L_lohi RC (n + 1)
      refine ⟨_, rfl, .inl ⟨rfl, _, SqL.of hl⟩, _, rfl, l, _, _, rfl, rfl, hl, ?_, ?_⟩
      · rw [lenV, lay_len]; exact small1000 (by omega)
      have k3 : Same H (upd H2 l (.lst (vi (lay (WL.reach bs z c) n) ++ [V.int (L (WL.reach bs z c) (n + 1))]))) := same_upd k2 nl
      refine ⟨_, rfl, _, rfl, _, rfl, x, z, c, _, bs, rfl, R.same k3, c0, c1, lo.1, lo.2, z1, fun H3 k4 => ?_⟩
      have e : vi (lay (WL.reach bs z c) n) ++ [V.int (L (WL.reach bs z c) (n + 1))] = vi (lay (WL.reach bs z c) (n + 1)) := by rw [vi_snoc, lay_succ]
      have hl3 : H3 l = some (.lst (vi (lay (WL.reach bs z c) (n + 1)))) := by
        have := k4 _ _ upd_same
        rw [e] at this; exact this
      refine ⟨⟨n + 1, rfl, k3.trans k4, hl3, fun k hk => ?_⟩, ?_⟩
      · by_cases h : k = n
        · subst h; exact h1
        · exact up k (by omega)
      · show (match H3 l with | some (.lst xs) => 100 - xs.length | _ => 0) < (match H2 l with | some (.lst xs) => 100 - xs.length | _ => 0)
        rw [hl3, hl]
        show 100 - (vi _).length < 100 - (vi _).length
        rw [lenV, lenV, lay_len, lay_len]
        omega
    · refine ⟨_, rfl, q H2 l n k2 ⟨up, ?_⟩ hl⟩
      rcases Int.lt_or_le (L (WL.reach bs z c) n) (L (WL.reach bs z c) (n + 1)) with h2 | h2
      · exact absurd (decide_eq_true h2) h1
      · exact h2
theorem sc_fewIn : FnScope ["tops", "length", "many", "index", "top"] ["tops", "length"] (defScope sFewIn) := ⟨rfl, rfl, rfl, by decide +kernel, rfl, by decide +kernel, by decide +kernel⟩
/-- the indexes so far -/
def idx (r : Int → Int) (len : Int) (i : Nat) : List Nat := (List.range i).filter fun k => decide (len ≤ L r k)
theorem idx_succ (r : Int → Int) (len : Int) (i : Nat) : idx r len (i + 1) = if len ≤ L r i then idx r len i ++ [i] else idx r len i := by
  unfold idx
  rw [List.range_succ, List.filter_append]
  split
  · rename_i h; simp [h]
  · rename_i h; simp [h]
theorem idx_len (r : Int → Int) (len : Int) (i : Nat) : (idx r len i).length ≤ i := by
  have := List.length_filter_le (fun k => decide (len ≤ L r k)) (List.range i)
  rw [List.length_range] at this
  exact this
theorem ok_fewIn {f : Addr} {fd : FuncData} (F : Fun K "fewest_in" "fewest_in" sFewIn f fd) (T : Txt K mg CS CR) : FnOk P w K mg base CX0 1 f fd ["tops", "length"] (spFewIn K) := by
  refine F.ok sc_fewIn (fun vs H Q E h => ?_) (fun cdv A outer s H vs Q E hr h => ?_)
  · obtain ⟨p, len, z, r, n, rfl, _⟩ := h; rfl
  · obtain ⟨p, len, z, r, n, rfl, hp, RC, LN, hn, l0, q⟩ := h
    refine ⟨_, pss_cons (ps_if (pt_cmpR op_eq (pv 1) pe_int (nomark _)) (pss_one (ps_ret pe_int)) pss_nil)
      (pss_cons (ps_setLc (i := 2) (own := [("index", 3), ("top", 4)]) (g := gTup K 2 (gCons (gName 3) (gCons (gName 4) gNil))) rfl sc_fewIn.nd rfl rfl (sw_true rfl rfl rfl (by decide +kernel)) (pi_enum (by rfl) T.enum (pa_cons (pv 0) pa_nil))
        (blkOk_by (own := [("index", 3), ("top", 4)]) (N := ["tops", "length", "many", "index", "top"]) (sc := defScope sFewIn) (by decide +kernel))
        (fun _ _ _ _ _ => pg_tup rfl (pgs_cons (pg_name (i := 3) sc_fewIn.nd rfl (.inl rfl)) (pgs_cons (pg_name (i := 4) sc_fewIn.nd rfl (.inl rfl)) pgs_nil)))
        (fun _ _ _ _ _ => pts_one (pt_cmpR op_ge (pv 4) (pv 1) (nomark _))) (fun _ _ _ _ _ => pv 3))
      (pss_one (ps_ret (pe_ifExp (pt_cmpR (op_neD hr.units) (pv 2) (pe_lst pa_nil) (nomark _)) (pe_ix ix_list (pv 2) pe_int (fun _ _ => rfl)) pe_non)))), ?_⟩
    refine ⟨_, rfl, rfl, _, rfl, ite2 (fun h1 => ?_) (fun h1 => ?_)⟩
    · have h2 : len = 0 := V.int.inj (of_decide_eq_true h1)
      exact q H (some 1) (Same.refl H) (.inl ⟨h2, rfl⟩)
    have hlen : 0 < len := by
      have : len ≠ 0 := fun e => h1 (decide_eq_true (by rw [e]))
      omega
    refine ⟨_, rfl, p, vi (lay r n), rfl, hp, fun D nD => ?_⟩
    refine lc_it walk_enum (fun i H1 => Same H H1 ∧ H1 D = some (.lst (vi ((idx r len i).map Int.ofNat)))) ⟨same_new nD, upd_same⟩ (fun i H1 _ h => h.1.seq hp) ?_ ?_
    · rintro i y H1 H1' hi ⟨k1, h1⟩ ⟨t, y1, y2, rfl, nt, rfl, e1, e2⟩
      cases e1
      obtain ⟨b, hb, rfl⟩ := vi_get e2
      rw [lenV, lay_len] at hi
      have eb : b = L r i := Option.some.inj (hb.symm.trans (lay_get (by omega)))
      subst eb
      have k2 := same_upd (o := .tup [V.int (i : Int), V.int (L r i)]) k1 (k1.free nt)
      have ntD : D ≠ t := ne_of_none h1 nt
      refine ⟨t, _, rfl, SqT.of upd_same, rfl, _, _, rfl, _, _, rfl, rfl, rfl, _, rfl, _, rfl, _, _, rfl, rfl, _, rfl, ite2 (fun h2 => ?_) (fun h2 => ?_)⟩
      · refine ⟨_, rfl, _, (by rw [upd_ne ntD]; exact h1), ?_, same_upd k2 nD, ?_⟩
        · rw [lenV, List.length_map]; have := idx_len r len i; exact small1000 (by omega)
        · rw [upd_same, idx_succ, if_pos (of_decide_eq_true h2), vi_snoc, List.map_append]; rfl
      · refine ⟨k2, ?_⟩
        rw [upd_ne ntD, idx_succ, if_neg fun z => h2 (decide_eq_true z)]; exact h1
    · rintro H1 ⟨k1, h1⟩
      rw [lenV, lay_len] at h1
      obtain ⟨f1, f2⟩ := few_list RC LN hlen (ks := idx r len (n + 1)) rfl
      refine ⟨_, rfl, Nat.zero_le _, fun e ne => ?_⟩
      have nDe : D ≠ e := ne_of_none h1 ne
      have h2 : (upd H1 e (.lst [])) D = some (.lst (vi ((idx r len (n + 1)).map Int.ofNat))) := by rw [upd_ne nDe]; exact h1
      have k2 : Same H (upd H1 e (.lst [])) := same_upd k1 (k1.free ne)
      refine ⟨_, _, .lst (SqL.of h2) (dpAll_vi _), .lst (SqL.of upd_same) (dpAll_vi []), shaped_vi _, shaped_vi [], _, rfl, ?_⟩
      rw [eqv_vi]
      generalize idx r len (n + 1) = ks at h2 f1 f2
      cases ks with
      | nil => exact q _ none k2 (f1 rfl)
      | cons k rest => exact ⟨_, rfl, D, _, 0, .int (k : Int), rfl, rfl, SqL.of h2, atI_nat (j := 0) rfl, q _ (some (k : Int)) k2 (f2 k rest rfl)⟩
theorem sc_fewest : FnScope ["room", "cap", "length"] ["room", "cap", "length"] (defScope sFewest) := ⟨rfl, rfl, rfl, by decide +kernel, rfl, by decide +kernel, by decide +kernel⟩
theorem ok_fewest {f : Addr} {fd : FuncData} (F : Fun K "fewest" "fewest" sFewest f fd) (D1 : DefOk P w K mg base "check_all" 4 ["room", "cap", "length"] (spCheckAll CR)) (D2 : DefOk P w K mg base "layers" 6 ["room", "cap"] (spLayers CS CR)) (D3 : DefOk P w K mg base "fewest_in" 1 ["tops", "length"] (spFewIn K)) : FnOk P w K mg base CX0 7 f fd ["room", "cap", "length"] (spFewest CS CR) := by
  refine F.ok sc_fewest (fun vs H Q E h => ?_) (fun cdv A outer s H vs Q E hr h => ?_)
  · obtain ⟨x, z, c, len, bs, rfl, _⟩ := h; rfl
  · obtain ⟨x, z, c, len, bs, rfl, R, B, c0, c1, z0, z1, l0, l1, q⟩ := h
    obtain ⟨dx, s, hx, _⟩ := R.ex
    refine ⟨_, pss_cons (ps_expr (pe_def D1 hr (pa_cons (pv 0) (pa_cons (pv 1) (pa_cons (pv 2) pa_nil)))))
      (pss_one (ps_ret (pe_def D3 hr (pa_cons (pe_def D2 hr (pa_cons (pv 0) (pa_cons (pv 1) pa_nil))) (pa_cons (pv 2) pa_nil))))), ?_⟩
    refine ⟨_, rfl, _, rfl, _, rfl, x, dx, _, c, len, rfl, hx, c0, c1, l0, l1, _, rfl, _, rfl, x, z, c, bs, rfl, R, B, c0, c1, z0, z1, fun H1 p n k1 N h1 => ?_⟩
    have RC := rch_of (c := c) B z0 c0
    have hn := LayN.le RC N.up
    exact ⟨_, rfl, p, len, z, WL.reach bs z c, n, rfl, SqL.of h1, RC, N, by omega, l0, fun H2 o k2 f => q H2 o (k1.trans k2) f⟩
theorem sc_goes : FnScope ["room", "cap", "length"] ["room", "cap", "length"] (defScope sGoes) := ⟨rfl, rfl, rfl, by decide +kernel, rfl, by decide +kernel, by decide +kernel⟩
theorem ok_goes {f : Addr} {fd : FuncData} (F : Fun K "goes" "goes" sGoes f fd) (T : Txt K mg CS CR) (D1 : DefOk P w K mg base "check_all" 4 ["room", "cap", "length"] (spCheckAll CR)) (M : MethOk P w K mg base CR "top" 4 ["self", "cap"] (spTop CS CR)) : FnOk P w K mg base CX0 5 f fd ["room", "cap", "length"] (spGoes CS CR) := by
  refine F.ok sc_goes (fun vs H Q E h => ?_) (fun cdv A outer s H vs Q E hr h => ?_)
  · obtain ⟨x, z, c, len, bs, rfl, _⟩ := h; rfl
  · obtain ⟨x, z, c, len, bs, rfl, R, B, c0, c1, l0, l1, q⟩ := h
    obtain ⟨dx, s, hx, _⟩ := R.ex
    refine ⟨_, pss_cons (ps_expr (pe_def D1 hr (pa_cons (pv 0) (pa_cons (pv 1) (pa_cons (pv 2) pa_nil)))))
      (pss_one (ps_ret (pe_cmpR op_le (pv 2) (pe_mt M T.iR.cl hr (pv 0) (pa_cons (pv 1) pa_nil)) (nomark _)))), ?_⟩
    exact ⟨_, rfl, _, rfl, _, rfl, x, dx, _, c, len, rfl, hx, c0, c1, l0, l1, _, rfl, _, rfl, x, dx, _, rfl, hx, rmF_top _ _, _, rfl, x, z, c, bs, rfl, R, B, c0, c1, _, _, rfl, rfl, q⟩
theorem sc_least : FnScope ["room", "length", "cap"] ["room", "length"] (defScope sLeast) := ⟨rfl, rfl, rfl, by decide +kernel, rfl, by decide +kernel, by decide +kernel⟩
theorem ok_least {f : Addr} {fd : FuncData} (F : Fun K "least_cap" "least_cap" sLeast f fd) (T : Txt K mg CS CR) (D1 : DefOk P w K mg base "check_room" 1 ["room"] (spCheckRoom CR)) (D2 : DefOk P w K mg base "check_length" 3 ["length"] spChk) (M : MethOk P w K mg base CR "top" 4 ["self", "cap"] (spTop CS CR)) : FnOk P w K mg base CX0 5 f fd ["room", "length"] (spLeast CS CR) := by
  refine F.ok sc_least (fun vs H Q E h => ?_) (fun cdv A outer s H vs Q E hr h => ?_)
  · obtain ⟨x, z, len, bs, rfl, _⟩ := h; rfl
  · obtain ⟨x, z, len, bs, rfl, R, B, z0, z1, l0, l1, q⟩ := h
    obtain ⟨dx, s, hx, _⟩ := R.ex
    refine ⟨_, pss_cons (ps_expr (pe_def D1 hr (pa_cons (pv 0) pa_nil))) (pss_cons (ps_expr (pe_def D2 hr (pa_cons (pv 1) pa_nil)))
      (pss_cons (ps_for PassesOwn.never rfl (pi_range1 (by rfl) T.range (pa_cons (pe_op op_add (pe_k T.cap99) pe_int) pa_nil)) (pg_name (i := 2) sc_least.nd rfl (.inl rfl))
        (pss_one (ps_if (pt_cmpR op_le (pv 1) (pe_mt M T.iR.cl hr (pv 0) (pa_cons (pv 2) pa_nil)) (nomark _)) (pss_one (ps_ret (pv 2))) pss_nil)))
      (pss_one (ps_ret pe_non)))), ?_⟩
    refine ⟨_, rfl, x, dx, _, rfl, hx, _, rfl, len, rfl, l0, l1, _, _, rfl, rfl, 100, rfl, by decide, by decide, ?_⟩
    refine for_range (lo := 0) (n := 100) (fun i σ H1 => ∃ v, σ = [some (.ref x), some (.int len), v] ∧ H1 = H ∧ ∀ j : Nat, j < i → ¬ len ≤ tp bs z (j : Int)) ⟨none, rfl, rfl, fun j hj => by omega⟩ ?_ ?_
    · rintro i σ H1 hi ⟨v, rfl, rfl, no⟩
      refine ⟨_, rfl, _, rfl, x, dx, _, rfl, hx, rmF_top _ _, _, rfl, x, z, _, bs, rfl, R, B, by omega, by omega, _, _, rfl, rfl, _, rfl, ite2 (fun h1 => ?_) (fun h1 => ?_)⟩
      · have h1 : len ≤ tp bs z (0 + (i : Int)) := of_decide_eq_true h1
        rw [Int.zero_add] at h1
        have e : V.int (0 + (i : Int)) = ov (some (i : Int)) := by rw [Int.zero_add]; rfl
        exact ⟨_, rfl, by rw [e]; exact q _ (.inl ⟨i, rfl, h1, no⟩)⟩
      · refine ⟨_, rfl, rfl, fun j hj => ?_⟩
        by_cases h : j = i
        · subst h
          intro h2
          exact h1 (decide_eq_true (show len ≤ tp bs z (0 + (j : Int)) by rw [Int.zero_add]; exact h2))
        · exact no j (by omega)
    · rintro σ H1 ⟨v, rfl, rfl, no⟩
      exact q none (.inr ⟨rfl, tp_small (n := 99) B z0 (by omega) fun k hk => no k (by omega)⟩)
end
end WL

namespace WL
open PySem PySem.Spec PyProof.Rows L2
def spPool (K : PySem.W.Frag) : Sp := fun vs H Q _ => ∃ (a : Addr) (ns : List Int), vs = [.ref a] ∧ SqL K H a (vi ns) ∧ ∀ p H', H p = none → Same H H' → PoolAt K H' p a ns 0 → Q (.ref p) H'
def spDraw (K : PySem.W.Frag) : Sp := fun vs H Q _ => ∃ (p a : Addr) (ns : List Int) (m : Int) (B : Nat), vs = [.ref p, .int m] ∧ PoolAt K H p a ns B ∧ B ≤ 1000000 ∧ 0 < m ∧ m < 1000 ∧
  ∀ d H', 0 ≤ d → d < m → SB p H H' → PoolAt K H' p a ns (B + 1) → Q (.int d) H'
def spBounds (K : PySem.W.Frag) : Sp := fun vs H Q _ => ∃ (p a : Addr) (ns : List Int) (z : Int) (B : Nat), vs = [.ref p, .int z] ∧ PoolAt K H p a ns B ∧ B ≤ 1000 ∧ 1 ≤ z ∧ z ≤ 50 ∧
  ∀ H' l bs, SB p H H' → PoolAt K H' p a ns (B + 5) → H' l = some (.lst (vi bs)) → Bnds bs → Q (.ref l) H'
def spLTold : Sp := fun vs H Q _ => ∃ (l : Addr) (bs : List Int) (f : Int), vs = [.ref l, .int f] ∧ H l = some (.lst (vi bs)) ∧ Q (.int (told bs f)) H
def spLReach : Sp := fun vs H Q _ => ∃ (q : Addr) (z h c : Int) (bs : List Int), vs = [.ref q, .int h, .int c] ∧ CaseAt H q z bs ∧ Q (.int (reach bs z c h)) H
def spCase (K : PySem.W.Frag) : Sp := fun vs H Q _ => ∃ (p a : Addr) (ns : List Int) (m : Int) (B : Nat), vs = [.ref p, .int m] ∧ PoolAt K H p a ns B ∧ B ≤ 100 ∧ 1 ≤ m ∧ m ≤ 12 ∧
  ∀ H' q z bs, SB p H H' → PoolAt K H' p a ns (B + 6) → 1 ≤ z → z ≤ m → Bnds bs → CaseAt H' q z bs → Q (.ref q) H'
def spMade (CS CR : Addr) : Sp := fun vs H Q _ => ∃ (q : Addr) (z : Int) (bs : List Int), vs = [.ref q] ∧ CaseAt H q z bs ∧ 1 ≤ z ∧ z ≤ 60 ∧ Bnds bs ∧
  ∀ H' x, Same H H' → RoomAt CS CR H' x z bs → Q (.ref x) H'
section
variable {P : Program} {w : World} {K : PySem.W.Frag} {mg : Str → Option Value} {base : Heap} {CS CR : Addr}
theorem sc_pool : FnScope ["_law_script"] ["_law_script"] (defScope sPool) := ⟨rfl, rfl, rfl, by decide +kernel, rfl, by decide +kernel, by decide +kernel⟩
theorem ok_pool {f : Addr} {fd : FuncData} (F : Fun K "_law_pool" "_law_pool" sPool f fd) : FnOk P w K mg base CX0 1 f fd ["_law_script"] (spPool K) := by
  refine F.ok sc_pool (fun vs H Q E h => ?_) (fun cdv A outer s H vs Q E hr h => ?_)
  · obtain ⟨a, ns, rfl, _⟩ := h; rfl
  · obtain ⟨a, ns, rfl, hS, q⟩ := h
    refine ⟨_, pss_one (ps_ret (pe_lst (pa_cons (pv 0) (pa_cons pe_int (pa_cons pe_int (pa_cons pe_int (pa_cons pe_int pa_nil))))))), ?_⟩
    refine ⟨_, rfl, (by show 5 ≤ sizeLine; decide), fun p np => q p _ np (same_new np) ⟨⟨0, 0, 0, 7, upd_same, by omega, by omega, by omega, by omega, by omega, by omega⟩, (same_new np).seq hS⟩⟩
theorem sc_draw : FnScope ["_law_pool_here", "_law_limit", "_law_cell", "_law_digit", "_law_mixed"] ["_law_pool_here", "_law_limit"] (defScope sDraw) := ⟨rfl, rfl, rfl, by decide +kernel, rfl, by decide +kernel, by decide +kernel⟩
theorem ok_draw {f : Addr} {fd : FuncData} (F : Fun K "_law_draw" "_law_draw" sDraw f fd) (T : Txt K mg CS CR) : FnOk P w K mg base CX0 1 f fd ["_law_pool_here", "_law_limit"] (spDraw K) := by
  refine F.ok sc_draw (fun vs H Q E h => ?_) (fun cdv A outer s H vs Q E hr h => ?_)
  · obtain ⟨p, a, ns, m, B, rfl, _⟩ := h; rfl
  · obtain ⟨p, a, ns, m, B, rfl, hP, hB, m0, m1, q⟩ := h
    obtain ⟨c, i, b, z, hp, c0, c1, i0, b0, z0, z1⟩ := hP.ex
    have hS := hP.sc
    refine ⟨_, pss_cons (ps_asg (pe_op op_add (pe_ix ix_list (pv 0) pe_int (fun _ _ => rfl)) pe_int) (pg_sub (pv 0) pe_int set_list))
      (pss_cons (ps_if (PW.pt (pw_and (pt_cmpR op_eq (pe_ix ix_list (pv 0) pe_int (fun _ _ => rfl)) pe_int (nomark _)) (pw_and1 (pt_cmpR op_lt (pe_ix ix_list (pv 0) pe_int (fun _ _ => rfl)) (pe_callB call_len_seq (by rfl) T.len bt_len (pa_cons (pe_ix ix_list (pv 0) pe_int (fun _ _ => rfl)) pa_nil)) (nomark _)))))
        (pss_cons (ps_set (i := 2) sc_draw.nd rfl (.inl rfl) (pe_callB call_abs (by rfl) T.abs bt_abs (pa_cons (pe_ix ix_list (pe_ix ix_list (pv 0) pe_int (fun _ _ => rfl)) (pe_ix ix_list (pv 0) pe_int (fun _ _ => rfl)) (fun _ _ => rfl)) pa_nil)))
        (pss_cons (ps_asg (pe_op op_add (pe_ix ix_list (pv 0) pe_int (fun _ _ => rfl)) pe_int) (pg_sub (pv 0) pe_int set_list))
        (pss_one (ps_if (pt_cmpR op_ge (pv 2) (pe_op op_pow pe_int pe_int) (nomark _))
          (pss_one (ps_asg (pv 2) (pg_sub (pv 0) pe_int set_list)))
          (pss_one (ps_asg (pe_op op_mod (pe_callTy call_int1 (by rfl) T.int bt_int (pa_cons (pe_op op_mul (pe_op op_add (pe_op op_add (pe_ix ix_list (pv 0) pe_int (fun _ _ => rfl)) (pv 2)) pe_int) pe_int) pa_nil)) pe_int) (pg_sub (pv 0) pe_int set_list))))))) pss_nil)
      (pss_cons (ps_if (pt_cmpR op_gt (pe_ix ix_list (pv 0) pe_int (fun _ _ => rfl)) pe_int (nomark _))
        (pss_cons (ps_set (i := 3) sc_draw.nd rfl (.inl rfl) (pe_op op_mod (pe_callTy call_int1 (by rfl) T.int bt_int (pa_cons (pe_ix ix_list (pv 0) pe_int (fun _ _ => rfl)) pa_nil)) (pv 1)))
        (pss_cons (ps_asg (pe_op op_fdivN (pe_ix ix_list (pv 0) pe_int (fun _ _ => rfl)) (pv 1)) (pg_sub (pv 0) pe_int set_list))
        (pss_one (ps_ret (pv 3))))) pss_nil)
      (pss_cons (ps_set (i := 4) sc_draw.nd rfl (.inl rfl) (pe_op op_mod (pe_callTy call_int1 (by rfl) T.int bt_int (pa_cons (pe_op op_pow (pe_op op_add (pe_ix ix_list (pv 0) pe_int (fun _ _ => rfl)) (pe_op op_mul (pe_ix ix_list (pv 0) pe_int (fun _ _ => rfl)) pe_int)) pe_int) pa_nil)) pe_int))
      (pss_one (ps_ret (pe_op op_mod (pe_callTy call_int1 (by rfl) T.int bt_int (pa_cons (pe_op op_fdivN (pv 4) pe_int) pa_nil)) (pv 1))))))), ?_⟩
    -- pool[1] = pool[1] + 1
    refine ⟨_, rfl, p, _, 1, .int c, rfl, rfl, SqL.of hp, rfl, _, _, rfl, rfl, _, rfl, p, _, 1, 1, rfl, rfl, hp, rfl, ?_⟩
    have g1 : (upd H p (.lst ((plF a c i b z).set 1 (V.int (c + 1))))) p = some (.lst (plF a (c + 1) i b z)) := upd_same
    have s1 : SB p H (upd H p (.lst ((plF a c i b z).set 1 (V.int (c + 1))))) := SB.put (SB.refl _ _)
    generalize (upd H p (.lst ((plF a c i b z).set 1 (V.int (c + 1))))) = H1 at g1 s1
    -- the rest, from any pool
    have tail : ∀ (v2 : Option V) (H2 : Hp) (i b z : Int), H2 p = some (.lst (plF a (c + 1) i b z)) → SB p H H2 → 0 ≤ i → 0 ≤ b → 0 ≤ z → z < 2147483629 →
        (∀ d b', 0 ≤ d → d < m → 0 ≤ b' → ∀ H3, H3 p = some (.lst (plF a (c + 1) i b' z)) → SB p H H3 → Q (.int d) H3) := by
      intro v2 H2 i b z h2 sb i0 b0 z0 z1 d b' d0 d1 b0' H3 h3 sb3
      exact q d H3 d0 d1 sb3 ⟨⟨c + 1, i, b', z, h3, by omega, by omega, i0, b0', z0, z1⟩, SqL.sbp (by rw [hp]; rfl) sb3 hS⟩
    have modm : ∀ y : Int, 0 ≤ y % m ∧ y % m < m := fun y => ⟨Int.emod_nonneg _ (by omega), Int.emod_lt_of_pos _ m0⟩
    -- if pool[3] == 0 and pool[2] < len(pool[0])
    refine ⟨_, rfl, p, _, 3, .int b, rfl, rfl, SqL.of g1, rfl, rfl, _, rfl, ite2 (fun h1 => ?_) (fun h1 => iteF ?_)⟩
    · refine ⟨_, rfl, p, _, 2, .int i, rfl, rfl, SqL.of g1, rfl, _, rfl, p, _, 0, .ref a, rfl, rfl, SqL.of g1, rfl, a, vi ns, rfl, .inl (SqL.sbp (by rw [hp]; rfl) s1 hS), _, _, rfl, rfl, _, rfl, ite2 (fun h2 => ?_) (fun h2 => ?_)⟩
      · have h2 : i < ((vi ns).length : Int) := of_decide_eq_true h2
        rw [lenV] at h2
        have hil : i.toNat < ns.length := by omega
        -- cell = abs(pool[0][pool[2]])
        refine ⟨_, rfl, p, _, 0, .ref a, rfl, rfl, SqL.of g1, rfl, _, rfl, p, _, 2, .int i, rfl, rfl, SqL.of g1, rfl, a, vi ns, i, .int ns[i.toNat], rfl, rfl, SqL.sbp (by rw [hp]; rfl) s1 hS, at_of (j := i.toNat) (by omega) (by rw [List.getElem?_map, List.getElem?_eq_getElem hil]; rfl), _, rfl, ?_⟩
        have ab0 : 0 ≤ (if ns[i.toNat] < 0 then -ns[i.toNat] else ns[i.toNat]) := by split <;> omega
        generalize (if ns[i.toNat] < 0 then -ns[i.toNat] else ns[i.toNat]) = cell at ab0
        refine ⟨_, rfl, p, _, 2, .int i, rfl, rfl, SqL.of g1, rfl, _, _, rfl, rfl, _, rfl, p, _, 2, 2, rfl, rfl, g1, rfl, ?_⟩
        have g2 : (upd H1 p (.lst ((plF a (c + 1) i b z).set 2 (V.int (i + 1))))) p = some (.lst (plF a (c + 1) (i + 1) b z)) := upd_same
        have s2 : SB p H (upd H1 p (.lst ((plF a (c + 1) i b z).set 2 (V.int (i + 1))))) := SB.put s1
        generalize (upd H1 p (.lst ((plF a (c + 1) i b z).set 2 (V.int (i + 1))))) = H2 at g2 s2
        refine ⟨_, rfl, _, _, rfl, rfl, ⟨by decide, by decide, by decide⟩, _, _, rfl, rfl, _, rfl, ite2 (fun h3 => ?_) (fun h3 => ?_)⟩
        · refine ⟨_, rfl, _, rfl, p, _, 3, 3, rfl, rfl, g2, rfl, ?_⟩
          have g3 : (upd H2 p (.lst ((plF a (c + 1) (i + 1) b z).set 3 (V.int cell)))) p = some (.lst (plF a (c + 1) (i + 1) cell z)) := upd_same
          have s3 : SB p H (upd H2 p (.lst ((plF a (c + 1) (i + 1) b z).set 3 (V.int cell)))) := SB.put s2
          generalize (upd H2 p (.lst ((plF a (c + 1) (i + 1) b z).set 3 (V.int cell)))) = H3 at g3 s3
          have q' := tail none H3 (i + 1) cell z g3 s3 (by omega) ab0 z0 z1
          clear tail q
          refine ⟨_, rfl, p, _, 3, .int cell, rfl, rfl, SqL.of g3, rfl, _, _, rfl, rfl, _, rfl, ite2 (fun h4 => ?_) (fun h4 => ?_)⟩
          · refine ⟨_, rfl, p, _, 3, .int cell, rfl, rfl, SqL.of g3, rfl, .inl ⟨_, rfl, _, rfl, _, _, rfl, rfl, m0, ?_⟩⟩
            refine ⟨_, rfl, p, _, 3, .int cell, rfl, rfl, SqL.of g3, rfl, _, rfl, _, _, rfl, rfl, ⟨by omega, by omega⟩, _, rfl, p, _, 3, 3, rfl, rfl, g3, rfl, _, rfl, ?_⟩
            exact q' _ _ (modm _).1 (modm _).2 (by rw [Int.fdiv_eq_ediv_of_nonneg _ (by omega)]; exact Int.ediv_nonneg ab0 (by omega)) _ upd_same (SB.put s3)
          · refine ⟨_, rfl, p, _, 4, .int z, rfl, rfl, SqL.of g3, rfl, _, rfl, p, _, 1, .int (c + 1), rfl, rfl, SqL.of g3, rfl, _, _, rfl, rfl, .inr ⟨by decide, by decide⟩, _, _, rfl, rfl, _, _, rfl, rfl, ⟨by decide, by decide, by omega⟩, .inl ⟨_, rfl, _, _, rfl, rfl, (by show (0 : Int) < 2147483647; decide), ?_⟩⟩
            refine ⟨_, rfl, _, _, rfl, rfl, ⟨by decide, by decide⟩, .inl ⟨_, rfl, _, rfl, _, _, rfl, rfl, m0, ?_⟩⟩
            exact q' _ _ (modm _).1 (modm _).2 ab0 _ g3 s3
        · refine ⟨_, rfl, p, _, 4, .int z, rfl, rfl, SqL.of g2, rfl, _, rfl, _, _, rfl, rfl, _, _, rfl, rfl, _, _, rfl, rfl, .inr ⟨by decide, by decide⟩, .inl ⟨_, rfl, _, _, rfl, rfl, (by show (0 : Int) < 2147483629; decide), _, rfl, p, _, 4, 4, rfl, rfl, g2, rfl, ?_⟩⟩
          have y0 : 0 ≤ (z + cell + 1) * 48271 % 2147483629 := Int.emod_nonneg _ (by decide)
          have y1 : (z + cell + 1) * 48271 % 2147483629 < 2147483629 := Int.emod_lt_of_pos _ (by decide)
          have g3 : (upd H2 p (.lst ((plF a (c + 1) (i + 1) b z).set 4 (V.int ((z + cell + 1) * 48271 % 2147483629))))) p = some (.lst (plF a (c + 1) (i + 1) b ((z + cell + 1) * 48271 % 2147483629))) := upd_same
          have s3 : SB p H (upd H2 p (.lst ((plF a (c + 1) (i + 1) b z).set 4 (V.int ((z + cell + 1) * 48271 % 2147483629))))) := SB.put s2
          generalize (upd H2 p (.lst ((plF a (c + 1) (i + 1) b z).set 4 (V.int ((z + cell + 1) * 48271 % 2147483629))))) = H3 at g3 s3
          generalize (z + cell + 1) * 48271 % 2147483629 = y at y0 y1 g3
          have q' := tail none H3 (i + 1) b y g3 s3 (by omega) b0 y0 y1
          clear tail q
          refine ⟨_, rfl, p, _, 3, .int b, rfl, rfl, SqL.of g3, rfl, _, _, rfl, rfl, _, rfl, ite2 (fun h4 => ?_) (fun h4 => ?_)⟩
          · refine ⟨_, rfl, p, _, 3, .int b, rfl, rfl, SqL.of g3, rfl, .inl ⟨_, rfl, _, rfl, _, _, rfl, rfl, m0, ?_⟩⟩
            refine ⟨_, rfl, p, _, 3, .int b, rfl, rfl, SqL.of g3, rfl, _, rfl, _, _, rfl, rfl, ⟨by omega, by omega⟩, _, rfl, p, _, 3, 3, rfl, rfl, g3, rfl, _, rfl, ?_⟩
            exact q' _ _ (modm _).1 (modm _).2 (by rw [Int.fdiv_eq_ediv_of_nonneg _ (by omega)]; exact Int.ediv_nonneg b0 (by omega)) _ upd_same (SB.put s3)
          · refine ⟨_, rfl, p, _, 4, .int y, rfl, rfl, SqL.of g3, rfl, _, rfl, p, _, 1, .int (c + 1), rfl, rfl, SqL.of g3, rfl, _, _, rfl, rfl, .inr ⟨by decide, by decide⟩, _, _, rfl, rfl, _, _, rfl, rfl, ⟨by decide, by decide, by omega⟩, .inl ⟨_, rfl, _, _, rfl, rfl, (by show (0 : Int) < 2147483647; decide), ?_⟩⟩
            refine ⟨_, rfl, _, _, rfl, rfl, ⟨by decide, by decide⟩, .inl ⟨_, rfl, _, rfl, _, _, rfl, rfl, m0, ?_⟩⟩
            exact q' _ _ (modm _).1 (modm _).2 b0 _ g3 s3
      · have q' := tail none H1 i b z g1 s1 i0 b0 z0 z1
        clear tail q
        refine ⟨_, rfl, p, _, 3, .int b, rfl, rfl, SqL.of g1, rfl, _, _, rfl, rfl, _, rfl, ite2 (fun h4 => ?_) (fun h4 => ?_)⟩
        · refine ⟨_, rfl, p, _, 3, .int b, rfl, rfl, SqL.of g1, rfl, .inl ⟨_, rfl, _, rfl, _, _, rfl, rfl, m0, ?_⟩⟩
          refine ⟨_, rfl, p, _, 3, .int b, rfl, rfl, SqL.of g1, rfl, _, rfl, _, _, rfl, rfl, ⟨by omega, by omega⟩, _, rfl, p, _, 3, 3, rfl, rfl, g1, rfl, _, rfl, ?_⟩
          exact q' _ _ (modm _).1 (modm _).2 (by rw [Int.fdiv_eq_ediv_of_nonneg _ (by omega)]; exact Int.ediv_nonneg b0 (by omega)) _ upd_same (SB.put s1)
        · refine ⟨_, rfl, p, _, 4, .int z, rfl, rfl, SqL.of g1, rfl, _, rfl, p, _, 1, .int (c + 1), rfl, rfl, SqL.of g1, rfl, _, _, rfl, rfl, .inr ⟨by decide, by decide⟩, _, _, rfl, rfl, _, _, rfl, rfl, ⟨by decide, by decide, by omega⟩, .inl ⟨_, rfl, _, _, rfl, rfl, (by show (0 : Int) < 2147483647; decide), ?_⟩⟩
          refine ⟨_, rfl, _, _, rfl, rfl, ⟨by decide, by decide⟩, .inl ⟨_, rfl, _, rfl, _, _, rfl, rfl, m0, ?_⟩⟩
          exact q' _ _ (modm _).1 (modm _).2 b0 _ g1 s1
    · have q' := tail none H1 i b z g1 s1 i0 b0 z0 z1
      clear tail q
      refine ⟨_, rfl, p, _, 3, .int b, rfl, rfl, SqL.of g1, rfl, _, _, rfl, rfl, _, rfl, ite2 (fun h4 => ?_) (fun h4 => ?_)⟩
      · refine ⟨_, rfl, p, _, 3, .int b, rfl, rfl, SqL.of g1, rfl, .inl ⟨_, rfl, _, rfl, _, _, rfl, rfl, m0, ?_⟩⟩
        refine ⟨_, rfl, p, _, 3, .int b, rfl, rfl, SqL.of g1, rfl, _, rfl, _, _, rfl, rfl, ⟨by omega, by omega⟩, _, rfl, p, _, 3, 3, rfl, rfl, g1, rfl, _, rfl, ?_⟩
        exact q' _ _ (modm _).1 (modm _).2 (by rw [Int.fdiv_eq_ediv_of_nonneg _ (by omega)]; exact Int.ediv_nonneg b0 (by omega)) _ upd_same (SB.put s1)
      · refine ⟨_, rfl, p, _, 4, .int z, rfl, rfl, SqL.of g1, rfl, _, rfl, p, _, 1, .int (c + 1), rfl, rfl, SqL.of g1, rfl, _, _, rfl, rfl, .inr ⟨by decide, by decide⟩, _, _, rfl, rfl, _, _, rfl, rfl, ⟨by decide, by decide, by omega⟩, .inl ⟨_, rfl, _, _, rfl, rfl, (by show (0 : Int) < 2147483647; decide), ?_⟩⟩
        refine ⟨_, rfl, _, _, rfl, rfl, ⟨by decide, by decide⟩, .inl ⟨_, rfl, _, rfl, _, _, rfl, rfl, m0, ?_⟩⟩
        exact q' _ _ (modm _).1 (modm _).2 b0 _ g1 s1
end
end WL

namespace WL
open PySem PySem.Spec PyProof.Rows L2
section
variable {P : Program} {w : World} {K : PySem.W.Frag} {mg : Str → Option Value} {base : Heap} {CS CR : Addr}
theorem filter_take {ns : List Int} {i : Nat} {x : Int} (p : Int → Bool) (h : ns[i]? = some x) : (ns.take (i + 1)).filter p = if p x = true then (ns.take i).filter p ++ [x] else (ns.take i).filter p := by
  rw [List.take_add_one, h, List.filter_append]
  split
  · rename_i q; simp [q]
  · rename_i q; simp [q]
theorem sc_bounds : FnScope ["_law_pool_here", "_law_size", "_law_found", "_law_k", "_law_bound", "_law_one"] ["_law_pool_here", "_law_size"] (defScope sBounds) := ⟨rfl, rfl, rfl, by decide +kernel, rfl, by decide +kernel, by decide +kernel⟩
theorem ok_bounds {f : Addr} {fd : FuncData} (F : Fun K "_law_bounds" "_law_bounds" sBounds f fd) (T : Txt K mg CS CR) (D : DefOk P w K mg base "_law_draw" 1 ["_law_pool_here", "_law_limit"] (spDraw K)) : FnOk P w K mg base CX0 2 f fd ["_law_pool_here", "_law_size"] (spBounds K) := by
  refine F.ok sc_bounds (fun vs H Q E h => ?_) (fun cdv A outer s H vs Q E hr h => ?_)
  · obtain ⟨p, a, ns, z, B, rfl, _⟩ := h; rfl
  · obtain ⟨p, a, ns, z, B, rfl, hP, hB, z0, z1, q⟩ := h
    refine ⟨_, pss_cons (ps_set (i := 2) sc_bounds.nd rfl (.inl rfl) (pe_lst pa_nil))
      (pss_cons (ps_for PassesOwn.never rfl (pi_range1 (by rfl) T.range (pa_cons (pe_op op_add pe_int (pe_def D hr (pa_cons (pv 0) (pa_cons pe_int pa_nil)))) pa_nil)) (pg_name (i := 3) sc_bounds.nd rfl (.inl rfl))
        (pss_cons (ps_set (i := 4) sc_bounds.nd rfl (.inr rfl) (pe_op op_add pe_int (pe_def D hr (pa_cons (pv 0) (pa_cons (pe_callB (call_min2 rfl) (by rfl) T.min bt_min (pa_cons pe_int (pa_cons (pe_op op_add (pe_callTy call_int1 (by rfl) T.int bt_int (pa_cons (pv 1) pa_nil)) pe_int) pa_nil))) pa_nil)))))
        (pss_one (ps_if (pt_cmpR op_notIn_seq (pv 4) (pv 2) (by rfl))
          (pss_one (ps_expr (pe_bm PySem.F.plainAttrs_list PySem.F.slot_list_insert PySem.F.type_list_insert mt_insert (pv 2) (pa_cons (pe_callB call_len_seq (by rfl) T.len bt_len (pa_cons
            (pe_lc (own := [("_law_one", 5)]) (g := gName 5) rfl sc_bounds.nd (pi_list (pv 2)) (blkOk_by (own := [("_law_one", 5)]) (N := ["_law_pool_here", "_law_size", "_law_found", "_law_k", "_law_bound", "_law_one"]) (sc := defScope sBounds) (by decide +kernel))
              (fun _ _ _ _ _ => pg_name (i := 5) sc_bounds.nd rfl (Or.inl rfl)) (fun _ _ _ _ _ => pts_one (pt_cmpR op_lt (pv 5) (pv 4) (nomark _))) (fun _ _ _ _ _ => pv 5)) pa_nil)) (pa_cons (pv 4) pa_nil))))) pss_nil))))
      (pss_one (ps_ret (pv 2)))), ?_⟩
    -- found = []; the number of turns
    refine ⟨Nat.zero_le _, fun l nl => ?_⟩
    have k0 : Same H (upd H l (.lst [])) := same_new nl
    obtain ⟨xs, hpl⟩ := hP.lst
    have npl : p ≠ l := ne_of_none hpl nl
    refine ⟨_, rfl, p, a, ns, 4, B, rfl, hP.same k0, by omega, by omega, by omega, fun d H1 d0 d1 s1 P1 => ?_⟩
    refine ⟨_, _, rfl, rfl, 1 + d, rfl, by omega, by omega, ?_⟩
    obtain ⟨n, hn⟩ : ∃ n : Nat, (1 + d).toNat = n := ⟨_, rfl⟩
    rw [hn]
    have hl1 : H1 l = some (.lst (vi [])) := s1 _ _ upd_same npl.symm
    refine for_range (lo := 0) (n := n) (fun i σ H2 => ∃ bs v3 v4, σ = [some (.ref p), some (.int z), some (.ref l), v3, v4, none] ∧ SB p H H2 ∧ PoolAt K H2 p a ns (B + 1 + i) ∧ H2 l = some (.lst (vi bs)) ∧ Fnd bs i)
      ⟨[], none, none, rfl, SB.trans (SB.of k0) s1, P1, hl1, Fnd.zero⟩ ?_ ?_
    · rintro i σ H2 hi ⟨bs, v3, v4, rfl, s2, P2, hl2, F2⟩
      have hi4 : i < 4 := by omega
      refine ⟨_, rfl, _, rfl, .inl ⟨_, rfl, _, _, rfl, rfl, _, _, rfl, p, a, ns, z + 2, B + 1 + i, ?_, P2, by omega, by omega, by omega, fun b H3 b0 b1 s3 P3 => ?_⟩⟩
      · show [V.ref p, V.int (if z + 2 < 60 then z + 2 else 60)] = [V.ref p, V.int (z + 2)]
        rw [if_pos (show z + 2 < 60 by omega)]
      refine ⟨_, _, rfl, rfl, ?_⟩
      have hl3 : H3 l = some (.lst (vi bs)) := s3 _ _ hl2 npl.symm
      have s4 : SB p H H3 := s2.trans s3
      refine ⟨_, rfl, _, rfl, l, vi bs, rfl, .inl (SqL.of hl3), rfl, flat_vi bs, decide (1 + b ∉ bs), ?_, ?_⟩
      · show V.bl (!inV (V.int (1 + b)) (vi bs)) = V.bl (decide (1 + b ∉ bs))
        rw [inV_vi]
        by_cases h : 1 + b ∈ bs <;> simp [h]
      refine ite2 (fun h1 => ?_) (fun h1 => ?_)
      · have h1 : 1 + b ∉ bs := of_decide_eq_true h1
        have hbl : bs.length ≤ 4 := Nat.le_trans F2.le (by omega)
        refine ⟨_, rfl, .inl ⟨rfl, _, SqL.of hl3⟩, _, rfl, l, rfl, ⟨_, SqL.of hl3⟩, fun D nD => ?_⟩
        have nDl : l ≠ D := ne_of_none hl3 nD
        have nDp : p ≠ D := by
          obtain ⟨ys, e⟩ := P3.lst
          exact ne_of_none e nD
        refine lc_list (K := K) (a := l) (xs := vi bs) (fun j H4 => Same H3 H4 ∧ H4 D = some (.lst (vi ((bs.take j).filter fun x => decide (x < 1 + b))))) ⟨same_new nD, upd_same⟩ (fun j H4 _ h => SqL.of (h.1 _ _ hl3)) ?_ ?_
        · rintro j y H4 hj ⟨k4, h4⟩
          obtain ⟨x, hx, rfl⟩ := vi_get hj
          have ef := filter_take (fun x => decide (x < 1 + b)) hx
          refine ⟨rfl, _, rfl, _, rfl, _, _, rfl, rfl, _, rfl, ite2 (fun h2 => ?_) (fun h2 => ?_)⟩
          · refine ⟨_, rfl, _, h4, ?_, same_upd k4 nD, ?_⟩
            · rw [lenV]
              have := List.length_filter_le (fun x => decide (x < 1 + b)) (bs.take j)
              rw [List.length_take] at this
              exact small1000 (by omega)
            · rw [if_pos h2] at ef
              rw [upd_same, vi_snoc, ef]
          · refine ⟨k4, ?_⟩
            rw [if_neg h2] at ef
            rw [ef]; exact h4
        · rintro H4 ⟨k4, h4⟩
          rw [lenV, List.take_length] at h4
          have hk : (bs.filter fun x => decide (x < 1 + b)).length ≤ 4 := Nat.le_trans (List.length_filter_le _ _) hbl
          refine ⟨D, _, rfl, .inl (SqL.of h4), _, rfl, l, vi bs, _, _, rfl, rfl, k4 _ _ hl3, ?_, by omega, by rw [lenV]; omega, ?_⟩
          · rw [lenV]; exact small1000 (by omega)
          have F3 := F2.put h1 (b := 1 + b) (by omega)
          have e : List.take (((vi (bs.filter fun x => decide (x < 1 + b))).length : Int)).toNat (vi bs) ++ [V.int (1 + b)] ++ List.drop (((vi (bs.filter fun x => decide (x < 1 + b))).length : Int)).toNat (vi bs)
              = vi (bs.take (bs.filter fun x => decide (x < 1 + b)).length ++ [1 + b] ++ bs.drop (bs.filter fun x => decide (x < 1 + b)).length) := by
            rw [lenV, Int.toNat_natCast, ← List.map_take, ← List.map_drop]
            show vi _ ++ [V.int (1 + b)] ++ vi _ = _
            rw [vi_snoc]
            exact List.map_append.symm
          refine ⟨_, _, _, rfl, ?_, ?_, ?_, F3⟩
          · intro c o hc nc
            have hcl : c ≠ l := ne_of_none hc nl
            rw [upd_ne hcl]
            exact k4 _ _ (s4 _ _ hc nc)
          · refine hP.move P3 ?_ ?_
            · intro c o hc nc
              rw [upd_ne (ne_of_none hc nl)]
              exact k4 _ _ (s4 _ _ hc nc)
            · obtain ⟨r, e1⟩ := P3.lst
              rw [upd_ne npl, k4 _ _ e1, e1]
          · show (upd H4 l (.lst _)) l = _
            rw [upd_same, e]
      · refine ⟨bs, _, _, rfl, s4, P3, hl3, F2.keep (b := 1 + b) ?_⟩
        exact Decidable.byContradiction fun h => h1 (decide_eq_true h)
    · rintro σ H2 ⟨bs, v3, v4, rfl, s2, P2, hl2, F2⟩
      exact ⟨_, rfl, q H2 l bs s2 (P2.mono (by omega)) hl2 (F2.bnds (by omega) (by omega))⟩
end
end WL

namespace WL
open PySem PySem.Spec PyProof.Rows L2
def spLFew : Sp := fun vs H Q _ => ∃ (q : Addr) (z c len : Int) (bs : List Int), vs = [.ref q, .int c, .int len] ∧ CaseAt H q z bs ∧ Bnds bs ∧ 0 ≤ c ∧ 0 ≤ z ∧ z ≤ 60 ∧ 0 ≤ len ∧ len ≤ 99 ∧
  ∀ H' o, Same H H' → Few (reach bs z c) len o → Q (ov o) H'
def spLLay : Sp := fun vs H Q _ => ∃ (q : Addr) (z c : Int) (bs : List Int), vs = [.ref q, .int c] ∧ CaseAt H q z bs ∧ Bnds bs ∧ 0 ≤ c ∧ 0 ≤ z ∧ z ≤ 60 ∧
  ∀ H' p n, Same H H' → LayN (reach bs z c) n → H' p = some (.lst (vi (lay (reach bs z c) n))) → Q (.ref p) H'
def spNoW : Sp := fun vs H Q _ => ∃ o1 o2 : Option Int, vs = [ov o1, ov o2] ∧ NoWorse o1 o2 ∧ Q (.bl true) H
section
variable {P : Program} {w : World} {K : PySem.W.Frag} {mg : Str → Option Value} {base : Heap} {CS CR : Addr}
theorem sc_ltold : FnScope ["_law_bounds_here", "_law_free", "_law_found", "_law_bound"] ["_law_bounds_here", "_law_free"] (defScope sLTold) := ⟨rfl, rfl, rfl, by decide +kernel, rfl, by decide +kernel, by decide +kernel⟩
theorem ok_ltold {f : Addr} {fd : FuncData} (F : Fun K "_law_told" "_law_told" sLTold f fd) : FnOk P w K mg base CX0 1 f fd ["_law_bounds_here", "_law_free"] spLTold := by
  refine F.ok sc_ltold (fun vs H Q E h => ?_) (fun cdv A outer s H vs Q E hr h => ?_)
  · obtain ⟨t, bs, f, rfl, _⟩ := h; rfl
  · obtain ⟨t, bs, f, rfl, ht, q⟩ := h
    refine ⟨_, pss_cons (ps_set (i := 2) sc_ltold.nd rfl (.inl rfl) pe_int)
      (pss_cons (ps_for PassesOwn.never rfl (pi_list (pv 0)) (pg_name (i := 3) sc_ltold.nd rfl (.inl rfl))
        (pss_one (ps_if (pt_cmpR op_le (pv 3) (pv 1) (nomark _)) (pss_one (ps_set (i := 2) sc_ltold.nd rfl (.inl rfl) (pv 3))) pss_nil)))
      (pss_one (ps_ret (pv 2)))), ?_⟩
    refine ⟨_, rfl, t, rfl, ⟨_, SqL.of ht⟩, for_list (K := K) (a := t) (xs := vi bs) (fun i σ H1 => ∃ v, σ = [some (.ref t), some (.int f), some (.int (told (bs.take i) f)), v] ∧ H1 = H)
      ⟨none, rfl, rfl⟩ (fun i σ H1 _ ⟨_, _, e⟩ => by rw [e]; exact SqL.of ht) ?_ ?_⟩
    · rintro i y σ H1 hi ⟨v, rfl, rfl⟩
      obtain ⟨b, hb, rfl⟩ := vi_get hi
      refine ⟨_, rfl, _, rfl, _, _, rfl, rfl, _, rfl, ite2 (fun h1 => ?_) (fun h1 => ?_)⟩
      · have e := told_take f hb
        rw [if_pos (of_decide_eq_true h1)] at e
        exact ⟨_, rfl, _, by rw [e]; rfl, rfl⟩
      · have e := told_take f hb
        rw [if_neg (fun z => h1 (decide_eq_true z))] at e
        exact ⟨_, by rw [e]; rfl, rfl⟩
    · rintro σ H1 ⟨v, rfl, rfl⟩
      refine ⟨_, rfl, ?_⟩
      have e : bs.take (vi bs).length = bs := by rw [lenV, List.take_length]
      rw [e]; exact q
theorem sc_lreach : FnScope ["_law_room", "_law_held", "_law_cap", "_law_told_here"] ["_law_room", "_law_held", "_law_cap"] (defScope sLReach) := ⟨rfl, rfl, rfl, by decide +kernel, rfl, by decide +kernel, by decide +kernel⟩
theorem ok_lreach {f : Addr} {fd : FuncData} (F : Fun K "_law_reach" "_law_reach" sLReach f fd) (D : DefOk P w K mg base "_law_told" 1 ["_law_bounds_here", "_law_free"] spLTold) : FnOk P w K mg base CX0 2 f fd ["_law_room", "_law_held", "_law_cap"] spLReach := by
  refine F.ok sc_lreach (fun vs H Q E h => ?_) (fun cdv A outer s H vs Q E hr h => ?_)
  · obtain ⟨q, z, h, c, bs, rfl, _⟩ := h; rfl
  · obtain ⟨q, z, h, c, bs, rfl, ⟨l, hq, hl⟩, k⟩ := h
    refine ⟨_, pss_cons (ps_set (i := 3) sc_lreach.nd rfl (.inl rfl) (pe_def D hr (pa_cons (pe_ix ix_tup (pv 0) pe_int (fun _ _ => rfl)) (pa_cons (pe_op op_sub (pe_ix ix_tup (pv 0) pe_int (fun _ _ => rfl)) (pv 1)) pa_nil))))
      (pss_cons (ps_if (pt_cmpR op_lt (pv 3) (pv 2) (nomark _)) (pss_one (ps_ret (pv 3))) pss_nil)
      (pss_one (ps_ret (pv 2)))), ?_⟩
    refine ⟨_, rfl, q, _, 1, .ref l, rfl, rfl, SqT.of hq, rfl, _, rfl, q, _, 0, .int z, rfl, rfl, SqT.of hq, rfl, _, rfl, _, _, rfl, rfl, l, bs, _, rfl, hl, ?_⟩
    have e : WL.reach bs z c h = if told bs (z - h) < c then told bs (z - h) else c := rfl
    refine ⟨_, rfl, _, rfl, _, _, rfl, rfl, _, rfl, ite2 (fun h1 => ?_) (fun h1 => ?_)⟩
    · rw [if_pos (of_decide_eq_true h1)] at e
      exact ⟨_, rfl, by rw [e] at k; exact k⟩
    · rw [if_neg (fun z => h1 (decide_eq_true z))] at e
      exact ⟨_, rfl, by rw [e] at k; exact k⟩
theorem sc_case : FnScope ["_law_pool_here", "_law_most", "_law_size"] ["_law_pool_here", "_law_most"] (defScope sCase) := ⟨rfl, rfl, rfl, by decide +kernel, rfl, by decide +kernel, by decide +kernel⟩
theorem ok_case {f : Addr} {fd : FuncData} (F : Fun K "_law_case" "_law_case" sCase f fd) (D : DefOk P w K mg base "_law_draw" 1 ["_law_pool_here", "_law_limit"] (spDraw K)) (D2 : DefOk P w K mg base "_law_bounds" 2 ["_law_pool_here", "_law_size"] (spBounds K)) : FnOk P w K mg base CX0 3 f fd ["_law_pool_here", "_law_most"] (spCase K) := by
  refine F.ok sc_case (fun vs H Q E h => ?_) (fun cdv A outer s H vs Q E hr h => ?_)
  · obtain ⟨p, a, ns, m, B, rfl, _⟩ := h; rfl
  · obtain ⟨p, a, ns, m, B, rfl, hP, hB, m0, m1, q⟩ := h
    refine ⟨_, pss_cons (ps_set (i := 2) sc_case.nd rfl (.inl rfl) (pe_op op_add pe_int (pe_def D hr (pa_cons (pv 0) (pa_cons (pv 1) pa_nil)))))
      (pss_one (ps_ret (pe_tup (pa_cons (pv 2) (pa_cons (pe_def D2 hr (pa_cons (pv 0) (pa_cons (pv 2) pa_nil))) pa_nil))))), ?_⟩
    refine ⟨_, rfl, _, rfl, p, a, ns, m, B, rfl, hP, by omega, by omega, by omega, fun d H1 d0 d1 s1 P1 => ⟨_, _, rfl, rfl, ?_⟩⟩
    refine ⟨_, rfl, _, rfl, _, rfl, p, a, ns, 1 + d, B + 1, rfl, P1, by omega, by omega, by omega, fun H2 l bs s2 P2 hl B2 => ⟨(by show 2 ≤ sizeLine; decide), fun t nt => ?_⟩⟩
    have k3 : Same H2 (upd H2 t (.tup [.int (1 + d), .ref l])) := same_new nt
    exact q _ t (1 + d) bs ((s1.trans s2).trans (SB.of k3)) (P2.same k3) (by omega) (by omega) B2 ⟨l, upd_same, k3 _ _ hl⟩
theorem sc_made : FnScope ["_law_room"] ["_law_room"] (defScope sMade) := ⟨rfl, rfl, rfl, by decide +kernel, rfl, by decide +kernel, by decide +kernel⟩
theorem ok_made {f : Addr} {fd : FuncData} (F : Fun K "_law_made" "_law_made" sMade f fd) (T : Txt K mg CS CR) (MS : MakeOk P w K mg base "Steps" CS 4 ["self", "bounds"] (spSteps CS)) (MR : MakeOk P w K mg base "Room" CR 3 ["self", "size", "steps"] (spRoom CS CR)) : FnOk P w K mg base CX0 6 f fd ["_law_room"] (spMade CS CR) := by
  refine F.ok sc_made (fun vs H Q E h => ?_) (fun cdv A outer s H vs Q E hr h => ?_)
  · obtain ⟨q, z, bs, rfl, _⟩ := h; rfl
  · obtain ⟨q, z, bs, rfl, ⟨l, hq, hl⟩, z0, z1, B, k⟩ := h
    refine ⟨_, pss_one (ps_ret (pe_mk MR hr (pa_cons (pe_ix ix_tup (pv 0) pe_int (fun _ _ => rfl)) (pa_cons (pe_mk MS hr (pa_cons (pe_callTy call_list_of (by rfl) T.list bt_list (pa_cons (pe_ix ix_tup (pv 0) pe_int (fun _ _ => rfl)) pa_nil)) pa_nil)) pa_nil)))), ?_⟩
    refine ⟨_, rfl, q, _, 0, .int z, rfl, rfl, SqT.of hq, rfl, _, rfl, q, _, 1, .ref l, rfl, rfl, SqT.of hq, rfl, l, vi bs, rfl, .inl (SqL.of hl), fun e ne => ?_⟩
    have k1 : Same H (upd H e (.lst (vi bs))) := same_new ne
    intro s ds ns nds nes
    have k2 : Same H (upd (upd (upd H e (.lst (vi bs))) ds (.own s)) s (.ins CS ds [])) := same_upd (same_upd k1 (k1.free nds)) (k1.free ns)
    have n1 : e ≠ s := ne_of_none upd_same ns
    have n2 : e ≠ ds := ne_of_none upd_same nds
    refine ⟨s, ds, e, bs, rfl, upd_same, by rw [upd_ne n1, upd_ne n2, upd_same], B, fun t H1 nt h1 h2 sb => ⟨rfl, ?_⟩⟩
    have k3 : Same H H1 := fun c o q => sb c o (k2 c o q) (ne_of_none q (k1.free ns))
    intro x dx nx ndx nex
    have k4 : Same H1 (upd (upd H1 dx (.own x)) x (.ins CR dx [])) := same_upd (same_upd (Same.refl _) ndx) nx
    refine ⟨x, dx, s, ds, z, _, rfl, upd_same, z0, z1, k4 _ _ h1, fun H2 h3 sb2 => ⟨rfl, ?_⟩⟩
    have k5 : Same H1 H2 := fun c o q => sb2 c o (k4 c o q) (ne_of_none q nx)
    exact k H2 x (k3.trans k5) ⟨dx, s, h3, ds, t, k5 _ _ h1, k5 _ _ h2⟩
theorem sc_now : FnScope ["_law_one", "_law_two"] ["_law_one", "_law_two"] (defScope sNoW) := ⟨rfl, rfl, rfl, by decide +kernel, rfl, by decide +kernel, by decide +kernel⟩
theorem ok_now {f : Addr} {fd : FuncData} (F : Fun K "_law_no_worse" "_law_no_worse" sNoW f fd) : FnOk P w K mg base CX0 1 f fd ["_law_one", "_law_two"] spNoW := by
  refine F.ok sc_now (fun vs H Q E h => ?_) (fun cdv A outer s H vs Q E hr h => ?_)
  · obtain ⟨o1, o2, rfl, _⟩ := h; rfl
  · obtain ⟨o1, o2, rfl, N, q⟩ := h
    refine ⟨_, pss_one (ps_ret (pe_or (pe_cmp (pc_isN (pv 0)) rfl) (pe_one (pe_and (pe_cmp (pc_notN (pv 1)) rfl) (pe_one (pe_cmpR op_le (pv 1) (pv 0) (nomark _))))))), ?_⟩
    rcases N with rfl | ⟨x, y, rfl, rfl, h⟩
    · exact ⟨_, rfl, true, rfl, iteT q⟩
    · refine ⟨_, rfl, false, rfl, iteF ⟨_, rfl, true, rfl, iteT ⟨_, rfl, _, rfl, _, _, rfl, rfl, ?_⟩⟩⟩
      show Q (V.bl (decide (y ≤ x))) H
      rw [decide_eq_true h]; exact q
end
end WL

namespace WL
open PySem PySem.Spec PyProof.Rows L2
section
variable {P : Program} {w : World} {K : PySem.W.Frag} {mg : Str → Option Value} {base : Heap} {CS CR : Addr}
theorem sc_llay : FnScope ["_law_room", "_law_cap", "_law_found", "_law_turn", "_law_later", "_law_held"] ["_law_room", "_law_cap"] (defScope sLLay) := ⟨rfl, rfl, rfl, by decide +kernel, rfl, by decide +kernel, by decide +kernel⟩
theorem ok_llay {f : Addr} {fd : FuncData} (F : Fun K "_law_layers" "_law_layers" sLLay f fd) (T : Txt K mg CS CR) (D : DefOk P w K mg base "_law_reach" 2 ["_law_room", "_law_held", "_law_cap"] spLReach) : FnOk P w K mg base CX0 3 f fd ["_law_room", "_law_cap"] spLLay := by
  refine F.ok sc_llay (fun vs H Q E h => ?_) (fun cdv A outer s H vs Q E hr h => ?_)
  · obtain ⟨q, z, c, bs, rfl, _⟩ := h; rfl
  · obtain ⟨q, z, c, bs, rfl, hC, B, c0, z0, z1, k⟩ := h
    have RC := rch_of (c := c) B z0 c0
    obtain ⟨lq, hq, hlq⟩ := hC.ex
    refine ⟨_, pss_cons (ps_set (i := 2) sc_llay.nd rfl (.inl rfl) (pe_lst (pa_cons pe_int pa_nil)))
      (pss_cons (ps_for PassesOwn.never rfl (pi_range1 (by rfl) T.range (pa_cons (pe_op op_add (pe_ix ix_tup (pv 0) pe_int (fun _ _ => rfl)) pe_int) pa_nil)) (pg_name (i := 3) sc_llay.nd rfl (.inl rfl))
        (pss_cons (ps_set (i := 4) sc_llay.nd rfl (.inl rfl) (pe_callB (cr_max rfl) (by rfl) T.max bt_max (pa_cons
          (pe_lc (own := [("_law_held", 5)]) (g := gName 5) rfl sc_llay.nd (pi_range1 (by rfl) T.range (pa_cons (pe_op op_add (pe_ix ix_list (pv 2) (pe_un un_neg pe_int) (fun _ _ => rfl)) pe_int) pa_nil)) (blkOk_by (own := [("_law_held", 5)]) (N := ["_law_room", "_law_cap", "_law_found", "_law_turn", "_law_later", "_law_held"]) (sc := defScope sLLay) (by decide +kernel))
            (fun _ _ _ _ _ => pg_name (i := 5) sc_llay.nd rfl (Or.inl rfl)) (fun _ _ _ _ _ => pts_nil)
            (fun _ _ _ _ _ => pe_callTy call_int1 (by rfl) T.int bt_int (pa_cons (pe_op op_add (pv 5) (pe_def D hr (pa_cons (pv 0) (pa_cons (pv 5) (pa_cons (pv 1) pa_nil))))) pa_nil))) pa_nil)))
        (pss_cons (ps_if (pt_cmpR op_le (pv 4) (pe_ix ix_list (pv 2) (pe_un un_neg pe_int) (fun _ _ => rfl)) (nomark _)) (pss_one ps_break) pss_nil)
        (pss_one (ps_expr (pe_bm PySem.F.plainAttrs_list PySem.F.slot_list_append PySem.F.type_list_append mt_append (pv 2) (pa_cons (pv 4) pa_nil)))))))
      (pss_one (ps_ret (pv 2)))), ?_⟩
    refine ⟨(by show 1 ≤ sizeLine; decide), fun l nl => ?_⟩
    have k0 : Same H (upd H l (.lst [V.int 0])) := same_new nl
    refine ⟨_, rfl, q, _, 0, .int z, rfl, rfl, SqT.of (k0 _ _ hq), rfl, _, _, rfl, rfl, z + 1, rfl, by omega, by omega, ?_⟩
    refine for_range (lo := 0) (n := (z + 1).toNat) (fun i σ H2 => ∃ v3 v4, σ = [some (.ref q), some (.int c), some (.ref l), v3, v4, none] ∧ Same H H2 ∧ H2 l = some (.lst (vi (lay (WL.reach bs z c) i))) ∧ ∀ k : Nat, k < i → L (WL.reach bs z c) k < L (WL.reach bs z c) (k + 1))
      ⟨none, none, rfl, k0, upd_same, fun k hk => by omega⟩ ?_ ?_
    · rintro i σ H2 hi ⟨v3, v4, rfl, k2, hl, up⟩
      have hn := LayN.le RC up
      have lo := L_lohi RC i
      obtain ⟨t, ht⟩ : ∃ t : Nat, L (WL.reach bs z c) i = (t : Int) := ⟨(L (WL.reach bs z c) i).toNat, by omega⟩
      have et : (L (WL.reach bs z c) i + 1).toNat = t + 1 := by omega
      have en : L (WL.reach bs z c) (i + 1) = nxt (WL.reach bs z c) t := by
        show nxt (WL.reach bs z c) (L (WL.reach bs z c) i).toNat = _
        rw [ht]; rfl
      refine ⟨_, rfl, 1, rfl, l, _, _, _, rfl, rfl, SqL.of hl, lay_last _ _, _, _, rfl, rfl, _, rfl, by omega, by omega, fun D nD => ?_⟩
      rw [et]
      have nDl : l ≠ D := ne_of_none hl nD
      refine lc_range (lo := 0) (n := t + 1) (fun j H3 => Same H2 H3 ∧ H3 D = some (.lst (vi (sums (WL.reach bs z c) j)))) ⟨same_new nD, upd_same⟩ ?_ ?_
      · rintro j H3 hj ⟨k3, h3⟩
        refine ⟨rfl, _, rfl, _, rfl, _, rfl, _, rfl, q, z, _, c, bs, rfl, hC.same (k2.trans k3), _, _, rfl, rfl, .inl ⟨_, rfl, _, h3, ?_, same_upd k3 nD, ?_⟩⟩
        · rw [lenV, sums_len]; exact small1000 (by omega)
        · rw [upd_same, sums_succ]
          show some (HO.lst (vi _ ++ [V.int (0 + (j : Int) + WL.reach bs z c (0 + (j : Int)))])) = _
          rw [Int.zero_add, vi_snoc]
      · rintro H3 ⟨k3, h3⟩
        refine ⟨D, _, rfl, SqL.of h3, (by rw [sums_len]; omega), fun m hm hle => ?_⟩
        have em : m = L (WL.reach bs z c) (i + 1) := by rw [en]; exact sums_max hm hle
        subst em
        have hl3 := k3 _ _ hl
        have k4 := k2.trans k3
        refine ⟨_, rfl, _, rfl, 1, rfl, l, _, _, _, rfl, rfl, SqL.of hl3, lay_last _ _, _, _, rfl, rfl, _, rfl, ite2 (fun h1 => ?_) (fun h1 => ?_)⟩
        · exact ⟨_, rfl, k H3 l i k4 ⟨up, of_decide_eq_true h1⟩ hl3⟩
        · refine ⟨_, rfl, .inl ⟨rfl, _, SqL.of hl3⟩, _, rfl, l, _, _, rfl, rfl, hl3, ?_, ?_⟩
          · rw [lenV, lay_len]; exact small1000 (by omega)
          refine ⟨_, _, rfl, same_upd k4 nl, ?_, fun k hk => ?_⟩
          · rw [upd_same, vi_snoc, lay_succ]
          · by_cases h : k = i
            · subst h
              rcases Int.lt_or_le (L (WL.reach bs z c) k) (L (WL.reach bs z c) (k + 1)) with h2 | h2
              · exact h2
              · exact absurd (decide_eq_true h2) h1
            · exact up k (by omega)
    · rintro σ H2 ⟨v3, v4, rfl, k2, hl, up⟩
      have hn := LayN.le RC up
      exfalso; omega
/-! ### all rows of pieces -/
/-- the level behind i pieces -/
structure Lev (r : Int → Int) (len : Int) (i : Nat) (l : List Int) : Prop where
  nd : l.Nodup
  mem : ∀ x, x ∈ l ↔ Rk r i x ∧ x < len
theorem Lev.lo {r : Int → Int} {z len : Int} {i : Nat} {l : List Int} (R : Rch r z) (h : Lev r len i l) {x : Int} (hx : x ∈ l) : 0 ≤ x ∧ x ≤ z := by
  have a := Rk_le R ((h.mem x).mp hx).1
  have b := L_lohi R i
  omega
theorem sc_lfew : FnScope ["_law_room", "_law_cap", "_law_length", "_law_level", "_law_many", "_law_later", "_law_held", "_law_piece"] ["_law_room", "_law_cap", "_law_length"] (defScope sLFew) := ⟨rfl, rfl, rfl, by decide +kernel, rfl, by decide +kernel, by decide +kernel⟩
theorem ok_lfew {f : Addr} {fd : FuncData} (F : Fun K "_law_fewest" "_law_fewest" sLFew f fd) (T : Txt K mg CS CR) (D : DefOk P w K mg base "_law_reach" 2 ["_law_room", "_law_held", "_law_cap"] spLReach) : FnOk P w K mg base CX0 3 f fd ["_law_room", "_law_cap", "_law_length"] spLFew := by
  refine F.ok sc_lfew (fun vs H Q E h => ?_) (fun cdv A outer s H vs Q E hr h => ?_)
  · obtain ⟨q, z, c, len, bs, rfl, _⟩ := h; rfl
  · obtain ⟨q, z, c, len, bs, rfl, hC, B, c0, z0, z1, l0, l1, k⟩ := h
    have RC := rch_of (c := c) B z0 c0
    refine ⟨_, pss_cons (ps_if (pt_cmpR op_eq (pv 2) pe_int (nomark _)) (pss_one (ps_ret pe_int)) pss_nil)
      (pss_cons (ps_set (i := 3) sc_lfew.nd rfl (.inl rfl) (pe_lst (pa_cons pe_int pa_nil)))
      (pss_cons (ps_for PassesOwn.never rfl (pi_range2 (by rfl) T.range (pa_cons pe_int (pa_cons (pe_op op_add (pv 2) pe_int) pa_nil))) (pg_name (i := 4) sc_lfew.nd rfl (.inl rfl))
        (pss_cons (ps_set (i := 5) sc_lfew.nd rfl (.inl rfl) (pe_lst pa_nil))
        (pss_cons (ps_for PassesOwn.never rfl (pi_list (pv 3)) (pg_name (i := 6) sc_lfew.nd rfl (.inl rfl))
          (pss_one (ps_for PassesOwn.never rfl (pi_range2 (by rfl) T.range (pa_cons pe_int (pa_cons (pe_op op_add (pe_def D hr (pa_cons (pv 0) (pa_cons (pv 6) (pa_cons (pv 1) pa_nil)))) pe_int) pa_nil))) (pg_name (i := 7) sc_lfew.nd rfl (.inl rfl))
            (pss_one (ps_if (pt_cmpR op_notIn_seq (pe_op op_add (pv 6) (pv 7)) (pv 5) (by rfl))
              (pss_one (ps_expr (pe_bm PySem.F.plainAttrs_list PySem.F.slot_list_append PySem.F.type_list_append mt_append (pv 5) (pa_cons (pe_op op_add (pv 6) (pv 7)) pa_nil)))) pss_nil)))))
        (pss_cons (ps_if (pt_cmpR op_in_seq (pv 2) (pv 5) (by rfl)) (pss_one (ps_ret (pv 4))) pss_nil)
        (pss_one (ps_setLc (i := 3) (own := [("_law_held", 6)]) (g := gName 6) rfl sc_lfew.nd rfl rfl (sw_true rfl rfl rfl (by decide +kernel)) (pi_list (pv 5))
          (blkOk_by (own := [("_law_held", 6)]) (N := ["_law_room", "_law_cap", "_law_length", "_law_level", "_law_many", "_law_later", "_law_held", "_law_piece"]) (sc := defScope sLFew) (by decide +kernel))
          (fun _ _ _ _ _ => pg_name (i := 6) sc_lfew.nd rfl (Or.inl rfl)) (fun _ _ _ _ _ => pts_one (pt_cmpR op_lt (pv 6) (pv 2) (nomark _))) (fun _ _ _ _ _ => pv 6)))))))
      (pss_one (ps_ret pe_non)))), ?_⟩
    refine ⟨_, rfl, rfl, _, rfl, ite2 (fun h1 => ?_) (fun h1 => ?_)⟩
    · have h2 : len = 0 := V.int.inj (of_decide_eq_true h1)
      exact k H (some 1) (Same.refl H) (.inl ⟨h2, rfl⟩)
    have hlen : 0 < len := by
      have : len ≠ 0 := fun e => h1 (decide_eq_true (by rw [e]))
      omega
    refine ⟨(by show 1 ≤ sizeLine; decide), fun la nla => ?_⟩
    have k0 : Same H (upd H la (.lst [V.int 0])) := same_new nla
    refine ⟨_, rfl, _, _, rfl, rfl, 1, len + 1, rfl, ⟨by omega, by omega, by omega, by omega⟩, ?_⟩
    have eN : (len + 1 - 1).toNat = len.toNat := by omega
    rw [eN]
    refine for_range (lo := 1) (n := len.toNat) (fun i σ H2 => ∃ l lvl v4 v5 v6 v7, σ = [some (.ref q), some (.int c), some (.int len), some (.ref l), v4, v5, v6, v7] ∧ Same H H2 ∧ H2 l = some (.lst (vi lvl)) ∧ Lev (WL.reach bs z c) len i lvl ∧ ∀ j : Nat, j ≤ i → ¬ Rk (WL.reach bs z c) j len)
      ⟨la, [0], none, none, none, none, rfl, k0, upd_same, ⟨by simp, fun x => ?_⟩, fun j hj => ?_⟩ ?_ ?_
    · show x ∈ [0] ↔ x = 0 ∧ x < len
      rw [List.mem_singleton]
      exact ⟨fun e => ⟨e, by omega⟩, fun e => e.1⟩
    · have : j = 0 := by omega
      subst this
      show ¬ len = 0
      omega
    · rintro i σ H2 hi ⟨l, lvl, v4, v5, v6, v7, rfl, k2, hl, LV, no⟩
      have hi99 : i < 99 := by omega
      refine ⟨Nat.zero_le _, fun e ne => ?_⟩
      have nel : l ≠ e := ne_of_none hl ne
      have k3 : Same H2 (upd H2 e (.lst [])) := same_new ne
      have hl3 : (upd H2 e (.lst [])) l = some (.lst (vi lvl)) := k3 _ _ hl
      -- for held in level
      refine ⟨_, rfl, l, rfl, ⟨_, SqL.of hl3⟩, for_list (K := K) (a := l) (xs := vi lvl) (fun i2 σ H3 => ∃ lt v6 v7, σ = [some (.ref q), some (.int c), some (.int len), some (.ref l), some (.int (1 + (i : Int))), some (.ref e), v6, v7] ∧ Same H2 H3 ∧ H3 e = some (.lst (vi lt)) ∧ lt.Nodup ∧ ∀ x, x ∈ lt ↔ ∃ g, g ∈ lvl.take i2 ∧ g + 1 ≤ x ∧ x ≤ g + WL.reach bs z c g)
        ⟨[], v6, v7, rfl, k3, upd_same, List.nodup_nil, fun x => ⟨fun h => (by cases h), fun ⟨g, h, _⟩ => (by simp at h)⟩⟩ (fun i2 σ H3 _ ⟨_, _, _, _, k4, _⟩ => SqL.of (k4 _ _ hl)) ?_ ?_⟩
      · rintro i2 y σ H3 hi2 ⟨lt, v6, v7, rfl, k4, he, nd, mem⟩
        obtain ⟨g, hg, rfl⟩ := vi_get hi2
        have hgm : g ∈ lvl := List.mem_of_getElem? hg
        have g01 := LV.lo RC hgm
        have r0 := RC.lo g g01.1 g01.2
        have r1 := RC.hi g g01.1 g01.2
        refine ⟨_, rfl, _, rfl, _, rfl, q, z, g, c, bs, rfl, hC.same (k2.trans k4), _, _, rfl, rfl, 1, WL.reach bs z c g + 1, rfl, ⟨by omega, by omega, by omega, by omega⟩, ?_⟩
        have eR : (WL.reach bs z c g + 1 - 1).toNat = (WL.reach bs z c g).toNat := by omega
        rw [eR]
        refine for_range (lo := 1) (n := (WL.reach bs z c g).toNat) (fun i3 σ H4 => ∃ lt v7, σ = [some (.ref q), some (.int c), some (.int len), some (.ref l), some (.int (1 + (i : Int))), some (.ref e), some (.int g), v7] ∧ Same H2 H4 ∧ H4 e = some (.lst (vi lt)) ∧ lt.Nodup ∧
            ∀ x, x ∈ lt ↔ (∃ g, g ∈ lvl.take i2 ∧ g + 1 ≤ x ∧ x ≤ g + WL.reach bs z c g) ∨ (g + 1 ≤ x ∧ x ≤ g + (i3 : Int)))
          ⟨lt, v7, rfl, k4, he, nd, fun x => ?_⟩ ?_ ?_
        · rw [mem x]
          exact ⟨.inl, fun h => h.elim id fun h => by omega⟩
        · rintro i3 σ H4 hi3 ⟨lt, v7, rfl, k5, he, nd, mem⟩
          have hpc : 1 + (i3 : Int) ≤ WL.reach bs z c g := by omega
          have small : lt.length ≤ 61 := nodup_small nd fun x hx => by
            rcases (mem x).mp hx with ⟨g', hg', h1, h2⟩ | ⟨h1, h2⟩
            · have a := LV.lo RC (List.mem_of_mem_take hg')
              have b := RC.hi g' a.1 a.2
              omega
            · omega
          have iff' : ∀ x, ((∃ g, g ∈ lvl.take i2 ∧ g + 1 ≤ x ∧ x ≤ g + WL.reach bs z c g) ∨ (g + 1 ≤ x ∧ x ≤ g + ((i3 + 1 : Nat) : Int))) ↔ (x ∈ lt ∨ x = g + (1 + (i3 : Int))) := fun x => by
            rw [mem x]
            constructor
            · rintro (h | ⟨h1, h2⟩)
              · exact .inl (.inl h)
              · by_cases h3 : x = g + (1 + (i3 : Int))
                · exact .inr h3
                · exact .inl (.inr ⟨h1, by omega⟩)
            · rintro ((h | ⟨h1, h2⟩) | h)
              · exact .inl h
              · exact .inr ⟨h1, by omega⟩
              · exact .inr ⟨by omega, by omega⟩
          refine ⟨_, rfl, _, rfl, _, _, rfl, rfl, _, rfl, e, vi lt, rfl, .inl (SqL.of he), rfl, flat_vi lt, decide (g + (1 + (i3 : Int)) ∉ lt), ?_, ite2 (fun h2 => ?_) (fun h2 => ?_)⟩
          · show V.bl (!inV (V.int (g + (1 + (i3 : Int)))) (vi lt)) = _
            rw [inV_vi]
            by_cases h : g + (1 + (i3 : Int)) ∈ lt <;> simp [h]
          · have h2 : g + (1 + (i3 : Int)) ∉ lt := of_decide_eq_true h2
            refine ⟨_, rfl, .inl ⟨rfl, _, SqL.of he⟩, _, rfl, _, rfl, _, _, rfl, rfl, e, _, _, rfl, rfl, he, ?_, ?_⟩
            · rw [lenV]; exact small1000 (by omega)
            refine ⟨lt ++ [g + (1 + (i3 : Int))], _, rfl, same_upd k5 ne, ?_, ?_, fun x => ?_⟩
            · rw [upd_same, ← vi_snoc]
            · refine List.nodup_append.mpr ⟨nd, by simp, fun a ha b hb ab => ?_⟩
              have hb : b = g + (1 + (i3 : Int)) := by simpa using hb
              exact h2 (by rw [← hb, ← ab]; exact ha)
            · rw [iff' x]; simp
          · have h2 : g + (1 + (i3 : Int)) ∈ lt := Decidable.byContradiction fun h => h2 (decide_eq_true h)
            refine ⟨lt, _, rfl, k5, he, nd, fun x => ?_⟩
            rw [iff' x]
            exact ⟨.inl, fun h => h.elim id fun e => by rw [e]; exact h2⟩
        · rintro σ H4 ⟨lt, v7, rfl, k5, he, nd, mem⟩
          refine ⟨lt, _, _, rfl, k5, he, nd, fun x => ?_⟩
          rw [mem x, List.take_add_one, hg]
          have eg : ((WL.reach bs z c g).toNat : Int) = WL.reach bs z c g := by omega
          rw [eg]
          constructor
          · rintro (⟨g', h1, h2⟩ | h)
            · exact ⟨g', List.mem_append_left _ h1, h2⟩
            · exact ⟨g, List.mem_append_right _ (by simp), h⟩
          · rintro ⟨g', h1, h2⟩
            rcases List.mem_append.mp h1 with h1 | h1
            · exact .inl ⟨g', h1, h2⟩
            · have : g' = g := by simpa using h1
              subst this
              exact .inr h2
      · rintro σ H3 ⟨lt, v6, v7, rfl, k4, he, nd, mem⟩
        rw [lenV, List.take_length] at mem
        have k6 := k2.trans k4
        have step : ∀ x, x ∈ lt → Rk (WL.reach bs z c) (i + 1) x := fun x hx => by
          obtain ⟨g, hg, h1, h2⟩ := (mem x).mp hx
          exact ⟨g, ((LV.mem g).mp hg).1, h1, h2⟩
        have back : ∀ x, x ≤ len → Rk (WL.reach bs z c) (i + 1) x → x ∈ lt := fun x hx ⟨g, hg, h1, h2⟩ => (mem x).mpr ⟨g, (LV.mem g).mpr ⟨hg, by omega⟩, h1, h2⟩
        refine ⟨_, rfl, _, rfl, e, vi lt, rfl, .inl (SqL.of he), rfl, flat_vi lt, decide (len ∈ lt), ?_, ite2 (fun h2 => ?_) (fun h2 => ?_)⟩
        · show V.bl (inV (V.int len) (vi lt)) = _
          rw [inV_vi]
        · have h2 : len ∈ lt := of_decide_eq_true h2
          have ev : V.int (1 + (i : Int)) = ov (some ((i + 1 : Nat) : Int)) := by
            show V.int _ = V.int _
            rw [show 1 + (i : Int) = ((i + 1 : Nat) : Int) by omega]
          refine ⟨_, rfl, ?_⟩
          rw [ev]
          exact k H3 _ k6 (few_hit RC hlen (step _ h2) fun j hj => no j (by omega))
        · have h2 : len ∉ lt := fun h => h2 (decide_eq_true h)
          have small : lt.length ≤ 61 := nodup_small nd fun x hx => by
            obtain ⟨g', hg', h1, h2⟩ := (mem x).mp hx
            have a := LV.lo RC hg'
            have b := RC.hi g' a.1 a.2
            omega
          refine ⟨_, rfl, e, rfl, ⟨_, SqL.of he⟩, fun D nD => ?_⟩
          refine lc_list (K := K) (a := e) (xs := vi lt) (fun j H5 => Same H3 H5 ∧ H5 D = some (.lst (vi ((lt.take j).filter fun x => decide (x < len))))) ⟨same_new nD, upd_same⟩ (fun j H5 _ h => SqL.of (h.1 _ _ he)) ?_ ?_
          · rintro j y H5 hj ⟨k7, h5⟩
            obtain ⟨x, hx, rfl⟩ := vi_get hj
            have ef := filter_take (fun x => decide (x < len)) hx
            refine ⟨rfl, _, rfl, _, rfl, _, _, rfl, rfl, _, rfl, ite2 (fun h3 => ?_) (fun h3 => ?_)⟩
            · refine ⟨_, rfl, _, h5, ?_, same_upd k7 nD, ?_⟩
              · rw [lenV]
                have := List.length_filter_le (fun x => decide (x < len)) (lt.take j)
                rw [List.length_take] at this
                exact small1000 (by omega)
              · rw [if_pos h3] at ef
                rw [upd_same, vi_snoc, ef]
            · refine ⟨k7, ?_⟩
              rw [if_neg h3] at ef
              rw [ef]; exact h5
          · rintro H5 ⟨k7, h5⟩
            rw [lenV, List.take_length] at h5
            refine ⟨D, _, _, _, _, _, rfl, k6.trans k7, h5, ⟨nd.filter _, fun x => ?_⟩, fun j hj => ?_⟩
            · rw [List.mem_filter]
              constructor
              · rintro ⟨h3, h4⟩
                exact ⟨step x h3, of_decide_eq_true h4⟩
              · rintro ⟨h3, h4⟩
                exact ⟨back x (by omega) h3, decide_eq_true h4⟩
            · by_cases h : j = i + 1
              · subst h
                exact fun h3 => h2 (back len (Int.le_refl _) h3)
              · exact no j (by omega)
    · rintro σ H2 ⟨l, lvl, v4, v5, v6, v7, rfl, k2, hl, LV, no⟩
      exact k H2 none k2 (few_none RC hlen fun j hj => no j (by omega))
end
end WL

namespace WL
open PySem PySem.Spec PyProof.Rows L2
def spMilder (K : PySem.W.Frag) : Sp := fun vs H Q _ => ∃ (p a : Addr) (ns : List Int) (q : Addr) (z c len : Int) (bs : List Int) (o : Option Int) (B : Nat), vs = [.ref p, .ref q, .int c, .int len, ov o] ∧ PoolAt K H p a ns B ∧ B ≤ 1000 ∧ CaseAt H q z bs ∧ Bnds bs ∧ 1 ≤ z ∧ z ≤ 50 ∧
  0 ≤ c ∧ c ≤ 98 ∧ 0 ≤ len ∧ len ≤ 99 ∧ Few (reach bs z c) len o ∧ ∀ H', SB p H H' → PoolAt K H' p a ns (B + 2) → Q (.bl true) H'
section
variable {P : Program} {w : World} {K : PySem.W.Frag} {mg : Str → Option Value} {base : Heap} {CS CR : Addr}
abbrev nMilder : List Str := ["_law_pool_here", "_law_room", "_law_cap", "_law_length", "_law_many", "_law_greater", "_law_wider", "_law_bound", "_law_other", "_law_width"]
theorem sc_milder : FnScope nMilder ["_law_pool_here", "_law_room", "_law_cap", "_law_length", "_law_many"] (defScope sMilder) := ⟨rfl, rfl, rfl, by decide +kernel, rfl, by decide +kernel, by decide +kernel⟩
/-- a pair of a room and a width that are no stricter than these -/
def Mild (CS CR : Addr) (H : Hp) (bs : List Int) (z c : Int) (v : V) : Prop := ∃ (t x : Addr) (z' w : Int) (cs : List Int), v = .ref t ∧ H t = some (.tup [.ref x, .int w]) ∧ RoomAt CS CR H x z' cs ∧ Bnds cs ∧ z ≤ z' ∧ z' ≤ 60 ∧ 0 ≤ w ∧ w ≤ 99 ∧
  ∀ h, 0 ≤ h → h ≤ z → reach bs z c h ≤ reach cs z' w h
theorem Mild.same {CS CR : Addr} {H H' : Hp} {bs : List Int} {z c : Int} {v : V} (k : Same H H') (m : Mild CS CR H bs z c v) : Mild CS CR H' bs z c v := by
  obtain ⟨t, x, z', w, cs, e, h1, h2, h3⟩ := m
  exact ⟨t, x, z', w, cs, e, k _ _ h1, h2.same k, h3⟩
theorem ok_milder {f : Addr} {fd : FuncData} (F : Fun K "_law_milder" "_law_milder" sMilder f fd) (T : Txt K mg CS CR) (DD : DefOk P w K mg base "_law_draw" 1 ["_law_pool_here", "_law_limit"] (spDraw K)) (DM : DefOk P w K mg base "_law_made" 6 ["_law_room"] (spMade CS CR))
    (MR : MakeOk P w K mg base "Room" CR 3 ["self", "size", "steps"] (spRoom CS CR)) (AO : AddOk P w K mg base CS 6 ["self", "bound"] (spAdd CS)) (DN : DefOk P w K mg base "_law_no_worse" 1 ["_law_one", "_law_two"] spNoW) (DF : DefOk P w K mg base "fewest" 7 ["room", "cap", "length"] (spFewest CS CR)) :
    FnOk P w K mg base CX0 8 f fd ["_law_pool_here", "_law_room", "_law_cap", "_law_length", "_law_many"] (spMilder K) := by
  refine F.ok sc_milder (fun vs H Q E h => ?_) (fun cdv A outer s H vs Q E hr h => ?_)
  · obtain ⟨p, a, ns, q, z, c, len, bs, o, B, rfl, _⟩ := h; rfl
  · obtain ⟨p, a, ns, q, z, c, len, bs, o, B, rfl, hP, hB, hC, BN, z0, z1, c0, c1, l0, l1, FW, k⟩ := h
    have RC := rch_of (z := z) (c := c) BN (by omega) c0
    -- the loop and the end
    obtain ⟨tt, hT, tail⟩ : ∃ t, PSs (cxOf CX0 P w K mg base nMilder "_law_milder" (defScope sMilder) f cdv A outer s H E).nox ((defBody sMilder).drop 4) t ∧
        ∀ (H5 : Hp) (g x : Addr) (b d : Int) (cs : List Int), SB p H H5 → PoolAt K H5 p a ns (B + 2) → CaseAt H5 g (z + 1 + d) bs → 0 ≤ d → d < 3 → RoomAt CS CR H5 x z cs → Bnds cs → (∀ x ∈ bs, x ∈ cs) →
          t { nx := fun _ H' => Q .non H', rt := Q } [some (.ref p), some (.ref q), some (.int c), some (.int len), some (ov o), some (.ref g), some (.ref x), some (.int b), none, none] H5 := by
      refine ⟨_, pss_cons (ps_for PassesOwn.never rfl (pi_list (pe_lst (pa_cons (pe_tup (pa_cons (pe_def DM hr (pa_cons (pv 5) pa_nil)) (pa_cons (pv 2) pa_nil))) (pa_cons (pe_tup (pa_cons (pv 6) (pa_cons (pv 2) pa_nil))) (pa_cons (pe_tup (pa_cons (pe_def DM hr (pa_cons (pv 1) pa_nil)) (pa_cons (pe_op op_add (pv 2) pe_int) pa_nil))) pa_nil)))))
          (pg_tup rfl (pgs_cons (pg_name (i := 8) sc_milder.nd rfl (.inl rfl)) (pgs_cons (pg_name (i := 9) sc_milder.nd rfl (.inl rfl)) pgs_nil)))
          (pss_one (ps_if (pt_not (pt_val (pe_def DN hr (pa_cons (pv 4) (pa_cons (pe_def DF hr (pa_cons (pv 8) (pa_cons (pv 9) (pa_cons (pv 3) pa_nil)))) pa_nil))))) (pss_one (ps_ret pe_bl)) pss_nil)))
        (pss_one (ps_ret pe_bl)), ?_⟩
      intro H5 g x b d cs s5 P5 G5 d0 d1 R5 CN inc
      have C5 : CaseAt H5 q z bs := hC.sb hP s5
      refine ⟨_, rfl, g, z + 1 + d, bs, rfl, G5, by omega, by omega, BN, fun H6 x1 k6 R6 => ⟨_, rfl, (by show 2 ≤ sizeLine; decide), fun t1 n1 => ?_⟩⟩
      have k7 := k6.trans (same_new (o := .tup [.ref x1, .int c]) n1)
      refine ⟨_, rfl, _, rfl, (by show 2 ≤ sizeLine; decide), fun t2 n2 => ?_⟩
      have k8 := k7.trans (same_new (o := .tup [.ref x, .int c]) n2)
      refine ⟨_, rfl, q, z, bs, rfl, C5.same k8, by omega, by omega, BN, fun H9 x3 k9 R9 => ⟨_, rfl, _, _, rfl, rfl, (by show 2 ≤ sizeLine; decide), fun t3 n3 => ?_⟩⟩
      have k10 := k9.trans (same_new (o := .tup [.ref x3, .int (c + 1)]) n3)
      refine ⟨(by show 3 ≤ sizeLine; decide), fun l nl => ?_⟩
      have k11 := k10.trans (same_new (o := .lst [.ref t1, .ref t2, .ref t3]) nl)
      have m1 : Mild CS CR (upd (upd H9 t3 (.tup [.ref x3, .int (c + 1)])) l (.lst [.ref t1, .ref t2, .ref t3])) bs z c (.ref t1) :=
        Mild.same (((same_new n2).trans k11)) ⟨t1, x1, z + 1 + d, c, bs, rfl, upd_same, R6.same (same_new n1), BN, by omega, by omega, c0, by omega, fun h _ _ => reach_size BN (by omega) h⟩
      have m2 : Mild CS CR (upd (upd H9 t3 (.tup [.ref x3, .int (c + 1)])) l (.lst [.ref t1, .ref t2, .ref t3])) bs z c (.ref t2) :=
        Mild.same k11 ⟨t2, x, z, c, cs, rfl, upd_same, R5.same k8, CN, by omega, by omega, c0, by omega, fun h _ _ => reach_bounds BN CN inc h⟩
      have m3 : Mild CS CR (upd (upd H9 t3 (.tup [.ref x3, .int (c + 1)])) l (.lst [.ref t1, .ref t2, .ref t3])) bs z c (.ref t3) :=
        Mild.same (same_new nl) ⟨t3, x3, z, c + 1, bs, rfl, upd_same, R9.same (same_new n3), BN, by omega, by omega, by omega, by omega, fun h _ _ => reach_cap h⟩
      have hl : (upd (upd H9 t3 (.tup [.ref x3, .int (c + 1)])) l (.lst [.ref t1, .ref t2, .ref t3])) l = some (.lst [.ref t1, .ref t2, .ref t3]) := upd_same
      have k12 := k8.trans k11
      generalize (upd (upd H9 t3 (.tup [.ref x3, .int (c + 1)])) l (.lst [.ref t1, .ref t2, .ref t3])) = HA at m1 m2 m3 hl k12
      have sA := s5.trans (SB.of k12)
      have PA := P5.same k12
      refine ⟨l, rfl, ⟨_, SqL.of hl⟩, for_list (K := K) (a := l) (xs := [.ref t1, .ref t2, .ref t3]) (fun i σ H' => ∃ v8 v9, σ = [some (.ref p), some (.ref q), some (.int c), some (.int len), some (ov o), some (.ref g), some (.ref x), some (.int b), v8, v9] ∧ Same HA H')
        ⟨none, none, rfl, Same.refl _⟩ (fun i σ H' _ ⟨_, _, _, k⟩ => SqL.of (k _ _ hl)) ?_ ?_⟩
      · rintro i y σ H' hi ⟨v8, v9, rfl, kA⟩
        have my : Mild CS CR HA bs z c y := by
          match i, hi with
          | 0, hi => cases Option.some.inj hi; exact m1
          | 1, hi => cases Option.some.inj hi; exact m2
          | 2, hi => cases Option.some.inj hi; exact m3
          | n + 3, hi => simp at hi
        obtain ⟨t, y, z', w', es, rfl, ht, hR, hE, hz, hz2, hw, hw2, hup⟩ := my.same kA
        refine ⟨t, _, rfl, SqT.of ht, rfl, _, _, rfl, _, _, rfl, rfl, ?_⟩
        refine ⟨_, rfl, _, rfl, _, rfl, _, rfl, y, z', w', len, es, rfl, hR, hE, hw, hw2, by omega, hz2, l0, l1, fun H2 o2 k2 f2 => ?_⟩
        have nw := few_mild RC (rch_of (z := z') (c := w') hE (by omega) hw) hup FW f2
        exact ⟨o, o2, rfl, nw, true, rfl, iteF ⟨_, _, rfl, kA.trans k2⟩⟩
      · rintro σ H' ⟨v8, v9, rfl, kA⟩
        exact k H' (sA.trans (SB.of kA)) (PA.same kA)
    refine ⟨_, pss_cons (ps_set (i := 5) sc_milder.nd rfl (.inl rfl) (pe_tup (pa_cons (pe_op op_add (pe_op op_add (pe_ix ix_tup (pv 1) pe_int (fun _ _ => rfl)) pe_int) (pe_def DD hr (pa_cons (pv 0) (pa_cons pe_int pa_nil)))) (pa_cons (pe_ix ix_tup (pv 1) pe_int (fun _ _ => rfl)) pa_nil))))
      (pss_cons (ps_set (i := 6) sc_milder.nd rfl (.inl rfl) (pe_def DM hr (pa_cons (pv 1) pa_nil)))
      (pss_cons (ps_set (i := 7) sc_milder.nd rfl (.inl rfl) (pe_op op_add pe_int (pe_def DD hr (pa_cons (pv 0) (pa_cons pe_int pa_nil)))))
      (pss_cons (ps_if (PW.pt (pw_and (pt_cmpR op_notIn_seq (pv 7) (pe_ix ix_tup (pv 1) pe_int (fun _ _ => rfl)) (by rfl)) (pw_and1 (pt_cmpR op_lt (pe_callB call_len_seq (by rfl) T.len bt_len (pa_cons (pe_ix ix_tup (pv 1) pe_int (fun _ _ => rfl)) pa_nil)) pe_int (nomark _)))))
        (pss_one (ps_set (i := 6) sc_milder.nd rfl (.inl rfl) (pe_mk MR hr (pa_cons (pe_ix ix_tup (pv 1) pe_int (fun _ _ => rfl)) (pa_cons (pe_op (op_addOwn AO hr) (pe_fld (pv 6) rfl) (pv 7)) pa_nil))))) pss_nil)
        hT))), ?_⟩
    obtain ⟨lq, hq, hlq⟩ := hC.ex
    -- greater
    refine ⟨_, rfl, q, _, 0, .int z, rfl, rfl, SqT.of hq, rfl, _, _, rfl, rfl, _, rfl, p, a, ns, 3, B, rfl, hP, by omega, by omega, by omega, fun d H1 d0 d1 s1 P1 => ⟨_, _, rfl, rfl, ?_⟩⟩
    have C1 : CaseAt H1 q z bs := hC.sb hP s1
    obtain ⟨l1, hq1, hl1⟩ := C1.ex
    refine ⟨_, rfl, q, _, 1, .ref l1, rfl, rfl, SqT.of hq1, rfl, (by show 2 ≤ sizeLine; decide), fun g ng => ?_⟩
    have k2 : Same H1 (upd H1 g (.tup [.int (z + 1 + d), .ref l1])) := same_new ng
    have G2 : CaseAt (upd H1 g (.tup [.int (z + 1 + d), .ref l1])) g (z + 1 + d) bs := ⟨l1, upd_same, k2 _ _ hl1⟩
    -- wider
    refine ⟨_, rfl, q, z, bs, rfl, C1.same k2, by omega, by omega, BN, fun H3 x k3 R3 => ?_⟩
    have k13 := k2.trans k3
    -- bound
    refine ⟨_, rfl, p, a, ns, 14, B + 1, rfl, P1.same k13, by omega, by omega, by omega, fun b H4 b0 b1 s4 P4 => ⟨_, _, rfl, rfl, ?_⟩⟩
    have P3 := P1.same k13
    have s04 : SB p H H4 := (s1.trans (SB.of k13)).trans s4
    have C4 : CaseAt H4 q z bs := hC.sb hP s04
    have G4 : CaseAt H4 g (z + 1 + d) bs := CaseAt.sb P3 s4 (G2.same k3)
    have R4 : RoomAt CS CR H4 x z bs := R3.sbp P3 s4
    obtain ⟨l4, hq4, hl4⟩ := C4.ex
    have plain := tail H4 g x (1 + b) d bs s04 P4 G4 d0 d1 R4 BN (fun _ h => h)
    refine ⟨_, rfl, _, rfl, q, _, 1, .ref l4, rfl, rfl, SqT.of hq4, rfl, l4, vi bs, rfl, .inl (SqL.of hl4), rfl, flat_vi bs, decide (1 + b ∉ bs), ?_, ite2 (fun h1 => ?_) (fun h1 => iteF plain)⟩
    · show V.bl (!inV (V.int (1 + b)) (vi bs)) = _
      rw [inV_vi]
      by_cases h : 1 + b ∈ bs <;> simp [h]
    have h1 : 1 + b ∉ bs := of_decide_eq_true h1
    refine ⟨_, rfl, q, _, 1, .ref l4, rfl, rfl, SqT.of hq4, rfl, l4, vi bs, rfl, .inl (SqL.of hl4), _, _, rfl, rfl, _, rfl, ite2 (fun h2 => ?_) (fun h2 => plain)⟩
    have h2 : ((vi bs).length : Int) < 4 := of_decide_eq_true h2
    rw [lenV] at h2
    obtain ⟨dx, st, hx, S4⟩ := R4.ex
    obtain ⟨ds, tb, hs, htb⟩ := S4.ex
    refine ⟨_, rfl, q, _, 0, .int z, rfl, rfl, SqT.of hq4, rfl, _, rfl, x, CR, dx, _, _, rfl, hx, T.iR.cl, T.nS, rmF_steps _ _, _, rfl, st, ds, _, _, rfl, rfl, hs, st, 1 + b, bs, rfl, S4, BN, by omega, h1, by omega, by omega, fun H5 st' cs k5 S5 CN inc => ?_⟩
    obtain ⟨ds', tb', hs', htb'⟩ := S5.ex
    intro x' dx' nx ndx nex
    have k6 : Same H5 (upd (upd H5 dx' (.own x')) x' (.ins CR dx' [])) := same_upd (same_upd (Same.refl _) ndx) nx
    refine ⟨x', dx', st', ds', z, _, rfl, upd_same, by omega, by omega, k6 _ _ hs', fun H6 h6 sb6 => ⟨rfl, ?_⟩⟩
    have k7 : Same H5 H6 := fun c o q => sb6 c o (k6 c o q) (ne_of_none q nx)
    have k8 := k5.trans k7
    exact tail H6 g x' (1 + b) d cs (s04.trans (SB.of k8)) (P4.same k8) (G4.same k8) d0 d1 ⟨dx', st', h6, ds', tb', k7 _ _ hs', k7 _ _ htb'⟩ CN inc
end
end WL

namespace WL
open PySem PySem.Spec PyProof.Rows L2
def spLaw (K : PySem.W.Frag) : Sp := fun vs H Q _ => ∃ (a : Addr) (ns : List Int), vs = [.ref a] ∧ SqL K H a (ns.map V.int) ∧ ns.length ≤ 63 ∧ ∀ H', Q (.bl true) H'
theorem scal_ov (o : Option Int) : scal (ov o) (ov o) = true := by cases o <;> rfl
theorem ov_not (o : Option Int) : (!decide (ov o = V.non)) = decide (o ≠ none) := by
  cases o with
  | none => rfl
  | some i => exact rfl
section
variable {P : Program} {w : World} {K : PySem.W.Frag} {mg : Str → Option Value} {base : Heap} {CS CR : Addr}
abbrev nLaw : List Str := ["_law_script", "_law_pool_here", "_law_room", "_law_made_here", "_law_caps", "_law_cap", "_law_length", "_law_many", "_law_due"]
theorem sc_law : FnScope nLaw ["_law_script"] (defScope sLaw) := ⟨rfl, rfl, rfl, by decide +kernel, rfl, by decide +kernel, by decide +kernel⟩
/-- the caps whose length goes, so far -/
def dues (bs : List Int) (z len : Int) (i : Nat) : List Nat := (List.range i).filter fun k : Nat => decide (len ≤ tp bs z (k : Int))
theorem dues_succ (bs : List Int) (z len : Int) (i : Nat) : dues bs z len (i + 1) = if len ≤ tp bs z (i : Int) then dues bs z len i ++ [i] else dues bs z len i := by
  unfold dues
  rw [List.range_succ, List.filter_append]
  split
  · rename_i h; simp [h]
  · rename_i h; simp [h]
theorem dues_len (bs : List Int) (z len : Int) (i : Nat) : (dues bs z len i).length ≤ i := by
  have := List.length_filter_le (fun k : Nat => decide (len ≤ tp bs z (k : Int))) (List.range i)
  rw [List.length_range] at this
  exact this
theorem ok_law {f : Addr} {fd : FuncData} (F : Fun K "law" "law" sLaw f fd) (T : Txt K mg CS CR)
    (DP : DefOk P w K mg base "_law_pool" 1 ["_law_script"] (spPool K)) (DD : DefOk P w K mg base "_law_draw" 1 ["_law_pool_here", "_law_limit"] (spDraw K)) (DC : DefOk P w K mg base "_law_case" 3 ["_law_pool_here", "_law_most"] (spCase K))
    (DM : DefOk P w K mg base "_law_made" 6 ["_law_room"] (spMade CS CR)) (DL : DefOk P w K mg base "layers" 6 ["room", "cap"] (spLayers CS CR)) (DLL : DefOk P w K mg base "_law_layers" 3 ["_law_room", "_law_cap"] spLLay)
    (DLF : DefOk P w K mg base "_law_fewest" 3 ["_law_room", "_law_cap", "_law_length"] spLFew) (DF : DefOk P w K mg base "fewest" 7 ["room", "cap", "length"] (spFewest CS CR)) (DG : DefOk P w K mg base "goes" 5 ["room", "cap", "length"] (spGoes CS CR))
    (MT : MethOk P w K mg base CR "top" 4 ["self", "cap"] (spTop CS CR)) (DMi : DefOk P w K mg base "_law_milder" 8 ["_law_pool_here", "_law_room", "_law_cap", "_law_length", "_law_many"] (spMilder K)) (DLe : DefOk P w K mg base "least_cap" 5 ["room", "length"] (spLeast CS CR)) :
    FnOk P w K mg base CX0 9 f fd ["_law_script"] (spLaw K) := by
  refine F.ok sc_law (fun vs H Q E h => ?_) (fun cdv A outer s H vs Q E hr h => ?_)
  · obtain ⟨a, ns, rfl, _⟩ := h; rfl
  · obtain ⟨a, ns, rfl, hS, hlen, k⟩ := h
    refine ⟨_, pss_cons (ps_set (i := 1) sc_law.nd rfl (.inl rfl) (pe_def DP hr (pa_cons (pv 0) pa_nil)))
      (pss_cons (ps_set (i := 2) sc_law.nd rfl (.inr rfl) (pe_def DC hr (pa_cons (pv 1) (pa_cons (pe_ix ix_list (pe_lst (pa_cons pe_int (pa_cons pe_int (pa_cons pe_int (pa_cons pe_int pa_nil))))) (pe_def DD hr (pa_cons (pv 1) (pa_cons pe_int pa_nil))) (fun _ _ => rfl)) pa_nil))))
      (pss_cons (ps_set (i := 3) sc_law.nd rfl (.inl rfl) (pe_def DM hr (pa_cons (pv 2) pa_nil)))
      (pss_cons (ps_set (i := 4) sc_law.nd rfl (.inl rfl) (pe_lst (pa_cons (pe_def DD hr (pa_cons (pv 1) (pa_cons pe_int pa_nil))) (pa_cons (pe_def DD hr (pa_cons (pv 1) (pa_cons pe_int pa_nil))) pa_nil))))
      (pss_cons (ps_for PassesOwn.never rfl (pi_list (pv 4)) (pg_name (i := 5) sc_law.nd rfl (.inl rfl))
        (pss_cons (ps_if (pt_cmpR (op_neD hr.units) (pe_def DL hr (pa_cons (pv 3) (pa_cons (pv 5) pa_nil))) (pe_def DLL hr (pa_cons (pv 2) (pa_cons (pv 5) pa_nil))) (nomark _)) (pss_one (ps_ret pe_bl)) pss_nil)
        (pss_one (ps_for PassesOwn.never rfl (pi_range1 (by rfl) T.range (pa_cons (pe_op op_add (pe_ix ix_tup (pv 2) pe_int (fun _ _ => rfl)) pe_int) pa_nil)) (pg_name (i := 6) sc_law.nd rfl (.inr rfl))
          (pss_cons (ps_set (i := 7) sc_law.nd rfl (.inl rfl) (pe_def DLF hr (pa_cons (pv 2) (pa_cons (pv 5) (pa_cons (pv 6) pa_nil)))))
          (pss_cons (ps_if (PW.pt (pw_or (pt_cmpR op_ne (pe_def DF hr (pa_cons (pv 3) (pa_cons (pv 5) (pa_cons (pv 6) pa_nil)))) (pv 7) (nomark _)) (pw_or1 (pt_cmpR op_ne (pe_def DG hr (pa_cons (pv 3) (pa_cons (pv 5) (pa_cons (pv 6) pa_nil)))) (pe_cmp (pc_notN (pv 7)) rfl) (nomark _))))) (pss_one (ps_ret pe_bl)) pss_nil)
          (pss_cons (ps_if (pt_cmpR op_ne (pe_cmpR op_le (pv 6) (pe_mt MT T.iR.cl hr (pv 3) (pa_cons (pv 5) pa_nil)) (nomark _)) (pe_cmp (pc_notN (pv 7)) rfl) (nomark _)) (pss_one (ps_ret pe_bl)) pss_nil)
          (pss_one (ps_if (PW.pt (pw_and (pt_cmpR op_eq (pe_op op_mod (pe_callTy call_int1 (by rfl) T.int bt_int (pa_cons (pv 6) pa_nil)) pe_int) pe_int (nomark _)) (pw_and1 (pt_not (pt_val (pe_def DMi hr (pa_cons (pv 1) (pa_cons (pv 2) (pa_cons (pv 5) (pa_cons (pv 6) (pa_cons (pv 7) pa_nil))))))))))) (pss_one (ps_ret pe_bl)) pss_nil)))))))))
      (pss_cons (ps_set (i := 6) sc_law.nd rfl (.inr rfl) (pe_def DD hr (pa_cons (pv 1) (pa_cons (pe_op op_add (pe_ix ix_tup (pv 2) pe_int (fun _ _ => rfl)) pe_int) pa_nil))))
      (pss_cons (ps_setLc (i := 8) (own := [("_law_cap", 5)]) (g := gName 5) rfl sc_law.nd rfl rfl (sw_true rfl rfl rfl (by decide +kernel)) (pi_range1 (by rfl) T.range (pa_cons (pe_op op_add (pe_ix ix_tup (pv 2) pe_int (fun _ _ => rfl)) pe_int) pa_nil))
          (blkOk_by (own := [("_law_cap", 5)]) (N := nLaw) (sc := defScope sLaw) (by decide +kernel))
          (fun _ _ _ _ _ => pg_name (i := 5) sc_law.nd rfl (Or.inl rfl)) (fun _ _ _ _ _ => pts_one (pt_cmp (pc_notN (pe_def DLF hr (pa_cons (pv 2) (pa_cons (pv 5) (pa_cons (pv 6) pa_nil))))))) (fun _ _ _ _ _ => pv 5))
      (pss_one (ps_ret (pe_cmpR op_eq (pe_def DLe hr (pa_cons (pv 3) (pa_cons (pv 6) pa_nil))) (pe_ix ix_list (pe_op op_cat (pv 8) (pe_lst (pa_cons pe_non pa_nil))) pe_int (fun _ _ => rfl)) (nomark _)))))))))), ?_⟩
    -- the pool
    refine ⟨_, rfl, a, ns, rfl, hS, fun p H1 np k1 P1 => ?_⟩
    -- the case
    refine ⟨_, rfl, (by show 4 ≤ sizeLine; decide), fun e0 ne0 => ?_⟩
    have k2 : Same H1 (upd H1 e0 (.lst [.int 6, .int 6, .int 6, .int 12])) := same_new ne0
    have np0 : e0 ≠ p := by
      obtain ⟨r, e⟩ := P1.lst
      exact (ne_of_none e ne0).symm
    refine ⟨_, rfl, p, a, ns, 4, 0, rfl, P1.same k2, by omega, by omega, by omega, fun d H2 d0 d1 s2 P2 => ?_⟩
    have he0 : H2 e0 = some (.lst [.int 6, .int 6, .int 6, .int 12]) := s2 _ _ upd_same np0
    obtain ⟨m, hm, m0, m1⟩ : ∃ m : Int, atI [V.int 6, V.int 6, V.int 6, V.int 12] d = some (V.int m) ∧ 1 ≤ m ∧ m ≤ 12 := by
      have : d = 0 ∨ d = 1 ∨ d = 2 ∨ d = 3 := by omega
      rcases this with rfl | rfl | rfl | rfl
      · exact ⟨6, rfl, by omega, by omega⟩
      · exact ⟨6, rfl, by omega, by omega⟩
      · exact ⟨6, rfl, by omega, by omega⟩
      · exact ⟨12, rfl, by omega, by omega⟩
    refine ⟨e0, _, d, .int m, rfl, rfl, SqL.of he0, hm, p, a, ns, m, 0 + 1, rfl, P2, by omega, m0, m1, fun H3 q z bs s3 P3 z0 z1 BN C3 => ?_⟩
    -- the room
    refine ⟨_, rfl, q, z, bs, rfl, C3, z0, by omega, BN, fun H4 x k4 R4 => ?_⟩
    have C4 := C3.same k4
    have P4 := P3.same k4
    -- the caps
    refine ⟨_, rfl, p, a, ns, 7, 0 + 1 + 6, rfl, P4, by omega, by omega, by omega, fun c1 H5 c10 c11 s5 P5 => ?_⟩
    refine ⟨_, rfl, p, a, ns, 99, 0 + 1 + 6 + 1, rfl, P5, by omega, by omega, by omega, fun c2 H6 c20 c21 s6 P6 => ?_⟩
    have C6 : CaseAt H6 q z bs := CaseAt.sb P5 s6 (CaseAt.sb P4 s5 C4)
    have R6 : RoomAt CS CR H6 x z bs := RoomAt.sbp P5 s6 (RoomAt.sbp P4 s5 R4)
    refine ⟨(by show 2 ≤ sizeLine; decide), fun e ne => ?_⟩
    have k7 : Same H6 (upd H6 e (.lst [.int c1, .int c2])) := same_new ne
    have npe : e ≠ p := by
      obtain ⟨r, h⟩ := P6.lst
      exact (ne_of_none h ne).symm
    have C7 := C6.same k7
    have R7 := R6.same k7
    have P7 := P6.same k7
    have he7 : (upd H6 e (.lst [.int c1, .int c2])) e = some (.lst [.int c1, .int c2]) := upd_same
    generalize (upd H6 e (.lst [.int c1, .int c2])) = H7 at C7 R7 P7 he7
    -- for cap in caps
    refine ⟨_, rfl, e, rfl, ⟨_, SqL.of he7⟩, for_list (K := K) (a := e) (xs := [.int c1, .int c2]) (fun i σ H8 => ∃ v5 v6 v7, σ = [some (.ref a), some (.ref p), some (.ref q), some (.ref x), some (.ref e), v5, v6, v7, none] ∧ SB p H7 H8 ∧ PoolAt K H8 p a ns (10 + 40 * i))
      ⟨none, none, none, rfl, SB.refl _ _, P7.mono (by omega)⟩ (fun i σ H8 _ ⟨_, _, _, _, s8, _⟩ => SqL.of (s8 _ _ he7 npe)) ?_ ?_⟩
    · rintro i y σ H8 hi ⟨v5, v6, v7, rfl, s8, P8⟩
      obtain ⟨hi2, c, rfl, c0, c98⟩ : i < 2 ∧ ∃ c : Int, y = V.int c ∧ 0 ≤ c ∧ c ≤ 98 := by
        match i, hi with
        | 0, hi => exact ⟨by omega, c1, (Option.some.inj hi).symm, c10, by omega⟩
        | 1, hi => exact ⟨by omega, c2, (Option.some.inj hi).symm, c20, by omega⟩
        | n + 2, hi => simp at hi
      have C8 : CaseAt H8 q z bs := CaseAt.sb P7 s8 C7
      have R8 : RoomAt CS CR H8 x z bs := RoomAt.sbp P7 s8 R7
      -- layers
      refine ⟨_, rfl, _, rfl, x, z, c, bs, rfl, R8, BN, c0, by omega, by omega, by omega, fun H9 l1 n1 k9 N1 hl1 => ?_⟩
      refine ⟨_, rfl, _, rfl, q, z, c, bs, rfl, C8.same k9, BN, c0, by omega, by omega, fun H10 l2 n2 k10 N2 hl2 => ?_⟩
      have en := N1.uniq N2
      subst en
      refine ⟨_, _, .lst (SqL.of (k10 _ _ hl1)) (dpAll_vi _), .lst (SqL.of hl2) (dpAll_vi _), shaped_vi _, shaped_vi _, false, ?_, iteF ?_⟩
      · rw [eqv_vi, decide_eq_true rfl]; rfl
      have k810 := k9.trans k10
      have s10 : SB p H7 H10 := s8.trans (SB.of k810)
      have P10 := P8.same k810
      obtain ⟨lq, hq, _⟩ := (C8.same k810).ex
      -- for length in range(room[0] + 3)
      refine ⟨_, rfl, q, _, 0, .int z, rfl, rfl, SqT.of hq, rfl, _, _, rfl, rfl, z + 3, rfl, by omega, by omega, ?_⟩
      refine for_range (lo := 0) (n := (z + 3).toNat) (fun j σ H11 => ∃ v6 v7, σ = [some (.ref a), some (.ref p), some (.ref q), some (.ref x), some (.ref e), some (.int c), v6, v7, none] ∧ SB p H7 H11 ∧ PoolAt K H11 p a ns (10 + 40 * i + 2 * j))
        ⟨v6, v7, rfl, s10, P10⟩ ?_ ?_
      · rintro j σ H11 hj ⟨v6, v7, rfl, s11, P11⟩
        have hj15 : j < 15 := by omega
        have C11 : CaseAt H11 q z bs := CaseAt.sb P7 s11 C7
        have R11 : RoomAt CS CR H11 x z bs := RoomAt.sbp P7 s11 R7
        have g0 : 0 ≤ 0 + (j : Int) := by omega
        have g1 : 0 + (j : Int) ≤ 99 := by omega
        show tSeq _ _ _ [some (.ref a), some (.ref p), some (.ref q), some (.ref x), some (.ref e), some (.int c), some (.int (0 + (j : Int))), v7, none] H11
        generalize 0 + (j : Int) = len at g0 g1
        refine ⟨_, rfl, _, rfl, _, rfl, q, z, c, len, bs, rfl, C11, BN, c0, by omega, by omega, g0, g1, fun H12 o k12 f12 => ?_⟩
        have R12 := R11.same k12
        -- fewest, goes
        refine ⟨_, rfl, _, rfl, _, rfl, x, z, c, len, bs, rfl, R12, BN, c0, by omega, by omega, by omega, g0, g1, fun H13 o2 k13 f13 => ?_⟩
        have eo := Few.uniq f13 f12
        subst eo
        have R13 := R12.same k13
        obtain ⟨dx, st, hx, _⟩ := R13.ex
        have ft : decide (len ≤ tp bs z c) = decide (o2 ≠ none) := by
          have := few_top BN (by omega) c0 f12
          by_cases h : len ≤ tp bs z c
          · rw [decide_eq_true h, decide_eq_true (this.mp h)]
          · rw [decide_eq_false h, decide_eq_false fun z => h (this.mpr z)]
        refine ⟨_, rfl, scal_ov o2, false, ?_, iteF ?_⟩
        · rw [decide_eq_true rfl]; rfl
        refine ⟨_, rfl, _, rfl, _, rfl, x, z, c, len, bs, rfl, R13, BN, c0, by omega, g0, g1, _, rfl, rfl, false, ?_, iteF ?_⟩
        · rw [ov_not, ft, decide_eq_true rfl]; rfl
        -- length <= made.top(cap)
        refine ⟨_, rfl, _, rfl, x, dx, _, rfl, hx, rmF_top _ _, _, rfl, x, z, c, bs, rfl, R13, BN, c0, by omega, _, _, rfl, rfl, _, rfl, rfl, false, ?_, iteF ?_⟩
        · show V.bl (!decide (V.bl (decide (len ≤ tp bs z c)) = V.bl (!decide (ov o2 = V.non)))) = V.bl false
          rw [ov_not, ft, decide_eq_true rfl]; rfl
        -- milder
        have k1113 := k12.trans k13
        have s13 : SB p H7 H13 := s11.trans (SB.of k1113)
        have P13 := P11.same k1113
        have C13 := C11.same k1113
        refine ⟨_, rfl, .inl ⟨_, rfl, _, _, rfl, rfl, (by show (0 : Int) < 3; decide), rfl, _, rfl, ite2 (fun h1 => ?_) (fun h1 => iteF ⟨_, _, rfl, s13, P13.mono (by omega)⟩)⟩⟩
        refine ⟨_, rfl, _, rfl, _, rfl, _, rfl, _, rfl, p, a, ns, q, z, c, len, bs, o2, 10 + 40 * i + 2 * j, rfl, P13, by omega, C13, BN, z0, by omega, c0, c98, g0, g1, f12, fun H14 s14 P14 => ⟨true, rfl, iteF ?_⟩⟩
        exact ⟨_, _, rfl, s13.trans s14, P14⟩
      · rintro σ H11 ⟨v6, v7, rfl, s11, P11⟩
        exact ⟨_, _, _, rfl, s11, P11.mono (by omega)⟩
    · rintro σ H8 ⟨v5, v6, v7, rfl, s8, P8⟩
      have C8 : CaseAt H8 q z bs := CaseAt.sb P7 s8 C7
      have R8 : RoomAt CS CR H8 x z bs := RoomAt.sbp P7 s8 R7
      obtain ⟨lq, hq, _⟩ := C8.ex
      refine ⟨_, rfl, _, rfl, q, _, 0, .int z, rfl, rfl, SqT.of hq, rfl, _, _, rfl, rfl, p, a, ns, z + 2, _, rfl, P8, by show 10 + 40 * 2 ≤ 1000000; decide, by omega, by omega, fun len H9 g0 g1 s9 P9 => ?_⟩
      have C9 : CaseAt H9 q z bs := CaseAt.sb P8 s9 C8
      have R9 : RoomAt CS CR H9 x z bs := RoomAt.sbp P8 s9 R8
      obtain ⟨lq9, hq9, _⟩ := C9.ex
      -- due
      refine ⟨_, rfl, q, _, 0, .int z, rfl, rfl, SqT.of hq9, rfl, _, _, rfl, rfl, z + 1, rfl, by omega, by omega, fun D nD => ?_⟩
      obtain ⟨n, hn⟩ : ∃ n : Nat, z = (n : Int) := ⟨z.toNat, by omega⟩
      have en : (z + 1).toNat = n + 1 := by omega
      rw [en]
      refine lc_range (lo := 0) (n := n + 1) (fun i H10 => Same H9 H10 ∧ H10 D = some (.lst (vi ((dues bs z len i).map Int.ofNat)))) ⟨same_new nD, upd_same⟩ ?_ ?_
      · rintro i H10 hi ⟨k10, h10⟩
        refine ⟨rfl, _, rfl, _, rfl, _, rfl, q, z, 0 + (i : Int), len, bs, rfl, C9.same k10, BN, by omega, by omega, by omega, g0, by omega, fun H11 o k11 f11 => ?_⟩
        rw [Int.zero_add] at f11
        have ft := few_top BN (by omega) (by omega) f11
        have h11 := k11 _ _ h10
        have k12 := k10.trans k11
        refine ⟨_, rfl, ?_⟩
        rw [ov_not]
        refine ite2 (fun h => ?_) (fun h => ?_)
        · have h : o ≠ none := of_decide_eq_true h
          refine ⟨_, rfl, _, h11, ?_, same_upd k12 nD, ?_⟩
          · rw [lenV, List.length_map]; have := dues_len bs z len i; exact small1000 (by omega)
          · rw [upd_same, dues_succ, if_pos (ft.mpr h)]
            show some (HO.lst (vi _ ++ [V.int (0 + (i : Int))])) = _
            rw [Int.zero_add, vi_snoc, List.map_append]; rfl
        · refine ⟨k12, ?_⟩
          rw [dues_succ, if_neg fun hq => h (decide_eq_true (ft.mp hq))]
          exact h11
      · rintro H10 ⟨k10, h10⟩
        have ll := lst_list (p := fun c => len ≤ tp bs z c) (n := n) (tp_small BN (by omega) (by omega)) (ks := dues bs z len (n + 1)) rfl
        refine ⟨_, rfl, _, rfl, x, z, len, bs, rfl, R9.same k10, BN, by omega, by omega, g0, by omega, fun o ho => ?_⟩
        refine ⟨_, rfl, (by show 1 ≤ sizeLine; decide), fun t nt => ?_⟩
        have nDt : D ≠ t := ne_of_none h10 nt
        have h11 : (upd H10 t (.lst [V.non])) D = some (.lst (vi ((dues bs z len (n + 1)).map Int.ofNat))) := by rw [upd_ne nDt]; exact h10
        have dl := dues_len bs z len (n + 1)
        refine ⟨D, t, _, _, rfl, rfl, h11, upd_same, ?_, fun u nu => ?_⟩
        · rw [lenV, List.length_map]
          exact Nat.le_of_lt (small1000 (show _ + 1 ≤ 1000 by omega))
        have fin : ∀ o' : Option Int, o' = o → Q (V.bl (decide (ov o = ov o'))) (upd (upd H10 t (.lst [V.non])) u (.lst (vi ((dues bs z len (n + 1)).map Int.ofNat) ++ [V.non]))) := fun o' e' => by
          rw [e', decide_eq_true rfl]; exact k _
        have fin2 : ∀ o' : Option Int, o' = o → scal (ov o) (ov o') = true := fun o' e' => by rw [e']; exact scal_ov o
        obtain ⟨f1, f2⟩ := ll
        generalize dues bs z len (n + 1) = ks at h11 f1 f2 fin
        cases ks with
        | nil =>
          have e' := (f1 rfl).uniq ho
          exact ⟨u, _, 0, .non, rfl, rfl, SqL.of upd_same, rfl, fin2 none e', fin none e'⟩
        | cons kk rest =>
          have e' := (f2 kk rest rfl).uniq ho
          exact ⟨u, _, 0, .int (kk : Int), rfl, rfl, SqL.of upd_same, atI_nat (j := 0) rfl, fin2 (some (kk : Int)) e', fin (some (kk : Int)) e'⟩
end
end WL

/-! ### what the top has left, and the law's own head -/
namespace WL
open PySem PySem.Spec PyProof.Rows L2
theorem kit_self {K : PySem.W.Frag} {C : Addr} : PySem.W.kitOne K (.ref C) (.ref C) = some true := by
  unfold PySem.W.kitOne
  rw [if_pos (beq_iff_eq.mpr rfl)]
set_option maxHeartbeats 4000000 in
theorem all_mk {l : PySem.W.OpenLaw} {w : World} {K : PySem.W.Frag} {h : Heap} {mg : Str → Option Value} {fa CS CR f_steps f_add f_room f_told f_reach f_top f_integer f_between f_isList f_bound f_cap f_toldOf f_croom f_clen f_call f_next f_layers f_fewest f_fewIn f_goes f_least f_pool f_draw f_bounds f_ltold f_lreach f_case f_made f_lfew f_llay f_now f_milder f_law : Addr} {od_steps an_steps od_add an_add od_room an_room od_told an_told od_reach an_reach od_top an_top od_integer an_integer od_between an_between od_isList an_isList od_bound an_bound od_cap an_cap od_toldOf an_toldOf od_croom an_croom od_clen an_clen od_call an_call od_next an_next od_layers an_layers od_fewest an_fewest od_fewIn an_fewIn od_goes an_goes od_least an_least od_pool an_pool od_draw an_draw od_bounds an_bounds od_ltold an_ltold od_lreach an_lreach od_case an_case od_made an_made od_lfew an_lfew od_llay an_llay od_now an_now od_milder an_milder od_law an_law : Option Addr} {sl_steps sl_add sl_room sl_told sl_reach sl_top sl_integer sl_between sl_isList sl_bound sl_cap sl_toldOf sl_croom sl_clen sl_call sl_next sl_layers sl_fewest sl_fewIn sl_goes sl_least sl_pool sl_draw sl_bounds sl_ltold sl_lreach sl_case sl_made sl_lfew sl_llay sl_now sl_milder sl_law : Array (Option Value)} {oc_steps kV_steps dc_steps pm_steps cd_steps ct_steps oc_add kV_add dc_add pm_add cd_add ct_add oc_room kV_room dc_room pm_room cd_room ct_room oc_told kV_told dc_told pm_told cd_told ct_told oc_reach kV_reach dc_reach pm_reach cd_reach ct_reach oc_top kV_top dc_top pm_top cd_top ct_top oc_integer kV_integer dc_integer pm_integer cd_integer ct_integer oc_between kV_between dc_between pm_between cd_between ct_between oc_isList kV_isList dc_isList pm_isList cd_isList ct_isList oc_bound kV_bound dc_bound pm_bound cd_bound ct_bound oc_cap kV_cap dc_cap pm_cap cd_cap ct_cap oc_toldOf kV_toldOf dc_toldOf pm_toldOf cd_toldOf ct_toldOf oc_croom kV_croom dc_croom pm_croom cd_croom ct_croom oc_clen kV_clen dc_clen pm_clen cd_clen ct_clen oc_call kV_call dc_call pm_call cd_call ct_call oc_next kV_next dc_next pm_next cd_next ct_next oc_layers kV_layers dc_layers pm_layers cd_layers ct_layers oc_fewest kV_fewest dc_fewest pm_fewest cd_fewest ct_fewest oc_fewIn kV_fewIn dc_fewIn pm_fewIn cd_fewIn ct_fewIn oc_goes kV_goes dc_goes pm_goes cd_goes ct_goes oc_least kV_least dc_least pm_least cd_least ct_least oc_pool kV_pool dc_pool pm_pool cd_pool ct_pool oc_draw kV_draw dc_draw pm_draw cd_draw ct_draw oc_bounds kV_bounds dc_bounds pm_bounds cd_bounds ct_bounds oc_ltold kV_ltold dc_ltold pm_ltold cd_ltold ct_ltold oc_lreach kV_lreach dc_lreach pm_lreach cd_lreach ct_lreach oc_case kV_case dc_case pm_case cd_case ct_case oc_made kV_made dc_made pm_made cd_made ct_made oc_lfew kV_lfew dc_lfew pm_lfew cd_lfew ct_lfew oc_llay kV_llay dc_llay pm_llay cd_llay ct_llay oc_now kV_now dc_now pm_now cd_now ct_now oc_milder kV_milder dc_milder pm_milder cd_milder ct_milder oc_law kV_law dc_law pm_law cd_law ct_law : Value} {fo ro : Option Value} {t_c1 t_c2 t_c3 t_c4 : Tok}
    (X : K.In h) (G : h.Ns mainGlobals mg) (hfa : mg "law" = some (.ref fa))
    (aS : PySem.W.nsIn K mainGlobals "Steps" = some (some (.ref CS)))
    (pgS : PySem.W.plainGet K CS Str.empty = true)
    (hdS : PySem.W.hasDictIn K CS = true)
    (poS : PySem.W.plainOver K CS = true)
    (saS : PySem.W.findIn K (.ref CS) "__setattr__" = some (some (.builtin "object.__setattr__")))
    (mkS : PySem.W.makesIn K CS = true)
    (kcS : PySem.W.keepIn K (.ref CS) = true)
    (haS : PySem.W.findIn K (.ref CS) "__class__" = some (some (.builtin "object.__class__")))
    (hmS : PySem.W.mroIn K CS (.type "object") = some true)
    (aR : PySem.W.nsIn K mainGlobals "Room" = some (some (.ref CR)))
    (pgR : PySem.W.plainGet K CR Str.empty = true)
    (hdR : PySem.W.hasDictIn K CR = true)
    (poR : PySem.W.plainOver K CR = true)
    (saR : PySem.W.findIn K (.ref CR) "__setattr__" = some (some (.builtin "object.__setattr__")))
    (mkR : PySem.W.makesIn K CR = true)
    (kcR : PySem.W.keepIn K (.ref CR) = true)
    (haR : PySem.W.findIn K (.ref CR) "__class__" = some (some (.builtin "object.__class__")))
    (hmR : PySem.W.mroIn K CR (.type "object") = some true)
    (hn : PySem.W.specialIn K (.builtin "object.__class__") "__get__" = some (some (.builtin "getset_descriptor.__get__")))
    (htk : PySem.W.takesIn K (.builtin "object.__class__") = some true)
    (nB : PySem.W.findIn K (.ref CS) "bounds" = some none)
    (nZ : PySem.W.findIn K (.ref CR) "size" = some none)
    (nS : PySem.W.findIn K (.ref CR) "steps" = some none)
    (a_steps : PySem.W.findIn K (.ref CS) "__init__" = some (some (.ref f_steps)))
    (i_steps : PySem.W.isFn K (.ref f_steps) = true)
    (l_steps : K.lookup f_steps = some ⟨oc_steps, od_steps, .func (PySem.W.fnOf "__init__" "Steps.__init__" (defArgs sSteps) (defBody sSteps) (defScope sSteps) .none kV_steps dc_steps pm_steps an_steps cd_steps ct_steps), sl_steps⟩)
    (c_steps : PySem.W.codeIn K cd_steps "Steps.__init__" = true)
    (k_steps : PySem.W.keepIn K (.ref f_steps) = true)
    (a_add : PySem.W.findIn K (.ref CS) (PySem.dunder Operator.Add.info.2) = some (some (.ref f_add)))
    (i_add : PySem.W.isFn K (.ref f_add) = true)
    (l_add : K.lookup f_add = some ⟨oc_add, od_add, .func (PySem.W.fnOf "__add__" "Steps.__add__" (defArgs sAdd) (defBody sAdd) (defScope sAdd) .none kV_add dc_add pm_add an_add cd_add ct_add), sl_add⟩)
    (c_add : PySem.W.codeIn K cd_add "Steps.__add__" = true)
    (k_add : PySem.W.keepIn K (.ref f_add) = true)
    (a_room : PySem.W.findIn K (.ref CR) "__init__" = some (some (.ref f_room)))
    (i_room : PySem.W.isFn K (.ref f_room) = true)
    (l_room : K.lookup f_room = some ⟨oc_room, od_room, .func (PySem.W.fnOf "__init__" "Room.__init__" (defArgs sRoom) (defBody sRoom) (defScope sRoom) .none kV_room dc_room pm_room an_room cd_room ct_room), sl_room⟩)
    (c_room : PySem.W.codeIn K cd_room "Room.__init__" = true)
    (k_room : PySem.W.keepIn K (.ref f_room) = true)
    (a_told : PySem.W.findIn K (.ref CR) "told" = some (some (.ref f_told)))
    (i_told : PySem.W.isFn K (.ref f_told) = true)
    (l_told : K.lookup f_told = some ⟨oc_told, od_told, .func (PySem.W.fnOf "told" "Room.told" (defArgs sTold) (defBody sTold) (defScope sTold) .none kV_told dc_told pm_told an_told cd_told ct_told), sl_told⟩)
    (c_told : PySem.W.codeIn K cd_told "Room.told" = true)
    (k_told : PySem.W.keepIn K (.ref f_told) = true)
    (a_reach : PySem.W.findIn K (.ref CR) "reach" = some (some (.ref f_reach)))
    (i_reach : PySem.W.isFn K (.ref f_reach) = true)
    (l_reach : K.lookup f_reach = some ⟨oc_reach, od_reach, .func (PySem.W.fnOf "reach" "Room.reach" (defArgs sReach) (defBody sReach) (defScope sReach) .none kV_reach dc_reach pm_reach an_reach cd_reach ct_reach), sl_reach⟩)
    (c_reach : PySem.W.codeIn K cd_reach "Room.reach" = true)
    (k_reach : PySem.W.keepIn K (.ref f_reach) = true)
    (a_top : PySem.W.findIn K (.ref CR) "top" = some (some (.ref f_top)))
    (i_top : PySem.W.isFn K (.ref f_top) = true)
    (l_top : K.lookup f_top = some ⟨oc_top, od_top, .func (PySem.W.fnOf "top" "Room.top" (defArgs sTop) (defBody sTop) (defScope sTop) .none kV_top dc_top pm_top an_top cd_top ct_top), sl_top⟩)
    (c_top : PySem.W.codeIn K cd_top "Room.top" = true)
    (k_top : PySem.W.keepIn K (.ref f_top) = true)
    (sf : PySem.W.selfFirst K CS = true)
    (no : PySem.W.findIn K (.ref CS) (PySem.dunderR Operator.Add.info.2) = some none)
    (i1 : PySem.W.findIn K (.type "int") (PySem.dunder Operator.Add.info.2) = some fo)
    (i2 : PySem.W.findIn K (.type "int") (PySem.dunderR Operator.Add.info.2) = some ro)
    (su : PySem.W.subIn K (.type "int") (.ref CS) = some false)
    (a_integer : PySem.W.nsIn K mainGlobals "is_integer" = some (some (.ref f_integer)))
    (l_integer : K.lookup f_integer = some ⟨oc_integer, od_integer, .func (PySem.W.fnOf "is_integer" "is_integer" (defArgs sInteger) (defBody sInteger) (defScope sInteger) .none kV_integer dc_integer pm_integer an_integer cd_integer ct_integer), sl_integer⟩)
    (c_integer : PySem.W.codeIn K cd_integer "is_integer" = true)
    (k_integer : PySem.W.keepIn K (.ref f_integer) = true)
    (a_between : PySem.W.nsIn K mainGlobals "is_between" = some (some (.ref f_between)))
    (l_between : K.lookup f_between = some ⟨oc_between, od_between, .func (PySem.W.fnOf "is_between" "is_between" (defArgs sBetween) (defBody sBetween) (defScope sBetween) .none kV_between dc_between pm_between an_between cd_between ct_between), sl_between⟩)
    (c_between : PySem.W.codeIn K cd_between "is_between" = true)
    (k_between : PySem.W.keepIn K (.ref f_between) = true)
    (a_isList : PySem.W.nsIn K mainGlobals "is_list" = some (some (.ref f_isList)))
    (l_isList : K.lookup f_isList = some ⟨oc_isList, od_isList, .func (PySem.W.fnOf "is_list" "is_list" (defArgs sIsList) (defBody sIsList) (defScope sIsList) .none kV_isList dc_isList pm_isList an_isList cd_isList ct_isList), sl_isList⟩)
    (c_isList : PySem.W.codeIn K cd_isList "is_list" = true)
    (k_isList : PySem.W.keepIn K (.ref f_isList) = true)
    (a_bound : PySem.W.nsIn K mainGlobals "is_bound" = some (some (.ref f_bound)))
    (l_bound : K.lookup f_bound = some ⟨oc_bound, od_bound, .func (PySem.W.fnOf "is_bound" "is_bound" (defArgs sBound) (defBody sBound) (defScope sBound) .none kV_bound dc_bound pm_bound an_bound cd_bound ct_bound), sl_bound⟩)
    (c_bound : PySem.W.codeIn K cd_bound "is_bound" = true)
    (k_bound : PySem.W.keepIn K (.ref f_bound) = true)
    (a_cap : PySem.W.nsIn K mainGlobals "check_cap" = some (some (.ref f_cap)))
    (l_cap : K.lookup f_cap = some ⟨oc_cap, od_cap, .func (PySem.W.fnOf "check_cap" "check_cap" (defArgs sCap) (defBody sCap) (defScope sCap) .none kV_cap dc_cap pm_cap an_cap cd_cap ct_cap), sl_cap⟩)
    (c_cap : PySem.W.codeIn K cd_cap "check_cap" = true)
    (k_cap : PySem.W.keepIn K (.ref f_cap) = true)
    (a_toldOf : PySem.W.nsIn K mainGlobals "told_of" = some (some (.ref f_toldOf)))
    (l_toldOf : K.lookup f_toldOf = some ⟨oc_toldOf, od_toldOf, .func (PySem.W.fnOf "told_of" "told_of" (defArgs sToldOf) (defBody sToldOf) (defScope sToldOf) .none kV_toldOf dc_toldOf pm_toldOf an_toldOf cd_toldOf ct_toldOf), sl_toldOf⟩)
    (c_toldOf : PySem.W.codeIn K cd_toldOf "told_of" = true)
    (k_toldOf : PySem.W.keepIn K (.ref f_toldOf) = true)
    (a_croom : PySem.W.nsIn K mainGlobals "check_room" = some (some (.ref f_croom)))
    (l_croom : K.lookup f_croom = some ⟨oc_croom, od_croom, .func (PySem.W.fnOf "check_room" "check_room" (defArgs sCheckRoom) (defBody sCheckRoom) (defScope sCheckRoom) .none kV_croom dc_croom pm_croom an_croom cd_croom ct_croom), sl_croom⟩)
    (c_croom : PySem.W.codeIn K cd_croom "check_room" = true)
    (k_croom : PySem.W.keepIn K (.ref f_croom) = true)
    (a_clen : PySem.W.nsIn K mainGlobals "check_length" = some (some (.ref f_clen)))
    (l_clen : K.lookup f_clen = some ⟨oc_clen, od_clen, .func (PySem.W.fnOf "check_length" "check_length" (defArgs sCheckLen) (defBody sCheckLen) (defScope sCheckLen) .none kV_clen dc_clen pm_clen an_clen cd_clen ct_clen), sl_clen⟩)
    (c_clen : PySem.W.codeIn K cd_clen "check_length" = true)
    (k_clen : PySem.W.keepIn K (.ref f_clen) = true)
    (a_call : PySem.W.nsIn K mainGlobals "check_all" = some (some (.ref f_call)))
    (l_call : K.lookup f_call = some ⟨oc_call, od_call, .func (PySem.W.fnOf "check_all" "check_all" (defArgs sCheckAll) (defBody sCheckAll) (defScope sCheckAll) .none kV_call dc_call pm_call an_call cd_call ct_call), sl_call⟩)
    (c_call : PySem.W.codeIn K cd_call "check_all" = true)
    (k_call : PySem.W.keepIn K (.ref f_call) = true)
    (a_next : PySem.W.nsIn K mainGlobals "next_layer" = some (some (.ref f_next)))
    (l_next : K.lookup f_next = some ⟨oc_next, od_next, .func (PySem.W.fnOf "next_layer" "next_layer" (defArgs sNext) (defBody sNext) (defScope sNext) .none kV_next dc_next pm_next an_next cd_next ct_next), sl_next⟩)
    (c_next : PySem.W.codeIn K cd_next "next_layer" = true)
    (k_next : PySem.W.keepIn K (.ref f_next) = true)
    (a_layers : PySem.W.nsIn K mainGlobals "layers" = some (some (.ref f_layers)))
    (l_layers : K.lookup f_layers = some ⟨oc_layers, od_layers, .func (PySem.W.fnOf "layers" "layers" (defArgs sLayers) (defBody sLayers) (defScope sLayers) .none kV_layers dc_layers pm_layers an_layers cd_layers ct_layers), sl_layers⟩)
    (c_layers : PySem.W.codeIn K cd_layers "layers" = true)
    (k_layers : PySem.W.keepIn K (.ref f_layers) = true)
    (a_fewest : PySem.W.nsIn K mainGlobals "fewest" = some (some (.ref f_fewest)))
    (l_fewest : K.lookup f_fewest = some ⟨oc_fewest, od_fewest, .func (PySem.W.fnOf "fewest" "fewest" (defArgs sFewest) (defBody sFewest) (defScope sFewest) .none kV_fewest dc_fewest pm_fewest an_fewest cd_fewest ct_fewest), sl_fewest⟩)
    (c_fewest : PySem.W.codeIn K cd_fewest "fewest" = true)
    (k_fewest : PySem.W.keepIn K (.ref f_fewest) = true)
    (a_fewIn : PySem.W.nsIn K mainGlobals "fewest_in" = some (some (.ref f_fewIn)))
    (l_fewIn : K.lookup f_fewIn = some ⟨oc_fewIn, od_fewIn, .func (PySem.W.fnOf "fewest_in" "fewest_in" (defArgs sFewIn) (defBody sFewIn) (defScope sFewIn) .none kV_fewIn dc_fewIn pm_fewIn an_fewIn cd_fewIn ct_fewIn), sl_fewIn⟩)
    (c_fewIn : PySem.W.codeIn K cd_fewIn "fewest_in" = true)
    (k_fewIn : PySem.W.keepIn K (.ref f_fewIn) = true)
    (a_goes : PySem.W.nsIn K mainGlobals "goes" = some (some (.ref f_goes)))
    (l_goes : K.lookup f_goes = some ⟨oc_goes, od_goes, .func (PySem.W.fnOf "goes" "goes" (defArgs sGoes) (defBody sGoes) (defScope sGoes) .none kV_goes dc_goes pm_goes an_goes cd_goes ct_goes), sl_goes⟩)
    (c_goes : PySem.W.codeIn K cd_goes "goes" = true)
    (k_goes : PySem.W.keepIn K (.ref f_goes) = true)
    (a_least : PySem.W.nsIn K mainGlobals "least_cap" = some (some (.ref f_least)))
    (l_least : K.lookup f_least = some ⟨oc_least, od_least, .func (PySem.W.fnOf "least_cap" "least_cap" (defArgs sLeast) (defBody sLeast) (defScope sLeast) .none kV_least dc_least pm_least an_least cd_least ct_least), sl_least⟩)
    (c_least : PySem.W.codeIn K cd_least "least_cap" = true)
    (k_least : PySem.W.keepIn K (.ref f_least) = true)
    (a_pool : PySem.W.nsIn K mainGlobals "_law_pool" = some (some (.ref f_pool)))
    (l_pool : K.lookup f_pool = some ⟨oc_pool, od_pool, .func (PySem.W.fnOf "_law_pool" "_law_pool" (defArgs sPool) (defBody sPool) (defScope sPool) .none kV_pool dc_pool pm_pool an_pool cd_pool ct_pool), sl_pool⟩)
    (c_pool : PySem.W.codeIn K cd_pool "_law_pool" = true)
    (k_pool : PySem.W.keepIn K (.ref f_pool) = true)
    (a_draw : PySem.W.nsIn K mainGlobals "_law_draw" = some (some (.ref f_draw)))
    (l_draw : K.lookup f_draw = some ⟨oc_draw, od_draw, .func (PySem.W.fnOf "_law_draw" "_law_draw" (defArgs sDraw) (defBody sDraw) (defScope sDraw) .none kV_draw dc_draw pm_draw an_draw cd_draw ct_draw), sl_draw⟩)
    (c_draw : PySem.W.codeIn K cd_draw "_law_draw" = true)
    (k_draw : PySem.W.keepIn K (.ref f_draw) = true)
    (a_bounds : PySem.W.nsIn K mainGlobals "_law_bounds" = some (some (.ref f_bounds)))
    (l_bounds : K.lookup f_bounds = some ⟨oc_bounds, od_bounds, .func (PySem.W.fnOf "_law_bounds" "_law_bounds" (defArgs sBounds) (defBody sBounds) (defScope sBounds) .none kV_bounds dc_bounds pm_bounds an_bounds cd_bounds ct_bounds), sl_bounds⟩)
    (c_bounds : PySem.W.codeIn K cd_bounds "_law_bounds" = true)
    (k_bounds : PySem.W.keepIn K (.ref f_bounds) = true)
    (a_ltold : PySem.W.nsIn K mainGlobals "_law_told" = some (some (.ref f_ltold)))
    (l_ltold : K.lookup f_ltold = some ⟨oc_ltold, od_ltold, .func (PySem.W.fnOf "_law_told" "_law_told" (defArgs sLTold) (defBody sLTold) (defScope sLTold) .none kV_ltold dc_ltold pm_ltold an_ltold cd_ltold ct_ltold), sl_ltold⟩)
    (c_ltold : PySem.W.codeIn K cd_ltold "_law_told" = true)
    (k_ltold : PySem.W.keepIn K (.ref f_ltold) = true)
    (a_lreach : PySem.W.nsIn K mainGlobals "_law_reach" = some (some (.ref f_lreach)))
    (l_lreach : K.lookup f_lreach = some ⟨oc_lreach, od_lreach, .func (PySem.W.fnOf "_law_reach" "_law_reach" (defArgs sLReach) (defBody sLReach) (defScope sLReach) .none kV_lreach dc_lreach pm_lreach an_lreach cd_lreach ct_lreach), sl_lreach⟩)
    (c_lreach : PySem.W.codeIn K cd_lreach "_law_reach" = true)
    (k_lreach : PySem.W.keepIn K (.ref f_lreach) = true)
    (a_case : PySem.W.nsIn K mainGlobals "_law_case" = some (some (.ref f_case)))
    (l_case : K.lookup f_case = some ⟨oc_case, od_case, .func (PySem.W.fnOf "_law_case" "_law_case" (defArgs sCase) (defBody sCase) (defScope sCase) .none kV_case dc_case pm_case an_case cd_case ct_case), sl_case⟩)
    (c_case : PySem.W.codeIn K cd_case "_law_case" = true)
    (k_case : PySem.W.keepIn K (.ref f_case) = true)
    (a_made : PySem.W.nsIn K mainGlobals "_law_made" = some (some (.ref f_made)))
    (l_made : K.lookup f_made = some ⟨oc_made, od_made, .func (PySem.W.fnOf "_law_made" "_law_made" (defArgs sMade) (defBody sMade) (defScope sMade) .none kV_made dc_made pm_made an_made cd_made ct_made), sl_made⟩)
    (c_made : PySem.W.codeIn K cd_made "_law_made" = true)
    (k_made : PySem.W.keepIn K (.ref f_made) = true)
    (a_lfew : PySem.W.nsIn K mainGlobals "_law_fewest" = some (some (.ref f_lfew)))
    (l_lfew : K.lookup f_lfew = some ⟨oc_lfew, od_lfew, .func (PySem.W.fnOf "_law_fewest" "_law_fewest" (defArgs sLFew) (defBody sLFew) (defScope sLFew) .none kV_lfew dc_lfew pm_lfew an_lfew cd_lfew ct_lfew), sl_lfew⟩)
    (c_lfew : PySem.W.codeIn K cd_lfew "_law_fewest" = true)
    (k_lfew : PySem.W.keepIn K (.ref f_lfew) = true)
    (a_llay : PySem.W.nsIn K mainGlobals "_law_layers" = some (some (.ref f_llay)))
    (l_llay : K.lookup f_llay = some ⟨oc_llay, od_llay, .func (PySem.W.fnOf "_law_layers" "_law_layers" (defArgs sLLay) (defBody sLLay) (defScope sLLay) .none kV_llay dc_llay pm_llay an_llay cd_llay ct_llay), sl_llay⟩)
    (c_llay : PySem.W.codeIn K cd_llay "_law_layers" = true)
    (k_llay : PySem.W.keepIn K (.ref f_llay) = true)
    (a_now : PySem.W.nsIn K mainGlobals "_law_no_worse" = some (some (.ref f_now)))
    (l_now : K.lookup f_now = some ⟨oc_now, od_now, .func (PySem.W.fnOf "_law_no_worse" "_law_no_worse" (defArgs sNoW) (defBody sNoW) (defScope sNoW) .none kV_now dc_now pm_now an_now cd_now ct_now), sl_now⟩)
    (c_now : PySem.W.codeIn K cd_now "_law_no_worse" = true)
    (k_now : PySem.W.keepIn K (.ref f_now) = true)
    (a_milder : PySem.W.nsIn K mainGlobals "_law_milder" = some (some (.ref f_milder)))
    (l_milder : K.lookup f_milder = some ⟨oc_milder, od_milder, .func (PySem.W.fnOf "_law_milder" "_law_milder" (defArgs sMilder) (defBody sMilder) (defScope sMilder) .none kV_milder dc_milder pm_milder an_milder cd_milder ct_milder), sl_milder⟩)
    (c_milder : PySem.W.codeIn K cd_milder "_law_milder" = true)
    (k_milder : PySem.W.keepIn K (.ref f_milder) = true)
    (a_law : PySem.W.nsIn K mainGlobals "law" = some (some (.ref f_law)))
    (l_law : K.lookup f_law = some ⟨oc_law, od_law, .func (PySem.W.fnOf "law" "law" (defArgs sLaw) (defBody sLaw) (defScope sLaw) .none kV_law dc_law pm_law an_law cd_law ct_law), sl_law⟩)
    (c_law : PySem.W.codeIn K cd_law "law" = true)
    (k_law : PySem.W.keepIn K (.ref f_law) = true)
    (z_isinstance : PySem.W.nsIn K mainGlobals "isinstance" = some none)
    (z_int : PySem.W.nsIn K mainGlobals "int" = some none)
    (z_bool : PySem.W.nsIn K mainGlobals "bool" = some none)
    (z_list : PySem.W.nsIn K mainGlobals "list" = some none)
    (z_tuple : PySem.W.nsIn K mainGlobals "tuple" = some none)
    (z_len : PySem.W.nsIn K mainGlobals "len" = some none)
    (z_enumerate : PySem.W.nsIn K mainGlobals "enumerate" = some none)
    (z_range : PySem.W.nsIn K mainGlobals "range" = some none)
    (z_max : PySem.W.nsIn K mainGlobals "max" = some none)
    (z_min : PySem.W.nsIn K mainGlobals "min" = some none)
    (z_abs : PySem.W.nsIn K mainGlobals "abs" = some none)
    (z_sorted : PySem.W.nsIn K mainGlobals "sorted" = some none)
    (c1 : PySem.W.nsIn K mainGlobals "MOST_SIZE" = some (some (.int 60 t_c1)))
    (c2 : PySem.W.nsIn K mainGlobals "MOST_BOUNDS" = some (some (.int 4 t_c2)))
    (c3 : PySem.W.nsIn K mainGlobals "MOST_CAP" = some (some (.int 99 t_c3)))
    (c4 : PySem.W.nsIn K mainGlobals "MOST_LENGTH" = some (some (.int 99 t_c4)))
    : ∃ fd : FuncData, (∀ (s : Shared) (v : Value), BindsTo s fd ⟨[v], []⟩ [("_law_script", v)]) ∧ ∀ base : Heap, K.In base → base.Ns mainGlobals mg → FnOk l.prog w K mg base CX0 9 fa fd ["_law_script"] (spLaw K) := by
  have e := hfa.symm.trans (PySem.W.mg_of X G a_law)
  cases e
  have clS : Cls K CS := ⟨pgS, hdS, poS, saS⟩
  have clR : Cls K CR := ⟨pgR, hdR, poR, saR⟩
  have T : Txt K mg CS CR := ⟨⟨clS, haS, hn, htk, hmS, kit_self⟩, ⟨clR, haR, hn, htk, hmR, kit_self⟩, nB, nZ, nS, PySem.W.mg_of X G aS, PySem.W.mg_of X G aR, PySem.W.mg_none_of X G z_isinstance, PySem.W.mg_none_of X G z_int, PySem.W.mg_none_of X G z_bool, PySem.W.mg_none_of X G z_list, PySem.W.mg_none_of X G z_tuple, PySem.W.mg_none_of X G z_len, PySem.W.mg_none_of X G z_enumerate, PySem.W.mg_none_of X G z_range, PySem.W.mg_none_of X G z_max, PySem.W.mg_none_of X G z_min, PySem.W.mg_none_of X G z_abs, PySem.W.mg_none_of X G z_sorted, ⟨_, PySem.W.mg_of X G c1⟩, ⟨_, PySem.W.mg_of X G c2⟩, ⟨_, PySem.W.mg_of X G c3⟩, ⟨_, PySem.W.mg_of X G c4⟩⟩
  have F_steps := fun_mk (st := sSteps) l_steps c_steps k_steps
  have b_steps := F_steps.binds (ps := ["self", "bounds"]) fun _ _ _ _ _ _ us hl => match us, hl with | [_, _], _ => rfl
  have F_add := fun_mk (st := sAdd) l_add c_add k_add
  have b_add := F_add.binds (ps := ["self", "bound"]) fun _ _ _ _ _ _ us hl => match us, hl with | [_, _], _ => rfl
  have F_room := fun_mk (st := sRoom) l_room c_room k_room
  have b_room := F_room.binds (ps := ["self", "size", "steps"]) fun _ _ _ _ _ _ us hl => match us, hl with | [_, _, _], _ => rfl
  have F_told := fun_mk (st := sTold) l_told c_told k_told
  have b_told := F_told.binds (ps := ["self", "held"]) fun _ _ _ _ _ _ us hl => match us, hl with | [_, _], _ => rfl
  have F_reach := fun_mk (st := sReach) l_reach c_reach k_reach
  have b_reach := F_reach.binds (ps := ["self", "held", "cap"]) fun _ _ _ _ _ _ us hl => match us, hl with | [_, _, _], _ => rfl
  have F_top := fun_mk (st := sTop) l_top c_top k_top
  have b_top := F_top.binds (ps := ["self", "cap"]) fun _ _ _ _ _ _ us hl => match us, hl with | [_, _], _ => rfl
  have F_integer := fun_mk (st := sInteger) l_integer c_integer k_integer
  have b_integer := F_integer.binds (ps := ["value"]) fun _ _ _ _ _ _ us hl => match us, hl with | [_], _ => rfl
  have F_between := fun_mk (st := sBetween) l_between c_between k_between
  have b_between := F_between.binds (ps := ["value", "least", "most"]) fun _ _ _ _ _ _ us hl => match us, hl with | [_, _, _], _ => rfl
  have F_isList := fun_mk (st := sIsList) l_isList c_isList k_isList
  have b_isList := F_isList.binds (ps := ["value"]) fun _ _ _ _ _ _ us hl => match us, hl with | [_], _ => rfl
  have F_bound := fun_mk (st := sBound) l_bound c_bound k_bound
  have b_bound := F_bound.binds (ps := ["value"]) fun _ _ _ _ _ _ us hl => match us, hl with | [_], _ => rfl
  have F_cap := fun_mk (st := sCap) l_cap c_cap k_cap
  have b_cap := F_cap.binds (ps := ["cap"]) fun _ _ _ _ _ _ us hl => match us, hl with | [_], _ => rfl
  have F_toldOf := fun_mk (st := sToldOf) l_toldOf c_toldOf k_toldOf
  have b_toldOf := F_toldOf.binds (ps := ["bounds", "free"]) fun _ _ _ _ _ _ us hl => match us, hl with | [_, _], _ => rfl
  have F_croom := fun_mk (st := sCheckRoom) l_croom c_croom k_croom
  have b_croom := F_croom.binds (ps := ["room"]) fun _ _ _ _ _ _ us hl => match us, hl with | [_], _ => rfl
  have F_clen := fun_mk (st := sCheckLen) l_clen c_clen k_clen
  have b_clen := F_clen.binds (ps := ["length"]) fun _ _ _ _ _ _ us hl => match us, hl with | [_], _ => rfl
  have F_call := fun_mk (st := sCheckAll) l_call c_call k_call
  have b_call := F_call.binds (ps := ["room", "cap", "length"]) fun _ _ _ _ _ _ us hl => match us, hl with | [_, _, _], _ => rfl
  have F_next := fun_mk (st := sNext) l_next c_next k_next
  have b_next := F_next.binds (ps := ["room", "cap", "top"]) fun _ _ _ _ _ _ us hl => match us, hl with | [_, _, _], _ => rfl
  have F_layers := fun_mk (st := sLayers) l_layers c_layers k_layers
  have b_layers := F_layers.binds (ps := ["room", "cap"]) fun _ _ _ _ _ _ us hl => match us, hl with | [_, _], _ => rfl
  have F_fewest := fun_mk (st := sFewest) l_fewest c_fewest k_fewest
  have b_fewest := F_fewest.binds (ps := ["room", "cap", "length"]) fun _ _ _ _ _ _ us hl => match us, hl with | [_, _, _], _ => rfl
  have F_fewIn := fun_mk (st := sFewIn) l_fewIn c_fewIn k_fewIn
  have b_fewIn := F_fewIn.binds (ps := ["tops", "length"]) fun _ _ _ _ _ _ us hl => match us, hl with | [_, _], _ => rfl
  have F_goes := fun_mk (st := sGoes) l_goes c_goes k_goes
  have b_goes := F_goes.binds (ps := ["room", "cap", "length"]) fun _ _ _ _ _ _ us hl => match us, hl with | [_, _, _], _ => rfl
  have F_least := fun_mk (st := sLeast) l_least c_least k_least
  have b_least := F_least.binds (ps := ["room", "length"]) fun _ _ _ _ _ _ us hl => match us, hl with | [_, _], _ => rfl
  have F_pool := fun_mk (st := sPool) l_pool c_pool k_pool
  have b_pool := F_pool.binds (ps := ["_law_script"]) fun _ _ _ _ _ _ us hl => match us, hl with | [_], _ => rfl
  have F_draw := fun_mk (st := sDraw) l_draw c_draw k_draw
  have b_draw := F_draw.binds (ps := ["_law_pool_here", "_law_limit"]) fun _ _ _ _ _ _ us hl => match us, hl with | [_, _], _ => rfl
  have F_bounds := fun_mk (st := sBounds) l_bounds c_bounds k_bounds
  have b_bounds := F_bounds.binds (ps := ["_law_pool_here", "_law_size"]) fun _ _ _ _ _ _ us hl => match us, hl with | [_, _], _ => rfl
  have F_ltold := fun_mk (st := sLTold) l_ltold c_ltold k_ltold
  have b_ltold := F_ltold.binds (ps := ["_law_bounds_here", "_law_free"]) fun _ _ _ _ _ _ us hl => match us, hl with | [_, _], _ => rfl
  have F_lreach := fun_mk (st := sLReach) l_lreach c_lreach k_lreach
  have b_lreach := F_lreach.binds (ps := ["_law_room", "_law_held", "_law_cap"]) fun _ _ _ _ _ _ us hl => match us, hl with | [_, _, _], _ => rfl
  have F_case := fun_mk (st := sCase) l_case c_case k_case
  have b_case := F_case.binds (ps := ["_law_pool_here", "_law_most"]) fun _ _ _ _ _ _ us hl => match us, hl with | [_, _], _ => rfl
  have F_made := fun_mk (st := sMade) l_made c_made k_made
  have b_made := F_made.binds (ps := ["_law_room"]) fun _ _ _ _ _ _ us hl => match us, hl with | [_], _ => rfl
  have F_lfew := fun_mk (st := sLFew) l_lfew c_lfew k_lfew
  have b_lfew := F_lfew.binds (ps := ["_law_room", "_law_cap", "_law_length"]) fun _ _ _ _ _ _ us hl => match us, hl with | [_, _, _], _ => rfl
  have F_llay := fun_mk (st := sLLay) l_llay c_llay k_llay
  have b_llay := F_llay.binds (ps := ["_law_room", "_law_cap"]) fun _ _ _ _ _ _ us hl => match us, hl with | [_, _], _ => rfl
  have F_now := fun_mk (st := sNoW) l_now c_now k_now
  have b_now := F_now.binds (ps := ["_law_one", "_law_two"]) fun _ _ _ _ _ _ us hl => match us, hl with | [_, _], _ => rfl
  have F_milder := fun_mk (st := sMilder) l_milder c_milder k_milder
  have b_milder := F_milder.binds (ps := ["_law_pool_here", "_law_room", "_law_cap", "_law_length", "_law_many"]) fun _ _ _ _ _ _ us hl => match us, hl with | [_, _, _, _, _], _ => rfl
  have F_law := fun_mk (st := sLaw) l_law c_law k_law
  refine ⟨PySem.W.fnOf "law" "law" (defArgs sLaw) (defBody sLaw) (defScope sLaw) .none kV_law dc_law pm_law an_law cd_law ct_law, fun s v => .of_eq rfl, fun base _ _ => ?_⟩
  have D_integer : DefOk l.prog w K mg base "is_integer" 1 ["value"] (spInteger) := ⟨f_integer, _, PySem.W.mg_of X G a_integer, k_integer, b_integer, ok_integer F_integer T⟩
  have D_between : DefOk l.prog w K mg base "is_between" 2 ["value", "least", "most"] (spBetween) := ⟨f_between, _, PySem.W.mg_of X G a_between, k_between, b_between, ok_between F_between D_integer⟩
  have D_isList : DefOk l.prog w K mg base "is_list" 1 ["value"] (spIsList) := ⟨f_isList, _, PySem.W.mg_of X G a_isList, k_isList, b_isList, ok_isList F_isList T⟩
  have D_bound : DefOk l.prog w K mg base "is_bound" 3 ["value"] (spBound) := ⟨f_bound, _, PySem.W.mg_of X G a_bound, k_bound, b_bound, ok_bound F_bound T D_between⟩
  have D_cap : DefOk l.prog w K mg base "check_cap" 3 ["cap"] (spChk) := ⟨f_cap, _, PySem.W.mg_of X G a_cap, k_cap, b_cap, ok_cap F_cap T D_between⟩
  have D_clen : DefOk l.prog w K mg base "check_length" 3 ["length"] (spChk) := ⟨f_clen, _, PySem.W.mg_of X G a_clen, k_clen, b_clen, ok_len F_clen T D_between⟩
  have D_toldOf : DefOk l.prog w K mg base "told_of" 1 ["bounds", "free"] (spToldOf) := ⟨f_toldOf, _, PySem.W.mg_of X G a_toldOf, k_toldOf, b_toldOf, ok_toldOf F_toldOf⟩
  have D_croom : DefOk l.prog w K mg base "check_room" 1 ["room"] (spCheckRoom CR) := ⟨f_croom, _, PySem.W.mg_of X G a_croom, k_croom, b_croom, ok_croom F_croom T⟩
  have D_call : DefOk l.prog w K mg base "check_all" 4 ["room", "cap", "length"] (spCheckAll CR) := ⟨f_call, _, PySem.W.mg_of X G a_call, k_call, b_call, ok_call F_call D_croom D_cap D_clen⟩
  have M_steps : MakeOk l.prog w K mg base "Steps" CS 4 ["self", "bounds"] (spSteps CS) := ⟨f_steps, _, PySem.W.mg_of X G aS, ⟨mkS, a_steps, i_steps, kcS⟩, b_steps, ok_steps F_steps T D_isList D_bound⟩
  have M_room : MakeOk l.prog w K mg base "Room" CR 3 ["self", "size", "steps"] (spRoom CS CR) := ⟨f_room, _, PySem.W.mg_of X G aR, ⟨mkR, a_room, i_room, kcR⟩, b_room, ok_room F_room T D_between⟩
  have M_told : MethOk l.prog w K mg base CR "told" 3 ["self", "held"] (spTold CS CR) := ⟨f_told, _, ⟨a_told, i_told, k_told⟩, b_told, ok_told F_told T D_between D_toldOf⟩
  have M_reach : MethOk l.prog w K mg base CR "reach" 4 ["self", "held", "cap"] (spReach CS CR) := ⟨f_reach, _, ⟨a_reach, i_reach, k_reach⟩, b_reach, ok_reach F_reach T M_told D_cap⟩
  have M_top : MethOk l.prog w K mg base CR "top" 4 ["self", "cap"] (spTop CS CR) := ⟨f_top, _, ⟨a_top, i_top, k_top⟩, b_top, ok_top F_top T D_cap⟩
  have A_add : AddOk l.prog w K mg base CS 6 ["self", "bound"] (spAdd CS) := ⟨f_add, _, ⟨sf, a_add, i_add, no, ⟨_, i1⟩, ⟨_, i2⟩, su⟩, b_add, ok_add F_add T D_bound M_steps⟩
  have D_next : DefOk l.prog w K mg base "next_layer" 5 ["room", "cap", "top"] (spNext CS CR) := ⟨f_next, _, PySem.W.mg_of X G a_next, k_next, b_next, ok_next F_next T M_reach⟩
  have D_layers : DefOk l.prog w K mg base "layers" 6 ["room", "cap"] (spLayers CS CR) := ⟨f_layers, _, PySem.W.mg_of X G a_layers, k_layers, b_layers, ok_layers F_layers T D_croom D_cap D_next⟩
  have D_fewIn : DefOk l.prog w K mg base "fewest_in" 1 ["tops", "length"] (spFewIn K) := ⟨f_fewIn, _, PySem.W.mg_of X G a_fewIn, k_fewIn, b_fewIn, ok_fewIn F_fewIn T⟩
  have D_fewest : DefOk l.prog w K mg base "fewest" 7 ["room", "cap", "length"] (spFewest CS CR) := ⟨f_fewest, _, PySem.W.mg_of X G a_fewest, k_fewest, b_fewest, ok_fewest F_fewest D_call D_layers D_fewIn⟩
  have D_goes : DefOk l.prog w K mg base "goes" 5 ["room", "cap", "length"] (spGoes CS CR) := ⟨f_goes, _, PySem.W.mg_of X G a_goes, k_goes, b_goes, ok_goes F_goes T D_call M_top⟩
  have D_least : DefOk l.prog w K mg base "least_cap" 5 ["room", "length"] (spLeast CS CR) := ⟨f_least, _, PySem.W.mg_of X G a_least, k_least, b_least, ok_least F_least T D_croom D_clen M_top⟩
  have D_pool : DefOk l.prog w K mg base "_law_pool" 1 ["_law_script"] (spPool K) := ⟨f_pool, _, PySem.W.mg_of X G a_pool, k_pool, b_pool, ok_pool F_pool⟩
  have D_draw : DefOk l.prog w K mg base "_law_draw" 1 ["_law_pool_here", "_law_limit"] (spDraw K) := ⟨f_draw, _, PySem.W.mg_of X G a_draw, k_draw, b_draw, ok_draw F_draw T⟩
  have D_bounds : DefOk l.prog w K mg base "_law_bounds" 2 ["_law_pool_here", "_law_size"] (spBounds K) := ⟨f_bounds, _, PySem.W.mg_of X G a_bounds, k_bounds, b_bounds, ok_bounds F_bounds T D_draw⟩
  have D_ltold : DefOk l.prog w K mg base "_law_told" 1 ["_law_bounds_here", "_law_free"] (spLTold) := ⟨f_ltold, _, PySem.W.mg_of X G a_ltold, k_ltold, b_ltold, ok_ltold F_ltold⟩
  have D_lreach : DefOk l.prog w K mg base "_law_reach" 2 ["_law_room", "_law_held", "_law_cap"] (spLReach) := ⟨f_lreach, _, PySem.W.mg_of X G a_lreach, k_lreach, b_lreach, ok_lreach F_lreach D_ltold⟩
  have D_case : DefOk l.prog w K mg base "_law_case" 3 ["_law_pool_here", "_law_most"] (spCase K) := ⟨f_case, _, PySem.W.mg_of X G a_case, k_case, b_case, ok_case F_case D_draw D_bounds⟩
  have D_made : DefOk l.prog w K mg base "_law_made" 6 ["_law_room"] (spMade CS CR) := ⟨f_made, _, PySem.W.mg_of X G a_made, k_made, b_made, ok_made F_made T M_steps M_room⟩
  have D_lfew : DefOk l.prog w K mg base "_law_fewest" 3 ["_law_room", "_law_cap", "_law_length"] (spLFew) := ⟨f_lfew, _, PySem.W.mg_of X G a_lfew, k_lfew, b_lfew, ok_lfew F_lfew T D_lreach⟩
  have D_llay : DefOk l.prog w K mg base "_law_layers" 3 ["_law_room", "_law_cap"] (spLLay) := ⟨f_llay, _, PySem.W.mg_of X G a_llay, k_llay, b_llay, ok_llay F_llay T D_lreach⟩
  have D_now : DefOk l.prog w K mg base "_law_no_worse" 1 ["_law_one", "_law_two"] (spNoW) := ⟨f_now, _, PySem.W.mg_of X G a_now, k_now, b_now, ok_now F_now⟩
  have D_milder : DefOk l.prog w K mg base "_law_milder" 8 ["_law_pool_here", "_law_room", "_law_cap", "_law_length", "_law_many"] (spMilder K) := ⟨f_milder, _, PySem.W.mg_of X G a_milder, k_milder, b_milder, ok_milder F_milder T D_draw D_made M_room A_add D_now D_fewest⟩
  exact ok_law F_law T D_pool D_draw D_case D_made D_layers D_llay D_lfew D_fewest D_goes M_top D_milder D_least
theorem walk {l : PySem.W.OpenLaw} {q : Program} {loose : List Str} {XP : (Str → Option Value) → Heap → Prop} {YP : World → Heap → Prop} {d : DefRec} {K : Params → PySem.W.Frag} (hn : l.most = some 63) (hdf : d.params.defaults = [])
    (hY : ∀ (w : World) (h : Heap), YP w h → (K w.params).In h)
    (F : ∀ (w : World) (mg : Str → Option Value) (fa : Addr) (h : Heap), (K w.params).In h → h.Ns mainGlobals mg → mg d.name = some (.ref fa) →
      ∃ fd : FuncData, (∀ (s : Shared) (u : Value), BindsTo s fd ⟨[u], []⟩ [("_law_script", u)]) ∧ ∀ base : Heap, (K w.params).In base → base.Ns mainGlobals mg → FnOk l.prog w (K w.params) mg base CX0 9 fa fd ["_law_script"] (spLaw (K w.params))) :
    PySem.W.WalkO q loose XP YP l.row.toRowW d [] (fun f vs => PySem.call f vs) :=
  L2.walk_of (n := 63) (k := 9) (x := "_law_script") (CX := fun _ => CX0) (sp := fun w => spLaw (K w.params)) hn (by decide) hdf ⟨rfl, by decide, by decide⟩ hY F (fun _ _ a ns hl _ hS => ⟨a, ns, rfl, hS, hl, fun _ => rfl⟩) fun _ _ _ _ _ z => z
end WL
open PySem PySem.W PyProof.Rows
set_option maxRecDepth 100000 in
set_option maxHeartbeats 0 in
theorem PySem.Challenge.cw_wholeline_k09_whole_which_lengths_go_holds : PySem.Challenge.rw_wholeline_k09_whole_which_lengths_go.Holds := by
  w_on; o_law; k_head; (case hw => w_witness2)
  k_fill
  refine WL.walk (l := PySem.Challenge.rw_wholeline_k09_whole_which_lengths_go) rfl rfl (fun w h Y => PySem.W.kIn_of Y) ?F
  case F =>
    intro w mg fa h KX G hmg
    refine' WL.all_mk KX G hmg ?aS ?pgS ?hdS ?poS ?saS ?mkS ?kcS ?haS ?hmS ?aR ?pgR ?hdR ?poR ?saR ?mkR ?kcR ?haR ?hmR ?hn ?htk ?nB ?nZ ?nS ?a_steps ?i_steps ?l_steps ?c_steps ?k_steps ?a_add ?i_add ?l_add ?c_add ?k_add ?a_room ?i_room ?l_room ?c_room ?k_room ?a_told ?i_told ?l_told ?c_told ?k_told ?a_reach ?i_reach ?l_reach ?c_reach ?k_reach ?a_top ?i_top ?l_top ?c_top ?k_top ?sf ?no ?i1 ?i2 ?su ?a_integer ?l_integer ?c_integer ?k_integer ?a_between ?l_between ?c_between ?k_between ?a_isList ?l_isList ?c_isList ?k_isList ?a_bound ?l_bound ?c_bound ?k_bound ?a_cap ?l_cap ?c_cap ?k_cap ?a_toldOf ?l_toldOf ?c_toldOf ?k_toldOf ?a_croom ?l_croom ?c_croom ?k_croom ?a_clen ?l_clen ?c_clen ?k_clen ?a_call ?l_call ?c_call ?k_call ?a_next ?l_next ?c_next ?k_next ?a_layers ?l_layers ?c_layers ?k_layers ?a_fewest ?l_fewest ?c_fewest ?k_fewest ?a_fewIn ?l_fewIn ?c_fewIn ?k_fewIn ?a_goes ?l_goes ?c_goes ?k_goes ?a_least ?l_least ?c_least ?k_least ?a_pool ?l_pool ?c_pool ?k_pool ?a_draw ?l_draw ?c_draw ?k_draw ?a_bounds ?l_bounds ?c_bounds ?k_bounds ?a_ltold ?l_ltold ?c_ltold ?k_ltold ?a_lreach ?l_lreach ?c_lreach ?k_lreach ?a_case ?l_case ?c_case ?k_case ?a_made ?l_made ?c_made ?k_made ?a_lfew ?l_lfew ?c_lfew ?k_lfew ?a_llay ?l_llay ?c_llay ?k_llay ?a_now ?l_now ?c_now ?k_now ?a_milder ?l_milder ?c_milder ?k_milder ?a_law ?l_law ?c_law ?k_law ?z_isinstance ?z_int ?z_bool ?z_list ?z_tuple ?z_len ?z_enumerate ?z_range ?z_max ?z_min ?z_abs ?z_sorted ?c1 ?c2 ?c3 ?c4
    (case aS => k_is)
    (case pgS => k_is)
    (case hdS => k_is)
    (case poS => k_is)
    (case saS => k_is)
    (case mkS => k_is)
    (case kcS => k_is)
    (case haS => k_is)
    (case hmS => k_is)
    (case aR => k_is)
    (case pgR => k_is)
    (case hdR => k_is)
    (case poR => k_is)
    (case saR => k_is)
    (case mkR => k_is)
    (case kcR => k_is)
    (case haR => k_is)
    (case hmR => k_is)
    (case hn => k_is)
    (case htk => k_is)
    (case nB => k_is)
    (case nZ => k_is)
    (case nS => k_is)
    (case a_steps => k_is)
    (case i_steps => k_is)
    (case l_steps => k_is)
    (case c_steps => k_is)
    (case k_steps => k_is)
    (case a_add => k_is)
    (case i_add => k_is)
    (case l_add => k_is)
    (case c_add => k_is)
    (case k_add => k_is)
    (case a_room => k_is)
    (case i_room => k_is)
    (case l_room => k_is)
    (case c_room => k_is)
    (case k_room => k_is)
    (case a_told => k_is)
    (case i_told => k_is)
    (case l_told => k_is)
    (case c_told => k_is)
    (case k_told => k_is)
    (case a_reach => k_is)
    (case i_reach => k_is)
    (case l_reach => k_is)
    (case c_reach => k_is)
    (case k_reach => k_is)
    (case a_top => k_is)
    (case i_top => k_is)
    (case l_top => k_is)
    (case c_top => k_is)
    (case k_top => k_is)
    (case sf => k_is)
    (case no => k_is)
    (case i1 => k_is)
    (case i2 => k_is)
    (case su => k_is)
    (case a_integer => k_is)
    (case l_integer => k_is)
    (case c_integer => k_is)
    (case k_integer => k_is)
    (case a_between => k_is)
    (case l_between => k_is)
    (case c_between => k_is)
    (case k_between => k_is)
    (case a_isList => k_is)
    (case l_isList => k_is)
    (case c_isList => k_is)
    (case k_isList => k_is)
    (case a_bound => k_is)
    (case l_bound => k_is)
    (case c_bound => k_is)
    (case k_bound => k_is)
    (case a_cap => k_is)
    (case l_cap => k_is)
    (case c_cap => k_is)
    (case k_cap => k_is)
    (case a_toldOf => k_is)
    (case l_toldOf => k_is)
    (case c_toldOf => k_is)
    (case k_toldOf => k_is)
    (case a_croom => k_is)
    (case l_croom => k_is)
    (case c_croom => k_is)
    (case k_croom => k_is)
    (case a_clen => k_is)
    (case l_clen => k_is)
    (case c_clen => k_is)
    (case k_clen => k_is)
    (case a_call => k_is)
    (case l_call => k_is)
    (case c_call => k_is)
    (case k_call => k_is)
    (case a_next => k_is)
    (case l_next => k_is)
    (case c_next => k_is)
    (case k_next => k_is)
    (case a_layers => k_is)
    (case l_layers => k_is)
    (case c_layers => k_is)
    (case k_layers => k_is)
    (case a_fewest => k_is)
    (case l_fewest => k_is)
    (case c_fewest => k_is)
    (case k_fewest => k_is)
    (case a_fewIn => k_is)
    (case l_fewIn => k_is)
    (case c_fewIn => k_is)
    (case k_fewIn => k_is)
    (case a_goes => k_is)
    (case l_goes => k_is)
    (case c_goes => k_is)
    (case k_goes => k_is)
    (case a_least => k_is)
    (case l_least => k_is)
    (case c_least => k_is)
    (case k_least => k_is)
    (case a_pool => k_is)
    (case l_pool => k_is)
    (case c_pool => k_is)
    (case k_pool => k_is)
    (case a_draw => k_is)
    (case l_draw => k_is)
    (case c_draw => k_is)
    (case k_draw => k_is)
    (case a_bounds => k_is)
    (case l_bounds => k_is)
    (case c_bounds => k_is)
    (case k_bounds => k_is)
    (case a_ltold => k_is)
    (case l_ltold => k_is)
    (case c_ltold => k_is)
    (case k_ltold => k_is)
    (case a_lreach => k_is)
    (case l_lreach => k_is)
    (case c_lreach => k_is)
    (case k_lreach => k_is)
    (case a_case => k_is)
    (case l_case => k_is)
    (case c_case => k_is)
    (case k_case => k_is)
    (case a_made => k_is)
    (case l_made => k_is)
    (case c_made => k_is)
    (case k_made => k_is)
    (case a_lfew => k_is)
    (case l_lfew => k_is)
    (case c_lfew => k_is)
    (case k_lfew => k_is)
    (case a_llay => k_is)
    (case l_llay => k_is)
    (case c_llay => k_is)
    (case k_llay => k_is)
    (case a_now => k_is)
    (case l_now => k_is)
    (case c_now => k_is)
    (case k_now => k_is)
    (case a_milder => k_is)
    (case l_milder => k_is)
    (case c_milder => k_is)
    (case k_milder => k_is)
    (case a_law => k_is)
    (case l_law => k_is)
    (case c_law => k_is)
    (case k_law => k_is)
    (case z_isinstance => k_is)
    (case z_int => k_is)
    (case z_bool => k_is)
    (case z_list => k_is)
    (case z_tuple => k_is)
    (case z_len => k_is)
    (case z_enumerate => k_is)
    (case z_range => k_is)
    (case z_max => k_is)
    (case z_min => k_is)
    (case z_abs => k_is)
    (case z_sorted => k_is)
    (case c1 => k_is)
    (case c2 => k_is)
    (case c3 => k_is)
    (case c4 => k_is)
#print axioms PySem.Challenge.cw_wholeline_k09_whole_which_lengths_go_holds
