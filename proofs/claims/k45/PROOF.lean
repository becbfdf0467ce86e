import PyProof.Rows.All
import Wide.All
import OpenK.AllK
import Wide.FinOn
import HandS.ForMost
import HandS.IsInst
import HandS.Style
import HandS.Conv
import HandS.NoneIn
import HandS.Wide
import PySem.Challenge.RW_turnedtrees_k45_whole_last_asked
set_option Elab.async false
set_option linter.all false
set_option maxRecDepth 100000
set_option maxHeartbeats 4000000
/-! Trees, rotations, plant, by_order, rows: the mathematics, with no program in sight. -/
namespace TT

inductive Tr where
  | nil
  | node (l : Tr) (k : Int) (r : Tr)

namespace Tr
def keys : Tr → List Int
  | nil => []
  | node l k r => l.keys ++ [k] ++ r.keys
def hgt : Tr → Nat
  | nil => 0
  | node l _ r => max l.hgt r.hgt + 1
def top : Tr → Int
  | nil => 0
  | node _ k _ => k
def lft : Tr → Tr
  | nil => nil
  | node l _ _ => l
def rgt : Tr → Tr
  | nil => nil
  | node _ _ r => r
def isNil : Tr → Bool
  | nil => true
  | node _ _ _ => false
def Bst : Tr → Int → Int → Prop
  | nil, _, _ => True
  | node l k r, lo, hi => lo ≤ k ∧ k ≤ hi ∧ l.Bst lo (k - 1) ∧ r.Bst (k + 1) hi

theorem bst_iff : ∀ (t : Tr) (lo hi : Int), t.Bst lo hi ↔ t.keys.Pairwise (· < ·) ∧ ∀ y ∈ t.keys, lo ≤ y ∧ y ≤ hi
  | nil, lo, hi => by simp [Bst, keys]
  | node l k r, lo, hi => by
    simp only [Bst, keys, bst_iff l, bst_iff r, List.pairwise_append, List.mem_append, List.mem_singleton, List.pairwise_cons, List.not_mem_nil, List.Pairwise.nil]
    constructor
    · rintro ⟨h1, h2, ⟨h3, h4⟩, h5, h6⟩
      refine ⟨⟨⟨h3, by simp, ?_⟩, h5, ?_⟩, ?_⟩
      · rintro a ha b rfl
        have := h4 a ha; omega
      · rintro a (ha | rfl) b hb
        · have := h4 a ha; have := h6 b hb; omega
        · have := h6 b hb; omega
      · rintro y ((hy | rfl) | hy)
        · have := h4 y hy; omega
        · omega
        · have := h6 y hy; omega
    · rintro ⟨⟨⟨h1, _, h2⟩, h3, h4⟩, h5⟩
      refine ⟨(h5 k (.inl (.inr rfl))).1, (h5 k (.inl (.inr rfl))).2, ⟨h1, fun y hy => ?_⟩, h3, fun y hy => ?_⟩
      · have := h2 y hy k rfl; have := h5 y (.inl (.inl hy)); omega
      · have := h4 k (.inr rfl) y hy; have := h5 y (.inr hy); omega
theorem Bst.of_keys {t s : Tr} {lo hi : Int} (h : t.Bst lo hi) (e : s.keys = t.keys) : s.Bst lo hi := by
  rw [bst_iff] at h ⊢; rw [e]; exact h
theorem Bst.mem {t : Tr} {lo hi y : Int} (h : t.Bst lo hi) (hy : y ∈ t.keys) : lo ≤ y ∧ y ≤ hi := ((bst_iff t lo hi).mp h).2 y hy
theorem Bst.hgt {t : Tr} : ∀ {lo hi : Int}, t.Bst lo hi → (t.hgt : Int) ≤ max 0 (hi - lo + 1) := by
  induction t with
  | nil => intro lo hi _; simp only [Tr.hgt]; omega
  | node l k r ihl ihr =>
    intro lo hi h
    obtain ⟨h1, h2, h3, h4⟩ := h
    have := ihl h3; have := ihr h4
    simp only [Tr.hgt]; omega
theorem Bst.six {t : Tr} (h : t.Bst 1 6) : t.hgt ≤ 6 := by have := h.hgt; omega
theorem Bst.wide {t : Tr} {lo hi lo' hi' : Int} (h : t.Bst lo hi) (a : lo' ≤ lo) (b : hi ≤ hi') : t.Bst lo' hi' := by
  rw [bst_iff] at h ⊢
  exact ⟨h.1, fun y hy => ⟨Int.le_trans a (h.2 y hy).1, Int.le_trans (h.2 y hy).2 b⟩⟩
theorem mem_node {l r : Tr} {k y : Int} : y ∈ (node l k r).keys ↔ y ∈ l.keys ∨ y = k ∨ y ∈ r.keys := by
  simp [keys, List.mem_append]
theorem mem_left {l r : Tr} {x k lo hi : Int} (h : (node l x r).Bst lo hi) (hk : k ∈ (node l x r).keys) (c : k < x) : k ∈ l.keys := by
  rcases mem_node.mp hk with q | q | q
  · exact q
  · omega
  · have := h.2.2.2.mem q; omega
theorem mem_right {l r : Tr} {x k lo hi : Int} (h : (node l x r).Bst lo hi) (hk : k ∈ (node l x r).keys) (c : x < k) : k ∈ r.keys := by
  rcases mem_node.mp hk with q | q | q
  · have := h.2.2.1.mem q; omega
  · omega
  · exact q
theorem keys_len : ∀ {t : Tr} {lo hi : Int}, t.Bst lo hi → (t.keys.length : Int) ≤ max 0 (hi - lo + 1)
  | nil, lo, hi, _ => by simp only [keys, List.length_nil]; omega
  | node l k r, lo, hi, h => by
    obtain ⟨h1, h2, h3, h4⟩ := h
    have := keys_len h3; have := keys_len h4
    simp only [keys, List.length_append, List.length_singleton]; omega
theorem keys_six {t : Tr} (h : t.Bst 1 6) : t.keys.length ≤ 6 := by have := keys_len h; omega

def way : Tr → Int → Nat
  | nil, _ => 0
  | node l x r, k => if x = k then 0 else if k < x then 1 + l.way k else 1 + r.way k
theorem way_le : ∀ (t : Tr) (k : Int), t.way k ≤ t.hgt
  | nil, _ => Nat.le_refl _
  | node l x r, k => by
    have := way_le l k; have := way_le r k
    simp only [way, hgt]
    split
    · omega
    · split <;> omega

def leftUp : Tr → Tr
  | node (node a x b) y c => node a x (node b y c)
  | t => t
def rightUp : Tr → Tr
  | node a x (node b y c) => node (node a x b) y c
  | t => t
def turned : Tr → Int → Tr
  | nil, _ => nil
  | node l x r, k =>
    if k < x then (if l.top = k then leftUp (node l x r) else node (l.turned k) x r)
    else (if r.top = k then rightUp (node l x r) else node l x (r.turned k))
theorem keys_leftUp (t : Tr) : t.leftUp.keys = t.keys := by
  unfold leftUp; split <;> simp [keys]
theorem keys_rightUp (t : Tr) : t.rightUp.keys = t.keys := by
  unfold rightUp; split <;> simp [keys]
theorem keys_turned : ∀ (t : Tr) (k : Int), (t.turned k).keys = t.keys
  | nil, _ => rfl
  | node l x r, k => by
    have h1 := keys_turned l k; have h2 := keys_turned r k
    unfold turned
    split
    · split
      · exact keys_leftUp _
      · simp only [keys, h1]
    · split
      · exact keys_rightUp _
      · simp only [keys, h2]
theorem turned_hgt_pos {t : Tr} {k : Int} (h : k ∈ t.keys) : t ≠ nil := by rintro rfl; cases h

/-- what is left and right of a key -/
def lt : Tr → Int → Tr
  | nil, _ => nil
  | node l x r, k => if k < x then l.lt k else if x < k then node l x (r.lt k) else l
def gt : Tr → Int → Tr
  | nil, _ => nil
  | node l x r, k => if k < x then node (l.gt k) x r else if x < k then r.gt k else r
theorem lt_turned : ∀ (t : Tr) (k : Int), t.top ≠ k → (t.turned k).lt k = t.lt k
  | nil, _, _ => rfl
  | node l x r, k, hk => by
    have hx : x ≠ k := hk
    have h1 := lt_turned l k; have h2 := lt_turned r k
    unfold turned
    split
    · rename_i c
      split
      · rename_i e
        cases l with
        | nil => rfl
        | node a z b =>
          have e' : z = k := e
          subst e'
          simp [leftUp, lt, c]
      · rename_i e
        simp only [lt, if_pos c]
        exact h1 e
    · rename_i c
      have c2 : x < k := by omega
      split
      · rename_i e
        cases r with
        | nil => rfl
        | node a z b =>
          have e' : z = k := e
          subst e'
          simp [rightUp, lt, c, c2]
      · rename_i e
        simp only [lt, if_neg c, if_pos c2]
        rw [h2 e]
theorem gt_turned : ∀ (t : Tr) (k : Int), t.top ≠ k → (t.turned k).gt k = t.gt k
  | nil, _, _ => rfl
  | node l x r, k, hk => by
    have hx : x ≠ k := hk
    have h1 := gt_turned l k; have h2 := gt_turned r k
    unfold turned
    split
    · rename_i c
      split
      · rename_i e
        cases l with
        | nil => rfl
        | node a z b =>
          have e' : z = k := e
          subst e'
          simp [leftUp, gt, c]
      · rename_i e
        simp only [gt, if_pos c]
        rw [h1 e]
    · rename_i c
      have c2 : x < k := by omega
      split
      · rename_i e
        cases r with
        | nil => rfl
        | node a z b =>
          have e' : z = k := e
          subst e'
          simp [rightUp, gt, c, c2]
      · rename_i e
        simp only [gt, if_neg c, if_pos c2]
        exact h2 e
theorem keys_split : ∀ {t : Tr} {k lo hi : Int}, t.Bst lo hi → k ∈ t.keys → (t.lt k).keys ++ [k] ++ (t.gt k).keys = t.keys
  | nil, _, _, _, _, h => by cases h
  | node l x r, k, lo, hi, hb, h => by
    by_cases c : k < x
    · have := keys_split hb.2.2.1 (mem_left hb h c)
      simp only [lt, gt, if_pos c, keys]
      rw [← this]; simp
    · by_cases c2 : x < k
      · have := keys_split hb.2.2.2 (mem_right hb h c2)
        simp only [lt, gt, if_neg c, if_pos c2, keys]
        rw [← this]; simp
      · have e : x = k := by omega
        subst e
        simp [lt, gt, keys]
def toTop (t : Tr) (k : Int) : Tr := node (t.lt k) k (t.gt k)
theorem keys_toTop {t : Tr} {k lo hi : Int} (h : t.Bst lo hi) (hk : k ∈ t.keys) : (t.toTop k).keys = t.keys := keys_split h hk
/-- a key at the top: nothing is left to do -/
theorem toTop_top {t : Tr} {k : Int} (h : k ∈ t.keys) (e : t.top = k) : t.toTop k = t := by
  cases t with
  | nil => cases h
  | node l x r =>
    have e' : x = k := e
    subst e'
    simp [toTop, lt, gt]
theorem way_turned : ∀ {t : Tr} {k lo hi : Int}, t.Bst lo hi → k ∈ t.keys → t.top ≠ k → (t.turned k).way k + 1 = t.way k
  | nil, _, _, _, _, h, _ => by cases h
  | node l x r, k, lo, hi, hb, h, hk => by
    have hx : x ≠ k := hk
    unfold turned
    split
    · rename_i c
      have hl := mem_left hb h c
      split
      · rename_i e
        cases l with
        | nil => cases hl
        | node a z b =>
          have e' : z = k := e
          subst e'
          simp [leftUp, way, hx, c]
      · rename_i e
        have := way_turned hb.2.2.1 hl e
        simp only [way, if_neg hx, if_pos c]
        omega
    · rename_i c
      have c2 : x < k := by omega
      have hr := mem_right hb h c2
      split
      · rename_i e
        cases r with
        | nil => cases hr
        | node a z b =>
          have e' : z = k := e
          subst e'
          simp [rightUp, way, hx, c]
      · rename_i e
        have := way_turned hb.2.2.2 hr e
        simp only [way, if_neg hx, if_neg c]
        omega
theorem way_zero {t : Tr} {k : Int} (h : k ∈ t.keys) (e : t.way k = 0) : t.top = k := by
  cases t with
  | nil => cases h
  | node l x r =>
    show x = k
    by_cases c : x = k
    · exact c
    · simp only [way, if_neg c] at e
      split at e <;> omega
theorem way_top {t : Tr} {k : Int} (e : t.top = k) (n : t ≠ nil) : t.way k = 0 := by
  cases t with
  | nil => exact absurd rfl n
  | node l x r =>
    have e' : x = k := e
    simp [way, e']

/-! ### splaying -/
def wayDown : Tr → Int → List Int
  | nil, _ => []
  | node l x r, k => if x = k then [k] else if k < x then x :: l.wayDown k else x :: r.wayDown k
theorem wayDown_len : ∀ {t : Tr} {k lo hi : Int}, t.Bst lo hi → k ∈ t.keys → (t.wayDown k).length = t.way k + 1
  | nil, _, _, _, _, h => by cases h
  | node l x r, k, lo, hi, hb, h => by
    by_cases e : x = k
    · simp [wayDown, way, e]
    · by_cases c : k < x
      · have := wayDown_len hb.2.2.1 (mem_left hb h c)
        simp only [wayDown, way, if_neg e, if_pos c, List.length_cons, this]; omega
      · have := wayDown_len hb.2.2.2 (mem_right hb h (by omega))
        simp only [wayDown, way, if_neg e, if_neg c, List.length_cons, this]; omega
theorem wayDown_top {t : Tr} {k : Int} (h : k ∈ t.keys) (e : t.top = k) : t.wayDown k = [k] := by
  cases t with
  | nil => cases h
  | node l x r =>
    have e' : x = k := e
    simp [wayDown, e']
theorem wayDown_head {t : Tr} {k : Int} (h : k ∈ t.keys) : ∃ w, t.wayDown k = t.top :: w := by
  cases t with
  | nil => cases h
  | node l x r =>
    simp only [wayDown, top]
    split
    · rename_i e; exact ⟨[], by rw [e]⟩
    · split <;> exact ⟨_, rfl⟩
theorem wayDown_mem : ∀ {t : Tr} {k p : Int}, p ∈ t.wayDown k → k ∈ t.keys → p ∈ t.keys
  | nil, _, _, h, _ => by cases h
  | node l x r, k, p, h, hk => by
    by_cases e : x = k
    · simp only [wayDown, if_pos e, List.mem_singleton] at h
      rw [h]; exact hk
    · by_cases c : k < x
      · simp only [wayDown, if_neg e, if_pos c, List.mem_cons] at h
        rcases h with rfl | h
        · exact mem_node.mpr (.inr (.inl rfl))
        · cases l with
          | nil => cases h
          | node a y b =>
            by_cases hk' : k ∈ (node a y b).keys
            · exact mem_node.mpr (.inl (wayDown_mem h hk'))
            · exact mem_node.mpr (.inl (wayDown_mem' h fun q => hk' q))
      · simp only [wayDown, if_neg e, if_neg c, List.mem_cons] at h
        rcases h with rfl | h
        · exact mem_node.mpr (.inr (.inl rfl))
        · cases r with
          | nil => cases h
          | node a y b =>
            by_cases hk' : k ∈ (node a y b).keys
            · exact mem_node.mpr (.inr (.inr (wayDown_mem h hk')))
            · exact mem_node.mpr (.inr (.inr (wayDown_mem' h fun q => hk' q)))
where
  wayDown_mem' : ∀ {t : Tr} {k p : Int}, p ∈ t.wayDown k → ¬ k ∈ t.keys → p ∈ t.keys
  | nil, _, _, h, _ => by cases h
  | node l x r, k, p, h, hk => by
    have e : x ≠ k := fun e => hk (mem_node.mpr (.inr (.inl e.symm)))
    by_cases c : k < x
    · simp only [wayDown, if_neg e, if_pos c, List.mem_cons] at h
      rcases h with rfl | h
      · exact mem_node.mpr (.inr (.inl rfl))
      · exact mem_node.mpr (.inl (wayDown_mem' h fun q => hk (mem_node.mpr (.inl q))))
    · simp only [wayDown, if_neg e, if_neg c, List.mem_cons] at h
      rcases h with rfl | h
      · exact mem_node.mpr (.inr (.inl rfl))
      · exact mem_node.mpr (.inr (.inr (wayDown_mem' h fun q => hk (mem_node.mpr (.inr (.inr q))))))
/-- the last three keys on the way -/
theorem wayDown_last : ∀ {t : Tr} {k lo hi : Int}, t.Bst lo hi → k ∈ t.keys → 2 ≤ t.way k → ∃ w g p, t.wayDown k = w ++ [g, p, k] ∧ p ∈ t.keys ∧ p ∈ t.wayDown k ∧ p ≠ t.top ∧ p ≠ k
  | nil, _, _, _, _, h, _ => by cases h
  | node l x r, k, lo, hi, hb, h, hw => by
    have side : ∀ (s : Tr) (lo' hi' : Int), s.Bst lo' hi' → k ∈ s.keys → 1 ≤ s.way k → (∀ y ∈ s.keys, y ∈ (node l x r).keys ∧ y ≠ x) → (2 ≤ s.way k → ∃ w g p, s.wayDown k = w ++ [g, p, k] ∧ p ∈ s.keys ∧ p ∈ s.wayDown k ∧ p ≠ s.top ∧ p ≠ k) →
        ∃ w g p, x :: s.wayDown k = w ++ [g, p, k] ∧ p ∈ (node l x r).keys ∧ p ∈ x :: s.wayDown k ∧ p ≠ x ∧ p ≠ k := by
      intro s lo' hi' hs hks h1 hin ih
      by_cases h2 : 2 ≤ s.way k
      · obtain ⟨w, g, p, e, m1, m2, n1, n2⟩ := ih h2
        exact ⟨x :: w, g, p, by rw [e]; rfl, (hin p m1).1, List.mem_cons_of_mem _ m2, (hin p m1).2, n2⟩
      · have h1' : s.way k = 1 := by omega
        cases s with
        | nil => cases hks
        | node a y b =>
          have ey : y ≠ k := by
            rintro rfl
            simp [way] at h1'
          have my : y ∈ (node a y b).keys := mem_node.mpr (.inr (.inl rfl))
          have hw2 : (node a y b).wayDown k = [y, k] := by
            by_cases c : k < y
            · have q := mem_left hs hks c
              simp only [way, if_neg ey, if_pos c] at h1'
              have : a.wayDown k = [k] := wayDown_top q (way_zero q (by omega))
              simp only [wayDown, if_neg ey, if_pos c, this]
            · have q := mem_right hs hks (by omega)
              simp only [way, if_neg ey, if_neg c] at h1'
              have : b.wayDown k = [k] := wayDown_top q (way_zero q (by omega))
              simp only [wayDown, if_neg ey, if_neg c, this]
          refine ⟨[], x, y, by rw [hw2]; rfl, (hin y my).1, ?_, (hin y my).2, ey⟩
          rw [hw2]; simp
    have e : x ≠ k := by rintro rfl; simp [way] at hw
    by_cases c : k < x
    · have q := mem_left hb h c
      simp only [way, if_neg e, if_pos c] at hw
      obtain ⟨w, g, p, h1, h2, h3, h4, h5⟩ := side l _ _ hb.2.2.1 q (by omega) (fun y hy => ⟨mem_node.mpr (.inl hy), by have := hb.2.2.1.mem hy; omega⟩) (fun z => wayDown_last hb.2.2.1 q z)
      refine ⟨w, g, p, ?_, h2, ?_, h4, h5⟩ <;> simp only [wayDown, if_neg e, if_pos c] <;> assumption
    · have q := mem_right hb h (by omega)
      simp only [way, if_neg e, if_neg c] at hw
      obtain ⟨w, g, p, h1, h2, h3, h4, h5⟩ := side r _ _ hb.2.2.2 q (by omega) (fun y hy => ⟨mem_node.mpr (.inr (.inr hy)), by have := hb.2.2.2.mem hy; omega⟩) (fun z => wayDown_last hb.2.2.2 q z)
      refine ⟨w, g, p, ?_, h2, ?_, h4, h5⟩ <;> simp only [wayDown, if_neg e, if_neg c] <;> assumption
/-- a key on the way rotated up does not bring the end of the way lower -/
theorem way_par : ∀ {t : Tr} {k p lo hi : Int}, t.Bst lo hi → k ∈ t.keys → p ∈ t.wayDown k → p ≠ k → p ≠ t.top → (t.turned p).way k ≤ t.way k
  | nil, _, _, _, _, _, h, _, _, _ => by cases h
  | node l x r, k, p, lo, hi, hb, h, hp, hpk, hpt => by
    have hpx : p ≠ x := hpt
    have e : x ≠ k := by
      intro e
      simp only [wayDown, if_pos e, List.mem_singleton] at hp
      exact hpk hp
    by_cases c : k < x
    · have hl := mem_left hb h c
      simp only [wayDown, if_neg e, if_pos c, List.mem_cons] at hp
      have hp' : p ∈ l.wayDown k := hp.resolve_left hpx
      have hpx' : p < x := by have := hb.2.2.1.mem (wayDown_mem hp' hl); omega
      unfold turned
      rw [if_pos hpx']
      split
      · rename_i et
        cases l with
        | nil => cases hl
        | node a z b =>
          have et' : z = p := et
          subst et'
          simp only [leftUp, way, if_neg hpk, if_neg e, if_pos c]
          split <;> omega
      · rename_i et
        have := way_par hb.2.2.1 hl hp' hpk (Ne.symm et)
        simp only [way, if_neg e, if_pos c]
        omega
    · have c2 : x < k := by omega
      have hr := mem_right hb h c2
      simp only [wayDown, if_neg e, if_neg c, List.mem_cons] at hp
      have hp' : p ∈ r.wayDown k := hp.resolve_left hpx
      have hpx' : ¬ p < x := by have := hb.2.2.2.mem (wayDown_mem hp' hr); omega
      unfold turned
      rw [if_neg hpx']
      split
      · rename_i et
        cases r with
        | nil => cases hr
        | node a z b =>
          have et' : z = p := et
          subst et'
          simp only [rightUp, way, if_neg hpk, if_neg e, if_neg c]
          split <;> omega
      · rename_i et
        have := way_par hb.2.2.2 hr hp' hpk (Ne.symm et)
        simp only [way, if_neg e, if_neg c]
        omega
theorem top_turned {t : Tr} {p : Int} (n : p ∈ t.keys) {lo hi : Int} (hb : t.Bst lo hi) : (t.turned p).top = t.top ∨ (t.turned p).top = p := by
  cases t with
  | nil => cases n
  | node l x r =>
    unfold turned
    split
    · split
      · rename_i e
        cases l with
        | nil => exact .inl rfl
        | node a z b => exact .inr e
      · exact .inl rfl
    · split
      · rename_i e
        cases r with
        | nil => exact .inl rfl
        | node a z b => exact .inr e
      · exact .inl rfl

def onceUp (t : Tr) (k : Int) : Tr := if t.top = k then t else t.turned k
def grd (t : Tr) (k : Int) : Int := (t.wayDown k).getD ((t.wayDown k).length - 3) 0
def par (t : Tr) (k : Int) : Int := (t.wayDown k).getD ((t.wayDown k).length - 2) 0
def fst (t : Tr) (k : Int) : Int := if decide (k < t.par k) = decide (t.par k < t.grd k) then t.par k else k
def splayStep (t : Tr) (k : Int) : Tr := (t.turned (t.fst k)).turned k
def splayN : Nat → Tr → Int → Tr
  | 0, t, k => t.onceUp k
  | n + 1, t, k => if 1 < t.way k then splayN n (t.splayStep k) k else t.onceUp k
def splay (t : Tr) (k : Int) : Tr := splayN 6 t k
theorem keys_onceUp (t : Tr) (k : Int) : (t.onceUp k).keys = t.keys := by
  unfold onceUp; split
  · rfl
  · exact keys_turned _ _
theorem keys_splayStep (t : Tr) (k : Int) : (t.splayStep k).keys = t.keys := by
  unfold splayStep; rw [keys_turned, keys_turned]
theorem keys_splayN : ∀ (n : Nat) (t : Tr) (k : Int), (splayN n t k).keys = t.keys
  | 0, t, k => keys_onceUp t k
  | n + 1, t, k => by
    unfold splayN; split
    · rw [keys_splayN n]; exact keys_splayStep t k
    · exact keys_onceUp t k
theorem keys_splay (t : Tr) (k : Int) : (t.splay k).keys = t.keys := keys_splayN 6 t k
theorem splayN_end {n : Nat} {t : Tr} {k : Int} (h : t.way k ≤ 1) : splayN n t k = t.onceUp k := by
  cases n with
  | zero => rfl
  | succ n => unfold splayN; rw [if_neg (by omega)]
theorem splay_last {t : Tr} {k lo hi : Int} (hb : t.Bst lo hi) (h : k ∈ t.keys) (hw : 2 ≤ t.way k) :
    ∃ w, t.wayDown k = w ++ [t.grd k, t.par k, k] ∧ t.par k ∈ t.keys ∧ t.par k ∈ t.wayDown k ∧ t.par k ≠ t.top ∧ t.par k ≠ k := by
  obtain ⟨w, g, p, e, h1, h2, h3, h4⟩ := wayDown_last hb h hw
  have l3 : (t.wayDown k).length = w.length + 3 := by rw [e]; simp
  have eg : t.grd k = g := by
    unfold grd; rw [l3, e]
    simp [List.getD_eq_getElem?_getD, List.getElem?_append_right]
  have ep : t.par k = p := by
    unfold par; rw [l3, e]
    rw [show w.length + 3 - 2 = w.length + 1 by omega]
    simp [List.getD_eq_getElem?_getD, List.getElem?_append_right]
  rw [eg, ep]
  exact ⟨w, e, h1, h2, h3, h4⟩
/-- the key that goes up first: it is there, is not the top, and behind it the key is not the top either -/
theorem splay_fst {t : Tr} {k lo hi : Int} (hb : t.Bst lo hi) (h : k ∈ t.keys) (hw : 2 ≤ t.way k) :
    t.fst k ∈ t.keys ∧ t.top ≠ t.fst k ∧ k ∈ (t.turned (t.fst k)).keys ∧ (t.turned (t.fst k)).top ≠ k ∧ (t.splayStep k).way k + 1 ≤ t.way k := by
  obtain ⟨w, e, h1, h2, h3, h4⟩ := splay_last hb h hw
  have hk : k ∈ (t.turned (t.fst k)).keys := by rw [keys_turned]; exact h
  have hb' : (t.turned (t.fst k)).Bst lo hi := hb.of_keys (keys_turned _ _)
  have nt : t.top ≠ k := by
    intro q
    have := way_top q (turned_hgt_pos h)
    omega
  have le : (t.turned (t.fst k)).way k ≤ t.way k ∧ (t.turned (t.fst k)).top ≠ k := by
    unfold fst
    split
    · refine ⟨way_par hb h h2 h4 h3, ?_⟩
      rcases top_turned h1 hb with q | q
      · rw [q]; exact nt
      · rw [q]; exact h4
    · have := way_turned hb h nt
      refine ⟨by omega, fun q => ?_⟩
      have := way_top q (turned_hgt_pos (by rw [keys_turned]; exact h))
      omega
  refine ⟨?_, ?_, hk, le.2, ?_⟩
  · unfold fst; split
    · exact h1
    · exact h
  · unfold fst; split
    · exact Ne.symm h3
    · exact nt
  · have := way_turned hb' hk le.2
    unfold splayStep
    omega
theorem top_onceUp {t : Tr} {k lo hi : Int} (hb : t.Bst lo hi) (h : k ∈ t.keys) (hw : t.way k ≤ 1) : (t.onceUp k).top = k := by
  unfold onceUp; split
  · assumption
  · rename_i c
    have := way_turned hb h c
    exact way_zero (by rw [keys_turned]; exact h) (by omega)
theorem top_splayN : ∀ {n : Nat} {t : Tr} {k lo hi : Int}, t.Bst lo hi → k ∈ t.keys → t.way k ≤ n → (splayN n t k).top = k
  | 0, t, k, lo, hi, hb, h, hw => top_onceUp hb h (by omega)
  | n + 1, t, k, lo, hi, hb, h, hw => by
    unfold splayN; split
    · have q := splay_fst hb h (by omega)
      exact top_splayN (hb.of_keys (keys_splayStep t k)) (by rw [keys_splayStep]; exact h) (by omega)
    · exact top_onceUp hb h (by omega)
theorem top_splay {t : Tr} {k : Int} (hb : t.Bst 1 6) (h : k ∈ t.keys) : (t.splay k).top = k :=
  top_splayN hb h (Nat.le_trans (way_le t k) hb.six)

/-! ### putting in, taking out -/
def withLeaf : Tr → Int → Tr
  | nil, k => node nil k nil
  | node l x r, k => if k < x then node (l.withLeaf k) x r else node l x (r.withLeaf k)
def least : Tr → Int
  | nil => 0
  | node l x _ => if l.isNil then x else l.least
def greatest : Tr → Int
  | nil => 0
  | node _ x r => if r.isNil then x else r.greatest
def without : Tr → Int → Tr
  | nil, _ => nil
  | node l x r, k =>
    if k < x then node (l.without k) x r
    else if x < k then node l x (r.without k)
    else if l.isNil || r.isNil then (if r.isNil then l else r)
    else node l r.least (r.without r.least)
def withoutSplayed (t : Tr) (k : Int) : Tr :=
  if (t.splay k).lft.isNil then (t.splay k).rgt
  else node ((t.splay k).lft.splay (t.splay k).lft.greatest).lft ((t.splay k).lft.splay (t.splay k).lft.greatest).top (t.splay k).rgt
theorem isNil_iff {t : Tr} : t.isNil = true ↔ t = nil := by cases t <;> simp [isNil]
theorem bst_withLeaf : ∀ {t : Tr} {k lo hi : Int}, t.Bst lo hi → lo ≤ k → k ≤ hi → k ∉ t.keys → (t.withLeaf k).Bst lo hi ∧ ∀ y, y ∈ (t.withLeaf k).keys ↔ y ∈ t.keys ∨ y = k
  | nil, k, lo, hi, _, h1, h2, _ => by
    refine ⟨⟨h1, h2, trivial, trivial⟩, fun y => by simp [withLeaf, keys]⟩
  | node l x r, k, lo, hi, hb, h1, h2, hn => by
    have nl : k ∉ l.keys := fun q => hn (mem_node.mpr (.inl q))
    have nx : k ≠ x := fun q => hn (mem_node.mpr (.inr (.inl q)))
    have nr : k ∉ r.keys := fun q => hn (mem_node.mpr (.inr (.inr q)))
    obtain ⟨b1, b2, b3, b4⟩ := hb
    unfold withLeaf
    split
    · rename_i c
      obtain ⟨q1, q2⟩ := bst_withLeaf (k := k) b3 h1 (by omega) nl
      refine ⟨⟨b1, b2, q1, b4⟩, fun y => ?_⟩
      rw [mem_node, mem_node, q2]; exact ⟨by rintro ((h | h) | h | h) <;> simp [h], by rintro ((h | h | h) | h) <;> simp [h]⟩
    · rename_i c
      obtain ⟨q1, q2⟩ := bst_withLeaf (k := k) b4 (by omega) h2 nr
      refine ⟨⟨b1, b2, b3, q1⟩, fun y => ?_⟩
      rw [mem_node, mem_node, q2]; exact ⟨by rintro (h | h | (h | h)) <;> simp [h], by rintro ((h | h | h) | h) <;> simp [h]⟩
theorem least_mem : ∀ {t : Tr}, t ≠ nil → t.least ∈ t.keys
  | nil, h => absurd rfl h
  | node l x r, _ => by
    unfold least; split
    · exact mem_node.mpr (.inr (.inl rfl))
    · rename_i c
      exact mem_node.mpr (.inl (least_mem fun q => c (isNil_iff.mpr q)))
theorem greatest_mem : ∀ {t : Tr}, t ≠ nil → t.greatest ∈ t.keys
  | nil, h => absurd rfl h
  | node l x r, _ => by
    unfold greatest; split
    · exact mem_node.mpr (.inr (.inl rfl))
    · rename_i c
      exact mem_node.mpr (.inr (.inr (greatest_mem fun q => c (isNil_iff.mpr q))))
theorem least_le : ∀ {t : Tr} {lo hi : Int}, t.Bst lo hi → ∀ y ∈ t.keys, t.least ≤ y
  | nil, _, _, _, y, h => by cases h
  | node l x r, lo, hi, hb, y, h => by
    unfold least; split
    · rename_i c
      rw [isNil_iff.mp c] at h
      rcases mem_node.mp h with q | q | q
      · cases q
      · omega
      · have := hb.2.2.2.mem q; omega
    · rename_i c
      have ih := least_le hb.2.2.1
      have m := hb.2.2.1.mem (least_mem fun q => c (isNil_iff.mpr q))
      rcases mem_node.mp h with q | q | q
      · exact ih y q
      · omega
      · have := hb.2.2.2.mem q; omega
theorem le_greatest : ∀ {t : Tr} {lo hi : Int}, t.Bst lo hi → ∀ y ∈ t.keys, y ≤ t.greatest
  | nil, _, _, _, y, h => by cases h
  | node l x r, lo, hi, hb, y, h => by
    unfold greatest; split
    · rename_i c
      rw [isNil_iff.mp c] at h
      rcases mem_node.mp h with q | q | q
      · have := hb.2.2.1.mem q; omega
      · omega
      · cases q
    · rename_i c
      have ih := le_greatest hb.2.2.2
      have m := hb.2.2.2.mem (greatest_mem fun q => c (isNil_iff.mpr q))
      rcases mem_node.mp h with q | q | q
      · have := hb.2.2.1.mem q; omega
      · omega
      · exact ih y q
/-- narrower bounds from the keys -/
theorem Bst.narrow {t : Tr} {lo hi lo' hi' : Int} (h : t.Bst lo hi) (a : ∀ y ∈ t.keys, lo' ≤ y ∧ y ≤ hi') : t.Bst lo' hi' := by
  rw [bst_iff] at h ⊢
  exact ⟨h.1, a⟩
theorem bst_without : ∀ {t : Tr} {k lo hi : Int}, t.Bst lo hi → k ∈ t.keys → (t.without k).Bst lo hi ∧ ∀ y, y ∈ (t.without k).keys ↔ y ∈ t.keys ∧ y ≠ k
  | nil, _, _, _, _, h => by cases h
  | node l x r, k, lo, hi, hb, h => by
    obtain ⟨b1, b2, b3, b4⟩ := id hb
    unfold without
    split
    · rename_i c
      obtain ⟨q1, q2⟩ := bst_without b3 (mem_left hb h c)
      refine ⟨⟨b1, b2, q1, b4⟩, fun y => ?_⟩
      rw [mem_node, mem_node, q2]
      constructor
      · rintro (⟨h, n⟩ | h | h)
        · exact ⟨.inl h, n⟩
        · exact ⟨.inr (.inl h), by omega⟩
        · exact ⟨.inr (.inr h), by have := b4.mem h; omega⟩
      · rintro ⟨h | h | h, n⟩
        · exact .inl ⟨h, n⟩
        · exact .inr (.inl h)
        · exact .inr (.inr h)
    · rename_i c
      split
      · rename_i c2
        obtain ⟨q1, q2⟩ := bst_without b4 (mem_right hb h c2)
        refine ⟨⟨b1, b2, b3, q1⟩, fun y => ?_⟩
        rw [mem_node, mem_node, q2]
        constructor
        · rintro (h | h | ⟨h, n⟩)
          · exact ⟨.inl h, by have := b3.mem h; omega⟩
          · exact ⟨.inr (.inl h), by omega⟩
          · exact ⟨.inr (.inr h), n⟩
        · rintro ⟨h | h | h, n⟩
          · exact .inl h
          · exact .inr (.inl h)
          · exact .inr (.inr ⟨h, n⟩)
      · rename_i c2
        have e : x = k := by omega
        subst e
        split
        · rename_i c3
          split
          · rename_i c4
            have er := isNil_iff.mp c4
            subst er
            refine ⟨b3.wide (Int.le_refl _) (by omega), fun y => ?_⟩
            rw [mem_node]
            constructor
            · intro h; exact ⟨.inl h, by have := b3.mem h; omega⟩
            · rintro ⟨h | h | h, n⟩
              · exact h
              · exact absurd h n
              · cases h
          · rename_i c4
            have el : l = nil := isNil_iff.mp (by cases z : l.isNil <;> simp_all)
            subst el
            refine ⟨b4.wide (by omega) (Int.le_refl _), fun y => ?_⟩
            rw [mem_node]
            constructor
            · intro h; exact ⟨.inr (.inr h), by have := b4.mem h; omega⟩
            · rintro ⟨h | h | h, n⟩
              · cases h
              · exact absurd h n
              · exact h
        · rename_i c3
          have nr : r ≠ nil := fun q => c3 (by rw [isNil_iff.mpr q, Bool.or_true])
          have m := least_mem nr
          obtain ⟨q1, q2⟩ := bst_without b4 m
          have mm := b4.mem m
          have ll := least_le b4
          refine ⟨⟨by omega, by omega, b3.wide (Int.le_refl _) (by omega), q1.narrow fun y hy => ?_⟩, fun y => ?_⟩
          · have h1 := (q2 y).mp hy
            have h2 := ll y h1.1
            have h3 := b4.mem h1.1
            omega
          · rw [mem_node, mem_node, q2]
            constructor
            · rintro (h | h | ⟨h, n⟩)
              · exact ⟨.inl h, by have := b3.mem h; omega⟩
              · exact ⟨.inr (.inr (h ▸ m)), by omega⟩
              · exact ⟨.inr (.inr h), by have := b4.mem h; omega⟩
            · rintro ⟨h | h | h, n⟩
              · exact .inl h
              · exact absurd h n
              · by_cases q : y = r.least
                · exact .inr (.inl q)
                · exact .inr (.inr ⟨h, q⟩)
theorem eta {t : Tr} (h : t ≠ nil) : t = node t.lft t.top t.rgt := by
  cases t with
  | nil => exact absurd rfl h
  | node l x r => rfl
theorem splay_ne {t : Tr} {k : Int} (h : k ∈ t.keys) : t.splay k ≠ nil := by
  intro q
  have := keys_splay t k
  rw [q] at this
  rw [← this] at h
  cases h
theorem bst_withoutSplayed {t : Tr} {k : Int} (hb : t.Bst 1 6) (h : k ∈ t.keys) : (t.withoutSplayed k).Bst 1 6 ∧ ∀ y, y ∈ (t.withoutSplayed k).keys ↔ y ∈ t.keys ∧ y ≠ k := by
  have hs : (t.splay k).Bst 1 6 := hb.of_keys (keys_splay t k)
  have ks : ∀ y, y ∈ (t.splay k).keys ↔ y ∈ t.keys := fun y => by rw [keys_splay]
  have tp := top_splay hb h
  have et := eta (splay_ne h)
  rw [tp] at et
  unfold withoutSplayed
  generalize t.splay k = s at *
  generalize s.lft = L at *
  generalize s.rgt = R at *
  subst et
  obtain ⟨b1, b2, b3, b4⟩ := id hs
  split
  · rename_i c
    have el := isNil_iff.mp c
    subst el
    refine ⟨b4.wide (by omega) (Int.le_refl _), fun y => ?_⟩
    rw [← ks y, mem_node]
    constructor
    · intro h; exact ⟨.inr (.inr h), by have := b4.mem h; omega⟩
    · rintro ⟨h | h | h, n⟩
      · cases h
      · exact absurd h n
      · exact h
  · rename_i c
    have nl : L ≠ nil := fun q => c (isNil_iff.mpr q)
    have m := greatest_mem nl
    have b3' : L.Bst 1 6 := b3.wide (Int.le_refl _) (by omega)
    have hs2 : (L.splay L.greatest).Bst 1 (k - 1) := b3.of_keys (keys_splay _ _)
    have ks2 : ∀ y, y ∈ (L.splay L.greatest).keys ↔ y ∈ L.keys := fun y => by rw [keys_splay]
    have tp2 := top_splay b3' m
    have et2 := eta (splay_ne m)
    have gr := le_greatest b3
    have mm := b3.mem m
    rw [tp2] at et2 ⊢
    generalize L.splay L.greatest = s2 at *
    generalize s2.lft = L2 at *
    generalize s2.rgt = R2 at *
    subst et2
    obtain ⟨a1, a2, a3, a4⟩ := id hs2
    refine ⟨⟨by omega, by omega, a3, b4.wide (by omega) (Int.le_refl _)⟩, fun y => ?_⟩
    have nR2 : ∀ y, y ∉ R2.keys := fun y hy => by
      have h1 := gr y ((ks2 y).mp (mem_node.mpr (.inr (.inr hy))))
      have h2 := a4.mem hy
      omega
    rw [← ks y, mem_node, mem_node, ← ks2 y, mem_node]
    constructor
    · rintro (h | h | h)
      · exact ⟨.inl (.inl h), by have := a3.mem h; omega⟩
      · exact ⟨.inl (.inr (.inl h)), by omega⟩
      · exact ⟨.inr (.inr h), by have := b4.mem h; omega⟩
    · rintro ⟨(h | h | h) | h | h, n⟩
      · exact .inl h
      · exact .inr (.inl h)
      · exact absurd h (nR2 y)
      · exact absurd h n
      · exact .inr (.inr h)
end Tr

/-! ### planting -/
open Tr
def plantN : Nat → List Int → Tr
  | 0, _ => nil
  | _ + 1, [] => nil
  | n + 1, x :: r => node (plantN n ((x :: r).filter fun y => decide (y < x))) x (plantN n ((x :: r).filter fun y => decide (y > x)))
def plant (l : List Int) : Tr := plantN l.length l
theorem filt_lt_len (x : Int) (r : List Int) (p : Int → Bool) (h : p x = false) : ((x :: r).filter p).length ≤ r.length := by
  rw [List.filter_cons, h]
  exact List.length_filter_le _ _
theorem plantN_eq : ∀ (n m : Nat) (l : List Int), l.length ≤ n → l.length ≤ m → plantN n l = plantN m l
  | 0, 0, _, _, _ => rfl
  | 0, m + 1, l, h, _ => by
    cases l with
    | nil => rfl
    | cons x r => exact absurd h (by simp)
  | n + 1, 0, l, _, h => by
    cases l with
    | nil => rfl
    | cons x r => exact absurd h (by simp)
  | n + 1, m + 1, [], _, _ => rfl
  | n + 1, m + 1, x :: r, h1, h2 => by
    have h1' : r.length ≤ n := Nat.le_of_succ_le_succ h1
    have h2' : r.length ≤ m := Nat.le_of_succ_le_succ h2
    have a := filt_lt_len x r (fun y => decide (y < x)) (by simp)
    have b := filt_lt_len x r (fun y => decide (y > x)) (by simp)
    unfold plantN
    rw [plantN_eq n m _ (by omega) (by omega), plantN_eq n m ((x :: r).filter fun y => decide (y > x)) (by omega) (by omega)]
theorem plant_nil : plant [] = nil := rfl
theorem plant_cons (x : Int) (r : List Int) : plant (x :: r) = node (plant ((x :: r).filter fun y => decide (y < x))) x (plant ((x :: r).filter fun y => decide (y > x))) := by
  have a := filt_lt_len x r (fun y => decide (y < x)) (by simp)
  have b := filt_lt_len x r (fun y => decide (y > x)) (by simp)
  show node (plantN r.length _) x (plantN r.length _) = _
  unfold plant
  rw [plantN_eq r.length _ _ a (Nat.le_refl _), plantN_eq r.length _ ((x :: r).filter fun y => decide (y > x)) b (Nat.le_refl _)]
theorem plant_mem : ∀ (n : Nat) (l : List Int), l.length ≤ n → ∀ y, y ∈ (plant l).keys ↔ y ∈ l
  | 0, l, h, y => by
    cases l with
    | nil => simp [plant_nil, keys]
    | cons x r => exact absurd h (by simp)
  | n + 1, [], _, y => by simp [plant_nil, keys]
  | n + 1, x :: r, h, y => by
    have h' : r.length ≤ n := Nat.le_of_succ_le_succ h
    have a := filt_lt_len x r (fun y => decide (y < x)) (by simp)
    have b := filt_lt_len x r (fun y => decide (y > x)) (by simp)
    rw [plant_cons, mem_node, plant_mem n _ (by omega), plant_mem n _ (by omega), List.mem_filter, List.mem_filter]
    simp only [decide_eq_true_eq]
    constructor
    · rintro (h | h | h)
      · exact h.1
      · exact h ▸ List.mem_cons_self
      · exact h.1
    · intro h
      rcases Int.lt_trichotomy y x with c | c | c
      · exact .inl ⟨h, c⟩
      · exact .inr (.inl c)
      · exact .inr (.inr ⟨h, c⟩)
theorem mem_plant {l : List Int} {y : Int} : y ∈ (plant l).keys ↔ y ∈ l := plant_mem _ l (Nat.le_refl _) y
theorem plant_bst : ∀ (n : Nat) (l : List Int) (lo hi : Int), l.length ≤ n → (∀ y ∈ l, lo ≤ y ∧ y ≤ hi) → (plant l).Bst lo hi
  | 0, l, lo, hi, h, _ => by
    cases l with
    | nil => trivial
    | cons x r => exact absurd h (by simp)
  | n + 1, [], _, _, _, _ => trivial
  | n + 1, x :: r, lo, hi, h, q => by
    have h' : r.length ≤ n := Nat.le_of_succ_le_succ h
    have a := filt_lt_len x r (fun y => decide (y < x)) (by simp)
    have b := filt_lt_len x r (fun y => decide (y > x)) (by simp)
    have qx := q x List.mem_cons_self
    rw [plant_cons]
    refine ⟨qx.1, qx.2, plant_bst n _ _ _ (by omega) fun y hy => ?_, plant_bst n _ _ _ (by omega) fun y hy => ?_⟩
    · have h1 := List.mem_filter.mp hy
      have h2 := q y h1.1
      have h3 : y < x := of_decide_eq_true h1.2
      omega
    · have h1 := List.mem_filter.mp hy
      have h2 := q y h1.1
      have h3 : y > x := of_decide_eq_true h1.2
      omega
theorem filter_and (l : List Int) (p q : Int → Bool) : (l.filter p).filter q = l.filter fun y => p y && q y := by
  rw [List.filter_filter]
  congr 1
  funext y
  exact Bool.and_comm _ _
theorem filt_congr {l : List Int} {p q : Int → Bool} (h : ∀ y ∈ l, p y = q y) : l.filter p = l.filter q := List.filter_congr h
/-- what is left of a key in a planted tree is planted of the lesser ones -/
theorem lt_plant : ∀ (n : Nat) (l : List Int) (k : Int), l.length ≤ n → (plant l).lt k = plant (l.filter fun y => decide (y < k))
  | 0, l, k, h => by
    cases l with
    | nil => rfl
    | cons x r => exact absurd h (by simp)
  | n + 1, [], k, _ => rfl
  | n + 1, x :: r, k, h => by
    have h' : r.length ≤ n := Nat.le_of_succ_le_succ h
    have a := filt_lt_len x r (fun y => decide (y < x)) (by simp)
    have b := filt_lt_len x r (fun y => decide (y > x)) (by simp)
    rw [plant_cons]
    unfold Tr.lt
    split
    · rename_i c
      rw [lt_plant n _ k (by omega), filter_and]
      congr 1
      refine filt_congr fun y _ => ?_
      by_cases h1 : y < k
      · simp [h1, show y < x by omega]
      · simp [h1]
    · rename_i c
      split
      · rename_i c2
        rw [lt_plant n _ k (by omega)]
        have ef : (x :: r).filter (fun y => decide (y < k)) = x :: r.filter (fun y => decide (y < k)) := by rw [List.filter_cons, if_pos (by simp [c2])]
        rw [ef, plant_cons, ← ef, filter_and, filter_and, filter_and]
        congr 2
        · refine filt_congr fun y _ => ?_
          by_cases h1 : y < x
          · simp [h1, show y < k by omega]
          · simp [h1]
        · refine filt_congr fun y _ => Bool.and_comm _ _
      · rename_i c2
        have e : x = k := by omega
        rw [e]
theorem gt_plant : ∀ (n : Nat) (l : List Int) (k : Int), l.length ≤ n → (plant l).gt k = plant (l.filter fun y => decide (y > k))
  | 0, l, k, h => by
    cases l with
    | nil => rfl
    | cons x r => exact absurd h (by simp)
  | n + 1, [], k, _ => rfl
  | n + 1, x :: r, k, h => by
    have h' : r.length ≤ n := Nat.le_of_succ_le_succ h
    have a := filt_lt_len x r (fun y => decide (y < x)) (by simp)
    have b := filt_lt_len x r (fun y => decide (y > x)) (by simp)
    rw [plant_cons]
    unfold Tr.gt
    split
    · rename_i c
      rw [gt_plant n _ k (by omega)]
      have ef : (x :: r).filter (fun y => decide (y > k)) = x :: r.filter (fun y => decide (y > k)) := by rw [List.filter_cons, if_pos (by simp [c])]
      rw [ef, plant_cons, ← ef, filter_and, filter_and, filter_and]
      congr 2
      · refine filt_congr fun y _ => Bool.and_comm _ _
      · refine filt_congr fun y _ => ?_
        by_cases h1 : y > x
        · simp [h1, show y > k by omega]
        · simp [h1]
    · rename_i c
      split
      · rename_i c2
        rw [gt_plant n _ k (by omega), filter_and]
        congr 1
        refine filt_congr fun y _ => ?_
        by_cases h1 : y > k
        · simp [h1, show y > x by omega]
        · simp [h1]
      · rename_i c2
        have e : x = k := by omega
        rw [e]
/-- an ask by the rule of the top, of a planted tree -/
theorem toTop_plant (l : List Int) (k : Int) : (plant l).toTop k = plant (k :: l) := by
  unfold toTop
  rw [lt_plant _ l k (Nat.le_refl _), gt_plant _ l k (Nat.le_refl _), plant_cons]
  congr 2
  · rw [List.filter_cons, if_neg (by simp)]
  · rw [List.filter_cons, if_neg (by simp)]
/-- every search tree is planted of its keys, each ahead of those below it -/
def pre : Tr → List Int
  | nil => []
  | node l k r => k :: (pre l ++ pre r)
theorem mem_pre : ∀ (t : Tr) (y : Int), y ∈ pre t ↔ y ∈ t.keys
  | nil, y => by simp [pre, keys]
  | node l k r, y => by
    rw [mem_node]
    simp only [pre, List.mem_cons, List.mem_append, mem_pre l, mem_pre r]
    constructor
    · rintro (h | h | h) <;> simp [h]
    · rintro (h | h | h) <;> simp [h]
theorem plant_pre : ∀ {t : Tr} {lo hi : Int}, t.Bst lo hi → plant (pre t) = t
  | nil, _, _, _ => rfl
  | node l k r, lo, hi, hb => by
    have hl := plant_pre hb.2.2.1
    have hr := plant_pre hb.2.2.2
    have ml : ∀ y ∈ pre l, y < k := fun y hy => by have := hb.2.2.1.mem ((mem_pre l y).mp hy); omega
    have mr : ∀ y ∈ pre r, y > k := fun y hy => by have := hb.2.2.2.mem ((mem_pre r y).mp hy); omega
    unfold pre
    rw [plant_cons]
    have e1 : (k :: (pre l ++ pre r)).filter (fun y => decide (y < k)) = pre l := by
      rw [List.filter_cons, if_neg (by simp), List.filter_append, List.filter_eq_self.mpr (fun y hy => decide_eq_true (ml y hy)), List.filter_eq_nil_iff.mpr (fun y hy => by have := mr y hy; simp; omega), List.append_nil]
    have e2 : (k :: (pre l ++ pre r)).filter (fun y => decide (y > k)) = pre r := by
      rw [List.filter_cons, if_neg (by simp), List.filter_append, List.filter_eq_nil_iff.mpr (fun y hy => by have := ml y hy; simp; omega), List.filter_eq_self.mpr (fun y hy => decide_eq_true (mr y hy)), List.nil_append]
    rw [e1, e2, hl, hr]
/-- a key that comes again later does not matter -/
theorem plant_skip : ∀ (n : Nat) (a b : List Int) (x : Int), a.length ≤ n → x ∈ a → plant (a ++ x :: b) = plant (a ++ b)
  | 0, a, b, x, h, m => by
    cases a with
    | nil => cases m
    | cons y r => exact absurd h (by simp)
  | n + 1, [], b, x, _, m => by cases m
  | n + 1, y :: r, b, x, h, m => by
    have h' : r.length ≤ n := Nat.le_of_succ_le_succ h
    have a1 := filt_lt_len y r (fun z => decide (z < y)) (by simp)
    have a2 := filt_lt_len y r (fun z => decide (z > y)) (by simp)
    rw [List.cons_append, List.cons_append, plant_cons, plant_cons, ← List.cons_append, ← List.cons_append]
    simp only [List.filter_append]
    congr 1
    · by_cases c : x < y
      · rw [List.filter_cons (x := x), if_pos (by simp [c])]
        exact plant_skip n _ _ x (by omega) (List.mem_filter.mpr ⟨m, by simp [c]⟩)
      · rw [List.filter_cons (x := x), if_neg (by simp [c])]
    · by_cases c : x > y
      · rw [List.filter_cons (x := x), if_pos (by simp [c])]
        exact plant_skip n _ _ x (by omega) (List.mem_filter.mpr ⟨m, by simp [c]⟩)
      · rw [List.filter_cons (x := x), if_neg (by simp [c])]
theorem plant_drop {a b : List Int} {x : Int} (m : x ∈ a) : plant (a ++ x :: b) = plant (a ++ b) := plant_skip _ a b x (Nat.le_refl _) m
theorem plant_drops {a : List Int} : ∀ (b : List Int), (∀ x ∈ b, x ∈ a) → plant (a ++ b) = plant a
  | [], _ => by rw [List.append_nil]
  | x :: b, h => by
    rw [plant_drop (h x List.mem_cons_self)]
    exact plant_drops b fun y hy => h y (List.mem_cons_of_mem _ hy)

/-! ### by an order -/
def byOrderN : Nat → List Int → List Int → Tr
  | 0, _, _ => nil
  | _ + 1, [], _ => nil
  | n + 1, k :: ks, o =>
    let t := (o.filter fun y => decide (y ∈ k :: ks)).getD 0 0
    node (byOrderN n ((k :: ks).filter fun y => decide (y < t)) o) t (byOrderN n ((k :: ks).filter fun y => decide (y > t)) o)
def byOrder (ks o : List Int) : Tr := byOrderN ks.length ks o
theorem byOrderN_plant : ∀ (n : Nat) (ks o : List Int), ks.length ≤ n → (∀ y ∈ ks, y ∈ o) → byOrderN n ks o = plant (o.filter fun y => decide (y ∈ ks))
  | 0, ks, o, h, _ => by
    cases ks with
    | nil => rw [List.filter_eq_nil_iff.mpr (by simp)]; rfl
    | cons x r => exact absurd h (by simp)
  | n + 1, [], o, _, _ => by rw [List.filter_eq_nil_iff.mpr (by simp)]; rfl
  | n + 1, k :: ks, o, h, hi => by
    have ne : (o.filter fun y => decide (y ∈ k :: ks)) ≠ [] := by
      intro q
      have := List.filter_eq_nil_iff.mp q k (hi k List.mem_cons_self)
      simp at this
    cases ef : (o.filter fun y => decide (y ∈ k :: ks)) with
    | nil => exact absurd ef ne
    | cons t r =>
      have mt : t ∈ k :: ks := by
        have : t ∈ (o.filter fun y => decide (y ∈ k :: ks)) := by rw [ef]; exact List.mem_cons_self
        simpa using (List.mem_filter.mp this).2
      have lenf : ∀ (l : List Int) (p : Int → Bool) (t : Int), t ∈ l → p t = false → (l.filter p).length < l.length := fun l p t hm hp => by
        refine Nat.lt_of_le_of_ne (List.length_filter_le _ _) fun q => ?_
        have := (List.length_filter_eq_length_iff).mp q t hm
        rw [hp] at this; cases this
      unfold byOrderN
      rw [ef]
      show node (byOrderN n ((k :: ks).filter fun y => decide (y < t)) o) t (byOrderN n ((k :: ks).filter fun y => decide (y > t)) o) = _
      have l1 := lenf (k :: ks) (fun y => decide (y < t)) t mt (by simp)
      have l2 := lenf (k :: ks) (fun y => decide (y > t)) t mt (by simp)
      rw [byOrderN_plant n _ o (by omega) fun y hy => hi y (List.mem_filter.mp hy).1, byOrderN_plant n _ o (by omega) fun y hy => hi y (List.mem_filter.mp hy).1, plant_cons, ← ef, filter_and, filter_and]
      congr 2
      · refine filt_congr fun y _ => ?_
        simp only [List.mem_filter, Bool.decide_and, Bool.decide_eq_true]
      · refine filt_congr fun y _ => ?_
        simp only [List.mem_filter, Bool.decide_and, Bool.decide_eq_true]
theorem byOrder_plant {ks o : List Int} (h : ∀ y ∈ ks, y ∈ o) : byOrder ks o = plant (o.filter fun y => decide (y ∈ ks)) := byOrderN_plant _ ks o (Nat.le_refl _) h
/-- the shape that is planted of some keys keeps the condition of their order, what is not there being put behind -/
theorem ranks_keep {last others : List Int} (h : ∀ y ∈ others, y ∉ last) : byOrder (plant last).keys (last ++ others) = plant last := by
  rw [byOrder_plant fun y hy => List.mem_append_left _ (mem_plant.mp hy), List.filter_append, List.filter_eq_self.mpr (fun y hy => decide_eq_true (mem_plant.mpr hy)),
    List.filter_eq_nil_iff.mpr (fun y hy => by simpa [mem_plant] using h y hy), List.append_nil]
end TT

/-! rules, deeds, rows: the mathematics -/
namespace TT
open Tr
inductive Rl where
  | plain
  | top
  | splay
  deriving DecidableEq
inductive Wd where
  | ask
  | put
  | out
  deriving DecidableEq
structure Deed where
  w : Wd
  k : Int
def moved : Rl → Tr → Int → Tr
  | .plain, t, _ => t
  | .top, t, k => t.toTop k
  | .splay, t, k => t.splay k
def withKey (r : Rl) (t : Tr) (k : Int) : Tr := moved r (t.withLeaf k) k
def withoutKey (r : Rl) (t : Tr) (k : Int) : Tr := if r = .splay then t.withoutSplayed k else t.without k
def step (r : Rl) (t : Tr) (d : Deed) : Tr := match d.w with
  | .ask => moved r t d.k
  | .put => withKey r t d.k
  | .out => withoutKey r t d.k
def cost (t : Tr) (d : Deed) : Int := (t.way d.k : Int) + (if d.w = .put then 0 else 1)
/-- the keys that are there -/
def stepH (h : List Int) (d : Deed) : List Int := match d.w with
  | .ask => h
  | .put => h ++ [d.k]
  | .out => h.filter fun y => decide (y ≠ d.k)
def okD (h : List Int) (d : Deed) : Prop := 1 ≤ d.k ∧ d.k ≤ 6 ∧ (d.k ∈ h ↔ d.w ≠ .put)
def hereOf : List Int → List Deed → List Int
  | h, [] => h
  | h, d :: ds => hereOf (stepH h d) ds
def okRow : List Int → List Deed → Prop
  | _, [] => True
  | h, d :: ds => okD h d ∧ okRow (stepH h d) ds
def shapeOf (r : Rl) : Tr → List Deed → Tr
  | t, [] => t
  | t, d :: ds => shapeOf r (step r t d) ds
def shapes (r : Rl) : Tr → List Deed → List Tr
  | _, [] => []
  | t, d :: ds => step r t d :: shapes r (step r t d) ds
def costs (r : Rl) : Tr → List Deed → List Int
  | _, [] => []
  | t, d :: ds => cost t d :: costs r (step r t d) ds
def along : List Int → List Deed → List (List Int)
  | _, [] => []
  | h, d :: ds => stepH h d :: along (stepH h d) ds
theorem hereOf_app : ∀ (h : List Int) (a b : List Deed), hereOf h (a ++ b) = hereOf (hereOf h a) b
  | _, [], _ => rfl
  | h, d :: a, b => hereOf_app (stepH h d) a b
theorem okRow_app : ∀ {h : List Int} {a b : List Deed}, okRow h (a ++ b) ↔ okRow h a ∧ okRow (hereOf h a) b
  | _, [], _ => by simp [okRow, hereOf]
  | h, d :: a, b => by
    have := okRow_app (h := stepH h d) (a := a) (b := b)
    simp only [List.cons_append, okRow, hereOf, this, and_assoc]
theorem shapeOf_app (r : Rl) : ∀ (t : Tr) (a b : List Deed), shapeOf r t (a ++ b) = shapeOf r (shapeOf r t a) b
  | _, [], _ => rfl
  | t, d :: a, b => shapeOf_app r (step r t d) a b
theorem shapes_one (r : Rl) : ∀ (t : Tr) (a : List Deed) (d : Deed), shapes r t (a ++ [d]) = shapes r t a ++ [step r (shapeOf r t a) d]
  | _, [], _ => rfl
  | t, c :: a, d => by
    have := shapes_one r (step r t c) a d
    simp only [List.cons_append, shapes, shapeOf, this]
theorem costs_one (r : Rl) : ∀ (t : Tr) (a : List Deed) (d : Deed), costs r t (a ++ [d]) = costs r t a ++ [cost (shapeOf r t a) d]
  | _, [], _ => rfl
  | t, c :: a, d => by
    have := costs_one r (step r t c) a d
    simp only [List.cons_append, costs, shapeOf, this]
theorem along_one : ∀ (h : List Int) (a : List Deed) (d : Deed), along h (a ++ [d]) = along h a ++ [stepH (hereOf h a) d]
  | _, [], _ => rfl
  | h, c :: a, d => by
    have := along_one (stepH h c) a d
    simp only [List.cons_append, along, hereOf, this]
theorem shapes_len (r : Rl) : ∀ (t : Tr) (a : List Deed), (shapes r t a).length = a.length
  | _, [] => rfl
  | t, c :: a => by simp only [shapes, List.length_cons, shapes_len r (step r t c) a]
theorem costs_len (r : Rl) : ∀ (t : Tr) (a : List Deed), (costs r t a).length = a.length
  | _, [] => rfl
  | t, c :: a => by simp only [costs, List.length_cons, costs_len r (step r t c) a]
theorem along_len : ∀ (h : List Int) (a : List Deed), (along h a).length = a.length
  | _, [] => rfl
  | h, c :: a => by simp only [along, List.length_cons, along_len (stepH h c) a]
theorem take_one {α : Type} {l : List α} {i : Nat} {x : α} (h : l[i]? = some x) : l.take (i + 1) = l.take i ++ [x] := by
  rw [List.take_succ, h]; rfl
theorem okRow_at {h : List Int} {l : List Deed} {i : Nat} {d : Deed} (k : okRow h l) (e : l[i]? = some d) : okD (hereOf h (l.take i)) d := by
  have e2 : l.take i ++ (d :: l.drop (i + 1)) = l := by
    have hi := (List.getElem?_eq_some_iff.mp e)
    obtain ⟨h1, h2⟩ := hi
    rw [← h2, ← List.drop_eq_getElem_cons h1, List.take_append_drop]
  rw [← e2] at k
  exact (okRow_app.mp k).2.1
theorem okRow_take {h : List Int} {l : List Deed} (i : Nat) (k : okRow h l) : okRow h (l.take i) := by
  rw [← List.take_append_drop i l] at k
  exact (okRow_app.mp k).1

/-! the shape and the keys go together -/
structure Good (t : Tr) (h : List Int) : Prop where
  b : t.Bst 1 6
  m : ∀ y, y ∈ t.keys ↔ y ∈ h
theorem moved_keys {r : Rl} {t : Tr} {k : Int} (h : t.Bst 1 6) (hk : k ∈ t.keys) : (moved r t k).keys = t.keys := by
  cases r with
  | plain => rfl
  | top => exact keys_toTop h hk
  | splay => exact keys_splay t k
theorem Good.moved {r : Rl} {t : Tr} {h : List Int} {k : Int} (g : Good t h) (hk : k ∈ h) : Good (moved r t k) h := by
  have e := moved_keys (r := r) g.b ((g.m k).mpr hk)
  exact ⟨g.b.of_keys e, fun y => by rw [e]; exact g.m y⟩
theorem Good.leaf {t : Tr} {h : List Int} {k : Int} (g : Good t h) (h1 : 1 ≤ k) (h2 : k ≤ 6) (n : k ∉ h) : Good (t.withLeaf k) (h ++ [k]) := by
  obtain ⟨q1, q2⟩ := bst_withLeaf g.b h1 h2 fun z => n ((g.m k).mp z)
  exact ⟨q1, fun y => by rw [q2, g.m, List.mem_append, List.mem_singleton]⟩
theorem Good.step {r : Rl} {t : Tr} {h : List Int} {d : Deed} (g : Good t h) (o : okD h d) : Good (step r t d) (stepH h d) := by
  obtain ⟨w, k⟩ := d
  obtain ⟨h1, h2, h3⟩ := o
  cases w with
  | ask => exact g.moved (h3.mpr nofun)
  | put =>
    have n : k ∉ h := fun z => h3.mp z rfl
    exact (g.leaf h1 h2 n).moved (List.mem_append_right _ (List.mem_singleton.mpr rfl))
  | out =>
    have hk : k ∈ t.keys := (g.m k).mpr (h3.mpr nofun)
    have q : (withoutKey r t k).Bst 1 6 ∧ ∀ y, y ∈ (withoutKey r t k).keys ↔ y ∈ t.keys ∧ y ≠ k := by
      unfold withoutKey; split
      · exact bst_withoutSplayed g.b hk
      · exact bst_without g.b hk
    refine ⟨q.1, fun y => ?_⟩
    show y ∈ (withoutKey r t k).keys ↔ y ∈ h.filter fun y => decide (y ≠ k)
    rw [q.2, g.m, List.mem_filter, decide_eq_true_eq]
theorem Good.row {r : Rl} : ∀ {t : Tr} {h : List Int} {l : List Deed}, Good t h → okRow h l → Good (shapeOf r t l) (hereOf h l)
  | _, _, [], g, _ => g
  | _, _, d :: l, g, o => Good.row (l := l) (g.step o.1) o.2
theorem good_nil : Good .nil [] := ⟨trivial, fun y => Iff.rfl⟩
theorem good_of {r : Rl} {l : List Deed} (o : okRow [] l) : Good (shapeOf r .nil l) (hereOf [] l) := good_nil.row o

/-! asks of keys that are there -/
def asks (l : List Int) : List Deed := l.map fun k => ⟨.ask, k⟩
theorem here_asks : ∀ (h : List Int) (l : List Int), hereOf h (asks l) = h
  | _, [] => rfl
  | h, k :: l => here_asks h l
theorem ok_asks : ∀ {h : List Int} {l : List Int}, (∀ y ∈ h, 1 ≤ y ∧ y ≤ 6) → (∀ y ∈ l, y ∈ h) → okRow h (asks l)
  | _, [], _, _ => trivial
  | h, k :: l, a, b => by
    have hk := b k List.mem_cons_self
    exact ⟨⟨(a k hk).1, (a k hk).2, ⟨fun _ => nofun, fun _ => hk⟩⟩, ok_asks (h := h) a fun y hy => b y (List.mem_cons_of_mem _ hy)⟩
/-- behind asks by the rule of the top: planted of them, the last one first -/
theorem top_asks : ∀ (l m : List Int), shapeOf .top (plant m) (asks l) = plant (l.reverse ++ m)
  | [], m => rfl
  | k :: l, m => by
    show shapeOf .top ((plant m).toTop k) (asks l) = _
    rw [toTop_plant, top_asks l (k :: m), List.reverse_cons, List.append_assoc]
    rfl
theorem top_asks_of {t : Tr} {l : List Int} (h : t.Bst 1 6) (c : ∀ y ∈ t.keys, y ∈ l) : shapeOf .top t (asks l) = plant l.reverse := by
  rw [← plant_pre h, top_asks]
  exact plant_drops _ fun y hy => List.mem_reverse.mpr (c y ((mem_pre t y).mp hy))
theorem top_last {t : Tr} {l : List Int} {k : Int} {r : Rl} (hr : r ≠ .plain) (h : (shapeOf r t (asks l)).Bst 1 6) (hk : k ∈ (shapeOf r t (asks l)).keys) : (shapeOf r t (asks (l ++ [k]))).top = k := by
  unfold asks
  rw [List.map_append, shapeOf_app]
  show (moved r (shapeOf r t (asks l)) k).top = k
  cases r with
  | plain => exact absurd rfl hr
  | top => rfl
  | splay => exact top_splay h hk
/-- the order in which keys come first, from the back -/
def firsts : List Int → List Int → List Int
  | acc, [] => acc
  | acc, k :: l => firsts (if k ∈ acc then acc else acc ++ [k]) l
theorem firsts_plant : ∀ (acc l : List Int), plant (firsts acc l) = plant (acc ++ l)
  | acc, [] => by rw [List.append_nil]; rfl
  | acc, k :: l => by
    unfold firsts
    rw [firsts_plant]
    split
    · rename_i c
      rw [plant_drop c]
    · rw [List.append_assoc]; rfl
theorem firsts_mem : ∀ (acc l : List Int) (y : Int), y ∈ firsts acc l ↔ y ∈ acc ∨ y ∈ l
  | acc, [], y => by simp [firsts]
  | acc, k :: l, y => by
    unfold firsts
    rw [firsts_mem]
    split
    · rename_i c
      constructor
      · rintro (h | h)
        · exact .inl h
        · exact .inr (List.mem_cons_of_mem _ h)
      · rintro (h | h)
        · exact .inl h
        · rcases List.mem_cons.mp h with rfl | h
          · exact .inl c
          · exact .inr h
    · rw [List.mem_append, List.mem_singleton, List.mem_cons, or_assoc]
theorem firsts_nodup : ∀ (acc l : List Int), acc.Nodup → (firsts acc l).Nodup
  | acc, [], h => h
  | acc, k :: l, h => by
    unfold firsts
    refine firsts_nodup _ l ?_
    split
    · exact h
    · rename_i c
      rw [List.nodup_append]
      refine ⟨h, by simp, fun a ha b hb => ?_⟩
      rw [List.mem_singleton] at hb
      rintro rfl
      exact c (hb ▸ ha)
theorem firsts_one : ∀ (acc a : List Int) (k : Int), firsts acc (a ++ [k]) = (if k ∈ firsts acc a then firsts acc a else firsts acc a ++ [k])
  | acc, [], k => rfl
  | acc, c :: a, k => firsts_one _ a k
def six : List Int := [1, 2, 3, 4, 5, 6]
theorem mem_six {y : Int} : y ∈ six ↔ 1 ≤ y ∧ y ≤ 6 := by
  unfold six
  simp only [List.mem_cons, List.not_mem_nil, or_false]
  omega
/-- some keys, then the others: all keys, each once -/
theorem order_perm {l : List Int} (n : l.Nodup) (h : ∀ y ∈ l, 1 ≤ y ∧ y ≤ 6) : (l ++ six.filter fun y => !decide (y ∈ l)).Perm six := by
  refine (List.perm_ext_iff_of_nodup ?_ (by decide)).mpr fun y => ?_
  · rw [List.nodup_append]
    refine ⟨n, List.Nodup.sublist List.filter_sublist (by decide), fun a ha b hb => ?_⟩
    rintro rfl
    have := (List.mem_filter.mp hb).2
    simp [ha] at this
  · rw [List.mem_append, List.mem_filter, mem_six]
    constructor
    · rintro (q | q)
      · exact h y q
      · exact q.1
    · intro q
      by_cases c : y ∈ l
      · exact .inl c
      · exact .inr ⟨q, by simp [c]⟩
end TT

/- A small layer over HandS: expressions and statements by data (PyData) in an environment of data. -/
namespace TT
open PySem L2

/-! ### data under growth -/
theorem sqT_mono {K : PySem.W.Frag} {H H' : Hp} {a : Addr} {xs : List V} (up : Same H H') (sq : SqT K H a xs) : SqT K H' a xs := by
  rcases sq with (own | ⟨known, own⟩) | written
  · exact .inl (.inl (up a _ own))
  · exact .inl (.inr ⟨known, up a _ own⟩)
  · exact .inr written
mutual
theorem dp_mono {K : PySem.W.Frag} {H H' : Hp} (e : Same H H') : ∀ (d : PyData) {v : V}, Dp K H v d → Dp K H' v d
  | .none, _, h => by cases h; exact .non
  | .bool b, _, h => by cases h; exact .bl b
  | .int b, _, h => by cases h; exact .int b
  | .str b, _, h => by cases h; exact .str b
  | .list ds, _, h => by
    cases h with
    | lst hs ha => exact .lst (e.seq hs) (dpAll_mono e ds ha)
  | .tuple ds, _, h => by
    cases h with
    | tup hs ha => exact .tup (sqT_mono e hs) (dpAll_mono e ds ha)
  | .dict _, _, h => by cases h
theorem dpAll_mono {K : PySem.W.Frag} {H H' : Hp} (e : Same H H') : ∀ (ds : List PyData) {vs : List V}, DpAll K H vs ds → DpAll K H' vs ds
  | [], _, h => by cases h; exact .nil
  | d :: ds, _, h => by
    cases h with
    | cons h1 h2 => exact .cons (dp_mono e d h1) (dpAll_mono e ds h2)
end
theorem Dp.up {K : PySem.W.Frag} {H H' : Hp} {v : V} {d : PyData} (h : Dp K H v d) (e : Same H H') : Dp K H' v d := dp_mono e d h
theorem DpAll.up {K : PySem.W.Frag} {H H' : Hp} {vs : List V} {ds : List PyData} (h : DpAll K H vs ds) (e : Same H H') : DpAll K H' vs ds := dpAll_mono e ds h
section
variable {K : PySem.W.Frag} {H H' F F' : Hp}
theorem dpAll_len : ∀ {vs : List V} {ds : List PyData}, DpAll K H vs ds → vs.length = ds.length
  | _, [], h => by cases h; rfl
  | _, d :: ds, h => by
    cases h with
    | cons h1 h2 => rw [List.length_cons, List.length_cons, dpAll_len h2]
theorem dpAll_get : ∀ {vs : List V} {ds : List PyData} {i : Nat} {d : PyData}, DpAll K H vs ds → ds[i]? = some d → ∃ v, vs[i]? = some v ∧ Dp K H v d
  | _, [], _, _, h, e => by simp at e
  | _, d :: ds, 0, _, h, e => by
    cases h with
    | cons h1 h2 => simp at e; subst e; exact ⟨_, rfl, h1⟩
  | _, d :: ds, i + 1, _, h, e => by
    cases h with
    | cons h1 h2 =>
      obtain ⟨v, q1, q2⟩ := dpAll_get (i := i) h2 (by simpa using e)
      exact ⟨v, by simpa using q1, q2⟩
theorem dpAll_back : ∀ {vs : List V} {ds : List PyData} {i : Nat} {v : V}, DpAll K H vs ds → vs[i]? = some v → ∃ d, ds[i]? = some d ∧ Dp K H v d
  | _, [], _, _, h, e => by cases h; simp at e
  | _, d :: ds, 0, _, h, e => by
    cases h with
    | cons h1 h2 => simp at e; subst e; exact ⟨_, rfl, h1⟩
  | _, d :: ds, i + 1, _, h, e => by
    cases h with
    | cons h1 h2 =>
      obtain ⟨v, q1, q2⟩ := dpAll_back (i := i) h2 (by simpa using e)
      exact ⟨v, by simpa using q1, q2⟩
theorem dpAll_app : ∀ {vs ws : List V} {ds es : List PyData}, DpAll K H vs ds → DpAll K H ws es → DpAll K H (vs ++ ws) (ds ++ es)
  | _, _, [], _, h, h' => by cases h; exact h'
  | _, _, d :: ds, _, h, h' => by
    cases h with
    | cons h1 h2 => exact .cons h1 (dpAll_app h2 h')
theorem dpAll_rev : ∀ {vs : List V} {ds : List PyData}, DpAll K H vs ds → DpAll K H vs.reverse ds.reverse
  | _, [], h => by cases h; exact .nil
  | _, d :: ds, h => by
    cases h with
    | cons h1 h2 =>
      simp only [List.reverse_cons]
      exact dpAll_app (dpAll_rev h2) (.cons h1 .nil)
theorem dpAll_drop : ∀ {n : Nat} {vs : List V} {ds : List PyData}, DpAll K H vs ds → DpAll K H (vs.drop n) (ds.drop n)
  | 0, _, _, h => h
  | n + 1, _, [], h => by cases h; exact .nil
  | n + 1, _, d :: ds, h => by
    cases h with
    | cons h1 h2 => exact dpAll_drop (n := n) h2
theorem dpAll_take : ∀ {n : Nat} {vs : List V} {ds : List PyData}, DpAll K H vs ds → DpAll K H (vs.take n) (ds.take n)
  | 0, _, _, h => .nil
  | n + 1, _, [], h => by cases h; exact .nil
  | n + 1, _, d :: ds, h => by
    cases h with
    | cons h1 h2 => exact .cons h1 (dpAll_take (n := n) h2)
theorem dpAll_erase : ∀ {i : Nat} {vs : List V} {ds : List PyData}, DpAll K H vs ds → DpAll K H (vs.eraseIdx i) (ds.eraseIdx i)
  | _, _, [], h => by cases h; exact .nil
  | 0, _, d :: ds, h => by
    cases h with
    | cons h1 h2 => exact h2
  | i + 1, _, d :: ds, h => by
    cases h with
    | cons h1 h2 => exact .cons h1 (dpAll_erase (i := i) h2)
theorem dpAll_ints : ∀ {vs : List V} {ns : List Int}, DpAll K H vs (ns.map PyData.int) → vs = ns.map V.int
  | _, [], h => by cases h; rfl
  | _, n :: ns, h => by
    cases h with
    | cons h1 h2 =>
      cases h1
      rw [dpAll_ints h2]; rfl
theorem dpAll_ofInts : ∀ (ns : List Int), DpAll K H (ns.map V.int) (ns.map PyData.int)
  | [] => .nil
  | n :: ns => .cons (.int n) (dpAll_ofInts ns)
theorem dpAll_strs : ∀ {vs : List V} {ns : List Str}, DpAll K H vs (ns.map PyData.str) → vs = ns.map V.str
  | _, [], h => by cases h; rfl
  | _, n :: ns, h => by
    cases h with
    | cons h1 h2 =>
      cases h1
      rw [dpAll_strs h2]; rfl
theorem dpAll_bools : ∀ {vs : List V} {ns : List Bool}, DpAll K H vs (ns.map PyData.bool) → vs = ns.map V.bl
  | _, [], h => by cases h; rfl
  | _, n :: ns, h => by
    cases h with
    | cons h1 h2 =>
      cases h1
      rw [dpAll_bools h2]; rfl
theorem dp_int {v : V} {i : Int} (h : Dp K H v (.int i)) : v = .int i := by cases h; rfl
theorem dp_str {v : V} {i : Str} (h : Dp K H v (.str i)) : v = .str i := by cases h; rfl
theorem dp_bl {v : V} {i : Bool} (h : Dp K H v (.bool i)) : v = .bl i := by cases h; rfl
theorem dp_non {v : V} (h : Dp K H v .none) : v = .non := by cases h; rfl
theorem dp_lst {v : V} {ds : List PyData} (h : Dp K H v (.list ds)) : ∃ a xs, v = .ref a ∧ SqL K H a xs ∧ DpAll K H xs ds := by
  cases h with
  | lst hs ha => exact ⟨_, _, rfl, hs, ha⟩
theorem dp_tup {v : V} {ds : List PyData} (h : Dp K H v (.tuple ds)) : ∃ a xs, v = .ref a ∧ SqT K H a xs ∧ DpAll K H xs ds := by
  cases h with
  | tup hs ha => exact ⟨_, _, rfl, hs, ha⟩
theorem atI_map {vs : List V} {ds : List PyData} {i : Int} {d : PyData} (h : DpAll K H vs ds) (e : atI ds i = some d) : ∃ v, atI vs i = some v ∧ Dp K H v d := by
  unfold atI at e ⊢
  rw [← dpAll_len h] at e
  cases q : ixN vs.length i with
  | none => rw [q] at e; cases e
  | some j =>
    rw [q] at e
    obtain ⟨v, q1, q2⟩ := dpAll_get h (show ds[j]? = some d from e)
    exact ⟨v, q1, q2⟩
/-- the types that isinstance sees -/
def tyD : PyData → Value
  | .none => .type "NoneType"
  | .bool _ => .type "bool"
  | .int _ => .type "int"
  | .str _ => .type "str"
  | .list _ => .type "list"
  | .tuple _ => .type "tuple"
  | .dict _ => .type "dict"
theorem tyx_of {v : V} {d : PyData} (h : Dp K H v d) : TyX K H v (tyD d) := by
  cases h with
  | non => exact .base .non
  | bl b => exact .base (.bl b)
  | int b => exact .base (.int b)
  | str b => exact .base (.str b)
  | lst hs ha =>
    rcases hs with (h | ⟨o, h⟩) | ⟨o, its, n, h, c, _⟩
    · exact .base (.lst h)
    · exact .base (.frz h)
    · exact .kList h c
  | tup hs ha =>
    rcases hs with (h | ⟨o, h⟩) | ⟨o, its, n, h, c, _⟩
    · exact .base (.tup h)
    · exact .fTuple h
    · exact .kTuple h c
end

/-! ### the heap: what is known for good (F), what stands (H), the town (T) -/
def Twn (H : Hp) (a : Addr) : Prop := ∃ p r : Int, H a = some (.lst [.int p, .int r]) ∧ 0 ≤ p
structure Grow (T : Option Addr) (F H F' H' : Hp) : Prop where
  ff : Same F F'
  fh : Same F' H'
  hh : ∀ b o, H b = some o → T ≠ some b → H' b = some o
  fr : ∀ b, F b = none → H b ≠ none → F' b = none
  tw : ∀ a, T = some a → Twn H' a
structure Hd (T : Option Addr) (F H : Hp) : Prop where
  fh : Same F H
  tw : ∀ a, T = some a → F a = none ∧ Twn H a
section
variable {T : Option Addr} {F H F1 H1 F2 H2 : Hp} {a : Addr} {o : HO}
theorem Twn.ne (h : Twn H a) : H a ≠ none := by
  obtain ⟨p, r, e, _⟩ := h
  rw [e]; exact nofun
theorem Grow.refl (h : Hd T F H) : Grow T F H F H := ⟨.refl F, h.fh, fun _ _ e _ => e, fun _ e _ => e, fun a e => (h.tw a e).2⟩
theorem Grow.ne (g : Grow T F H F1 H1) {b : Addr} (h : H b ≠ none) : H1 b ≠ none := by
  by_cases c : T = some b
  · exact (g.tw b c).ne
  · cases q : H b with
    | none => exact absurd q h
    | some o => rw [g.hh b o q c]; exact nofun
theorem Grow.trans (g : Grow T F H F1 H1) (k : Grow T F1 H1 F2 H2) : Grow T F H F2 H2 :=
  ⟨g.ff.trans k.ff, k.fh, fun b o e c => k.hh b o (g.hh b o e c) c, fun b e n => k.fr b (g.fr b e n) (g.ne n), k.tw⟩
theorem Hd.grow (h : Hd T F H) (g : Grow T F H F1 H1) : Hd T F1 H1 := ⟨g.fh, fun a e => ⟨g.fr a (h.tw a e).1 (h.tw a e).2.ne, g.tw a e⟩⟩
/-- a new object, known for good -/
theorem Grow.new (h : Hd T F H) (hp : H a = none) : Grow T F H (upd F a o) (upd H a o) := by
  have fa : F a = none := h.fh.free hp
  refine ⟨fun b u e => ?_, fun b u e => ?_, fun b u e _ => ?_, fun b e n => ?_, fun b e => ?_⟩
  · rw [upd_ne (ne_of_none e fa)]; exact e
  · by_cases c : b = a
    · subst c; rw [upd_same] at e ⊢; exact e
    · rw [upd_ne c] at e ⊢; exact h.fh b u e
  · rw [upd_ne (ne_of_none e hp)]; exact e
  · by_cases c : b = a
    · subst c; exact absurd hp n
    · rw [upd_ne c]; exact e
  · obtain ⟨p, r, q, z⟩ := (h.tw b e).2
    exact ⟨p, r, by rw [upd_ne (ne_of_none q hp)]; exact q, z⟩
/-- a new object that stays one's own -/
theorem Grow.newOwn (h : Hd T F H) (hp : H a = none) : Grow T F H F (upd H a o) := by
  have fa : F a = none := h.fh.free hp
  refine ⟨.refl F, fun b u e => ?_, fun b u e _ => ?_, fun b e n => e, fun b e => ?_⟩
  · rw [upd_ne (ne_of_none e fa)]; exact h.fh b u e
  · rw [upd_ne (ne_of_none e hp)]; exact e
  · obtain ⟨p, r, q, z⟩ := (h.tw b e).2
    exact ⟨p, r, by rw [upd_ne (ne_of_none q hp)]; exact q, z⟩
theorem Grow.towned (h : Hd T F H) (g : Grow none F H F1 H1) : Grow T F H F1 H1 :=
  ⟨g.ff, g.fh, fun b o e _ => g.hh b o e nofun, g.fr, fun a e => by
    obtain ⟨p, r, q, z⟩ := (h.tw a e).2
    exact ⟨p, r, g.hh _ _ q nofun, z⟩⟩
theorem Hd.none (h : Hd T F H) : Hd none F H := ⟨h.fh, nofun⟩
end

/-! ### the slots -/
inductive Slot where
  | no
  | dat (d : PyData)
  | own (xs : List PyData)
  | twn
abbrev DE := List Slot
structure EnvOk (K : PySem.W.Frag) (T : Option Addr) (F H : Hp) (σ : L2.St) (ds : DE) : Prop where
  len : σ.length = ds.length
  hd : Hd T F H
  dat : ∀ (i : Nat) (d : PyData), ds[i]? = some (.dat d) → ∃ v, σ[i]? = some (some v) ∧ Dp K F v d
  own : ∀ (i : Nat) (xs : List PyData), ds[i]? = some (.own xs) → ∃ a vs, σ[i]? = some (some (.ref a)) ∧ F a = none ∧ T ≠ some a ∧ H a = some (.lst vs) ∧ DpAll K F vs xs
  twn : ∀ (i : Nat), ds[i]? = some .twn → ∃ a, σ[i]? = some (some (.ref a)) ∧ T = some a
  sep : ∀ (i j : Nat) (xs ys : List PyData) (a : Addr), ds[i]? = some (.own xs) → ds[j]? = some (.own ys) → σ[i]? = some (some (.ref a)) → σ[j]? = some (some (.ref a)) → i = j
section
variable {K : PySem.W.Frag} {T : Option Addr} {F H F1 H1 F2 H2 : Hp} {σ : L2.St} {ds : DE}
theorem EnvOk.grow (k : EnvOk K T F H σ ds) (g : Grow T F H F1 H1) : EnvOk K T F1 H1 σ ds := by
  refine ⟨k.len, k.hd.grow g, fun i d e => ?_, fun i xs e => ?_, k.twn, k.sep⟩
  · obtain ⟨v, h1, h2⟩ := k.dat i d e
    exact ⟨v, h1, Dp.up h2 g.ff⟩
  · obtain ⟨a, vs, h1, h2, h3, h4, h5⟩ := k.own i xs e
    exact ⟨a, vs, h1, g.fr a h2 (by rw [h4]; exact nofun), h3, g.hh _ _ h4 h3, DpAll.up h5 g.ff⟩
/-- a slot of data -/
theorem EnvOk.set {i : Nat} {v : V} {d : PyData} (k : EnvOk K T F H σ ds) (h : Dp K F v d) : EnvOk K T F H (σ.set i (some v)) (ds.set i (.dat d)) := by
  refine ⟨by rw [List.length_set, List.length_set]; exact k.len, k.hd, fun j e q => ?_, fun j xs q => ?_, fun j q => ?_, fun j l xs ys a q1 q2 q3 q4 => ?_⟩
  · by_cases c : i = j
    · subst c
      have hi : i < ds.length := by
        have := (List.getElem?_eq_some_iff.mp q).1
        rwa [List.length_set] at this
      rw [List.getElem?_set_self hi] at q
      cases q
      exact ⟨v, by rw [List.getElem?_set_self (by rw [k.len]; exact hi)], h⟩
    · rw [List.getElem?_set_ne c] at q ⊢
      exact k.dat j e q
  · by_cases c : i = j
    · subst c
      have hi : i < ds.length := by
        have := (List.getElem?_eq_some_iff.mp q).1
        rwa [List.length_set] at this
      rw [List.getElem?_set_self hi] at q
      cases q
    · rw [List.getElem?_set_ne c] at q ⊢
      exact k.own j xs q
  · by_cases c : i = j
    · subst c
      have hi : i < ds.length := by
        have := (List.getElem?_eq_some_iff.mp q).1
        rwa [List.length_set] at this
      rw [List.getElem?_set_self hi] at q
      cases q
    · rw [List.getElem?_set_ne c] at q ⊢
      exact k.twn j q
  · have n1 : i ≠ j := by
      rintro rfl
      have hi : i < ds.length := by
        have := (List.getElem?_eq_some_iff.mp q1).1
        rwa [List.length_set] at this
      rw [List.getElem?_set_self hi] at q1
      cases q1
    have n2 : i ≠ l := by
      rintro rfl
      have hi : i < ds.length := by
        have := (List.getElem?_eq_some_iff.mp q2).1
        rwa [List.length_set] at this
      rw [List.getElem?_set_self hi] at q2
      cases q2
    rw [List.getElem?_set_ne n1] at q1 q3
    rw [List.getElem?_set_ne n2] at q2 q4
    exact k.sep j l xs ys a q1 q2 q3 q4
/-- a slot forgotten -/
theorem EnvOk.forget {i : Nat} {x : Option V} (k : EnvOk K T F H σ ds) : EnvOk K T F H (σ.set i x) (ds.set i .no) := by
  have no : ∀ (j : Nat) (s : Slot), (ds.set i .no)[j]? = some s → s ≠ .no → i ≠ j ∧ ds[j]? = some s := fun j s q n => by
    by_cases c : i = j
    · subst c
      have hi : i < ds.length := by
        have := (List.getElem?_eq_some_iff.mp q).1
        rwa [List.length_set] at this
      rw [List.getElem?_set_self hi] at q
      exact absurd (Option.some.inj q).symm n
    · rw [List.getElem?_set_ne c] at q
      exact ⟨c, q⟩
  refine ⟨by rw [List.length_set, List.length_set]; exact k.len, k.hd, fun j e q => ?_, fun j xs q => ?_, fun j q => ?_, fun j l xs ys a q1 q2 q3 q4 => ?_⟩
  · obtain ⟨c, q⟩ := no j _ q nofun
    rw [List.getElem?_set_ne c]; exact k.dat j e q
  · obtain ⟨c, q⟩ := no j _ q nofun
    rw [List.getElem?_set_ne c]; exact k.own j xs q
  · obtain ⟨c, q⟩ := no j _ q nofun
    rw [List.getElem?_set_ne c]; exact k.twn j q
  · obtain ⟨c1, q1⟩ := no j _ q1 nofun
    obtain ⟨c2, q2⟩ := no l _ q2 nofun
    rw [List.getElem?_set_ne c1] at q3
    rw [List.getElem?_set_ne c2] at q4
    exact k.sep j l xs ys a q1 q2 q3 q4
theorem wipe_one (σ : L2.St) (j : Nat) (x : V) : wipe ((wipe σ [j]).set j (some x)) [j] = wipe σ [j] := by
  show ((σ.set j none).set j (some x)).set j none = σ.set j none
  rw [List.set_set, List.set_set]
end

/-! ### what an expression is worth: the weakest reading, and the judgements -/
section
variable (X : Cx)
def wE (e : Expr) : TE := fun σ H Q => ∀ (pins : List (Addr × Obj)) (s : Shared), Inv X pins σ H s → wpAny (model X.prog X.w) X.A (eval e X.env) (EP X pins σ Q) X.xe s
def wT (e : Expr) : TT := fun σ H Q => ∀ (pins : List (Addr × Obj)) (s : Shared), Inv X pins σ H s → wpAny (model X.prog X.w) X.A (isTrue e X.env (eval e X.env)) (TP X pins σ Q) X.xe s
def wA (es : List Expr) : TA := fun σ H Q => ∀ (pos : Pos) (pins : List (Addr × Obj)) (s : Shared), Inv X pins σ H s → wpAny (model X.prog X.w) X.A (spliced (backTo pos (starEach es X.env))) (AP X pins σ Q) X.xe s
def wS (st : Stmt) : TS := fun D σ H => ∀ (pins : List (Addr × Obj)) (s : Shared), Inv X pins σ H s → wpAny (model X.prog X.w) X.A (exec st X.env) (SP X pins D) X.xe s
def wSs (st : List Stmt) : TS := fun D σ H => ∀ (pins : List (Addr × Obj)) (s : Shared), Inv X pins σ H s → wpAny (model X.prog X.w) X.A (execs st X.env) (SP X pins D) X.xe s
end
section
variable {X : Cx} {e : Expr} {es : List Expr} {st : Stmt} {sts : List Stmt} {σ : L2.St} {H : Hp}
theorem pE : PE X e (wE X e) := ⟨fun pins s σ H Q I h => h pins s I⟩
theorem pT : PT X e (wT X e) := ⟨fun pins s σ H Q I h => h pins s I⟩
theorem pA : PA X es (wA X es) := ⟨fun pos pins s σ H Q I h => h pos pins s I⟩
theorem pS : PS X st (wS X st) := ⟨fun pins s σ H D I h => h pins s I⟩
theorem pSs : PSs X sts (wSs X sts) := ⟨fun pins s σ H D I h => h pins s I⟩
theorem wE_of {t : TE} {Q : VK} (h : PE X e t) (q : t σ H Q) : wE X e σ H Q := fun pins s I => h.run pins s σ H Q I q
theorem wT_of {t : TT} {Q : Bool → Hp → Prop} (h : PT X e t) (q : t σ H Q) : wT X e σ H Q := fun pins s I => h.run pins s σ H Q I q
theorem wA_of {t : TA} {Q : List V → Hp → Prop} (h : PA X es t) (q : t σ H Q) : wA X es σ H Q := fun pos pins s I => h.run pos pins s σ H Q I q
theorem wS_of {t : TS} {D : Ends} (h : PS X st t) (q : t D σ H) : wS X st D σ H := fun pins s I => h.run pins s σ H D I q
theorem wSs_of {t : TS} {D : Ends} (h : PSs X sts t) (q : t D σ H) : wSs X sts D σ H := fun pins s I => h.run pins s σ H D I q
end
/-- an expression gives a datum -/
def XE (X : Cx) (e : Expr) (ds : DE) (d : PyData) : Prop := ∀ T F H σ (Q : VK), EnvOk X.K T F H σ ds → (∀ v F' H', Grow T F H F' H' → Dp X.K F' v d → Q v H') → wE X e σ H Q
/-- .. some datum of a kind -/
def XP (X : Cx) (e : Expr) (ds : DE) (Φ : PyData → Prop) : Prop := ∀ T F H σ (Q : VK), EnvOk X.K T F H σ ds → (∀ v d F' H', Grow T F H F' H' → Φ d → Dp X.K F' v d → Q v H') → wE X e σ H Q
/-- a new list, still one's own -/
def XL (X : Cx) (e : Expr) (ds : DE) (xs : List PyData) : Prop := ∀ T F H σ (Q : VK), EnvOk X.K T F H σ ds → (∀ p vs F' H', Grow T F H F' H' → H p = none → F' p = none → H' p = some (.lst vs) → DpAll X.K F' vs xs → Q (.ref p) H') → wE X e σ H Q
/-- a test -/
def XT (X : Cx) (e : Expr) (ds : DE) (b : Bool) : Prop := ∀ T F H σ (Q : Bool → Hp → Prop), EnvOk X.K T F H σ ds → (∀ F' H', Grow T F H F' H' → Q b H') → wT X e σ H Q
def XTP (X : Cx) (e : Expr) (ds : DE) : Prop := ∀ T F H σ (Q : Bool → Hp → Prop), EnvOk X.K T F H σ ds → (∀ b F' H', Grow T F H F' H' → Q b H') → wT X e σ H Q
def XA (X : Cx) (es : List Expr) (ds : DE) (dl : List PyData) : Prop := ∀ T F H σ (Q : List V → Hp → Prop), EnvOk X.K T F H σ ds → (∀ vs F' H', Grow T F H F' H' → DpAll X.K F' vs dl → Q vs H') → wA X es σ H Q
/-- an operation on data -/
def OpD (K : PySem.W.Frag) (r : R2) (d e z : PyData) : Prop := ∀ T F H x y (Q : VK), Hd T F H → Dp K F x d → Dp K F y e → (∀ v F' H', Grow T F H F' H' → Dp K F' v z → Q v H') → r x y H Q
def CallD (K : PySem.W.Frag) (r : List V → Hp → VK → Prop) (dl : List PyData) (z : PyData) : Prop := ∀ T F H vs (Q : VK), Hd T F H → DpAll K F vs dl → (∀ v F' H', Grow T F H F' H' → Dp K F' v z → Q v H') → r vs H Q

section
variable {X : Cx} {a b c e : Expr} {es : List Expr} {ds : DE} {d d1 d2 z : PyData} {dl : List PyData} {pos : Pos}
theorem XE.xp {Φ : PyData → Prop} (h : XE X e ds d) (p : Φ d) : XP X e ds Φ := fun T F H σ Q ok k => h T F H σ Q ok fun v F' H' g q => k v d F' H' g p q
theorem XL.xe {xs : List PyData} (h : XL X e ds xs) : XE X e ds (.list xs) := fun T F H σ Q ok k => h T F H σ Q ok fun p vs F' H' g n f q w => by
  have hd := ok.hd.grow g
  refine k (.ref p) (upd F' p (.lst vs)) H' ⟨g.ff.trans fun b u e => by rw [upd_ne (ne_of_none e f)]; exact e, fun b u e => ?_, g.hh, fun b e m => ?_, g.tw⟩ (.lst (.inl (.inl upd_same)) (DpAll.up w fun b u e => by rw [upd_ne (ne_of_none e f)]; exact e))
  · by_cases c : b = p
    · subst c; rw [upd_same] at e; cases e; exact q
    · rw [upd_ne c] at e; exact g.fh b u e
  · by_cases c : b = p
    · subst c; exact absurd n m
    · rw [upd_ne c]; exact g.fr b e m
theorem XT.xtp {b : Bool} (h : XT X e ds b) : XTP X e ds := fun T F H σ Q ok k => h T F H σ Q ok fun F' H' g => k b F' H' g
theorem XE.of {d' : PyData} (h : XE X e ds d) (p : d = d') : XE X e ds d' := p ▸ h
theorem XT.of {b b' : Bool} (h : XT X e ds b) (p : b = b') : XT X e ds b' := p ▸ h
/-! names, constants -/
theorem x_var {i : Nat} {x : Str} (hN : X.N[i]? = some x) (hv : Vis X.env.scope x) (hd : (x == ("__debug__" : Str)) = false) (hcd : (x == ("__classdict__" : Str)) = false) (h : ds[i]? = some (.dat d)) : XE X (.Name x pos) ds d := fun T F H σ Q ok k => by
  obtain ⟨v, h1, h2⟩ := ok.dat i d h
  exact wE_of (pe_var hN hv hd hcd) ⟨v, h1, k v F H (.refl ok.hd) h2⟩
theorem x_c {v : V} (h : PE X e (tC v)) (q : ∀ F, Dp X.K F v d) : XE X e ds d := fun T F H σ Q ok k => wE_of h (k v F H (.refl ok.hd) (q F))
theorem x_int {i : Int} {j} : XE X (.Constant (.int i) j pos) ds (.int i) := x_c pe_int fun _ => .int i
theorem x_bl {i : Bool} {j} : XE X (.Constant (.bool i) j pos) ds (.bool i) := x_c pe_bl fun _ => .bl i
theorem x_non {j} : XE X (.Constant .none j pos) ds .none := x_c pe_non fun _ => .non
theorem x_str {i : Str} {j} : XE X (.Constant (.str i) j pos) ds (.str i) := x_c pe_str fun _ => .str i
theorem x_glob {x : Str} {v : V} {u : Value} (hg : Gl X x) (hm : X.mg x = some u) (r : RelV v u) (q : ∀ F, Dp X.K F v d) (hd : (x == ("__debug__" : Str)) = false := by decide) : XE X (.Name x pos) ds d := x_c (pe_glob hg hm r hd) q
/-! arguments, displays -/
theorem xa_nil : XA X [] ds [] := fun T F H σ Q ok k => wA_of pa_nil (k [] F H (.refl ok.hd) .nil)
theorem xa_cons (h : XE X e ds d) (hr : XA X es ds dl) (hs : starEach (e :: es) X.env = (false, eval e X.env) :: starEach es X.env := by rfl) : XA X (e :: es) ds (d :: dl) := fun T F H σ Q ok k =>
  wA_of (pa_cons pE pA hs) (h T F H σ _ ok fun v F1 H1 g1 q1 => hr T F1 H1 σ _ (ok.grow g1) fun vs F2 H2 g2 q2 => k _ F2 H2 (g1.trans g2) (.cons (Dp.up q1 g2.ff) q2))
theorem x_tup {x1} (h : XA X es ds dl) (hl : dl.length ≤ sizeLine) : XE X (.Tuple es x1 pos) ds (.tuple dl) := fun T F H σ Q ok k =>
  wE_of (pe_tup pA) (h T F H σ _ ok fun vs F1 H1 g1 q1 => ⟨by rw [dpAll_len q1]; exact hl, fun p hp => by
    have g2 : Grow T F1 H1 (upd F1 p (.tup vs)) (upd H1 p (.tup vs)) := .new (ok.hd.grow g1) hp
    exact k _ _ _ (g1.trans g2) (.tup (.inl (.inl upd_same)) (DpAll.up q1 g2.ff))⟩)
theorem xl_lst (h : XA X es ds dl) (hl : dl.length ≤ sizeLine) : XL X (.List es pos) ds dl := fun T F H σ Q ok k =>
  wE_of (pe_lst pA) (h T F H σ _ ok fun vs F1 H1 g1 q1 => ⟨by rw [dpAll_len q1]; exact hl, fun p hp => by
    have hd := ok.hd.grow g1
    have np : H p = none := by
      cases q : H p with
      | none => rfl
      | some o => exact absurd hp (g1.ne (by rw [q]; exact nofun))
    exact k p vs F1 _ (g1.trans (.newOwn hd hp)) np (hd.fh.free hp) upd_same q1⟩)
theorem x_lst (h : XA X es ds dl) (hl : dl.length ≤ sizeLine) : XE X (.List es pos) ds (.list dl) := (xl_lst h hl).xe
/-! operators -/
theorem ev_op {r : R2} (ha : XE X a ds d1) (hb : XE X b ds d2) (hr : OpD X.K r d1 d2 z) {T F H σ} {Q : VK} (ok : EnvOk X.K T F H σ ds) (k : ∀ v F' H', Grow T F H F' H' → Dp X.K F' v z → Q v H') : tOp r (wE X a) (wE X b) σ H Q :=
  ha T F H σ _ ok fun v F1 H1 g1 q1 => hb T F1 H1 σ _ (ok.grow g1) fun w F2 H2 g2 q2 => hr T F2 H2 v w Q ((ok.hd.grow g1).grow g2) (Dp.up q1 g2.ff) q2 fun u F3 H3 g3 q3 => k u F3 H3 ((g1.trans g2).trans g3) q3
theorem x_op {op : Operator} {r : R2} (ho : OpR X (binaryOp op) r) (hr : OpD X.K r d1 d2 z) (ha : XE X a ds d1) (hb : XE X b ds d2) : XE X (.BinOp a op b pos) ds z := fun T F H σ Q ok k => wE_of (pe_op ho pE pE) (ev_op ha hb hr ok k)
theorem x_cmp {op : CmpOp} {r : R2} (ho : OpR X (compareOp op) r) (hr : OpD X.K r d1 d2 z) (ha : XE X a ds d1) (hb : XE X b ds d2) (hm : behindInMarks op b = false) : XE X (.Compare a [op] [b] pos) ds z := fun T F H σ Q ok k => wE_of (pe_cmpR ho pE pE hm) (ev_op ha hb hr ok k)
theorem xt_cmp {op : CmpOp} {r : R2} {k : Bool} (ho : OpR X (compareOp op) r) (hr : OpD X.K r d1 d2 (.bool k)) (ha : XE X a ds d1) (hb : XE X b ds d2) (hm : behindInMarks op b = false) : XT X (.Compare a [op] [b] pos) ds k := fun T F H σ Q ok q =>
  wT_of (pt_cmpR ho pE pE hm) (ev_op ha hb hr ok fun v F' H' g w => ⟨k, dp_bl w, q F' H' g⟩)
theorem x_ix {r : R2} (hr : IxR X r) (ho : OpD X.K r d1 d2 z) (ha : XE X a ds d1) (hb : XE X b ds d2) (hs : PlainIx b) : XE X (.Subscript a b pos) ds z := fun T F H σ Q ok k => wE_of (pe_ix hr pE pE hs) (ev_op ha hb ho ok k)
/-! tests -/
theorem xt_val {k : Bool} (h : XE X e ds (.bool k)) (he : ∀ whole, isTrue e X.env whole = (do let v ← whole; standAt e.pos; holding [v] (truthy v)) := by intro _; rfl) : XT X e ds k := fun T F H σ Q ok q =>
  wT_of (pt_val pE he) (h T F H σ _ ok fun v F' H' g w => ⟨k, dp_bl w, q F' H' g⟩)
theorem xt_not {k : Bool} (h : XT X a ds k) : XT X (.UnaryOp .Not a pos) ds (!k) := fun T F H σ Q ok q => wT_of (pt_not pT) (h T F H σ _ ok fun F' H' g => q F' H' g)
theorem xt_of {t : TT} {k : Bool} (h : PW X e t) (q : ∀ T F H σ (Q : Bool → Hp → Prop), EnvOk X.K T F H σ ds → (∀ F' H', Grow T F H F' H' → Q k H') → t σ H Q) : XT X e ds k := fun T F H σ Q ok w => wT_of h.pt (q T F H σ Q ok w)
/-- and, or: the second asked where the first leaves it open -/
theorem xt_and2 {k l : Bool} (h1 : XT X a ds k) (h2 : k = true → XT X b ds l) : XT X (.BoolOp .And [a, b] pos) ds (k && l) := fun T F H σ Q ok q =>
  wT_of (PW.pt (pw_and pT (pw_and1 pT))) (h1 T F H σ _ ok fun F1 H1 g1 => by
    cases k with
    | true => exact h2 rfl T F1 H1 σ Q (ok.grow g1) fun F2 H2 g2 => q F2 H2 (g1.trans g2)
    | false => exact q F1 H1 g1)
theorem xt_or2 {k l : Bool} (h1 : XT X a ds k) (h2 : k = false → XT X b ds l) : XT X (.BoolOp .Or [a, b] pos) ds (k || l) := fun T F H σ Q ok q =>
  wT_of (PW.pt (pw_or pT (pw_or1 pT))) (h1 T F H σ _ ok fun F1 H1 g1 => by
    cases k with
    | true => exact q F1 H1 g1
    | false => exact h2 rfl T F1 H1 σ Q (ok.grow g1) fun F2 H2 g2 => q F2 H2 (g1.trans g2))
theorem xt_or3 {k l m : Bool} (h1 : XT X a ds k) (h2 : k = false → XT X b ds l) (h3 : k = false → l = false → XT X c ds m) : XT X (.BoolOp .Or [a, b, c] pos) ds (k || (l || m)) := fun T F H σ Q ok q =>
  wT_of (PW.pt (pw_or pT (pw_or pT (pw_or1 pT)))) (h1 T F H σ _ ok fun F1 H1 g1 => by
    cases k with
    | true => exact q F1 H1 g1
    | false =>
      show tOr (wT X b) (wT X c) σ H1 Q
      refine h2 rfl T F1 H1 σ _ (ok.grow g1) fun F2 H2 g2 => ?_
      cases l with
      | true => exact q F2 H2 (g1.trans g2)
      | false => exact h3 rfl rfl T F2 H2 σ Q ((ok.grow g1).grow g2) fun F3 H3 g3 => q F3 H3 ((g1.trans g2).trans g3))
/-- the same as values -/
theorem x_and2 {k l : Bool} (h1 : XE X a ds (.bool k)) (h2 : k = true → XE X b ds (.bool l)) : XE X (.BoolOp .And [a, b] pos) ds (.bool (k && l)) := fun T F H σ Q ok q =>
  wE_of (pe_and pE (pe_one pE)) (h1 T F H σ _ ok fun v F1 H1 g1 w => ⟨k, dp_bl w, by
    cases k with
    | true => exact h2 rfl T F1 H1 σ Q (ok.grow g1) fun v F2 H2 g2 w2 => q v F2 H2 (g1.trans g2) w2
    | false => exact q _ F1 H1 g1 (.bl false)⟩)
theorem x_and3 {k l m : Bool} (h1 : XE X a ds (.bool k)) (h2 : k = true → XE X b ds (.bool l)) (h3 : k = true → l = true → XE X c ds (.bool m)) : XE X (.BoolOp .And [a, b, c] pos) ds (.bool (k && (l && m))) := fun T F H σ Q ok q =>
  wE_of (pe_and pE (pe_and pE (pe_one pE))) (h1 T F H σ _ ok fun v F1 H1 g1 w => ⟨k, dp_bl w, by
    cases k with
    | true => exact h2 rfl T F1 H1 σ _ (ok.grow g1) fun v F2 H2 g2 w2 => ⟨l, dp_bl w2, by
        cases l with
        | true => exact h3 rfl rfl T F2 H2 σ Q ((ok.grow g1).grow g2) fun v F3 H3 g3 w3 => q v F3 H3 ((g1.trans g2).trans g3) w3
        | false => exact q _ F2 H2 (g1.trans g2) (.bl false)⟩
    | false => exact q _ F1 H1 g1 (.bl false)⟩)
theorem x_or2 {k l : Bool} (h1 : XE X a ds (.bool k)) (h2 : k = false → XE X b ds (.bool l)) : XE X (.BoolOp .Or [a, b] pos) ds (.bool (k || l)) := fun T F H σ Q ok q =>
  wE_of (pe_or pE (pe_one pE)) (h1 T F H σ _ ok fun v F1 H1 g1 w => ⟨k, dp_bl w, by
    cases k with
    | true => exact q _ F1 H1 g1 (.bl true)
    | false => exact h2 rfl T F1 H1 σ Q (ok.grow g1) fun v F2 H2 g2 w2 => q v F2 H2 (g1.trans g2) w2⟩)
theorem x_not {k : Bool} (h : XE X a ds (.bool k)) : XE X (.UnaryOp .Not a pos) ds (.bool (!k)) := fun T F H σ Q ok q =>
  wE_of (pe_not pE) (h T F H σ _ ok fun v F1 H1 g1 w => ⟨k, dp_bl w, q _ F1 H1 g1 (.bl _)⟩)
theorem x_if {k : Bool} (h : XT X c ds k) (h1 : k = true → XE X a ds d) (h2 : k = false → XE X b ds d) : XE X (.IfExp c a b pos) ds d := fun T F H σ Q ok q =>
  wE_of (pe_ifExp pT pE pE) (h T F H σ _ ok fun F1 H1 g1 => by
    cases k with
    | true => exact h1 rfl T F1 H1 σ Q (ok.grow g1) fun v F2 H2 g2 w => q v F2 H2 (g1.trans g2) w
    | false => exact h2 rfl T F1 H1 σ Q (ok.grow g1) fun v F2 H2 g2 w => q v F2 H2 (g1.trans g2) w)
/-- a <= b <= c -/
theorem x_chain {op op' : CmpOp} {r r' : R2} {d3 : PyData} {k l : Bool} (ho : OpR X (compareOp op) r) (ho' : OpR X (compareOp op') r') (hr : OpD X.K r d1 d2 (.bool k)) (hr' : k = true → OpD X.K r' d2 d3 (.bool l)) (ha : XE X a ds d1) (hb : XE X b ds d2) (hc : XE X c ds d3)
    (hp : PE X e (tChain r r' (wE X a) (wE X b) (wE X c)) ) : XE X e ds (.bool (k && l)) := fun T F H σ Q ok q => wE_of hp (ha T F H σ _ ok fun v F1 H1 g1 q1 => hb T F1 H1 σ _ (ok.grow g1) fun w F2 H2 g2 q2 =>
  hr T F2 H2 v w _ ((ok.hd.grow g1).grow g2) (Dp.up q1 g2.ff) q2 fun u F3 H3 g3 q3 => ⟨k, dp_bl q3, by
    have ok3 := ((ok.grow g1).grow g2).grow g3
    cases k with
    | true =>
      refine hc T F3 H3 σ _ ok3 fun x F4 H4 g4 q4 => ?_
      exact hr' rfl T F4 H4 w x _ (ok3.hd.grow g4) (Dp.up q2 (g3.ff.trans g4.ff)) q4 fun u F5 H5 g5 q5 => q u F5 H5 ((((g1.trans g2).trans g3).trans g4).trans g5) q5
    | false => exact q _ F3 H3 ((g1.trans g2).trans g3) (.bl false)⟩)
end
end TT

namespace TT
open PySem L2

/-! ### two rules that the layer lacks: sorted of a tuple of ints; list + list where they are only read -/
theorem srt_tuple {X : Cx} : CallR X (.builtin "sorted") (fun args H Q => ∃ (a : Addr) (ns : List Int), args = [V.ref a] ∧ SqT X.K H a (ns.map V.int) ∧ ns.length < 64 ∧
    ∀ (ms : List Int) (p : Addr), ms.Perm ns → ms.Pairwise (· ≤ ·) → H p = none → Q (.ref p) (upd H p (.lst (ms.map V.int)))) := by
  intro pins s σ H args us Q I r hyp
  obtain ⟨a, ns, rfl, hT, hlt, fin⟩ := hyp
  obtain ⟨cells, rv, ⟨ob, atA, isT, cap, isS⟩, room⟩ := I.tuple hT
  rw [Vals.ref1 r]
  have isI := intsAre_of rv
  have len0 : cells.length = ns.length := by have := rv.length; rw [List.length_map] at this; exact this.symm
  have small : cells.length ≤ sizeLine := by rw [len0, sizeLine_eq]; omega
  refine Calls.call_function_entry PyProof.Rows.kind_sorted PyProof.Rows.plain_sorted PyProof.Rows.entry_sorted (PyProof.Rows.args_sorted1 (.ref a)) ?_
  unfold Builtin.«sorted»
  refine wpAny_bind (m := checkCount "sorted" 1 1 _) (wpAny_pure (wpAny_bind (wpAny_collect_seq a (.inr rfl) atA isT isS (fun hp kept => ?_) (by rw [List.size_toArray]; exact small))))
  rw [show cells.toArray.toList = cells by simp]
  have I1 : Inv X pins σ H { s with heap := hp } := I.kept (t' := s.toks) kept
  refine wpAny_bind (wpAny_newList ?_ small)
  have atN : (hp.push (PyProof.Rows.seqObj "list" cells.toArray 0)).get? hp.objs.size = some (PyProof.Rows.seqObj "list" cells.toArray 0) := Heap.get?_push_size _ rfl
  show wpAny _ _ _ _ _ { s with heap := hp.push (PyProof.Rows.seqObj "list" cells.toArray 0) }
  refine wpAny_bind (wpAny_holding (wpAny_call_entry PyProof.Rows.slot_list_sort ⟨_, atN, rfl⟩ PyProof.Rows.entry_list_sort
    (PyProof.Rows.list_sort_tree (s := { s with heap := hp.push (PyProof.Rows.seqObj "list" cells.toArray 0) }) atN isI (by rw [len0]; exact hlt) fun out ms k1 k2 k3 => ⟨_, rfl, ?_⟩) (PyProof.Rows.args_list_sort _)))
  obtain ⟨ep, sorted⟩ := PyProof.Rows.sortedHeap_at (vs := cells) (out := out) atN
  have fits : (ms.map V.int).length ≤ sizeLine := by
    rw [List.length_map, k2.length_eq, ← len0]; exact small
  refine wpAny_pure ⟨_, rfl, .ref hp.objs.size, upd H hp.objs.size (.lst (ms.map V.int)), I1.laid (t' := s.toks) (fun b ob2 at2 => ?_) (Nat.le_refl _)
    (show ObjOk X.prog X.w _ _ _ (.lst (ms.map V.int)) from ⟨fits, out.toList, ep, vals_of_ints k1, by rw [Array.toArray_toList]; exact sorted⟩), rfl, fin ms _ k2 k3 (I1.hok.fresh (Nat.le_refl _))⟩
  have below : b < hp.objs.size := Heap.lt_size at2
  rw [PyProof.Rows.sortedHeap_old (Nat.ne_of_lt below) (by rw [PyProof.Rows.size_push']; exact Nat.lt_succ_of_lt below)]
  exact Heap.get?_push_of_some _ at2

def rCatS (K : PySem.W.Frag) : R2 := fun x y H Q => ∃ a b xs ys, x = .ref a ∧ y = .ref b ∧ SqL K H a xs ∧ SqL K H b ys ∧ xs.length + ys.length ≤ sizeLine ∧ ∀ p, H p = none → Q (.ref p) (upd H p (.lst (xs ++ ys)))
theorem op_catS {X : Cx} : OpR X (binaryOp .Add) (rCatS X.K) := by
  intro pins s σ H x y v u Q I rx ry hyp
  obtain ⟨a, b, xs, ys, rfl, rfl, hA, hB, room, fin⟩ := hyp
  cases rx
  cases ry
  obtain ⟨c1, r1, ⟨o1, n1, at1, is1, di1, da1⟩, z1⟩ := I.list hA
  obtain ⟨c2, r2, ⟨o2, n2, at2, is2, di2, da2⟩, z2⟩ := I.list hB
  have l1 := r1.length
  have l2 := r2.length
  obtain ⟨oc1, od1, dt1, sl1⟩ := o1
  obtain ⟨oc2, od2, dt2, sl2⟩ := o2
  simp only at is1 da1 is2 da2
  subst is1 da1 is2 da2
  refine concat_meets ⟨_, at1, rfl⟩ ⟨_, at2, rfl⟩ noFill_list_add seq_list_add PySem.F.slot_list_add PySem.F.entry_list_add (PySem.F.args_list_add_2 _ _)
    (PyProof.Rows.list_addW a b c1.toArray c2.toArray n1 n2 od1 od2 sl1 sl2 (by rw [List.size_toArray, List.size_toArray]; omega)) ⟨at1, at2, ?_⟩
  rw [show c1.toArray ++ c2.toArray = (c1 ++ c2).toArray by simp]
  exact ⟨.ref _, _, I.lnew (t' := s.toks) (r1.append r2) (by rw [List.length_append]; omega), rfl, fin _ I.fresh⟩

/-! ### operations on data -/
section
variable {K : PySem.W.Frag}
theorem opd_add {i j : Int} : OpD K (rI0 fun i j => .int (i + j)) (.int i) (.int j) (.int (i + j)) := fun T F H x y Q h hx hy k => ⟨i, j, dp_int hx, dp_int hy, k _ F H (.refl h) (.int _)⟩
theorem opd_sub {i j : Int} : OpD K (rI0 fun i j => .int (i - j)) (.int i) (.int j) (.int (i - j)) := fun T F H x y Q h hx hy k => ⟨i, j, dp_int hx, dp_int hy, k _ F H (.refl h) (.int _)⟩
theorem opd_lt {i j : Int} : OpD K (rI0 fun i j => .bl (decide (i < j))) (.int i) (.int j) (.bool (decide (i < j))) := fun T F H x y Q h hx hy k => ⟨i, j, dp_int hx, dp_int hy, k _ F H (.refl h) (.bl _)⟩
theorem opd_le {i j : Int} : OpD K (rI0 fun i j => .bl (decide (i ≤ j))) (.int i) (.int j) (.bool (decide (i ≤ j))) := fun T F H x y Q h hx hy k => ⟨i, j, dp_int hx, dp_int hy, k _ F H (.refl h) (.bl _)⟩
theorem opd_gt {i j : Int} : OpD K (rI0 fun i j => .bl (decide (j < i))) (.int i) (.int j) (.bool (decide (j < i))) := fun T F H x y Q h hx hy k => ⟨i, j, dp_int hx, dp_int hy, k _ F H (.refl h) (.bl _)⟩
theorem opd_ge {i j : Int} : OpD K (rI0 fun i j => .bl (decide (j ≤ i))) (.int i) (.int j) (.bool (decide (j ≤ i))) := fun T F H x y Q h hx hy k => ⟨i, j, dp_int hx, dp_int hy, k _ F H (.refl h) (.bl _)⟩
theorem opd_I {C : Int → Int → Prop} {g : Int → Int → V} {i j z : Int} (hc : C i j) (hz : g i j = .int z) : OpD K (rI C g) (.int i) (.int j) (.int z) := fun T F H x y Q h hx hy k =>
  ⟨i, j, dp_int hx, dp_int hy, hc, by rw [hz]; exact k _ F H (.refl h) (.int _)⟩
theorem opd_addB {i : Int} {b : Bool} : OpD K (fun x y H Q => ∃ i k, x = .int i ∧ y = .bl k ∧ Q (.int (i + PyProof.Rows.b2i k)) H) (.int i) (.bool b) (.int (i + PyProof.Rows.b2i b)) := fun T F H x y Q h hx hy k =>
  ⟨i, b, dp_int hx, dp_bl hy, k _ F H (.refl h) (.int _)⟩
theorem opd_eqS {i j : Str} : OpD K rEq (.str i) (.str j) (.bool (decide (i = j))) := fun T F H x y Q h hx hy k => by
  rw [dp_str hx, dp_str hy]
  exact ⟨rfl, k _ F H (.refl h) (by rw [dec_str, ← Bool.beq_eq_decide_eq]; exact .bl _)⟩
theorem opd_neS {i j : Str} : OpD K rNe (.str i) (.str j) (.bool (!decide (i = j))) := fun T F H x y Q h hx hy k => by
  rw [dp_str hx, dp_str hy]
  exact ⟨rfl, k _ F H (.refl h) (by rw [dec_str, ← Bool.beq_eq_decide_eq]; exact .bl _)⟩
theorem opd_eqI {i j : Int} : OpD K rEq (.int i) (.int j) (.bool (decide (i = j))) := fun T F H x y Q h hx hy k => by
  rw [dp_int hx, dp_int hy]
  exact ⟨rfl, k _ F H (.refl h) (by rw [dec_int, ← Bool.beq_eq_decide_eq]; exact .bl _)⟩
theorem opd_neI {i j : Int} : OpD K rNe (.int i) (.int j) (.bool (!decide (i = j))) := fun T F H x y Q h hx hy k => by
  rw [dp_int hx, dp_int hy]
  exact ⟨rfl, k _ F H (.refl h) (by rw [dec_int, ← Bool.beq_eq_decide_eq]; exact .bl _)⟩
theorem opd_eqB {i j : Bool} : OpD K rEq (.bool i) (.bool j) (.bool (i == j)) := fun T F H x y Q h hx hy k => by
  rw [dp_bl hx, dp_bl hy]
  exact ⟨rfl, k _ F H (.refl h) (by rw [dec_bl]; exact .bl _)⟩
theorem opd_neB {i j : Bool} : OpD K rNe (.bool i) (.bool j) (.bool (!(i == j))) := fun T F H x y Q h hx hy k => by
  rw [dp_bl hx, dp_bl hy]
  exact ⟨rfl, k _ F H (.refl h) (by rw [dec_bl]; exact .bl _)⟩
theorem opd_eqD {d e : PyData} (hd : SeqAt.shaped d = true) (he : SeqAt.shaped e = true) : OpD K (rEqD K) d e (.bool (PyData.eqv d e)) := fun T F H x y Q h hx hy k =>
  ⟨d, e, Dp.up hx h.fh, Dp.up hy h.fh, hd, he, k _ F H (.refl h) (.bl _)⟩
theorem opd_neD {d e : PyData} (hd : SeqAt.shaped d = true) (he : SeqAt.shaped e = true) : OpD K (rNeD K) d e (.bool (!PyData.eqv d e)) := fun T F H x y Q h hx hy k =>
  ⟨d, e, Dp.up hx h.fh, Dp.up hy h.fh, hd, he, k _ F H (.refl h) (.bl _)⟩
theorem opd_cat {xs ys : List PyData} (hz : xs.length + ys.length ≤ sizeLine) : OpD K (rCatS K) (.list xs) (.list ys) (.list (xs ++ ys)) := fun T F H x y Q h hx hy k => by
  obtain ⟨a, vs, rfl, h1, h2⟩ := dp_lst hx
  obtain ⟨b, ws, rfl, h3, h4⟩ := dp_lst hy
  refine ⟨a, b, vs, ws, rfl, rfl, h.fh.seq h1, h.fh.seq h3, by rw [dpAll_len h2, dpAll_len h4]; exact hz, fun p hp => ?_⟩
  have g : Grow T F H (upd F p (.lst (vs ++ ws))) (upd H p (.lst (vs ++ ws))) := .new h hp
  exact k _ _ _ g (.lst (.inl (.inl upd_same)) (DpAll.up (dpAll_app h2 h4) g.ff))
theorem opd_ixL {xs : List PyData} {i : Int} {z : PyData} (e : atI xs i = some z) : OpD K (rIxL K) (.list xs) (.int i) z := fun T F H x y Q h hx hy k => by
  obtain ⟨a, vs, rfl, h1, h2⟩ := dp_lst hx
  obtain ⟨v, q1, q2⟩ := atI_map h2 e
  exact ⟨a, vs, i, v, rfl, dp_int hy, h.fh.seq h1, q1, k v F H (.refl h) q2⟩
theorem opd_ixT {xs : List PyData} {i : Int} {z : PyData} (e : atI xs i = some z) : OpD K (rIxT K) (.tuple xs) (.int i) z := fun T F H x y Q h hx hy k => by
  obtain ⟨a, vs, rfl, h1, h2⟩ := dp_tup hx
  obtain ⟨v, q1, q2⟩ := atI_map h2 e
  exact ⟨a, vs, i, v, rfl, dp_int hy, sqT_mono h.fh h1, q1, k v F H (.refl h) q2⟩
theorem inV_ints (i : Int) : ∀ ns : List Int, inV (.int i) (ns.map V.int) = decide (i ∈ ns)
  | [] => by simp [inV]
  | n :: ns => by
    have ih := inV_ints i ns
    unfold inV at ih ⊢
    rw [List.map_cons, List.any_cons, ih, Bool.eq_iff_iff, Bool.or_eq_true, decide_eq_true_eq, decide_eq_true_eq, List.mem_cons]
    have e : eqV (.int n) (.int i) = true ↔ i = n := by
      show (n == i) = true ↔ i = n
      rw [beq_iff_eq]
      exact eq_comm
    rw [e]
theorem inV_strs (i : Str) : ∀ ns : List Str, inV (.str i) (ns.map V.str) = decide (i ∈ ns)
  | [] => by simp [inV]
  | n :: ns => by
    have ih := inV_strs i ns
    unfold inV at ih ⊢
    rw [List.map_cons, List.any_cons, ih, Bool.eq_iff_iff, Bool.or_eq_true, decide_eq_true_eq, decide_eq_true_eq, List.mem_cons]
    have e : eqV (.str n) (.str i) = true ↔ i = n := by
      show (n == i) = true ↔ i = n
      rw [beq_iff_eq]
      exact eq_comm
    rw [e]
theorem flat_ints (ns : List Int) : (ns.map V.int).all flatV = true := by simp [flatV]
theorem flat_strs (ns : List Str) : (ns.map V.str).all flatV = true := by simp [flatV]
theorem opd_in {i : Int} {ns : List Int} : OpD K (rIn K false) (.int i) (.list (ns.map PyData.int)) (.bool (decide (i ∈ ns))) := fun T F H x y Q h hx hy k => by
  obtain ⟨a, vs, rfl, h1, h2⟩ := dp_lst hy
  rw [dpAll_ints h2] at h1
  rw [dp_int hx]
  exact ⟨a, _, rfl, .inl (h.fh.seq h1), rfl, flat_ints ns, by rw [inV_ints]; exact k _ F H (.refl h) (.bl _)⟩
theorem opd_notIn {i : Int} {ns : List Int} : OpD K (rIn K true) (.int i) (.list (ns.map PyData.int)) (.bool (!decide (i ∈ ns))) := fun T F H x y Q h hx hy k => by
  obtain ⟨a, vs, rfl, h1, h2⟩ := dp_lst hy
  rw [dpAll_ints h2] at h1
  rw [dp_int hx]
  exact ⟨a, _, rfl, .inl (h.fh.seq h1), rfl, flat_ints ns, by rw [inV_ints]; exact k _ F H (.refl h) (.bl _)⟩
theorem opd_inS {i : Str} {ns : List Str} : OpD K (rIn K false) (.str i) (.tuple (ns.map PyData.str)) (.bool (decide (i ∈ ns))) := fun T F H x y Q h hx hy k => by
  obtain ⟨a, vs, rfl, h1, h2⟩ := dp_tup hy
  rw [dpAll_strs h2] at h1
  rw [dp_str hx]
  exact ⟨a, _, rfl, .inr (sqT_mono h.fh h1), rfl, flat_strs ns, by rw [inV_strs]; exact k _ F H (.refl h) (.bl _)⟩
theorem opd_notB {i j : Bool} : OpD K rNotB (.bool i) (.bool j) (.bool (!decide (i = j))) := fun T F H x y Q h hx hy k => ⟨i, j, dp_bl hx, dp_bl hy, k _ F H (.refl h) (.bl _)⟩
theorem opd_notN {d' : List PyData} : OpD K (fun x y H Q => y = .non ∧ Q (.bl (!decide (x = .non))) H) (.list d') .none (.bool true) := fun T F H x y Q h hx hy k => by
  obtain ⟨a, vs, rfl, h1, h2⟩ := dp_lst hx
  exact ⟨dp_non hy, k _ F H (.refl h) (.bl _)⟩
/-! calls by values -/
theorem cd_lenL {xs : List PyData} : CallD K (fun args H Q => ∃ p ys, args = [.ref p] ∧ (SqL K H p ys ∨ SqT K H p ys) ∧ Q (.int ys.length) H) [.list xs] (.int xs.length) := fun T F H vs Q h ha k => by
  cases ha with
  | cons h1 h2 =>
    cases h2
    obtain ⟨a, ws, rfl, q1, q2⟩ := dp_lst h1
    exact ⟨a, ws, rfl, .inl (h.fh.seq q1), by rw [dpAll_len q2]; exact k _ F H (.refl h) (.int _)⟩
theorem cd_lenT {xs : List PyData} : CallD K (fun args H Q => ∃ p ys, args = [.ref p] ∧ (SqL K H p ys ∨ SqT K H p ys) ∧ Q (.int ys.length) H) [.tuple xs] (.int xs.length) := fun T F H vs Q h ha k => by
  cases ha with
  | cons h1 h2 =>
    cases h2
    obtain ⟨a, ws, rfl, q1, q2⟩ := dp_tup h1
    exact ⟨a, ws, rfl, .inr (sqT_mono h.fh q1), by rw [dpAll_len q2]; exact k _ F H (.refl h) (.int _)⟩
theorem cd_all {bs : List Bool} : CallD K (rAll K) [.list (bs.map PyData.bool)] (.bool (bs.all id)) := fun T F H vs Q h ha k => by
  cases ha with
  | cons h1 h2 =>
    cases h2
    obtain ⟨a, ws, rfl, q1, q2⟩ := dp_lst h1
    rw [dpAll_bools q2] at q1
    exact ⟨a, bs, rfl, h.fh.seq q1, k _ F H (.refl h) (.bl _)⟩
theorem cd_tupleL {xs : List PyData} : CallD K (fun args H Q => ∃ p ys, args = [.ref p] ∧ ((SqL K H p ys ∧ ∀ l, H l = none → Q (.ref l) (upd H l (.tup ys))) ∨ (SqT K H p ys ∧ Q (.ref p) H))) [.list xs] (.tuple xs) := fun T F H vs Q h ha k => by
  cases ha with
  | cons h1 h2 =>
    cases h2
    obtain ⟨a, ws, rfl, q1, q2⟩ := dp_lst h1
    refine ⟨a, ws, rfl, .inl ⟨h.fh.seq q1, fun l hl => ?_⟩⟩
    have g : Grow T F H (upd F l (.tup ws)) (upd H l (.tup ws)) := .new h hl
    exact k _ _ _ g (.tup (.inl (.inl upd_same)) (DpAll.up q2 g.ff))
theorem perm_sorted {a b : List Int} (hp : a.Perm b) (ha : a.Pairwise (· ≤ ·)) (hb : b.Pairwise (· ≤ ·)) : a = b := PySem.W.ksm_same hp ha hb
/-- sorted: the one list in order with these items -/
theorem cd_sortedT {ns ms : List Int} (h64 : ns.length < 64) (hp : ms.Perm ns) (ho : ms.Pairwise (· ≤ ·)) : CallD K (fun args H Q => ∃ (a : Addr) (ns : List Int), args = [V.ref a] ∧ SqT K H a (ns.map V.int) ∧ ns.length < 64 ∧
    ∀ (ms : List Int) (p : Addr), ms.Perm ns → ms.Pairwise (· ≤ ·) → H p = none → Q (.ref p) (upd H p (.lst (ms.map V.int)))) [.tuple (ns.map PyData.int)] (.list (ms.map PyData.int)) := fun T F H vs Q h ha k => by
  cases ha with
  | cons h1 h2 =>
    cases h2
    obtain ⟨a, ws, rfl, q1, q2⟩ := dp_tup h1
    rw [dpAll_ints q2] at q1
    refine ⟨a, ns, rfl, sqT_mono h.fh q1, h64, fun ms' p p1 p2 np => ?_⟩
    have e : ms' = ms := perm_sorted (p1.trans hp.symm) p2 ho
    subst e
    have g : Grow T F H (upd F p (.lst (ms'.map V.int))) (upd H p (.lst (ms'.map V.int))) := .new h np
    exact k _ _ _ g (.lst (.inl (.inl upd_same)) (dpAll_ofInts ms'))
end

/-! ### calls -/
def spD (K : PySem.W.Frag) (R : List PyData → PyData → Prop) : Sp := fun vs H Q _ => ∃ F dl d, Hd none F H ∧ DpAll K F vs dl ∧ R dl d ∧ ∀ v F' H', Grow none F H F' H' → Dp K F' v d → Q v H'
/-- a def that stands under its name and keeps its promise over data -/
structure DefOk (P : Program) (w : World) (K : PySem.W.Frag) (mg : Str → Option Value) (base : Heap) (k : Nat) (x : Str) (R : List PyData → PyData → Prop) : Prop where
  ex : ∃ f fd ps, FnOk P w K mg base CX0 k f fd ps (spD K R) ∧ mg x = some (.ref f) ∧ PySem.W.keepIn K (.ref f) = true ∧ Binds K fd ps []
section
variable {X : Cx} {a b c e : Expr} {es : List Expr} {ds : DE} {d d1 d2 z : PyData} {dl : List PyData} {pos p : Pos} {x : Str}
theorem x_call {k : Nat} {R : List PyData → PyData → Prop} (D : DefOk X.prog X.w X.K X.mg X.base k x R) (hr : Room k X.A) (hg : Gl X x) (ha : XA X (e :: es) ds dl) (hR : R dl d) (hdb : (x == ("__debug__" : Str)) = false := by decide)
    (he : starEach (e :: es) X.env = (false, eval e X.env) :: starEach es X.env := by rfl) (hpl : (backTo pos (starEach es X.env)).any (·.1) = false := by rfl) : XE X (.Call (.Name x p) (e :: es) [] pos) ds d := fun T F H σ Q ok q => by
  obtain ⟨f, fd, ps, G, hm, hk, hb⟩ := D.ex
  exact wE_of (pe_call G hr hg hm hk hb .nil pass0 pA hdb he hpl) (ha T F H σ _ ok fun vs F1 H1 g1 q1 => ⟨F1, dl, d, (ok.hd.grow g1).none, by rw [List.append_nil]; exact q1, hR, fun v F2 H2 g2 q2 => q v F2 H2 (g1.trans (g2.towned (ok.hd.grow g1))) q2⟩)
theorem x_callB {id : String} {r : List V → Hp → VK → Prop} (hc : CallR X (.builtin id) r) (hr : CallD X.K r dl z) (hg : Gl X x) (hm : X.mg x = none) (hv : bootBuiltins x = some (.builtin id)) (ha : XA X (e :: es) ds dl) (hn : x ≠ "__name__" := by decide) (hdb : (x == ("__debug__" : Str)) = false := by decide)
    (he : starEach (e :: es) X.env = (false, eval e X.env) :: starEach es X.env := by rfl) (hpl : (backTo pos (starEach es X.env)).any (·.1) = false := by rfl) : XE X (.Call (.Name x p) (e :: es) [] pos) ds z := fun T F H σ Q ok q =>
  wE_of (pe_callB hc hg hm hv pA hn hdb he hpl) (ha T F H σ _ ok fun vs F1 H1 g1 q1 => hr T F1 H1 vs Q (ok.hd.grow g1) q1 fun v F2 H2 g2 q2 => q v F2 H2 (g1.trans g2) q2)
theorem x_callTy {Ty : String} {r : List V → Hp → VK → Prop} (hc : CallR X (.type Ty) r) (hr : CallD X.K r dl z) (hg : Gl X x) (hm : X.mg x = none) (hv : bootBuiltins x = some (.type Ty)) (ha : XA X (e :: es) ds dl) (hn : x ≠ "__name__" := by decide) (hdb : (x == ("__debug__" : Str)) = false := by decide)
    (he : starEach (e :: es) X.env = (false, eval e X.env) :: starEach es X.env := by rfl) (hpl : (backTo pos (starEach es X.env)).any (·.1) = false := by rfl) : XE X (.Call (.Name x p) (e :: es) [] pos) ds z := fun T F H σ Q ok q =>
  wE_of (pe_callTy hc hg hm hv pA hn hdb he hpl) (ha T F H σ _ ok fun vs F1 H1 g1 q1 => hr T F1 H1 vs Q (ok.hd.grow g1) q1 fun v F2 H2 g2 q2 => q v F2 H2 (g1.trans g2) q2)
/-- isinstance(e, T), T a built-in class -/
theorem x_isi {y : Str} {n Ty : String} {k : Bool} {py : Pos} (hg : Gl X "isinstance") (hm : X.mg "isinstance" = none) (hg2 : Gl X y) (hm2 : X.mg y = none) (hv2 : bootBuiltins y = some (.type Ty)) (ha : XE X e ds d) (ht : tyD d = .type n) (hk : kitB n Ty = some k)
    (hn : y ≠ "__name__" := by decide) (hdb : (y == ("__debug__" : Str)) = false := by decide) (hv : bootBuiltins "isinstance" = some (.builtin "isinstance") := by decide +kernel)
    (he2 : starEach [Expr.Name y py] X.env = (false, eval (Expr.Name y py) X.env) :: starEach [] X.env := by rfl)
    (he : starEach (e :: [Expr.Name y py]) X.env = (false, eval e X.env) :: starEach [Expr.Name y py] X.env := by rfl) (hpl : (backTo pos (starEach [Expr.Name y py] X.env)).any (·.1) = false := by rfl) :
    XE X (.Call (.Name "isinstance" p) [e, .Name y py] [] pos) ds (.bool k) := fun T F H σ Q ok q =>
  wE_of (pe_callB call_isi hg hm hv (pa_cons pE (pa_cons (pe_bltn (v := .ty Ty) hg2 hm2 hv2 rfl hn hdb) pa_nil he2) he) (by decide) (by decide) he hpl) (ha T F H σ _ ok fun v F1 H1 g1 q1 =>
    ⟨v, .ty Ty, .type n, .type Ty, k, rfl, .ty Ty, ht ▸ tyx_of (Dp.up q1 g1.fh), kit_ty hk, q _ F1 H1 g1 (.bl k)⟩)
/-- list(range(a, b)) -/
theorem x_listRg {te : L2.St → Hp → (Int → Int → Hp → Prop) → Prop} {i j : Int} (hc : X.calm = true) (hg : Gl X "list") (hm : X.mg "list" = none) (hp : PRg X e te) (ok' : RgOk i j)
    (hr : ∀ T F H σ (Q : Int → Int → Hp → Prop), EnvOk X.K T F H σ ds → (∀ F' H', Grow T F H F' H' → Q i j H') → te σ H Q) (na : starEach [e] X.env = (false, eval e X.env) :: starEach [] X.env := by rfl) :
    XE X (.Call (.Name "list" p) [e] [] pos) ds (.list (((List.range (j - i).toNat).map fun k => i + (k : Nat)).map PyData.int)) := fun T F H σ Q ok q =>
  wE_of (pe_listRg hc hg hm hp na) (hr T F H σ _ ok fun F1 H1 g1 => ⟨ok', fun l hl => by
    have g : Grow T F1 H1 (upd F1 l (.lst (rgV i j))) (upd H1 l (.lst (rgV i j))) := .new (ok.hd.grow g1) hl
    refine q _ _ _ (g1.trans g) (.lst (.inl (.inl upd_same)) ?_)
    have e2 : rgV i j = ((List.range (j - i).toNat).map fun k => i + ((k : Nat) : Int)).map V.int := by
      unfold rgV
      rw [List.map_map]
      rfl
    rw [e2]
    exact dpAll_ofInts _⟩)
/-- a slice of a list -/
theorem x_sliceL {lo hi : Option Expr} {tl th : TO} {l h : Option Int} {p2 : Pos} {xs : List PyData} (hl : PO X lo tl) (hh : PO X hi th) (ha : XE X e ds (.list xs))
    (ql : ∀ T F H σ (Q : Option Int → Hp → Prop), EnvOk X.K T F H σ ds → (∀ F' H', Grow T F H F' H' → Q l H') → tl σ H Q) (qh : ∀ T F H σ (Q : Option Int → Hp → Prop), EnvOk X.K T F H σ ds → (∀ F' H', Grow T F H F' H' → Q h H') → th σ H Q) :
    XE X (.Subscript e (.Slice lo hi none p2) pos) ds (.list ((xs.drop (HT.sIx xs.length 0 l)).take (HT.sIx xs.length xs.length h - HT.sIx xs.length 0 l))) := fun T F H σ Q ok q =>
  wE_of (pe_slice sl_list pE hl hh) (ha T F H σ _ ok fun v F1 H1 g1 q1 => ql T F1 H1 σ _ (ok.grow g1) fun F2 H2 g2 => qh T F2 H2 σ _ ((ok.grow g1).grow g2) fun F3 H3 g3 => by
    obtain ⟨a, vs, rfl, h1, h2⟩ := dp_lst q1
    have hd3 := ((ok.hd.grow g1).grow g2).grow g3
    refine ⟨a, vs, rfl, ((g2.ff.trans g3.ff).trans hd3.fh).seq h1, fun p hp => ?_⟩
    have g : Grow T F3 H3 (upd F3 p (.lst (cutV vs l h))) (upd H3 p (.lst (cutV vs l h))) := .new hd3 hp
    have cut : DpAll X.K F1 (cutV vs l h) ((xs.drop (HT.sIx xs.length 0 l)).take (HT.sIx xs.length xs.length h - HT.sIx xs.length 0 l)) := by
      unfold cutV
      rw [dpAll_len h2]
      exact dpAll_take (dpAll_drop h2)
    exact q _ _ _ (((g1.trans g2).trans g3).trans g) (.lst (.inl (.inl upd_same)) (DpAll.up cut ((g2.ff.trans g3.ff).trans g.ff))))
theorem po_ev {i : Int} (h : XE X e ds (.int i)) : ∀ T F H σ (Q : Option Int → Hp → Prop), EnvOk X.K T F H σ ds → (∀ F' H', Grow T F H F' H' → Q (some i) H') → tPart (wE X e) σ H Q := fun T F H σ Q ok q =>
  h T F H σ _ ok fun v F1 H1 g1 q1 => ⟨i, dp_int q1, q F1 H1 g1⟩
/-- xs[::-1] -/
theorem x_rev {k : Nat} {p1 p2 p3 : Pos} {xs : List PyData} (ha : XE X e ds (.list xs)) : XE X (.Subscript e (.Slice none none (some (.UnaryOp .USub (.Constant (.int 1) k p1) p2)) p3) pos) ds (.list xs.reverse) := fun T F H σ Q ok q =>
  wE_of (pe_revL pE) (ha T F H σ _ ok fun v F1 H1 g1 q1 => by
    obtain ⟨a, vs, rfl, h1, h2⟩ := dp_lst q1
    refine ⟨a, vs, rfl, g1.fh.seq h1, fun p hp => ?_⟩
    have g : Grow T F1 H1 (upd F1 p (.lst vs.reverse)) (upd H1 p (.lst vs.reverse)) := .new (ok.hd.grow g1) hp
    exact q _ _ _ (g1.trans g) (.lst (.inl (.inl upd_same)) (DpAll.up (dpAll_rev h2) g.ff)))
end
end TT

namespace TT
open PySem L2

/-! ### statements -/
structure Ok (K : PySem.W.Frag) (T : Option Addr) (F0 H0 F H : Hp) (σ : L2.St) (ds : DE) : Prop where
  g : Grow T F0 H0 F H
  e : EnvOk K T F H σ ds
  o : ∀ (i : Nat) (xs : List PyData) (a : Addr), ds[i]? = some (.own xs) → σ[i]? = some (some (.ref a)) → H0 a = none
section
variable {K : PySem.W.Frag} {T : Option Addr} {F0 H0 F H F1 H1 : Hp} {σ : L2.St} {ds : DE}
theorem Ok.grow (k : Ok K T F0 H0 F H σ ds) (g : Grow T F H F1 H1) : Ok K T F0 H0 F1 H1 σ ds := ⟨k.g.trans g, k.e.grow g, k.o⟩
theorem set_own {i j : Nat} {d : Slot} {ys : List PyData} (n : ∀ xs, d ≠ .own xs) (q : (ds.set i d)[j]? = some (.own ys)) : i ≠ j ∧ ds[j]? = some (.own ys) := by
  by_cases c : i = j
  · subst c
    have hi : i < ds.length := by
      have := (List.getElem?_eq_some_iff.mp q).1
      rwa [List.length_set] at this
    rw [List.getElem?_set_self hi] at q
    exact absurd (Option.some.inj q) (n ys)
  · rw [List.getElem?_set_ne c] at q
    exact ⟨c, q⟩
theorem Ok.set {i : Nat} {v : V} {d : PyData} (k : Ok K T F0 H0 F H σ ds) (h : Dp K F v d) : Ok K T F0 H0 F H (σ.set i (some v)) (ds.set i (.dat d)) :=
  ⟨k.g, k.e.set h, fun j xs a q1 q2 => by
    obtain ⟨c, q⟩ := set_own (d := .dat d) (fun _ => nofun) q1
    rw [List.getElem?_set_ne c] at q2
    exact k.o j xs a q q2⟩
/-- own addresses stand for themselves -/
theorem Ok.new0 (k : Ok K T F0 H0 F H σ ds) {a : Addr} (h : H a = none) : H0 a = none := by
  cases q : H0 a with
  | none => rfl
  | some o => exact absurd h (k.g.ne (by rw [q]; exact nofun))
/-- a new list goes to a slot as one's own -/
theorem Ok.setOwn {i : Nat} {a : Addr} {vs : List V} {xs : List PyData} (k : Ok K T F0 H0 F H σ ds) (n0 : H0 a = none) (nf : F a = none) (nt : T ≠ some a) (ne : ∀ (j : Nat) (ys : List PyData), ds[j]? = some (.own ys) → σ[j]? ≠ some (some (.ref a)))
    (h : H a = some (.lst vs)) (w : DpAll K F vs xs) : Ok K T F0 H0 F H (σ.set i (some (.ref a))) (ds.set i (.own xs)) := by
  have at_i : ∀ {j : Nat} {s : Slot}, (ds.set i (.own xs))[j]? = some s → (i = j ∧ s = .own xs ∧ i < ds.length) ∨ (i ≠ j ∧ ds[j]? = some s) := fun {j s} q => by
    by_cases c : i = j
    · subst c
      have hi : i < ds.length := by
        have := (List.getElem?_eq_some_iff.mp q).1
        rwa [List.length_set] at this
      rw [List.getElem?_set_self hi] at q
      exact .inl ⟨rfl, (Option.some.inj q).symm, hi⟩
    · rw [List.getElem?_set_ne c] at q
      exact .inr ⟨c, q⟩
  refine ⟨k.g, ⟨by rw [List.length_set, List.length_set]; exact k.e.len, k.e.hd, fun j d q => ?_, fun j ys q => ?_, fun j q => ?_, fun j l ys zs b q1 q2 q3 q4 => ?_⟩, fun j ys b q1 q2 => ?_⟩
  · rcases at_i q with ⟨_, z, _⟩ | ⟨c, q⟩
    · cases z
    · rw [List.getElem?_set_ne c]; exact k.e.dat j d q
  · rcases at_i q with ⟨c, z, hi⟩ | ⟨c, q⟩
    · subst c; cases z
      exact ⟨a, vs, by rw [List.getElem?_set_self (by rw [k.e.len]; exact hi)], nf, nt, h, w⟩
    · rw [List.getElem?_set_ne c]; exact k.e.own j ys q
  · rcases at_i q with ⟨_, z, _⟩ | ⟨c, q⟩
    · cases z
    · rw [List.getElem?_set_ne c]; exact k.e.twn j q
  · rcases at_i q1 with ⟨c1, _, hi⟩ | ⟨c1, q1⟩
    · rcases at_i q2 with ⟨c2, _, _⟩ | ⟨c2, q2⟩
      · exact c1.symm.trans c2
      · subst c1
        rw [List.getElem?_set_self (by rw [k.e.len]; exact hi)] at q3
        cases q3
        rw [List.getElem?_set_ne c2] at q4
        exact absurd q4 (ne l zs q2)
    · rcases at_i q2 with ⟨c2, _, hi⟩ | ⟨c2, q2⟩
      · subst c2
        rw [List.getElem?_set_self (by rw [k.e.len]; exact hi)] at q4
        cases q4
        rw [List.getElem?_set_ne c1] at q3
        exact absurd q3 (ne j ys q1)
      · rw [List.getElem?_set_ne c1] at q3
        rw [List.getElem?_set_ne c2] at q4
        exact k.e.sep j l ys zs b q1 q2 q3 q4
  · rcases at_i q1 with ⟨c1, _, hi⟩ | ⟨c1, q1⟩
    · subst c1
      rw [List.getElem?_set_self (by rw [k.e.len]; exact hi)] at q2
      cases q2
      exact n0
    · rw [List.getElem?_set_ne c1] at q2
      exact k.o j ys b q1 q2
theorem EnvOk.nofresh (k : EnvOk K T F H σ ds) {a : Addr} (h : H a = none) : T ≠ some a ∧ ∀ (j : Nat) (ys : List PyData), ds[j]? = some (.own ys) → σ[j]? ≠ some (some (.ref a)) :=
  ⟨fun e => absurd h (k.hd.tw a e).2.ne, fun j ys q e => by
    obtain ⟨b, vs, h1, _, _, h4, _⟩ := k.own j ys q
    rw [e] at h1
    cases h1
    rw [h] at h4
    cases h4⟩
/-- one's own list changes -/
theorem Ok.change {i : Nat} {a : Addr} {vs ws : List V} {xs ys : List PyData} (k : Ok K T F0 H0 F H σ ds) (q : ds[i]? = some (.own xs)) (qa : σ[i]? = some (some (.ref a))) (w : DpAll K F ws ys) : Ok K T F0 H0 F (upd H a (.lst ws)) σ (ds.set i (.own ys)) := by
  obtain ⟨b, vs', h1, h2, h3, h4, h5⟩ := k.e.own i xs q
  rw [qa] at h1
  cases h1
  have n0 := k.o i xs a q qa
  have hi : i < ds.length := (List.getElem?_eq_some_iff.mp q).1
  have hdn : Hd T F (upd H a (.lst ws)) := ⟨fun b o e => by rw [upd_ne (ne_of_none e h2)]; exact k.e.hd.fh b o e, fun b e => by
    obtain ⟨p, r, z, y⟩ := (k.e.hd.tw b e).2
    have nb : b ≠ a := fun c => h3 (c ▸ e)
    exact ⟨(k.e.hd.tw b e).1, p, r, by rw [upd_ne nb]; exact z, y⟩⟩
  have at_i : ∀ {j : Nat} {s : Slot}, (ds.set i (.own ys))[j]? = some s → (i = j ∧ s = .own ys) ∨ (i ≠ j ∧ ds[j]? = some s) := fun {j s} q => by
    by_cases c : i = j
    · subst c
      rw [List.getElem?_set_self hi] at q
      exact .inl ⟨rfl, (Option.some.inj q).symm⟩
    · rw [List.getElem?_set_ne c] at q
      exact .inr ⟨c, q⟩
  refine ⟨⟨k.g.ff, hdn.fh, fun b o e c => ?_, k.g.fr, fun b e => (hdn.tw b e).2⟩, ⟨by rw [List.length_set]; exact k.e.len, hdn, fun j d z => ?_, fun j zs z => ?_, fun j z => ?_, fun j l zs us b z1 z2 z3 z4 => ?_⟩, fun j zs b z1 z2 => ?_⟩
  · rw [upd_ne (ne_of_none e n0)]; exact k.g.hh b o e c
  · rcases at_i z with ⟨_, y⟩ | ⟨c, z⟩
    · cases y
    · exact k.e.dat j d z
  · rcases at_i z with ⟨c, y⟩ | ⟨c, z⟩
    · subst c; cases y
      exact ⟨a, ws, qa, h2, h3, upd_same, w⟩
    · obtain ⟨b, us, y1, y2, y3, y4, y5⟩ := k.e.own j zs z
      have nb : b ≠ a := fun e => by
        subst e
        exact c (k.e.sep i j xs zs b q z qa y1)
      exact ⟨b, us, y1, y2, y3, by rw [upd_ne nb]; exact y4, y5⟩
  · rcases at_i z with ⟨_, y⟩ | ⟨c, z⟩
    · cases y
    · exact k.e.twn j z
  · rcases at_i z1 with ⟨c1, y1⟩ | ⟨c1, z1⟩
    · rcases at_i z2 with ⟨c2, y2⟩ | ⟨c2, z2⟩
      · exact c1.symm.trans c2
      · subst c1; exact k.e.sep i l xs us b q z2 z3 z4
    · rcases at_i z2 with ⟨c2, y2⟩ | ⟨c2, z2⟩
      · subst c2; exact k.e.sep j i zs xs b z1 q z3 z4
      · exact k.e.sep j l zs us b z1 z2 z3 z4
  · rcases at_i z1 with ⟨c1, y1⟩ | ⟨c1, z1⟩
    · subst c1; exact k.o i xs b q z2
    · exact k.o j zs b z1 z2
end

/-- a block over data: what it returns (Φ), in which environments it ends (Nx) -/
def XR (X : Cx) (sts : List Stmt) (ds : DE) (Φ : PyData → Prop) (Nx : DE → Prop) : Prop := ∀ T F0 H0 F H σ (D : Ends), Ok X.K T F0 H0 F H σ ds →
  (∀ v d F' H', Grow T F0 H0 F' H' → Φ d → Dp X.K F' v d → D.rt v H') → (∀ σ' ds' F' H', Same F F' → Ok X.K T F0 H0 F' H' σ' ds' → Nx ds' → D.nx σ' H') → wSs X sts D σ H
/-- a target takes a datum -/
def GD (K : PySem.W.Frag) (g : TG) (d : PyData) (ds ds' : DE) : Prop := ∀ T F0 H0 F H σ v (Q : L2.St → Hp → Prop), Ok K T F0 H0 F H σ ds → Dp K F v d → (∀ σ', Ok K T F0 H0 F H σ' ds' → Q σ' H) → g v σ H Q
section
variable {X : Cx} {a b c e : Expr} {ds ds1 : DE} {d d1 d2 z : PyData} {pos p : Pos} {x : Str} {body rest sts : List Stmt} {Φ : PyData → Prop} {Nx : DE → Prop}
theorem gd_name {i : Nat} : GD X.K (gName i) d ds (ds.set i (.dat d)) := fun T F0 H0 F H σ v Q ok h k => k _ (ok.set h)
theorem gd_tup2 {i j : Nat} : GD X.K (gTup X.K 2 (gCons (gName i) (gCons (gName j) gNil))) (.tuple [d1, d2]) ds ((ds.set i (.dat d1)).set j (.dat d2)) := fun T F0 H0 F H σ v Q ok h k => by
  obtain ⟨a, vs, rfl, h1, h2⟩ := dp_tup h
  cases h2 with
  | cons q1 h2 =>
    cases h2 with
    | cons q2 h2 =>
      cases h2
      exact ⟨a, _, rfl, sqT_mono ok.e.hd.fh h1, rfl, _, _, rfl, _, _, rfl, rfl, k _ ((ok.set q1).set q2)⟩
theorem gd_tup3 {i j l : Nat} : GD X.K (gTup X.K 3 (gCons (gName i) (gCons (gName j) (gCons (gName l) gNil)))) (.tuple [d1, d2, d]) ds (((ds.set i (.dat d1)).set j (.dat d2)).set l (.dat d)) := fun T F0 H0 F H σ v Q ok h k => by
  obtain ⟨a, vs, rfl, h1, h2⟩ := dp_tup h
  cases h2 with
  | cons q1 h2 =>
    cases h2 with
    | cons q2 h2 =>
      cases h2 with
      | cons q3 h2 =>
        cases h2
        exact ⟨a, _, rfl, sqT_mono ok.e.hd.fh h1, rfl, _, _, rfl, _, _, rfl, _, _, rfl, rfl, k _ (((ok.set q1).set q2).set q3)⟩
theorem gd_lst2 {i j : Nat} : GD X.K (gUnl X.K 2 (gCons (gName i) (gCons (gName j) gNil))) (.list [d1, d2]) ds ((ds.set i (.dat d1)).set j (.dat d2)) := fun T F0 H0 F H σ v Q ok h k => by
  obtain ⟨a, vs, rfl, h1, h2⟩ := dp_lst h
  cases h2 with
  | cons q1 h2 =>
    cases h2 with
    | cons q2 h2 =>
      cases h2
      exact ⟨a, _, rfl, ok.e.hd.fh.seq h1, rfl, _, _, rfl, _, _, rfl, rfl, k _ ((ok.set q1).set q2)⟩

theorem xr_nil (h : Nx ds) : XR X [] ds Φ Nx := fun T F0 H0 F H σ D ok kr kn => wSs_of pss_nil (kn σ ds F H (.refl F) ok h)
theorem xr_ret (h : XE X e ds d) (p : Φ d) : XR X (.Return (some e) pos :: rest) ds Φ Nx := fun T F0 H0 F H σ D ok kr kn =>
  wSs_of (pss_cons (ps_ret pE) pSs) (h T F H σ _ ok.e fun v F1 H1 g1 q1 => kr v d F1 H1 (ok.g.trans g1) p q1)
theorem xr_retP (h : XP X e ds Φ) : XR X (.Return (some e) pos :: rest) ds Φ Nx := fun T F0 H0 F H σ D ok kr kn =>
  wSs_of (pss_cons (ps_ret pE) pSs) (h T F H σ _ ok.e fun v d F1 H1 g1 p q1 => kr v d F1 H1 (ok.g.trans g1) p q1)
theorem xr_retOwn {i : Nat} {xs : List PyData} (hN : X.N[i]? = some x) (hv : Vis X.env.scope x) (hd : (x == ("__debug__" : Str)) = false) (hcd : (x == ("__classdict__" : Str)) = false) (h : ds[i]? = some (.own xs)) (p : Φ (.list xs)) : XR X (.Return (some (.Name x pos)) pos :: rest) ds Φ Nx := fun T F0 H0 F H σ D ok kr kn => by
  obtain ⟨a, vs, h1, h2, h3, h4, h5⟩ := ok.e.own i xs h
  have n0 := ok.o i xs a h h1
  refine wSs_of (pss_cons (ps_ret (pe_var hN hv hd hcd)) pSs) ⟨.ref a, h1, ?_⟩
  have sm : Same F (upd F a (.lst vs)) := fun b o e => by rw [upd_ne (ne_of_none e h2)]; exact e
  refine kr (.ref a) (.list xs) (upd F a (.lst vs)) H ⟨ok.g.ff.trans sm, fun b o e => ?_, ok.g.hh, fun b e n => ?_, ok.g.tw⟩ p (.lst (.inl (.inl upd_same)) (DpAll.up h5 sm))
  · by_cases c : b = a
    · subst c; rw [upd_same] at e; cases e; exact h4
    · rw [upd_ne c] at e; exact ok.e.hd.fh b o e
  · by_cases c : b = a
    · subst c; exact absurd n0 n
    · rw [upd_ne c]; exact ok.g.fr b e n
/-- target = e -/
theorem xr_asg {tg : Expr} {g : TG} (h : XE X e ds d) (hg : PG X tg g) (gd : GD X.K g d ds ds1) (k : XR X rest ds1 Φ Nx) (hs : swapsWithSole [tg] e pos.line X.env = pure false := by rfl) (hw : swappedStores [tg] e X.env = pure none := by rfl)
    (h1 : (assignEach [tg] X.env).map (·.2) = [assign tg X.env] := by rfl) : XR X (.Assign [tg] e pos :: rest) ds Φ Nx := fun T F0 H0 F H σ D ok kr kn =>
  wSs_of (pss_cons (ps_asg pE hg hs hw h1) pSs) (h T F H σ _ ok.e fun v F1 H1 g1 q1 => gd T F0 H0 F1 H1 σ v _ (ok.grow g1) q1 fun σ' ok' => k T F0 H0 F1 H1 σ' D ok' kr fun σ2 ds2 F2 H2 s2 => kn σ2 ds2 F2 H2 (g1.ff.trans s2))
/-- name = e -/
theorem xr_set {i : Nat} {pos' : Pos} (hN : X.N.Nodup) (hi : X.N[i]? = some x) (hx : Loc X.env.scope x) (h : XE X e ds d) (k : XR X rest (ds.set i (.dat d)) Φ Nx) (hs : swapsWith e (some (.Name x pos')) pos.line X.env = pure false := by rfl)
    (hf : X.fn x = true ∨ X.env.scope.names.lookup x = some .local := by first | exact .inl rfl | exact .inr rfl | assumption) : XR X (.Assign [.Name x pos'] e pos :: rest) ds Φ Nx := fun T F0 H0 F H σ D ok kr kn =>
  wSs_of (pss_cons (ps_set (i := i) hN hi hx pE hs hf) pSs) (h T F H σ _ ok.e fun v F1 H1 g1 q1 => k T F0 H0 F1 H1 _ D ((ok.grow g1).set q1) kr fun σ2 ds2 F2 H2 s2 => kn σ2 ds2 F2 H2 (g1.ff.trans s2))
theorem xr_setP {i : Nat} {pos' : Pos} {Ψ : PyData → Prop} (hN : X.N.Nodup) (hi : X.N[i]? = some x) (hx : Loc X.env.scope x) (h : XP X e ds Ψ) (k : ∀ d, Ψ d → XR X rest (ds.set i (.dat d)) Φ Nx) (hs : swapsWith e (some (.Name x pos')) pos.line X.env = pure false := by rfl)
    (hf : X.fn x = true ∨ X.env.scope.names.lookup x = some .local := by first | exact .inl rfl | exact .inr rfl | assumption) : XR X (.Assign [.Name x pos'] e pos :: rest) ds Φ Nx := fun T F0 H0 F H σ D ok kr kn =>
  wSs_of (pss_cons (ps_set (i := i) hN hi hx pE hs hf) pSs) (h T F H σ _ ok.e fun v d F1 H1 g1 p q1 => k d p T F0 H0 F1 H1 _ D ((ok.grow g1).set q1) kr fun σ2 ds2 F2 H2 s2 => kn σ2 ds2 F2 H2 (g1.ff.trans s2))
/-- name = a new list, one's own -/
theorem xr_setL {i : Nat} {pos' : Pos} {xs : List PyData} (hN : X.N.Nodup) (hi : X.N[i]? = some x) (hx : Loc X.env.scope x) (h : XL X e ds xs) (k : XR X rest (ds.set i (.own xs)) Φ Nx) (hs : swapsWith e (some (.Name x pos')) pos.line X.env = pure false := by rfl)
    (hf : X.fn x = true ∨ X.env.scope.names.lookup x = some .local := by first | exact .inl rfl | exact .inr rfl | assumption) : XR X (.Assign [.Name x pos'] e pos :: rest) ds Φ Nx := fun T F0 H0 F H σ D ok kr kn =>
  wSs_of (pss_cons (ps_set (i := i) hN hi hx pE hs hf) pSs) (h T F H σ _ ok.e fun q vs F1 H1 g1 n f w1 w2 => by
    have nf := ok.e.nofresh n
    exact k T F0 H0 F1 H1 _ D ((ok.grow g1).setOwn (ok.new0 n) f nf.1 nf.2 w1 w2) kr fun σ2 ds2 F2 H2 s2 => kn σ2 ds2 F2 H2 (g1.ff.trans s2))
/-- if, without else -/
theorem xr_if {k : Bool} (h : XT X c ds k) (h1 : k = true → XR X body ds Φ fun ds' => XR X rest ds' Φ Nx) (h2 : k = false → XR X rest ds Φ Nx) : XR X (.If c body [] pos :: rest) ds Φ Nx := fun T F0 H0 F H σ D ok kr kn =>
  wSs_of (pss_cons (ps_if pT pSs pss_nil) pSs) (h T F H σ _ ok.e fun F1 H1 g1 => by
    cases k with
    | true => exact h1 rfl T F0 H0 F1 H1 σ _ (ok.grow g1) kr fun σ2 ds2 F2 H2 s2 ok2 n2 => n2 T F0 H0 F2 H2 σ2 D ok2 kr fun σ3 ds3 F3 H3 s3 => kn σ3 ds3 F3 H3 ((g1.ff.trans s2).trans s3)
    | false => exact h2 rfl T F0 H0 F1 H1 σ D (ok.grow g1) kr fun σ3 ds3 F3 H3 s3 => kn σ3 ds3 F3 H3 (g1.ff.trans s3))
/-- if, the test's answer open -/
theorem xr_ifP (h : XTP X c ds) (h1 : XR X body ds Φ fun ds' => XR X rest ds' Φ Nx) (h2 : XR X rest ds Φ Nx) : XR X (.If c body [] pos :: rest) ds Φ Nx := fun T F0 H0 F H σ D ok kr kn =>
  wSs_of (pss_cons (ps_if pT pSs pss_nil) pSs) (h T F H σ _ ok.e fun k F1 H1 g1 => by
    cases k with
    | true => exact h1 T F0 H0 F1 H1 σ _ (ok.grow g1) kr fun σ2 ds2 F2 H2 s2 ok2 n2 => n2 T F0 H0 F2 H2 σ2 D ok2 kr fun σ3 ds3 F3 H3 s3 => kn σ3 ds3 F3 H3 ((g1.ff.trans s2).trans s3)
    | false => exact h2 T F0 H0 F1 H1 σ D (ok.grow g1) kr fun σ3 ds3 F3 H3 s3 => kn σ3 ds3 F3 H3 (g1.ff.trans s3))
/-- an expression alone -/
theorem xr_expr (h : XE X e ds d) (k : XR X rest ds Φ Nx) (hs : swapsWith e none pos.line X.env = pure false := by rfl) : XR X (.Expr e pos :: rest) ds Φ Nx := fun T F0 H0 F H σ D ok kr kn =>
  wSs_of (pss_cons (ps_expr pE hs) pSs) (h T F H σ _ ok.e fun v F1 H1 g1 q1 => k T F0 H0 F1 H1 σ D (ok.grow g1) kr fun σ2 ds2 F2 H2 s2 => kn σ2 ds2 F2 H2 (g1.ff.trans s2))
/-- xs.append(e), xs one's own -/
theorem xr_append {i : Nat} {xs : List PyData} {p1 p2 p3 : Pos} (hN : X.N[i]? = some x) (hv : Vis X.env.scope x) (hd : (x == ("__debug__" : Str)) = false) (hcd : (x == ("__classdict__" : Str)) = false) (q : ds[i]? = some (.own xs)) (hz : xs.length < sizeLine) (h : XP X e ds Φ')
    (hp : PE X (.Call (.Attribute (.Name x p1) "append" p2) [e] [] p3) (tBM X.K "list" rAppend (tVar i) (tCons (wE X e) tNil)))
    (k : ∀ d, Φ' d → XR X rest (ds.set i (.own (xs ++ [d]))) Φ Nx) (hs : swapsWith (.Call (.Attribute (.Name x p1) "append" p2) [e] [] p3) none pos.line X.env = pure false := by rfl) :
    XR X (.Expr (.Call (.Attribute (.Name x p1) "append" p2) [e] [] p3) pos :: rest) ds Φ Nx := fun T F0 H0 F H σ D ok kr kn => by
  obtain ⟨a, vs, h1, h2, h3, h4, h5⟩ := ok.e.own i xs q
  refine wSs_of (pss_cons (ps_expr hp hs) pSs) ⟨.ref a, h1, .inl ⟨rfl, vs, .inl (.inl h4)⟩, h T F H σ _ ok.e fun v d F1 H1 g1 p q1 => ?_⟩
  have ok1 := ok.grow g1
  have e4 : H1 a = some (.lst vs) := g1.hh a _ h4 h3
  refine ⟨a, vs, v, rfl, rfl, e4, by rw [dpAll_len h5]; exact hz, ?_⟩
  exact k d p T F0 H0 F1 _ σ D (ok1.change (vs := vs) q h1 (dpAll_app (DpAll.up h5 g1.ff) (.cons q1 .nil))) kr fun σ2 ds2 F2 H2 s2 => kn σ2 ds2 F2 H2 (g1.ff.trans s2)
/-- while, by a word over the environment -/
theorem xr_while (I : Nat → DE → Prop) (m : Nat) (h0 : I m ds) (hp : PassesOwn (model X.prog X.w) X.A X.env X.xe)
    (hs : ∀ m ds', I m ds' → ∃ k, XT X c ds' k ∧ (k = true → XR X body ds' Φ fun ds2 => ∃ m', m' < m ∧ I m' ds2) ∧ (k = false → XR X rest ds' Φ Nx)) : XR X (.While c body [] pos :: rest) ds Φ Nx := fun T F0 H0 F H σ D ok kr kn => by
  refine wSs_of (pss_cons (ps_while hp pT pSs) pSs) ⟨fun m σ' H' => ∃ F' ds', Same F F' ∧ Ok X.K T F0 H0 F' H' σ' ds' ∧ I m ds', ⟨m, F, ds, .refl F, ok, h0⟩, fun m σ1 H1 q => ?_⟩
  obtain ⟨F1, ds1, s1, ok1, i1⟩ := q
  obtain ⟨k, t, y, n⟩ := hs m ds1 i1
  refine t T F1 H1 σ1 _ ok1.e fun F2 H2 g2 => ?_
  have ok2 := ok1.grow g2
  cases k with
  | true =>
    refine ⟨fun σ' H' => ∃ m', m' < m ∧ ∃ F' ds', Same F F' ∧ Ok X.K T F0 H0 F' H' σ' ds' ∧ I m' ds', fun _ _ z => z, ?_⟩
    exact y rfl T F0 H0 F2 H2 σ1 _ ok2 kr fun σ3 ds3 F3 H3 s3 ok3 ⟨m', l, i3⟩ => ⟨m', l, F3, ds3, (s1.trans g2.ff).trans s3, ok3, i3⟩
  | false => exact n rfl T F0 H0 F2 H2 σ1 D ok2 kr fun σ3 ds3 F3 H3 s3 => kn σ3 ds3 F3 H3 ((s1.trans g2.ff).trans s3)
/-- for over a list of data -/
theorem xr_for {tg iter : Expr} {g : TG} {xs : List PyData} (I : Nat → DE → Prop) (h0 : I 0 ds) (hp : PassesOwn (model X.prog X.w) X.A X.env X.xe) (hc : X.calm = true) (hi : XE X iter ds (.list xs)) (hg : PG X tg g)
    (hs : ∀ (i : Nat) y ds', xs[i]? = some y → I i ds' → ∃ ds2, GD X.K g y ds' ds2 ∧ XR X body ds2 Φ fun ds3 => I (i + 1) ds3) (hd : ∀ ds', I xs.length ds' → XR X rest ds' Φ Nx)
    (hf : ∀ x, foldedSetIterable iter X.env x = pure x := by intro _; rfl) : XR X (.For tg iter body [] pos :: rest) ds Φ Nx := fun T F0 H0 F H σ D ok kr kn => by
  refine wSs_of (pss_cons (ps_for hp hc (pi_list pE) hg pSs hf) pSs) (hi T F H σ _ ok.e fun v F1 H1 g1 q1 => ?_)
  obtain ⟨a, vs, rfl, h1, h2⟩ := dp_lst q1
  refine ⟨a, rfl, ⟨vs, g1.fh.seq h1⟩, for_list (xs := vs) (fun i σ' H' => ∃ F' ds', Same F1 F' ∧ Ok X.K T F0 H0 F' H' σ' ds' ∧ I i ds') ⟨F1, ds, .refl F1, ok.grow g1, h0⟩ (fun i σ' H' _ q => ?_) (fun i y σ' H' ey q => ?_) fun σ' H' q => ?_⟩
  · obtain ⟨F', ds', s', ok', _⟩ := q
    exact (s'.trans ok'.e.hd.fh).seq h1
  · obtain ⟨F', ds', s', ok', i'⟩ := q
    obtain ⟨d, e1, e2⟩ := dpAll_back h2 ey
    obtain ⟨ds2, gd, bd⟩ := hs i d ds' e1 i'
    refine gd T F0 H0 F' H' σ' y _ ok' (Dp.up e2 s') fun σ2 ok2 => ?_
    exact bd T F0 H0 F' H' σ2 _ ok2 kr fun σ3 ds3 F3 H3 s3 ok3 i3 => ⟨F3, ds3, s'.trans s3, ok3, i3⟩
  · obtain ⟨F', ds', s', ok', i'⟩ := q
    rw [dpAll_len h2] at i'
    exact hd ds' i' T F0 H0 F' H' σ' D ok' kr fun σ3 ds3 F3 H3 s3 => kn σ3 ds3 F3 H3 ((g1.ff.trans s').trans s3)
end

/-! ### a def -/
def startD (N : List Str) (dl : List PyData) : DE := dl.map Slot.dat ++ List.replicate (N.length - dl.length) Slot.no
theorem start_ok {K : PySem.W.Frag} {F H : Hp} {N : List Str} {vs : List V} {dl : List PyData} (h : Hd none F H) (w : DpAll K F vs dl) : EnvOk K none F H (L2.start N vs) (startD N dl) := by
  have hl := dpAll_len w
  have no_own : ∀ (i : Nat) (s : Slot), (startD N dl)[i]? = some s → s = .no ∨ ∃ d, s = .dat d ∧ dl[i]? = some d := fun i s q => by
    unfold startD at q
    by_cases c : i < (dl.map Slot.dat).length
    · rw [List.getElem?_append_left c, List.getElem?_map] at q
      cases e : dl[i]? with
      | none => rw [e] at q; cases q
      | some d => rw [e] at q; exact .inr ⟨d, (Option.some.inj q).symm, rfl⟩
    · rw [List.getElem?_append_right (Nat.le_of_not_lt c)] at q
      have := List.mem_of_getElem? q
      exact .inl (List.eq_of_mem_replicate this)
  refine ⟨?_, h, fun i d q => ?_, fun i xs q => ?_, fun i q => ?_, fun i j xs ys a q => ?_⟩
  · unfold L2.start startD
    rw [List.length_append, List.length_append, List.length_map, List.length_map, List.length_replicate, List.length_replicate, hl]
  · rcases no_own i _ q with z | ⟨d', z, e⟩
    · cases z
    · cases z
      obtain ⟨v, h1, h2⟩ := dpAll_get w e
      refine ⟨v, ?_, h2⟩
      unfold L2.start
      rw [List.getElem?_append_left (by rw [List.length_map]; exact (List.getElem?_eq_some_iff.mp h1).1), List.getElem?_map, h1]
      rfl
  · rcases no_own i _ q with z | ⟨d', z, e⟩ <;> cases z
  · rcases no_own i _ q with z | ⟨d', z, e⟩ <;> cases z
  · rcases no_own i _ q with z | ⟨d', z, e⟩ <;> cases z
/-- THE RULE for a def over data -/
theorem def_ok {P : Program} {w : World} {K : PySem.W.Frag} {mg : Str → Option Value} {base : Heap} {x qual : Str} {st : Stmt} {f : Addr} {fd : FuncData} {N ps : List Str} {k : Nat} {R : List PyData → PyData → Prop} (Fn : Fun K x qual st f fd) (S : FnScope N ps (defScope st)) (hb : Binds K fd ps []) (hm : mg x = some (.ref f))
    (hl : ∀ dl d, R dl d → dl.length = ps.length)
    (hbody : ∀ cdv A outer s H E, Room k (cxOf CX0 P w K mg base N qual (defScope st) f cdv A outer s H E).A → ∀ dl d, R dl d →
      XR (cxOf CX0 P w K mg base N qual (defScope st) f cdv A outer s H E).nox (defBody st) (startD N dl) (fun d' => d' = d) (fun _ => d = .none)) : DefOk P w K mg base (k + 1) x R := by
  refine ⟨f, fd, ps, Fn.ok S (fun vs H Q E h => ?_) (fun cdv A outer s H vs Q E hr h => ?_), hm, Fn.kp, hb⟩
  · obtain ⟨F, dl, d, hd, w, r, _⟩ := h
    rw [dpAll_len w]; exact hl dl d r
  · obtain ⟨F, dl, d, hd, w, r, q⟩ := h
    refine ⟨_, pSs, ?_⟩
    refine hbody cdv A outer s H E hr dl d r none F H F H (L2.start N vs) _ ⟨.refl hd, start_ok hd w, fun i xs a q1 => ?_⟩ (fun v d' F' H' g e q1 => by subst e; exact q v F' H' g q1) fun σ' ds' F' H' _ ok' e => by subst e; exact q _ F' H' ok'.g .non
    have := (start_ok (N := N) hd w).own i xs q1
    unfold startD at q1
    have m := List.mem_of_getElem? q1
    rcases List.mem_append.mp m with m | m
    · obtain ⟨_, _, z⟩ := List.mem_map.mp m
      cases z
    · exact nomatch List.eq_of_mem_replicate m
end TT

namespace TT
open PySem L2

/-! ### comprehensions of one clause -/
theorem Grow.mut {T : Option Addr} {F H F' H' : Hp} {a : Addr} {o : HO} (g : Grow T F H F' H') (h : H a = none) (f : F' a = none) (nt : T ≠ some a) : Grow T F H F' (upd H' a o) :=
  ⟨g.ff, fun b u e => by rw [upd_ne (ne_of_none e f)]; exact g.fh b u e, fun b u e c => by rw [upd_ne (ne_of_none e h)]; exact g.hh b u e c, g.fr, fun b e => by
    obtain ⟨p, r, q, z⟩ := g.tw b e
    have nb : b ≠ a := fun c => nt (c ▸ e)
    exact ⟨p, r, by rw [upd_ne nb]; exact q, z⟩⟩
theorem take_filt {α β : Type} {ys : List α} {i : Nat} {y : α} (p : α → Bool) (q : α → β) (e : ys[i]? = some y) : ((ys.take (i + 1)).filter p).map q = ((ys.take i).filter p).map q ++ (if p y = true then [q y] else []) := by
  rw [List.take_succ, e]
  show (((ys.take i) ++ [y]).filter p).map q = _
  rw [List.filter_append, List.map_append]
  congr 1
  by_cases c : p y = true
  · rw [List.filter_cons, if_pos c, if_pos c]; rfl
  · rw [List.filter_cons, if_neg c, if_neg c]; rfl
/-- a comprehension's state: the list so far stands at D -/
def LcSt (K : PySem.W.Frag) {α : Type} (T : Option Addr) (F1 H1 : Hp) (D : Addr) (ys : List α) (p : α → Bool) (q : α → PyData) (i : Nat) (H' : Hp) : Prop :=
  ∃ F' vs, Grow T F1 H1 F' H' ∧ F' D = none ∧ H' D = some (.lst vs) ∧ DpAll K F' vs (((ys.take i).filter p).map q)
section
variable {K : PySem.W.Frag} {α : Type} {T : Option Addr} {F1 H1 : Hp} {D : Addr} {ys : List α} {p : α → Bool} {q : α → PyData} {σ : L2.St} {ds : DE} {j : Nat} {tt : TT} {te : TE} {enc : α → PyData}
theorem lc_0 (h : Hd T F1 H1) (hD : H1 D = none) : LcSt K T F1 H1 D ys p q 0 (upd H1 D (.lst [])) := ⟨F1, [], .newOwn h hD, h.fh.free hD, upd_same, by rw [List.take_zero]; exact .nil⟩
theorem lc_turn {i : Nat} {y : α} {x : V} {H' : Hp} (ok : EnvOk K T F1 H1 σ ds) (hD : H1 D = none) (hz : ys.length < sizeLine) (ey : ys[i]? = some y) (hx : Dp K F1 x (enc y)) (st : LcSt K T F1 H1 D ys p q i H')
    (ht : ∀ F H σ (Q : Bool → Hp → Prop), EnvOk K T F H σ ((ds.set j .no).set j (.dat (enc y))) → (∀ F' H', Grow T F H F' H' → Q (p y) H') → tt σ H Q)
    (he : p y = true → ∀ F H σ (Q : VK), EnvOk K T F H σ ((ds.set j .no).set j (.dat (enc y))) → (∀ v F' H', Grow T F H F' H' → Dp K F' v (q y) → Q v H') → te σ H Q) :
    gName j x (wipe σ [j]) H' fun σ2 H2 => wipe σ2 [j] = wipe σ [j] ∧ tt σ2 H2 fun b H3 => if b = true then te σ2 H3 fun y H4 => ∃ acc, H4 D = some (.lst acc) ∧ acc.length < sizeLine ∧ LcSt K T F1 H1 D ys p q (i + 1) (upd H4 D (.lst (acc ++ [y]))) else LcSt K T F1 H1 D ys p q (i + 1) H3 := by
  obtain ⟨F', vs, g, fD, hv, w⟩ := st
  have nt : T ≠ some D := fun e => absurd hD (ok.hd.tw D e).2.ne
  have ok2 : EnvOk K T F' H' ((wipe σ [j]).set j (some x)) ((ds.set j .no).set j (.dat (enc y))) := ((ok.grow g).forget).set (Dp.up hx g.ff)
  refine ⟨wipe_one σ j x, ht F' H' _ _ ok2 fun F2 H2 g2 => ?_⟩
  have v2 : H2 D = some (.lst vs) := g2.hh D _ hv nt
  have f2 : F2 D = none := g2.fr D fD (by rw [hv]; exact nofun)
  cases c : p y with
  | true =>
    refine he c F2 H2 _ _ (ok2.grow g2) fun v F3 H3 g3 qv => ?_
    have v3 : H3 D = some (.lst vs) := g3.hh D _ v2 nt
    have f3 : F3 D = none := g3.fr D f2 (by rw [v2]; exact nofun)
    refine ⟨vs, v3, ?_, F3, vs ++ [v], ((g.trans g2).trans g3).mut hD f3 nt, f3, upd_same, ?_⟩
    · rw [dpAll_len w, List.length_map]
      have l1 := List.length_filter_le p (ys.take i)
      have l2 : (ys.take i).length ≤ ys.length := by rw [List.length_take]; exact Nat.min_le_right _ _
      omega
    · rw [take_filt p q ey, if_pos c]
      exact dpAll_app (DpAll.up w (g2.ff.trans g3.ff)) (.cons qv .nil)
  | false =>
    refine ⟨F2, vs, g.trans g2, f2, v2, ?_⟩
    rw [take_filt p q ey, if_neg (by rw [c]; exact Bool.false_ne_true), List.append_nil]
    exact DpAll.up w g2.ff
/-- the reading of a comprehension -/
def LcD (K : PySem.W.Frag) (te : TE) (ds : DE) (xs : List PyData) : Prop := ∀ T F H σ (Q : VK), EnvOk K T F H σ ds → (∀ p vs F' H', Grow T F H F' H' → H p = none → F' p = none → H' p = some (.lst vs) → DpAll K F' vs xs → Q (.ref p) H') → te σ H Q
/-- what is asked of the test and the element, item by item -/
def LcT (K : PySem.W.Frag) (ds : DE) (j : Nat) (enc : α → PyData) (tt : TT) (y : α) (b : Bool) : Prop := ∀ T F H σ (Q : Bool → Hp → Prop), EnvOk K T F H σ ((ds.set j .no).set j (.dat (enc y))) → (∀ F' H', Grow T F H F' H' → Q b H') → tt σ H Q
def LcE (K : PySem.W.Frag) (ds : DE) (j : Nat) (enc : α → PyData) (te : TE) (y : α) (d : PyData) : Prop := ∀ T F H σ (Q : VK), EnvOk K T F H σ ((ds.set j .no).set j (.dat (enc y))) → (∀ v F' H', Grow T F H F' H' → Dp K F' v d → Q v H') → te σ H Q
theorem lcd_end {F H : Hp} {Q : VK} {D : Addr} (g1 : Grow T F H F1 H1) (hD : H1 D = none) (k : ∀ p' vs F' H', Grow T F H F' H' → H p' = none → F' p' = none → H' p' = some (.lst vs) → DpAll K F' vs ((ys.filter p).map q) → Q (.ref p') H') {H' : Hp}
    (st : LcSt K T F1 H1 D ys p q ys.length H') : Q (.ref D) H' := by
  obtain ⟨F', vs, g, fD, hv, w⟩ := st
  rw [List.take_length] at w
  refine k D vs F' H' (g1.trans g) ?_ fD hv w
  cases z : H D with
  | none => rfl
  | some o => exact absurd hD (g1.ne (by rw [z]; exact nofun))
theorem lcd_list {X : Cx} {l : Expr} (hl : XE X l ds (.list (ys.map enc))) (hz : ys.length < sizeLine) (ht : ∀ y ∈ ys, LcT X.K ds j enc tt y (p y)) (he : ∀ y ∈ ys, p y = true → LcE X.K ds j enc te y (q y)) :
    LcD X.K (tLc (iList X.K (wE X l)) (gName j) tt te [j]) ds ((ys.filter p).map q) := fun T F H σ Q ok k => hl T F H σ _ ok fun v F1 H1 g1 q1 => by
  obtain ⟨a, vs, rfl, h1, h2⟩ := dp_lst q1
  have hlen : vs.length = ys.length := by rw [dpAll_len h2, List.length_map]
  refine ⟨a, rfl, ⟨vs, g1.fh.seq h1⟩, fun D hD => lc_list (xs := vs) (LcSt X.K T F1 H1 D ys p q) (lc_0 (ok.hd.grow g1) hD) (fun i H' _ st => ?_) (fun i x H' ex st => ?_) fun H' st => ?_⟩
  · obtain ⟨F', _, g, _⟩ := st
    exact (g.ff.trans g.fh).seq h1
  · obtain ⟨d, e1, e2⟩ := dpAll_back h2 ex
    rw [List.getElem?_map] at e1
    cases ey : ys[i]? with
    | none => rw [ey] at e1; cases e1
    | some y =>
      rw [ey] at e1
      cases e1
      have my := List.mem_of_getElem? ey
      exact lc_turn (ok.grow g1) hD hz ey e2 st (ht y my T) fun c => he y my c T
  · rw [hlen] at st
    exact lcd_end g1 hD k st
theorem lcd_tup {X : Cx} {l : Expr} (hl : XE X l ds (.tuple (ys.map enc))) (hz : ys.length < sizeLine) (ht : ∀ y ∈ ys, LcT X.K ds j enc tt y (p y)) (he : ∀ y ∈ ys, p y = true → LcE X.K ds j enc te y (q y)) :
    LcD X.K (tLc (iTup X.K (wE X l)) (gName j) tt te [j]) ds ((ys.filter p).map q) := fun T F H σ Q ok k => hl T F H σ _ ok fun v F1 H1 g1 q1 => by
  obtain ⟨a, vs, rfl, h1, h2⟩ := dp_tup q1
  have hlen : vs.length = ys.length := by rw [dpAll_len h2, List.length_map]
  refine ⟨a, rfl, ⟨vs, sqT_mono g1.fh h1⟩, fun D hD => lc_tup (xs := vs) (LcSt X.K T F1 H1 D ys p q) (lc_0 (ok.hd.grow g1) hD) (fun i H' _ st => ?_) (fun i x H' ex st => ?_) fun H' st => ?_⟩
  · obtain ⟨F', _, g, _⟩ := st
    exact sqT_mono (g.ff.trans g.fh) h1
  · obtain ⟨d, e1, e2⟩ := dpAll_back h2 ex
    rw [List.getElem?_map] at e1
    cases ey : ys[i]? with
    | none => rw [ey] at e1; cases e1
    | some y =>
      rw [ey] at e1
      cases e1
      have my := List.mem_of_getElem? ey
      exact lc_turn (ok.grow g1) hD hz ey e2 st (ht y my T) fun c => he y my c T
  · rw [hlen] at st
    exact lcd_end g1 hD k st
end
/-- the ints from lo on -/
def rng (lo : Int) (n : Nat) : List Int := (List.range n).map fun k : Nat => lo + (k : Int)
theorem rng_get {lo : Int} {n i : Nat} (h : i < n) : (rng lo n)[i]? = some (lo + (i : Int)) := by
  unfold rng
  rw [List.getElem?_map, List.getElem?_range h]
  rfl
theorem rng_len (lo : Int) (n : Nat) : (rng lo n).length = n := by unfold rng; rw [List.length_map, List.length_range]
section
variable {ds : DE} {j : Nat} {tt : TT} {te : TE} {p : Int → Bool} {q : Int → PyData}
theorem lcd_rng {X : Cx} {a b : Expr} {lo hi : Int} (hl : XA X [a, b] ds [.int lo, .int hi]) (hb : -(2 ^ 62) ≤ lo ∧ lo < 2 ^ 62 ∧ -(2 ^ 62) ≤ hi ∧ hi < 2 ^ 62) (hz : (hi - lo).toNat < sizeLine)
    (ht : ∀ y ∈ rng lo (hi - lo).toNat, LcT X.K ds j PyData.int tt y (p y)) (he : ∀ y ∈ rng lo (hi - lo).toNat, p y = true → LcE X.K ds j PyData.int te y (q y)) :
    LcD X.K (tLc (iRng2 (wA X [a, b])) (gName j) tt te [j]) ds (((rng lo (hi - lo).toNat).filter p).map q) := fun T F H σ Q ok k => hl T F H σ _ ok fun vs F1 H1 g1 q1 => by
  have evs : vs = [.int lo, .int hi] := dpAll_ints (ns := [lo, hi]) q1
  subst evs
  refine ⟨lo, hi, rfl, hb, fun D hD => lc_range (lo := lo) (n := (hi - lo).toNat) (LcSt X.K T F1 H1 D (rng lo (hi - lo).toNat) p q) (lc_0 (ok.hd.grow g1) hD) (fun i H' hi' st => ?_) fun H' st => ?_⟩
  · have ey := rng_get (lo := lo) hi'
    have my := List.mem_of_getElem? ey
    exact lc_turn (ok.grow g1) hD (by rw [rng_len]; exact hz) ey (.int _) st (ht _ my T) fun c => he _ my c T
  · have e := rng_len lo (hi - lo).toNat
    exact lcd_end g1 hD k (by rw [e]; exact st)
end
section
variable {X : Cx} {elt tg iter : Expr} {ifs : List Expr} {scope : Scope} {own : List (Str × Nat)} {pos : Pos} {wi : TI} {g : TG} {tt : TT} {te : TE} {ds : DE} {xs : List PyData} {j : Nat} {nm : Str}
/-- the weakest reading of an element, of a test, in the comprehension's block -/
def wBE (X : Cx) (scope : Scope) (e : Expr) : TE := fun σ H Q => ∀ (s : Shared) (H' : Hp) (C : Addr) (cl : List (Str × Addr)) (fp : List Addr), wE (X.blk s H' scope (compEnvC scope cl C X.env) fp) e σ H Q
def wBT (X : Cx) (scope : Scope) (e : Expr) : TT := fun σ H Q => ∀ (s : Shared) (H' : Hp) (C : Addr) (cl : List (Str × Addr)) (fp : List Addr), wT (X.blk s H' scope (compEnvC scope cl C X.env) fp) e σ H Q
theorem pBE (e : Expr) : ∀ (s : Shared) (H : Hp) (C : Addr) (cl : List (Str × Addr)) (fp : List Addr), PE (X.blk s H scope (compEnvC scope cl C X.env) fp) e (wBE X scope e) := fun s H C cl fp => ⟨fun pins s' σ H' Q I h => h s H C cl fp pins s' I⟩
theorem pBT (e : Expr) : ∀ (s : Shared) (H : Hp) (C : Addr) (cl : List (Str × Addr)) (fp : List Addr), PTs (X.blk s H scope (compEnvC scope cl C X.env) fp) [e] (wBT X scope e) := fun s H C cl fp => pts_one ⟨fun pins s' σ H' Q I h => h s H C cl fp pins s' I⟩
theorem lce_of {α : Type} {enc : α → PyData} {y : α} {d : PyData} {e : Expr} (h : ∀ (s : Shared) (H : Hp) (C : Addr) (cl : List (Str × Addr)) (fp : List Addr), XE (X.blk s H scope (compEnvC scope cl C X.env) fp) e ((ds.set j .no).set j (.dat (enc y))) d) : LcE X.K ds j enc (wBE X scope e) y d :=
  fun T F H σ Q ok k s H' C cl fp => h s H' C cl fp T F H σ Q ok k
theorem lct_of {α : Type} {enc : α → PyData} {y : α} {b : Bool} {e : Expr} (h : ∀ (s : Shared) (H : Hp) (C : Addr) (cl : List (Str × Addr)) (fp : List Addr), XT (X.blk s H scope (compEnvC scope cl C X.env) fp) e ((ds.set j .no).set j (.dat (enc y))) b) : LcT X.K ds j enc (wBT X scope e) y b :=
  fun T F H σ Q ok k s H' C cl fp => h s H' C cl fp T F H σ Q ok k
theorem lct_yes {α : Type} {enc : α → PyData} {y : α} : LcT X.K ds j enc tYes y true := fun T F H σ Q ok k => k F H (.refl ok.hd)
/-- as an expression -/
theorem xl_lc (hc : X.calm = true) (hN : X.N.Nodup) (hi : PI X tg iter wi) (ok : BlkOk X.N X.env.scope scope own)
    (hg : ∀ (sh : Shared) (Hb : Hp) (ca : Addr) (cl : List (Str × Addr)) (fs : List Addr), PG (X.blk sh Hb scope (compEnvC scope cl ca X.env) fs) tg g) (ht : ∀ (sh : Shared) (Hb : Hp) (ca : Addr) (cl : List (Str × Addr)) (fs : List Addr), PTs (X.blk sh Hb scope (compEnvC scope cl ca X.env) fs) ifs tt)
    (h : LcD X.K (tLc wi g tt (wBE X scope elt) (own.map (·.2))) ds xs) (hs : ∀ x, foldedSetIterable iter X.env x = pure x := by intro _; rfl) : XL X (.ListComp elt [⟨tg, iter, ifs, 0⟩] scope pos) ds xs := fun T F H σ Q ok' k =>
  wE_of (pe_lc hc hN hi ok hg ht (pBE elt) hs) (h T F H σ Q ok' k)
/-- name = [..] -/
theorem xr_setLc {i : Nat} {y : Str} {py spos : Pos} {rest : List Stmt} {Φ : PyData → Prop} {Nx : DE → Prop} (hc : X.calm = true) (hN : X.N.Nodup) (hy : X.N[i]? = some y) (hyl : X.env.scope.names.lookup y = some .local)
    (swap : swapsWith (.ListComp elt [⟨tg, iter, ifs, 0⟩] scope pos) (some (.Name y py)) spos.line X.env = pure true) (hi : PI X tg iter wi) (ok : BlkOk X.N X.env.scope scope own)
    (hg : ∀ (sh : Shared) (Hb : Hp) (ca : Addr) (cl : List (Str × Addr)) (fs : List Addr), PG (X.blk sh Hb scope (compEnvC scope cl ca X.env) fs) tg g) (ht : ∀ (sh : Shared) (Hb : Hp) (ca : Addr) (cl : List (Str × Addr)) (fs : List Addr), PTs (X.blk sh Hb scope (compEnvC scope cl ca X.env) fs) ifs tt)
    (h : LcD X.K (tLc wi g tt (wBE X scope elt) (own.map (·.2))) ds xs) (k : XR X rest (ds.set i (.dat (.list xs))) Φ Nx) (hs : ∀ x, foldedSetIterable iter X.env x = pure x := by intro _; rfl) :
    XR X (.Assign [.Name y py] (.ListComp elt [⟨tg, iter, ifs, 0⟩] scope pos) spos :: rest) ds Φ Nx := fun T F0 H0 F H σ D ok' kr kn =>
  wSs_of (pss_cons (ps_setLc (i := i) hc hN hy hyl swap hi ok hg ht (pBE elt) hs) pSs) (h T F H σ (fun x H1 => wSs X rest D (σ.set i (some x)) H1) ok'.e fun p vs F1 H1 g1 n f w1 w2 => by
    have sm : Same F1 (upd F1 p (.lst vs)) := fun b u e => by rw [upd_ne (ne_of_none e f)]; exact e
    have g2 : Grow T F H (upd F1 p (.lst vs)) H1 := ⟨g1.ff.trans sm, fun b u e => by
        by_cases c : b = p
        · subst c; rw [upd_same] at e; cases e; exact w1
        · rw [upd_ne c] at e; exact g1.fh b u e, g1.hh, fun b e m => by
        by_cases c : b = p
        · subst c; exact absurd n m
        · rw [upd_ne c]; exact g1.fr b e m, g1.tw⟩
    exact k T F0 H0 _ H1 _ D ((ok'.grow g2).set (.lst (.inl (.inl upd_same)) (DpAll.up w2 sm))) kr fun σ2 ds2 F2 H2 s2 => kn σ2 ds2 F2 H2 (g2.ff.trans s2))
end
end TT

namespace TT
open PySem L2
section
variable {K : PySem.W.Frag} {T : Option Addr} {F0 H0 F H F1 H1 : Hp} {σ : L2.St} {ds : DE}
/-- one's own list becomes known for good -/
theorem Ok.freeze {i : Nat} {xs : List PyData} (ok : Ok K T F0 H0 F H σ ds) (h : ds[i]? = some (.own xs)) : ∃ a vs, Same F (upd F a (.lst vs)) ∧ H a = some (.lst vs) ∧ Ok K T F0 H0 (upd F a (.lst vs)) H σ (ds.set i (.dat (.list xs))) := by
  obtain ⟨a, vs, h1, h2, h3, h4, h5⟩ := ok.e.own i xs h
  have n0 := ok.o i xs a h h1
  have sm : Same F (upd F a (.lst vs)) := fun b o e => by rw [upd_ne (ne_of_none e h2)]; exact e
  have hi : i < ds.length := (List.getElem?_eq_some_iff.mp h).1
  have at_i : ∀ {j : Nat} {s : Slot}, (ds.set i (.dat (.list xs)))[j]? = some s → (i = j ∧ s = .dat (.list xs)) ∨ (i ≠ j ∧ ds[j]? = some s) := fun {j s} q => by
    by_cases c : i = j
    · subst c
      rw [List.getElem?_set_self hi] at q
      exact .inl ⟨rfl, (Option.some.inj q).symm⟩
    · rw [List.getElem?_set_ne c] at q
      exact .inr ⟨c, q⟩
  have fh : Same (upd F a (.lst vs)) H := fun b o e => by
    by_cases c : b = a
    · subst c; rw [upd_same] at e; cases e; exact h4
    · rw [upd_ne c] at e; exact ok.e.hd.fh b o e
  refine ⟨a, vs, sm, h4, ⟨ok.g.ff.trans sm, fh, ok.g.hh, fun b e n => ?_, ok.g.tw⟩, ⟨by rw [List.length_set]; exact ok.e.len, ⟨fh, fun b e => ?_⟩, fun j d z => ?_, fun j zs z => ?_, fun j z => ?_, fun j l zs us b z1 z2 z3 z4 => ?_⟩, fun j zs b z1 z2 => ?_⟩
  · by_cases c : b = a
    · subst c; exact absurd n0 n
    · rw [upd_ne c]; exact ok.g.fr b e n
  · have nb : b ≠ a := fun c => h3 (c ▸ e)
    exact ⟨by rw [upd_ne nb]; exact (ok.e.hd.tw b e).1, (ok.e.hd.tw b e).2⟩
  · rcases at_i z with ⟨c, y⟩ | ⟨c, z⟩
    · subst c; cases y
      exact ⟨.ref a, h1, .lst (.inl (.inl upd_same)) (DpAll.up h5 sm)⟩
    · obtain ⟨v, y1, y2⟩ := ok.e.dat j d z
      exact ⟨v, y1, Dp.up y2 sm⟩
  · rcases at_i z with ⟨c, y⟩ | ⟨c, z⟩
    · cases y
    · obtain ⟨b, us, y1, y2, y3, y4, y5⟩ := ok.e.own j zs z
      have nb : b ≠ a := fun e => by
        subst e
        exact c (ok.e.sep i j xs zs b h z h1 y1)
      exact ⟨b, us, y1, by rw [upd_ne nb]; exact y2, y3, y4, DpAll.up y5 sm⟩
  · rcases at_i z with ⟨_, y⟩ | ⟨c, z⟩
    · cases y
    · exact ok.e.twn j z
  · rcases at_i z1 with ⟨_, y⟩ | ⟨_, z1⟩
    · cases y
    · rcases at_i z2 with ⟨_, y⟩ | ⟨_, z2⟩
      · cases y
      · exact ok.e.sep j l zs us b z1 z2 z3 z4
  · rcases at_i z1 with ⟨_, y⟩ | ⟨_, z1⟩
    · cases y
    · exact ok.o j zs b z1 z2
/-- .. for the time of one look -/
theorem EnvOk.view {i : Nat} {xs : List PyData} (ok : EnvOk K T F H σ ds) (h : ds[i]? = some (.own xs)) : ∃ F', Same F F' ∧ EnvOk K T F' H σ (ds.set i (.dat (.list xs))) := by
  obtain ⟨a, vs, h1, h2, h3, h4, h5⟩ := ok.own i xs h
  have sm : Same F (upd F a (.lst vs)) := fun b o e => by rw [upd_ne (ne_of_none e h2)]; exact e
  have hi : i < ds.length := (List.getElem?_eq_some_iff.mp h).1
  have at_i : ∀ {j : Nat} {s : Slot}, (ds.set i (.dat (.list xs)))[j]? = some s → (i = j ∧ s = .dat (.list xs)) ∨ (i ≠ j ∧ ds[j]? = some s) := fun {j s} q => by
    by_cases c : i = j
    · subst c
      rw [List.getElem?_set_self hi] at q
      exact .inl ⟨rfl, (Option.some.inj q).symm⟩
    · rw [List.getElem?_set_ne c] at q
      exact .inr ⟨c, q⟩
  have fh : Same (upd F a (.lst vs)) H := fun b o e => by
    by_cases c : b = a
    · subst c; rw [upd_same] at e; cases e; exact h4
    · rw [upd_ne c] at e; exact ok.hd.fh b o e
  refine ⟨upd F a (.lst vs), sm, ⟨by rw [List.length_set]; exact ok.len, ⟨fh, fun b e => ?_⟩, fun j d z => ?_, fun j zs z => ?_, fun j z => ?_, fun j l zs us b z1 z2 z3 z4 => ?_⟩⟩
  · have nb : b ≠ a := fun c => h3 (c ▸ e)
    exact ⟨by rw [upd_ne nb]; exact (ok.hd.tw b e).1, (ok.hd.tw b e).2⟩
  · rcases at_i z with ⟨c, y⟩ | ⟨c, z⟩
    · subst c; cases y
      exact ⟨.ref a, h1, .lst (.inl (.inl upd_same)) (DpAll.up h5 sm)⟩
    · obtain ⟨v, y1, y2⟩ := ok.dat j d z
      exact ⟨v, y1, Dp.up y2 sm⟩
  · rcases at_i z with ⟨c, y⟩ | ⟨c, z⟩
    · cases y
    · obtain ⟨b, us, y1, y2, y3, y4, y5⟩ := ok.own j zs z
      have nb : b ≠ a := fun e => by
        subst e
        exact c (ok.sep i j xs zs b h z h1 y1)
      exact ⟨b, us, y1, by rw [upd_ne nb]; exact y2, y3, y4, DpAll.up y5 sm⟩
  · rcases at_i z with ⟨_, y⟩ | ⟨c, z⟩
    · cases y
    · exact ok.twn j z
  · rcases at_i z1 with ⟨_, y⟩ | ⟨_, z1⟩
    · cases y
    · rcases at_i z2 with ⟨_, y⟩ | ⟨_, z2⟩
      · cases y
      · exact ok.sep j l zs us b z1 z2 z3 z4
/-- what was known ahead of a look is known behind it -/
theorem Grow.back {F' F2 H2 : Hp} (hd : Hd T F H) (sm : Same F F') (g : Grow T F' H F2 H2) : Grow T F H F H2 :=
  ⟨.refl F, (sm.trans g.ff).trans g.fh, g.hh, fun b e _ => e, g.tw⟩
end
section
variable {X : Cx} {a b c e : Expr} {ds : DE} {d : PyData} {pos p : Pos} {x y z : Str} {rest sts : List Stmt} {Φ : PyData → Prop} {Nx : DE → Prop} {i j l : Nat} {xs ys : List PyData}
theorem xr_freeze (h : ds[i]? = some (.own xs)) (k : XR X sts (ds.set i (.dat (.list xs))) Φ Nx) : XR X sts ds Φ Nx := fun T F0 H0 F H σ D ok kr kn => by
  obtain ⟨a, vs, sm, _, ok'⟩ := ok.freeze h
  exact k T F0 H0 _ H σ D ok' kr fun σ2 ds2 F2 H2 s2 => kn σ2 ds2 F2 H2 (sm.trans s2)
/-- a test, a number that looks at one's own list -/
theorem xt_view {k : Bool} (h : ds[i]? = some (.own xs)) (t : XT X e (ds.set i (.dat (.list xs))) k) : XT X e ds k := fun T F H σ Q ok q => by
  obtain ⟨F', sm, ok'⟩ := ok.view h
  exact t T F' H σ Q ok' fun F2 H2 g => q F H2 (.back ok.hd sm g)
theorem xe_view {n : Int} (h : ds[i]? = some (.own xs)) (t : XE X e (ds.set i (.dat (.list xs))) (.int n)) : XE X e ds (.int n) := fun T F H σ Q ok q => by
  obtain ⟨F', sm, ok'⟩ := ok.view h
  refine t T F' H σ Q ok' fun v F2 H2 g w => ?_
  rw [dp_int w]
  exact q _ F H2 (.back ok.hd sm g) (.int n)
/-- name, name = data, a new list -/
theorem xr_parDO {px py pt : Pos} {kt k2 pt2} (hc : X.calm = true) (hN : X.N.Nodup) (hi : X.N[i]? = some x) (hj : X.N[j]? = some y) (hij : i ≠ j)
    (hx : X.env.scope.names.lookup x = some .local) (hy : X.env.scope.names.lookup y = some .local) (h1 : XE X a ds d) (h2 : XL X b ds ys)
    (hw : swappedStores [.Tuple [.Name x px, .Name y py] kt pt] (.Tuple [a, b] k2 pt2) X.env = pure (some [x, y])) (s1 : starEach [a, b] X.env = (false, eval a X.env) :: starEach [b] X.env) (s2 : starEach [b] X.env = (false, eval b X.env) :: starEach [] X.env)
    (k : XR X rest ((ds.set i (.dat d)).set j (.own ys)) Φ Nx) (hs : swapsWithSole [.Tuple [.Name x px, .Name y py] kt pt] (.Tuple [a, b] k2 pt2) pos.line X.env = pure false := by rfl) :
    XR X (.Assign [.Tuple [.Name x px, .Name y py] kt pt] (.Tuple [a, b] k2 pt2) pos :: rest) ds Φ Nx := fun T F0 H0 F H σ D ok kr kn =>
  wSs_of (pss_cons (ps_par hc hN hi hj hij hx hy (pa_cons pE (pa_cons pE pa_nil s2) s1) hw hs) pSs) (h1 T F H σ _ ok.e fun v F1 H1 g1 q1 => h2 T F1 H1 σ _ (ok.e.grow g1) fun q vs F2 H2 g2 n f w1 w2 => by
    refine ⟨v, .ref q, rfl, ?_⟩
    have ok1 := ok.grow g1
    have nf := (ok1.set (i := i) q1).e.nofresh n
    exact k T F0 H0 F2 H2 _ D (((ok1.grow g2).set (i := i) (Dp.up q1 g2.ff)).setOwn (ok1.new0 n) f nf.1 nf.2 w1 w2) kr fun σ3 ds3 F3 H3 s3 => kn σ3 ds3 F3 H3 ((g1.ff.trans g2.ff).trans s3))
theorem xr_parOO {px py pt : Pos} {kt k2 pt2} (hc : X.calm = true) (hN : X.N.Nodup) (hi : X.N[i]? = some x) (hj : X.N[j]? = some y) (hij : i ≠ j)
    (hx : X.env.scope.names.lookup x = some .local) (hy : X.env.scope.names.lookup y = some .local) (h1 : XL X a ds xs) (h2 : XL X b ds ys)
    (hw : swappedStores [.Tuple [.Name x px, .Name y py] kt pt] (.Tuple [a, b] k2 pt2) X.env = pure (some [x, y])) (s1 : starEach [a, b] X.env = (false, eval a X.env) :: starEach [b] X.env) (s2 : starEach [b] X.env = (false, eval b X.env) :: starEach [] X.env)
    (k : XR X rest ((ds.set i (.own xs)).set j (.own ys)) Φ Nx) (hs : swapsWithSole [.Tuple [.Name x px, .Name y py] kt pt] (.Tuple [a, b] k2 pt2) pos.line X.env = pure false := by rfl) :
    XR X (.Assign [.Tuple [.Name x px, .Name y py] kt pt] (.Tuple [a, b] k2 pt2) pos :: rest) ds Φ Nx := fun T F0 H0 F H σ D ok kr kn =>
  wSs_of (pss_cons (ps_par hc hN hi hj hij hx hy (pa_cons pE (pa_cons pE pa_nil s2) s1) hw hs) pSs) (h1 T F H σ _ ok.e fun q1 vs1 F1 H1 g1 n1 f1 w1 u1 => h2 T F1 H1 σ _ (ok.e.grow g1) fun q vs F2 H2 g2 n f w2 u2 => by
    refine ⟨.ref q1, .ref q, rfl, ?_⟩
    have ok1 := ok.grow g1
    have nf1 := ok.e.nofresh n1
    have okA := ok1.setOwn (i := i) (ok.new0 n1) f1 nf1.1 nf1.2 w1 u1
    have nf := okA.e.nofresh n
    exact k T F0 H0 F2 H2 _ D ((okA.grow g2).setOwn (ok1.new0 n) f nf.1 nf.2 w2 u2) kr fun σ3 ds3 F3 H3 s3 => kn σ3 ds3 F3 H3 ((g1.ff.trans g2.ff).trans s3))
theorem xr_par3 {px py pz pt : Pos} {kt k2 pt2} {zs : List PyData} (hc : X.calm = true) (hN : X.N.Nodup) (hi : X.N[i]? = some x) (hj : X.N[j]? = some y) (hl : X.N[l]? = some z) (hij : i ≠ j) (hil : i ≠ l) (hjl : j ≠ l)
    (h1 : XE X a ds d) (h2 : XL X b ds ys) (h3 : XL X c ds zs)
    (hp : ∀ ta, PA X [a, b, c] ta → PS X (.Assign [.Tuple [.Name x px, .Name y py, .Name z pz] kt pt] (.Tuple [a, b, c] k2 pt2) pos) (tPar3 i j l ta))
    (s1 : starEach [a, b, c] X.env = (false, eval a X.env) :: starEach [b, c] X.env) (s2 : starEach [b, c] X.env = (false, eval b X.env) :: starEach [c] X.env) (s3 : starEach [c] X.env = (false, eval c X.env) :: starEach [] X.env)
    (k : XR X rest (((ds.set i (.dat d)).set j (.own ys)).set l (.own zs)) Φ Nx) :
    XR X (.Assign [.Tuple [.Name x px, .Name y py, .Name z pz] kt pt] (.Tuple [a, b, c] k2 pt2) pos :: rest) ds Φ Nx := fun T F0 H0 F H σ D ok kr kn =>
  wSs_of (pss_cons (hp _ (pa_cons pE (pa_cons pE (pa_cons pE pa_nil s3) s2) s1)) pSs) (h1 T F H σ _ ok.e fun v F1 H1 g1 q1 => h2 T F1 H1 σ _ (ok.e.grow g1) fun q2 vs2 F2 H2 g2 n2 f2 w2 u2 => h3 T F2 H2 σ _ ((ok.e.grow g1).grow g2) fun q3 vs3 F3 H3 g3 n3 f3 w3 u3 => by
    refine ⟨v, .ref q2, .ref q3, rfl, ?_⟩
    have ok1 := ok.grow g1
    have nf2 := (ok1.set (i := i) q1).e.nofresh n2
    have okA := ((ok1.grow g2).set (i := i) (Dp.up q1 g2.ff)).setOwn (i := j) (ok1.new0 n2) f2 nf2.1 nf2.2 w2 u2
    have nf := okA.e.nofresh n3
    exact k T F0 H0 F3 H3 _ D ((okA.grow g3).setOwn ((ok1.grow g2).new0 n3) f3 nf.1 nf.2 w3 u3) kr fun σ4 ds4 F4 H4 s4 => kn σ4 ds4 F4 H4 (((g1.ff.trans g2.ff).trans g3.ff).trans s4))
end
end TT

namespace TT
open PySem L2

/-! ### trees as data -/
def Tr.pd : Tr → PyData
  | .nil => .tuple []
  | .node l k r => .tuple [l.pd, .int k, r.pd]
theorem pd_lay : ∀ t : Tr, t.pd.canLay0 = true
  | .nil => rfl
  | .node l k r => by
    simp only [Tr.pd, PyData.canLay0, PyData.canLayAll0, pd_lay l, pd_lay r, Bool.and_self]
theorem pd_depth : ∀ t : Tr, t.pd.depth ≤ t.hgt + 1
  | .nil => Nat.le_refl _
  | .node l k r => by
    have a := pd_depth l; have b := pd_depth r
    simp only [Tr.pd, PyData.depth, PyData.depthAll, Tr.hgt]
    omega
theorem pd_shaped {t : Tr} (h : t.hgt ≤ 60) : SeqAt.shaped t.pd = true := by
  have := pd_depth t
  unfold SeqAt.shaped
  rw [pd_lay, Bool.true_and]
  exact decide_eq_true (by omega)
theorem nil_shaped : SeqAt.shaped (.tuple []) = true := pd_shaped (t := .nil) (by decide)
theorem eqv_nil (t : Tr) : PyData.eqv t.pd (.tuple []) = t.isNil := by
  cases t with
  | nil => rfl
  | node l k r => simp only [Tr.pd, PyData.eqv, PyData.eqvAll, Tr.isNil]
theorem eqv_pd : ∀ t u : Tr, PyData.eqv t.pd u.pd = true ↔ t = u
  | .nil, .nil => by simp [Tr.pd, PyData.eqv, PyData.eqvAll]
  | .nil, .node _ _ _ => by simp [Tr.pd, PyData.eqv, PyData.eqvAll]
  | .node _ _ _, .nil => by simp [Tr.pd, PyData.eqv, PyData.eqvAll]
  | .node l k r, .node l' k' r' => by
    have a := eqv_pd l l'; have b := eqv_pd r r'
    simp only [Tr.pd, PyData.eqv, PyData.eqvAll, Bool.and_true, Bool.and_eq_true, beq_iff_eq, a, b, Tr.node.injEq]
theorem eqv_same (t : Tr) : PyData.eqv t.pd t.pd = true := (eqv_pd t t).mpr rfl

/-! ### short words -/
section
variable {X : Cx} {a b c e : Expr} {es : List Expr} {ds : DE} {d : PyData} {pos p p1 : Pos} {x : Str} {t : Tr} {k : Nat} {x1}
theorem xv (i : Nat) (hN : X.N[i]? = some x := by rfl) (hv : Vis X.env.scope x := by first | exact Or.inl rfl | exact Or.inr (Or.inl rfl) | exact Or.inr (Or.inr rfl)) (hd : (x == ("__debug__" : Str)) = false := by decide)
    (hcd : (x == ("__classdict__" : Str)) = false := by decide) (h : ds[i]? = some (.dat d) := by rfl) : XE X (.Name x pos) ds d := x_var hN hv hd hcd h
theorem x_neg {i : Int} (h : XE X a ds (.int i)) : XE X (.UnaryOp .USub a pos) ds (.int (-i)) := fun T F H σ Q ok q =>
  wE_of (pe_un un_neg pE) (h T F H σ _ ok fun v F1 H1 g1 w => ⟨i, dp_int w, q _ F1 H1 g1 (.int _)⟩)
theorem x_at {i : Int} {xs : List PyData} (ha : XE X a ds (.tuple xs)) (hb : XE X b ds (.int i)) (h : atI xs i = some d := by rfl) (hs : PlainIx b := by intro _ _; rfl) : XE X (.Subscript a b pos) ds d := x_ix ix_tup (opd_ixT h) ha hb hs
theorem x_atL {i : Int} {xs : List PyData} (ha : XE X a ds (.list xs)) (hb : XE X b ds (.int i)) (h : atI xs i = some d) (hs : PlainIx b := by intro _ _; rfl) : XE X (.Subscript a b pos) ds d := x_ix ix_list (opd_ixL h) ha hb hs
theorem xt_isNil (hr : Room k X.A) (h : XE X e ds t.pd) (ht : t.hgt ≤ 60) : XT X (.Compare e [.Eq] [.Tuple [] x1 p1] pos) ds t.isNil :=
  (xt_cmp (op_eqD hr.units) (opd_eqD (pd_shaped ht) nil_shaped) h (x_tup xa_nil (Nat.zero_le _)) (nomark _)).of (eqv_nil t)
theorem xt_notNil (hr : Room k X.A) (h : XE X e ds t.pd) (ht : t.hgt ≤ 60) : XT X (.Compare e [.NotEq] [.Tuple [] x1 p1] pos) ds (!t.isNil) :=
  (xt_cmp (op_neD hr.units) (opd_neD (pd_shaped ht) nil_shaped) h (x_tup xa_nil (Nat.zero_le _)) (nomark _)).of (by rw [eqv_nil])
theorem small3 : 3 ≤ sizeLine := by decide
theorem one_small {α : Type} {x : α} : [x].length ≤ sizeLine := (by decide : 1 ≤ sizeLine)
theorem xa1 (h : XE X e ds d) (hs : starEach [e] X.env = (false, eval e X.env) :: starEach [] X.env := by rfl) : XA X [e] ds [d] := xa_cons h xa_nil hs
theorem x_node {l r : Tr} {n : Int} (ha : XE X a ds l.pd) (hb : XE X b ds (.int n)) (hc : XE X c ds r.pd) (h1 : starEach [a, b, c] X.env = (false, eval a X.env) :: starEach [b, c] X.env := by rfl) (h2 : starEach [b, c] X.env = (false, eval b X.env) :: starEach [c] X.env := by rfl) (h3 : starEach [c] X.env = (false, eval c X.env) :: starEach [] X.env := by rfl) :
    XE X (.Tuple [a, b, c] x1 pos) ds (Tr.node l n r).pd := x_tup (xa_cons ha (xa_cons hb (xa_cons hc xa_nil h3) h2) h1) small3
end

/-! ### the text by places -/
def top (i : Nat) : Stmt := PySem.Challenge.pw_turnedtrees_k45_whole_last_asked.main.body.getD i (.Pass ⟨0, 0, 0, 0⟩)
/-- what the top leaves under its names -/
structure Tp (K : PySem.W.Frag) (mg : Str → Option Value) : Prop where
  isinstance : mg "isinstance" = none
  int : mg "int" = none
  bool : mg "bool" = none
  tuple : mg "tuple" = none
  str : mg "str" = none
  list : mg "list" = none
  len : mg "len" = none
  range : mg "range" = none
  sorted : mg "sorted" = none
  all : mg "all" = none
  most : ∃ t, mg "MOST" = some (.int 6 t)
  deeds : ∃ t, mg "DEEDS" = some (.int 40 t)
  family : ∃ a, mg "FAMILY" = some (.ref a) ∧ ∀ F : Hp, Dp K F (.ref a) (.tuple (([("heights" : Str), "levels", "once", "plain", "rebuilt", "splayed", "top", "weights"]).map PyData.str))
section
variable {P : Program} {w : World} {K : PySem.W.Frag} {mg : Str → Option Value} {base : Heap} {f : Addr} {fd : FuncData}
abbrev DefD (P : Program) (w : World) (K : PySem.W.Frag) (mg : Str → Option Value) (base : Heap) := DefOk P w K mg base

/-! ### is_number -/
abbrev sIsNumber : Stmt := top 7
theorem scIsNumber : FnScope ["value", "least", "most"] ["value", "least", "most"] (defScope sIsNumber) := ⟨rfl, rfl, rfl, by decide +kernel, rfl, by decide +kernel, by decide +kernel⟩
def RIsNumber (dl : List PyData) (d : PyData) : Prop := ∃ v lo hi : Int, dl = [.int v, .int lo, .int hi] ∧ d = .bool (decide (lo ≤ v) && decide (v ≤ hi))
theorem ok_is_number (Fn : Fun K "is_number" "is_number" sIsNumber f fd) (hb : Binds K fd ["value", "least", "most"] []) (hm : mg "is_number" = some (.ref f)) (T : Tp K mg) : DefOk P w K mg base 1 "is_number" RIsNumber := by
  refine def_ok Fn scIsNumber hb hm (by rintro _ _ ⟨v, lo, hi, rfl, _⟩; rfl) fun cdv A outer s H E hr dl d hR => ?_
  obtain ⟨v, lo, hi, rfl, rfl⟩ := hR
  refine xr_ret (x_and3 (x_isi (Ty := "int") (n := "int") (k := true) rfl T.isinstance rfl T.int (by decide +kernel) (xv 0) rfl (by decide +kernel)) (fun _ => x_not (x_isi (Ty := "bool") (n := "int") (k := false) rfl T.isinstance rfl T.bool (by decide +kernel) (xv 0) rfl (by decide +kernel)))
    (fun _ _ => x_chain op_le op_le opd_le (fun _ => opd_le) (xv 1) (xv 0) (xv 2) (pe_chain op_le op_le pE pE pE))) ?_
  rfl

/-! ### keys_of -/
abbrev sKeysOf : Stmt := top 11
theorem scKeysOf : FnScope ["shape"] ["shape"] (defScope sKeysOf) := ⟨rfl, rfl, rfl, by decide +kernel, rfl, by decide +kernel, by decide +kernel⟩
def RKeysOf (n : Nat) (dl : List PyData) (d : PyData) : Prop := ∃ t : Tr, dl = [t.pd] ∧ t.hgt < n ∧ t.hgt ≤ 6 ∧ t.keys.length ≤ 1000 ∧ d = .list (t.keys.map PyData.int)
theorem ok_keys_of (Fn : Fun K "keys_of" "keys_of" sKeysOf f fd) (hb : Binds K fd ["shape"] []) (hm : mg "keys_of" = some (.ref f)) : ∀ n, DefOk P w K mg base n "keys_of" (RKeysOf n)
  | 0 => ⟨f, fd, ["shape"], ⟨fun vs H Q E h => by obtain ⟨F, dl, d, _, _, ⟨t, _, z, _⟩, _⟩ := h; exact absurd z (Nat.not_lt_zero _), fun A outer s H args us vs Q E _ _ _ _ h => by obtain ⟨F, dl, d, _, _, ⟨t, _, z, _⟩, _⟩ := h; exact absurd z (Nat.not_lt_zero _)⟩, hm, Fn.kp, hb⟩
  | n + 1 => by
    have ih := ok_keys_of Fn hb hm n
    refine def_ok Fn scKeysOf hb hm (by rintro _ _ ⟨t, rfl, _⟩; rfl) fun cdv A outer s H E hr dl d hR => ?_
    obtain ⟨t, rfl, h1, h2, h3, rfl⟩ := hR
    refine xr_ret (d := .list (t.keys.map PyData.int)) (x_if (xt_notNil hr (xv 0) (by omega)) (fun c => ?_) fun c => ?_) rfl
    · cases t with
      | nil => cases c
      | node l y r =>
        simp only [Tr.hgt] at h1 h2
        have hl := h3
        simp only [Tr.keys, List.length_append, List.length_singleton] at hl
        have e : ((Tr.node l y r).keys.map PyData.int) = (l.keys.map PyData.int ++ [.int y]) ++ r.keys.map PyData.int := by simp [Tr.keys]
        rw [e]
        refine x_op op_catS (opd_cat ?_) (x_op op_catS (opd_cat ?_) (x_call ih hr rfl (xa1 (x_at (xv 0) x_int)) ⟨l, rfl, by omega, by omega, by omega, rfl⟩) (x_lst (xa1 (x_at (xv 0) x_int)) one_small)) (x_call ih hr rfl (xa1 (x_at (xv 0) x_int)) ⟨r, rfl, by omega, by omega, by omega, rfl⟩)
        · simp only [List.length_append, List.length_map, List.length_singleton]
          exact Nat.le_of_lt (small1000 (by omega))
        · simp only [List.length_map, List.length_singleton]
          exact Nat.le_of_lt (small1000 (by omega))
    · cases t with
      | nil => exact x_lst xa_nil (by decide)
      | node l y r => cases c
end
end TT

namespace TT
open PySem L2
section
variable {P : Program} {w : World} {K : PySem.W.Frag} {mg : Str → Option Value} {base : Heap} {f : Addr} {fd : FuncData}
/-- a promise that nothing asks -/
theorem def_none {x qual : Str} {st : Stmt} {ps : List Str} {k : Nat} {R : List PyData → PyData → Prop} (Fn : Fun K x qual st f fd) (hb : Binds K fd ps []) (hm : mg x = some (.ref f)) (no : ∀ dl d, ¬ R dl d) : DefOk P w K mg base k x R :=
  ⟨f, fd, ps, ⟨fun vs H Q E h => by obtain ⟨F, dl, d, _, _, z, _⟩ := h; exact absurd z (no dl d), fun A outer s H args us vs Q E _ _ _ _ h => by obtain ⟨F, dl, d, _, _, z, _⟩ := h; exact absurd z (no dl d)⟩, hm, Fn.kp, hb⟩
theorem DefOk.up {x : Str} {j k : Nat} {R : List PyData → PyData → Prop} (D : DefOk P w K mg base j x R) (h : j ≤ k) : DefOk P w K mg base k x R := by
  obtain ⟨f, fd, ps, G, r⟩ := D.ex
  exact ⟨f, fd, ps, G.mono h, r⟩
/-- asked otherwise -/
theorem DefOk.imp {x : Str} {k : Nat} {R R' : List PyData → PyData → Prop} (D : DefOk P w K mg base k x R) (h : ∀ dl d, R' dl d → R dl d) : DefOk P w K mg base k x R' := by
  obtain ⟨f, fd, ps, G, r⟩ := D.ex
  exact ⟨f, fd, ps, G.imp fun vs H Q E ⟨F, dl, d, a, b, c, q⟩ => ⟨F, dl, d, a, b, h dl d c, q⟩, r⟩
end
section
variable {X : Cx} {ds : DE} {pos p : Pos} {K : PySem.W.Frag} {mg : Str → Option Value}
theorem x_most (T : Tp X.K X.mg) (hg : Gl X "MOST") : XE X (.Name "MOST" pos) ds (.int 6) := by
  obtain ⟨t, h⟩ := T.most
  exact x_glob (v := .int 6) hg h ⟨t, rfl⟩ fun _ => .int 6
end
theorem hgt_l {l r : Tr} {y : Int} {n : Nat} (h : (Tr.node l y r).hgt < n + 1) : l.hgt < n := by simp only [Tr.hgt] at h; omega
theorem hgt_r {l r : Tr} {y : Int} {n : Nat} (h : (Tr.node l y r).hgt < n + 1) : r.hgt < n := by simp only [Tr.hgt] at h; omega
theorem hgt_l6 {l r : Tr} {y : Int} (h : (Tr.node l y r).hgt ≤ 6) : l.hgt ≤ 6 := by simp only [Tr.hgt] at h; omega
theorem hgt_r6 {l r : Tr} {y : Int} (h : (Tr.node l y r).hgt ≤ 6) : r.hgt ≤ 6 := by simp only [Tr.hgt] at h; omega

section
variable {P : Program} {w : World} {K : PySem.W.Frag} {mg : Str → Option Value} {base : Heap} {f : Addr} {fd : FuncData}
/-! ### is_between, is_shape, need_shape -/
abbrev sIsBetween : Stmt := top 8
theorem scIsBetween : FnScope ["value", "low", "high"] ["value", "low", "high"] (defScope sIsBetween) := ⟨rfl, rfl, rfl, by decide +kernel, rfl, by decide +kernel, by decide +kernel⟩
def RIsBetween (n : Nat) (dl : List PyData) (d : PyData) : Prop := ∃ (t : Tr) (lo hi : Int), dl = [t.pd, .int lo, .int hi] ∧ t.hgt < n ∧ t.hgt ≤ 6 ∧ t.Bst lo hi ∧ d = .bool true
theorem ok_is_between (Fn : Fun K "is_between" "is_between" sIsBetween f fd) (hb : Binds K fd ["value", "low", "high"] []) (hm : mg "is_between" = some (.ref f)) (T : Tp K mg) (DN : DefOk P w K mg base 1 "is_number" RIsNumber) : ∀ n, DefOk P w K mg base (n + 1) "is_between" (RIsBetween n)
  | 0 => def_none Fn hb hm fun dl d h => by obtain ⟨t, _, _, _, z, _⟩ := h; exact absurd z (Nat.not_lt_zero _)
  | n + 1 => by
    have ih := ok_is_between Fn hb hm T DN n
    refine def_ok Fn scIsBetween hb hm (by rintro _ _ ⟨t, lo, hi, rfl, _⟩; rfl) fun cdv A outer s H E hr dl d hR => ?_
    obtain ⟨t, lo, hi, rfl, h1, h2, hB, rfl⟩ := hR
    cases t with
    | nil =>
      refine xr_if (k := true) (xt_and2 (k := true) (l := true) (xt_isNil (t := .nil) hr (xv 0) (by omega)) fun _ => xt_val (x_isi (Ty := "tuple") (n := "tuple") (k := true) rfl T.isinstance rfl T.tuple (by decide +kernel) (xv 0) rfl (by decide +kernel))) (fun _ => xr_ret x_bl rfl) nofun
    | node l y r =>
      obtain ⟨b1, b2, b3, b4⟩ := id hB
      refine xr_if (k := false) (xt_and2 (k := false) (l := true) (xt_isNil (t := .node l y r) hr (xv 0) (by omega)) nofun) nofun fun _ => ?_
      refine xr_if (k := false) (xt_or3 (k := false) (l := false) (m := false) (xt_not (k := true) (xt_val (x_isi (Ty := "tuple") (n := "tuple") (k := true) rfl T.isinstance rfl T.tuple (by decide +kernel) (xv 0) rfl (by decide +kernel))))
        (fun _ => xt_cmp op_ne (k := false) opd_neI (x_callB call_len_seq cd_lenT rfl T.len PySem.boot_len (xa1 (xv 0))) x_int (nomark _))
        (fun _ _ => xt_not (k := true) (xt_val ?_))) nofun fun _ => ?_
      · refine x_call (DN.up (Nat.le_add_left 1 n)) hr rfl (xa_cons (x_at (xv 0) x_int) (xa_cons (xv 1) (xa1 (xv 2)))) ⟨y, lo, hi, rfl, ?_⟩
        rw [decide_eq_true b1, decide_eq_true b2]; rfl
      · refine xr_ret (d := .bool (true && true)) (x_and2 (x_call ih hr rfl (xa_cons (x_at (xv 0) x_int) (xa_cons (xv 1) (xa1 (x_op op_sub opd_sub (x_at (xv 0) x_int) x_int)))) ⟨l, lo, y - 1, rfl, hgt_l h1, hgt_l6 h2, b3, rfl⟩) fun _ =>
          x_call ih hr rfl (xa_cons (x_at (xv 0) x_int) (xa_cons (x_op op_add opd_add (x_at (xv 0) x_int) x_int) (xa1 (xv 2)))) ⟨r, y + 1, hi, rfl, hgt_r h1, hgt_r6 h2, b4, rfl⟩) rfl
abbrev sIsShape : Stmt := top 9
theorem scIsShape : FnScope ["candidate"] ["candidate"] (defScope sIsShape) := ⟨rfl, rfl, rfl, by decide +kernel, rfl, by decide +kernel, by decide +kernel⟩
def RIsShape (dl : List PyData) (d : PyData) : Prop := ∃ t : Tr, dl = [t.pd] ∧ t.Bst 1 6 ∧ d = .bool true
theorem ok_is_shape (Fn : Fun K "is_shape" "is_shape" sIsShape f fd) (hb : Binds K fd ["candidate"] []) (hm : mg "is_shape" = some (.ref f)) (T : Tp K mg) (D : DefOk P w K mg base 8 "is_between" (RIsBetween 7)) : DefOk P w K mg base 9 "is_shape" RIsShape := by
  refine def_ok Fn scIsShape hb hm (by rintro _ _ ⟨t, rfl, _⟩; rfl) fun cdv A outer s H E hr dl d hR => ?_
  obtain ⟨t, rfl, hB, rfl⟩ := hR
  have := hB.six
  exact xr_ret (x_call D hr rfl (xa_cons (xv 0) (xa_cons x_int (xa1 (x_most T rfl)))) ⟨t, 1, 6, rfl, by omega, this, hB, rfl⟩) rfl
abbrev sNeedShape : Stmt := top 10
theorem scNeedShape : FnScope ["value"] ["value"] (defScope sNeedShape) := ⟨rfl, rfl, rfl, by decide +kernel, rfl, by decide +kernel, by decide +kernel⟩
def RNeedShape (dl : List PyData) (d : PyData) : Prop := ∃ t : Tr, dl = [t.pd] ∧ t.Bst 1 6 ∧ d = .none
theorem ok_need_shape (Fn : Fun K "need_shape" "need_shape" sNeedShape f fd) (hb : Binds K fd ["value"] []) (hm : mg "need_shape" = some (.ref f)) (D : DefOk P w K mg base 9 "is_shape" RIsShape) : DefOk P w K mg base 10 "need_shape" RNeedShape := by
  refine def_ok Fn scNeedShape hb hm (by rintro _ _ ⟨t, rfl, _⟩; rfl) fun cdv A outer s H E hr dl d hR => ?_
  obtain ⟨t, rfl, hB, rfl⟩ := hR
  exact xr_if (k := false) (xt_not (k := true) (xt_val (x_call D hr rfl (xa1 (xv 0)) ⟨t, rfl, hB, rfl⟩))) nofun fun _ => xr_nil rfl

/-! ### way_to -/
abbrev sWayTo : Stmt := top 14
theorem scWayTo : FnScope ["shape", "key"] ["shape", "key"] (defScope sWayTo) := ⟨rfl, rfl, rfl, by decide +kernel, rfl, by decide +kernel, by decide +kernel⟩
def RWayTo (n : Nat) (dl : List PyData) (d : PyData) : Prop := ∃ (t : Tr) (k : Int), dl = [t.pd, .int k] ∧ t.hgt < n ∧ t.hgt ≤ 6 ∧ d = .int (t.way k : Int)
theorem ok_way_to (Fn : Fun K "way_to" "way_to" sWayTo f fd) (hb : Binds K fd ["shape", "key"] []) (hm : mg "way_to" = some (.ref f)) : ∀ n, DefOk P w K mg base n "way_to" (RWayTo n)
  | 0 => def_none Fn hb hm fun dl d h => by obtain ⟨t, _, _, z, _⟩ := h; exact absurd z (Nat.not_lt_zero _)
  | n + 1 => by
    have ih := ok_way_to Fn hb hm n
    refine def_ok Fn scWayTo hb hm (by rintro _ _ ⟨t, k, rfl, _⟩; rfl) fun cdv A outer s H E hr dl d hR => ?_
    obtain ⟨t, k, rfl, h1, h2, rfl⟩ := hR
    cases t with
    | nil => exact xr_if (k := true) (xt_or2 (k := true) (l := true) (xt_isNil (t := .nil) hr (xv 0) (by omega)) nofun) (fun _ => xr_ret x_int rfl) nofun
    | node l y r =>
      refine xr_if (k := false || decide (y = k)) (xt_or2 (xt_isNil (t := .node l y r) hr (xv 0) (by omega)) fun _ => xt_cmp op_eq opd_eqI (x_at (xv 0) x_int) (xv 1) (nomark _)) (fun c => ?_) fun c => ?_
      · have e : y = k := by simpa using c
        exact xr_ret x_int (by simp [Tr.way, e])
      · have e : y ≠ k := by simpa using c
        by_cases q : k < y
        · refine xr_ret (x_op op_add opd_add x_int (x_call ih hr rfl (xa_cons (x_if (k := true) ((xt_cmp op_lt opd_lt (xv 1) (x_at (xv 0) x_int) (nomark _)).of (decide_eq_true q)) (fun _ => x_at (xv 0) x_int) nofun) (xa1 (xv 1))) ⟨l, k, rfl, hgt_l h1, hgt_l6 h2, rfl⟩)) ?_
          rw [Tr.way, if_neg e, if_pos q, Int.natCast_add]; rfl
        · refine xr_ret (x_op op_add opd_add x_int (x_call ih hr rfl (xa_cons (x_if (k := false) ((xt_cmp op_lt opd_lt (xv 1) (x_at (xv 0) x_int) (nomark _)).of (decide_eq_false q)) nofun (fun _ => x_at (xv 0) x_int)) (xa1 (xv 1))) ⟨r, k, rfl, hgt_r h1, hgt_r6 h2, rfl⟩)) ?_
          rw [Tr.way, if_neg e, if_neg q, Int.natCast_add]; rfl

/-! ### rotations -/
abbrev sLeftUp : Stmt := top 16
theorem scLeftUp : FnScope ["part", "left", "top", "right"] ["part"] (defScope sLeftUp) := ⟨rfl, rfl, rfl, by decide +kernel, rfl, by decide +kernel, by decide +kernel⟩
def RLeftUp (dl : List PyData) (d : PyData) : Prop := ∃ (a b c : Tr) (x y : Int), dl = [(Tr.node (.node a x b) y c).pd] ∧ d = (Tr.node a x (.node b y c)).pd
theorem ok_left_up (Fn : Fun K "left_up" "left_up" sLeftUp f fd) (hb : Binds K fd ["part"] []) (hm : mg "left_up" = some (.ref f)) : DefOk P w K mg base 1 "left_up" RLeftUp := by
  refine def_ok Fn scLeftUp hb hm (by rintro _ _ ⟨a, b, c, x, y, rfl, _⟩; rfl) fun cdv A outer s H E hr dl d hR => ?_
  obtain ⟨a, b, c, x, y, rfl, rfl⟩ := hR
  refine xr_asg (xv 0) (pg_tup rfl (pgs_cons (pg_name (i := 1) scLeftUp.nd rfl (.inl rfl)) (pgs_cons (pg_name (i := 2) scLeftUp.nd rfl (.inl rfl)) (pgs_cons (pg_name (i := 3) scLeftUp.nd rfl (.inl rfl)) pgs_nil)))) gd_tup3 ?_
  exact xr_ret (x_node (x_at (xv 1) x_int) (x_at (xv 1) x_int) (x_node (x_at (xv 1) x_int) (xv 2) (xv 3))) rfl
abbrev sRightUp : Stmt := top 17
theorem scRightUp : FnScope ["part", "left", "top", "right"] ["part"] (defScope sRightUp) := ⟨rfl, rfl, rfl, by decide +kernel, rfl, by decide +kernel, by decide +kernel⟩
def RRightUp (dl : List PyData) (d : PyData) : Prop := ∃ (a b c : Tr) (x y : Int), dl = [(Tr.node a x (.node b y c)).pd] ∧ d = (Tr.node (.node a x b) y c).pd
theorem ok_right_up (Fn : Fun K "right_up" "right_up" sRightUp f fd) (hb : Binds K fd ["part"] []) (hm : mg "right_up" = some (.ref f)) : DefOk P w K mg base 1 "right_up" RRightUp := by
  refine def_ok Fn scRightUp hb hm (by rintro _ _ ⟨a, b, c, x, y, rfl, _⟩; rfl) fun cdv A outer s H E hr dl d hR => ?_
  obtain ⟨a, b, c, x, y, rfl, rfl⟩ := hR
  refine xr_asg (xv 0) (pg_tup rfl (pgs_cons (pg_name (i := 1) scRightUp.nd rfl (.inl rfl)) (pgs_cons (pg_name (i := 2) scRightUp.nd rfl (.inl rfl)) (pgs_cons (pg_name (i := 3) scRightUp.nd rfl (.inl rfl)) pgs_nil)))) gd_tup3 ?_
  exact xr_ret (x_node (x_node (xv 1) (xv 2) (x_at (xv 3) x_int)) (x_at (xv 3) x_int) (x_at (xv 3) x_int)) rfl
abbrev sTurned : Stmt := top 18
theorem scTurned : FnScope ["shape", "key", "left", "top", "right"] ["shape", "key"] (defScope sTurned) := ⟨rfl, rfl, rfl, by decide +kernel, rfl, by decide +kernel, by decide +kernel⟩
def RTurned (n : Nat) (dl : List PyData) (d : PyData) : Prop := ∃ (t : Tr) (k lo hi : Int), dl = [t.pd, .int k] ∧ t.hgt < n ∧ t.hgt ≤ 6 ∧ t.Bst lo hi ∧ k ∈ t.keys ∧ t.top ≠ k ∧ d = (t.turned k).pd
theorem ok_turned (Fn : Fun K "turned" "turned" sTurned f fd) (hb : Binds K fd ["shape", "key"] []) (hm : mg "turned" = some (.ref f)) (DL : DefOk P w K mg base 1 "left_up" RLeftUp) (DR : DefOk P w K mg base 1 "right_up" RRightUp) : ∀ n, DefOk P w K mg base (n + 1) "turned" (RTurned n)
  | 0 => def_none Fn hb hm fun dl d h => by obtain ⟨t, _, _, _, _, z, _⟩ := h; exact absurd z (Nat.not_lt_zero _)
  | n + 1 => by
    have ih := ok_turned Fn hb hm DL DR n
    refine def_ok Fn scTurned hb hm (by rintro _ _ ⟨t, k, _, _, rfl, _⟩; rfl) fun cdv A outer s H E hr dl d hR => ?_
    obtain ⟨t, k, lo, hi, rfl, h1, h2, hB, hk, ht, rfl⟩ := hR
    cases t with
    | nil => cases hk
    | node l y r =>
      have ne : y ≠ k := ht
      refine xr_asg (xv 0) (pg_tup rfl (pgs_cons (pg_name (i := 2) scTurned.nd rfl (.inl rfl)) (pgs_cons (pg_name (i := 3) scTurned.nd rfl (.inl rfl)) (pgs_cons (pg_name (i := 4) scTurned.nd rfl (.inl rfl)) pgs_nil)))) gd_tup3 ?_
      by_cases q : k < y
      · refine xr_if (k := true) ((xt_cmp op_lt opd_lt (xv 1) (xv 3) (nomark _)).of (decide_eq_true q)) (fun _ => ?_) nofun
        have kl := Tr.mem_left hB hk q
        cases l with
        | nil => cases kl
        | node a x b =>
          by_cases e : x = k
          · refine xr_ret (d := ((Tr.node (.node a x b) y r).turned k).pd) (x_if (k := true) ((xt_cmp op_eq opd_eqI (x_at (xv 2) x_int) (xv 1) (nomark _)).of (decide_eq_true e)) (fun _ => ?_) nofun) rfl
            refine x_call (DL.up (Nat.le_add_left 1 n)) hr rfl (xa1 (xv 0)) ⟨a, b, r, x, y, rfl, ?_⟩
            rw [Tr.turned, if_pos q, if_pos (show (Tr.node a x b).top = k from e)]; rfl
          · refine xr_ret (d := ((Tr.node (.node a x b) y r).turned k).pd) (x_if (k := false) ((xt_cmp op_eq opd_eqI (x_at (xv 2) x_int) (xv 1) (nomark _)).of (decide_eq_false e)) nofun (fun _ => ?_)) rfl
            rw [Tr.turned, if_pos q, if_neg (show (Tr.node a x b).top ≠ k from e)]
            exact x_node (x_call ih hr rfl (xa_cons (xv 2) (xa1 (xv 1))) ⟨.node a x b, k, _, _, rfl, hgt_l h1, hgt_l6 h2, hB.2.2.1, kl, e, rfl⟩) (xv 3) (xv 4)
      · refine xr_if (k := false) ((xt_cmp op_lt opd_lt (xv 1) (xv 3) (nomark _)).of (decide_eq_false q)) nofun (fun _ => ?_)
        have kr := Tr.mem_right hB hk (by omega)
        cases r with
        | nil => cases kr
        | node a x b =>
          by_cases e : x = k
          · refine xr_ret (d := ((Tr.node l y (.node a x b)).turned k).pd) (x_if (k := true) ((xt_cmp op_eq opd_eqI (x_at (xv 4) x_int) (xv 1) (nomark _)).of (decide_eq_true e)) (fun _ => ?_) nofun) rfl
            refine x_call (DR.up (Nat.le_add_left 1 n)) hr rfl (xa1 (xv 0)) ⟨l, a, b, y, x, rfl, ?_⟩
            rw [Tr.turned, if_neg q, if_pos (show (Tr.node a x b).top = k from e)]; rfl
          · refine xr_ret (d := ((Tr.node l y (.node a x b)).turned k).pd) (x_if (k := false) ((xt_cmp op_eq opd_eqI (x_at (xv 4) x_int) (xv 1) (nomark _)).of (decide_eq_false e)) nofun (fun _ => ?_)) rfl
            rw [Tr.turned, if_neg q, if_neg (show (Tr.node a x b).top ≠ k from e)]
            exact x_node (xv 2) (xv 3) (x_call ih hr rfl (xa_cons (xv 4) (xa1 (xv 1))) ⟨.node a x b, k, _, _, rfl, hgt_r h1, hgt_r6 h2, hB.2.2.2, kr, e, rfl⟩)
end
end TT

namespace TT
open PySem L2
section
variable {P : Program} {w : World} {K : PySem.W.Frag} {mg : Str → Option Value} {base : Heap} {f : Addr} {fd : FuncData}
/-! ### with_leaf, least, greatest -/
abbrev sWithLeaf : Stmt := top 20
theorem scWithLeaf : FnScope ["shape", "key", "left", "top", "right"] ["shape", "key"] (defScope sWithLeaf) := ⟨rfl, rfl, rfl, by decide +kernel, rfl, by decide +kernel, by decide +kernel⟩
def RWithLeaf (n : Nat) (dl : List PyData) (d : PyData) : Prop := ∃ (t : Tr) (k : Int), dl = [t.pd, .int k] ∧ t.hgt < n ∧ t.hgt ≤ 6 ∧ d = (t.withLeaf k).pd
theorem ok_with_leaf (Fn : Fun K "with_leaf" "with_leaf" sWithLeaf f fd) (hb : Binds K fd ["shape", "key"] []) (hm : mg "with_leaf" = some (.ref f)) : ∀ n, DefOk P w K mg base n "with_leaf" (RWithLeaf n)
  | 0 => def_none Fn hb hm fun dl d h => by obtain ⟨t, _, _, z, _⟩ := h; exact absurd z (Nat.not_lt_zero _)
  | n + 1 => by
    have ih := ok_with_leaf Fn hb hm n
    refine def_ok Fn scWithLeaf hb hm (by rintro _ _ ⟨t, k, rfl, _⟩; rfl) fun cdv A outer s H E hr dl d hR => ?_
    obtain ⟨t, k, rfl, h1, h2, rfl⟩ := hR
    cases t with
    | nil => exact xr_if (k := true) (xt_isNil (t := .nil) hr (xv 0) (by omega)) (fun _ => xr_ret (x_node (l := .nil) (r := .nil) (x_tup xa_nil (Nat.zero_le _)) (xv 1) (x_tup xa_nil (Nat.zero_le _))) rfl) nofun
    | node l y r =>
      refine xr_if (k := false) (xt_isNil (t := .node l y r) hr (xv 0) (by omega)) nofun fun _ => ?_
      refine xr_asg (xv 0) (pg_tup rfl (pgs_cons (pg_name (i := 2) scWithLeaf.nd rfl (.inl rfl)) (pgs_cons (pg_name (i := 3) scWithLeaf.nd rfl (.inl rfl)) (pgs_cons (pg_name (i := 4) scWithLeaf.nd rfl (.inl rfl)) pgs_nil)))) gd_tup3 ?_
      by_cases q : k < y
      · refine xr_ret (d := ((Tr.node l y r).withLeaf k).pd) (x_if (k := true) ((xt_cmp op_lt opd_lt (xv 1) (xv 3) (nomark _)).of (decide_eq_true q)) (fun _ => ?_) nofun) rfl
        rw [Tr.withLeaf, if_pos q]
        exact x_node (x_call ih hr rfl (xa_cons (xv 2) (xa1 (xv 1))) ⟨l, k, rfl, hgt_l h1, hgt_l6 h2, rfl⟩) (xv 3) (xv 4)
      · refine xr_ret (d := ((Tr.node l y r).withLeaf k).pd) (x_if (k := false) ((xt_cmp op_lt opd_lt (xv 1) (xv 3) (nomark _)).of (decide_eq_false q)) nofun (fun _ => ?_)) rfl
        rw [Tr.withLeaf, if_neg q]
        exact x_node (xv 2) (xv 3) (x_call ih hr rfl (xa_cons (xv 4) (xa1 (xv 1))) ⟨r, k, rfl, hgt_r h1, hgt_r6 h2, rfl⟩)
abbrev sLeast : Stmt := top 21
theorem scLeast : FnScope ["shape"] ["shape"] (defScope sLeast) := ⟨rfl, rfl, rfl, by decide +kernel, rfl, by decide +kernel, by decide +kernel⟩
def RLeast (n : Nat) (dl : List PyData) (d : PyData) : Prop := ∃ t : Tr, dl = [t.pd] ∧ t ≠ .nil ∧ t.hgt < n ∧ t.hgt ≤ 6 ∧ d = .int t.least
theorem ok_least (Fn : Fun K "least" "least" sLeast f fd) (hb : Binds K fd ["shape"] []) (hm : mg "least" = some (.ref f)) : ∀ n, DefOk P w K mg base n "least" (RLeast n)
  | 0 => def_none Fn hb hm fun dl d h => by obtain ⟨t, _, _, z, _⟩ := h; exact absurd z (Nat.not_lt_zero _)
  | n + 1 => by
    have ih := ok_least Fn hb hm n
    refine def_ok Fn scLeast hb hm (by rintro _ _ ⟨t, rfl, _⟩; rfl) fun cdv A outer s H E hr dl d hR => ?_
    obtain ⟨t, rfl, h0, h1, h2, rfl⟩ := hR
    cases t with
    | nil => exact absurd rfl h0
    | node l y r =>
      refine xr_ret (d := .int (Tr.node l y r).least) (x_if (k := l.isNil) (xt_isNil hr (x_at (xv 0) x_int) (by have := hgt_l6 h2; omega)) (fun c => ?_) fun c => ?_) rfl
      · rw [Tr.least, if_pos c]
        exact x_at (xv 0) x_int
      · rw [Tr.least, if_neg (by rw [c]; exact Bool.false_ne_true)]
        exact x_call ih hr rfl (xa1 (x_at (xv 0) x_int)) ⟨l, rfl, (fun z => by rw [z] at c; cases c), hgt_l h1, hgt_l6 h2, rfl⟩
abbrev sGreatest : Stmt := top 22
theorem scGreatest : FnScope ["shape"] ["shape"] (defScope sGreatest) := ⟨rfl, rfl, rfl, by decide +kernel, rfl, by decide +kernel, by decide +kernel⟩
def RGreatest (n : Nat) (dl : List PyData) (d : PyData) : Prop := ∃ t : Tr, dl = [t.pd] ∧ t ≠ .nil ∧ t.hgt < n ∧ t.hgt ≤ 6 ∧ d = .int t.greatest
theorem ok_greatest (Fn : Fun K "greatest" "greatest" sGreatest f fd) (hb : Binds K fd ["shape"] []) (hm : mg "greatest" = some (.ref f)) : ∀ n, DefOk P w K mg base n "greatest" (RGreatest n)
  | 0 => def_none Fn hb hm fun dl d h => by obtain ⟨t, _, _, z, _⟩ := h; exact absurd z (Nat.not_lt_zero _)
  | n + 1 => by
    have ih := ok_greatest Fn hb hm n
    refine def_ok Fn scGreatest hb hm (by rintro _ _ ⟨t, rfl, _⟩; rfl) fun cdv A outer s H E hr dl d hR => ?_
    obtain ⟨t, rfl, h0, h1, h2, rfl⟩ := hR
    cases t with
    | nil => exact absurd rfl h0
    | node l y r =>
      refine xr_ret (d := .int (Tr.node l y r).greatest) (x_if (k := r.isNil) (xt_isNil hr (x_at (xv 0) x_int) (by have := hgt_r6 h2; omega)) (fun c => ?_) fun c => ?_) rfl
      · rw [Tr.greatest, if_pos c]
        exact x_at (xv 0) x_int
      · rw [Tr.greatest, if_neg (by rw [c]; exact Bool.false_ne_true)]
        exact x_call ih hr rfl (xa1 (x_at (xv 0) x_int)) ⟨r, rfl, (fun z => by rw [z] at c; cases c), hgt_r h1, hgt_r6 h2, rfl⟩
/-! ### without -/
abbrev sWithout : Stmt := top 23
theorem scWithout : FnScope ["shape", "key", "left", "top", "right", "new"] ["shape", "key"] (defScope sWithout) := ⟨rfl, rfl, rfl, by decide +kernel, rfl, by decide +kernel, by decide +kernel⟩
def RWithout (n : Nat) (dl : List PyData) (d : PyData) : Prop := ∃ (t : Tr) (k lo hi : Int), dl = [t.pd, .int k] ∧ t.hgt < n ∧ t.hgt ≤ 6 ∧ t.Bst lo hi ∧ k ∈ t.keys ∧ d = (t.without k).pd
theorem ok_without (Fn : Fun K "without" "without" sWithout f fd) (hb : Binds K fd ["shape", "key"] []) (hm : mg "without" = some (.ref f)) (DL : DefOk P w K mg base 7 "least" (RLeast 7)) : ∀ n, DefOk P w K mg base (n + 7) "without" (RWithout n)
  | 0 => def_none Fn hb hm fun dl d h => by obtain ⟨t, _, _, _, _, z, _⟩ := h; exact absurd z (Nat.not_lt_zero _)
  | n + 1 => by
    have ih := ok_without Fn hb hm DL n
    rw [Nat.succ_add]
    refine def_ok Fn scWithout hb hm (by rintro _ _ ⟨t, k, _, _, rfl, _⟩; rfl) fun cdv A outer s H E hr dl d hR => ?_
    obtain ⟨t, k, lo, hi, rfl, h1, h2, hB, hk, rfl⟩ := hR
    cases t with
    | nil => cases hk
    | node l y r =>
      have hl6 := hgt_l6 h2
      have hr6 := hgt_r6 h2
      refine xr_asg (xv 0) (pg_tup rfl (pgs_cons (pg_name (i := 2) scWithout.nd rfl (.inl rfl)) (pgs_cons (pg_name (i := 3) scWithout.nd rfl (.inl rfl)) (pgs_cons (pg_name (i := 4) scWithout.nd rfl (.inl rfl)) pgs_nil)))) gd_tup3 ?_
      refine xr_if (xt_cmp op_lt opd_lt (xv 1) (xv 3) (nomark _)) (fun q => ?_) fun q => ?_
      · have q := of_decide_eq_true q
        refine xr_ret (d := ((Tr.node l y r).without k).pd) ?_ rfl
        rw [Tr.without, if_pos q]
        exact x_node (x_call ih hr rfl (xa_cons (xv 2) (xa1 (xv 1))) ⟨l, k, _, _, rfl, hgt_l h1, hl6, hB.2.2.1, Tr.mem_left hB hk q, rfl⟩) (xv 3) (xv 4)
      · have q := of_decide_eq_false q
        refine xr_if (xt_cmp op_gt opd_gt (xv 1) (xv 3) (nomark _)) (fun q2 => ?_) fun q2 => ?_
        · have q2 := of_decide_eq_true q2
          refine xr_ret (d := ((Tr.node l y r).without k).pd) ?_ rfl
          rw [Tr.without, if_neg q, if_pos q2]
          exact x_node (xv 2) (xv 3) (x_call ih hr rfl (xa_cons (xv 4) (xa1 (xv 1))) ⟨r, k, _, _, rfl, hgt_r h1, hr6, hB.2.2.2, Tr.mem_right hB hk q2, rfl⟩)
        · have q2 := of_decide_eq_false q2
          refine xr_if (k := l.isNil || r.isNil) (xt_or2 (xt_isNil hr (xv 2) (by omega)) fun _ => xt_isNil hr (xv 4) (by omega)) (fun c => ?_) fun c => ?_
          · refine xr_ret (d := ((Tr.node l y r).without k).pd) ?_ rfl
            rw [Tr.without, if_neg q, if_neg q2, if_pos c]
            refine x_if (k := r.isNil) (xt_isNil hr (xv 4) (by omega)) (fun c2 => ?_) fun c2 => ?_
            · rw [if_pos c2]; exact xv 2
            · rw [if_neg (by rw [c2]; exact Bool.false_ne_true)]; exact xv 4
          · have nr : r ≠ .nil := fun z => by rw [z] at c; simp [Tr.isNil] at c
            refine xr_set (i := 5) scWithout.nd rfl (.inl rfl) (x_call (DL.up (Nat.le_add_left 7 n)) hr rfl (xa1 (xv 4)) ⟨r, rfl, nr, by omega, hr6, rfl⟩) ?_
            refine xr_ret (d := ((Tr.node l y r).without k).pd) ?_ rfl
            rw [Tr.without, if_neg q, if_neg q2, if_neg (by rw [c]; exact Bool.false_ne_true)]
            exact x_node (xv 2) (xv 5) (x_call ih hr rfl (xa_cons (xv 4) (xa1 (xv 5))) ⟨r, _, _, _, rfl, hgt_r h1, hr6, hB.2.2.2, Tr.least_mem nr, rfl⟩)
/-! ### going up -/
theorem pd_node {t : Tr} (h : t ≠ .nil) : t.pd = .tuple [t.lft.pd, .int t.top, t.rgt.pd] := by
  cases t with
  | nil => exact absurd rfl h
  | node l k r => rfl
theorem ne_of_key {t : Tr} {k : Int} (h : k ∈ t.keys) : t ≠ .nil := by rintro rfl; cases h
section
variable {X : Cx} {e e2 : Expr} {ds : DE} {pos : Pos} {t : Tr}
theorem x_top1 {j} {p2 : Pos} (n : t ≠ .nil) (h : XE X e ds t.pd) : XE X (.Subscript e (.Constant (.int 1) j p2) pos) ds (.int t.top) := by
  rw [pd_node n] at h
  exact x_at h x_int
end
abbrev sOnceUp : Stmt := top 24
theorem scOnceUp : FnScope ["shape", "key"] ["shape", "key"] (defScope sOnceUp) := ⟨rfl, rfl, rfl, by decide +kernel, rfl, by decide +kernel, by decide +kernel⟩
def ROnceUp (dl : List PyData) (d : PyData) : Prop := ∃ (t : Tr) (k : Int), dl = [t.pd, .int k] ∧ t.Bst 1 6 ∧ k ∈ t.keys ∧ d = (t.onceUp k).pd
theorem ok_once_up (Fn : Fun K "once_up" "once_up" sOnceUp f fd) (hb : Binds K fd ["shape", "key"] []) (hm : mg "once_up" = some (.ref f)) (DT : DefOk P w K mg base 8 "turned" (RTurned 7)) : DefOk P w K mg base 9 "once_up" ROnceUp := by
  refine def_ok Fn scOnceUp hb hm (by rintro _ _ ⟨t, k, rfl, _⟩; rfl) fun cdv A outer s H E hr dl d hR => ?_
  obtain ⟨t, k, rfl, hB, hk, rfl⟩ := hR
  refine xr_ret (d := (t.onceUp k).pd) (x_if (xt_cmp op_eq opd_eqI (x_top1 (ne_of_key hk) (xv 0)) (xv 1) (nomark _)) (fun c => ?_) fun c => ?_) rfl
  · rw [Tr.onceUp, if_pos (of_decide_eq_true c)]; exact xv 0
  · rw [Tr.onceUp, if_neg (of_decide_eq_false c)]
    exact x_call DT hr rfl (xa_cons (xv 0) (xa1 (xv 1))) ⟨t, k, 1, 6, rfl, by have := hB.six; omega, hB.six, hB, hk, of_decide_eq_false c, rfl⟩
abbrev sToTop : Stmt := top 25
theorem scToTop : FnScope ["shape", "key"] ["shape", "key"] (defScope sToTop) := ⟨rfl, rfl, rfl, by decide +kernel, rfl, by decide +kernel, by decide +kernel⟩
def RToTop (dl : List PyData) (d : PyData) : Prop := ∃ (t : Tr) (k : Int), dl = [t.pd, .int k] ∧ t.Bst 1 6 ∧ k ∈ t.keys ∧ d = (t.toTop k).pd
theorem ok_to_top (Fn : Fun K "to_top" "to_top" sToTop f fd) (hb : Binds K fd ["shape", "key"] []) (hm : mg "to_top" = some (.ref f)) (DT : DefOk P w K mg base 8 "turned" (RTurned 7)) : DefOk P w K mg base 9 "to_top" RToTop := by
  refine def_ok Fn scToTop hb hm (by rintro _ _ ⟨t, k, rfl, _⟩; rfl) fun cdv A outer s H E hr dl d hR => ?_
  obtain ⟨t, k, rfl, hB, hk, rfl⟩ := hR
  refine xr_while (fun m ds => ∃ u : Tr, ds = [.dat u.pd, .dat (.int k)] ∧ u.Bst 1 6 ∧ k ∈ u.keys ∧ u.toTop k = t.toTop k ∧ u.way k = m) (t.way k) ⟨t, rfl, hB, hk, rfl, rfl⟩ PassesOwn.never fun m ds' i => ?_
  obtain ⟨u, rfl, uB, uk, ut, um⟩ := i
  refine ⟨_, xt_cmp op_ne opd_neI (x_top1 (ne_of_key uk) (xv 0)) (xv 1) (nomark _), fun c => ?_, fun c => ?_⟩
  · have c' : u.top ≠ k := by simpa using c
    have kk := Tr.keys_turned u k
    refine xr_set (i := 0) scToTop.nd rfl (.inl rfl) (x_call DT hr rfl (xa_cons (xv 0) (xa1 (xv 1))) ⟨u, k, 1, 6, rfl, by have := uB.six; omega, uB.six, uB, uk, c', rfl⟩) ?_
    refine xr_nil ⟨(u.turned k).way k, ?_, u.turned k, rfl, uB.of_keys kk, by rw [kk]; exact uk, ?_, rfl⟩
    · have := Tr.way_turned uB uk c'; omega
    · rw [← ut]
      unfold Tr.toTop
      rw [Tr.lt_turned u k c', Tr.gt_turned u k c']
  · have c' : u.top = k := by simpa using c
    refine xr_ret (xv 0) ?_
    rw [← ut, Tr.toTop_top uk c']
abbrev sWayDown : Stmt := top 26
theorem scWayDown : FnScope ["shape", "key"] ["shape", "key"] (defScope sWayDown) := ⟨rfl, rfl, rfl, by decide +kernel, rfl, by decide +kernel, by decide +kernel⟩
def RWayDown (n : Nat) (dl : List PyData) (d : PyData) : Prop := ∃ (t : Tr) (k lo hi : Int), dl = [t.pd, .int k] ∧ t.hgt < n ∧ t.hgt ≤ 6 ∧ t.Bst lo hi ∧ k ∈ t.keys ∧ d = .list ((t.wayDown k).map PyData.int)
theorem ok_way_down (Fn : Fun K "way_down" "way_down" sWayDown f fd) (hb : Binds K fd ["shape", "key"] []) (hm : mg "way_down" = some (.ref f)) : ∀ n, DefOk P w K mg base n "way_down" (RWayDown n)
  | 0 => def_none Fn hb hm fun dl d h => by obtain ⟨t, _, _, _, _, z, _⟩ := h; exact absurd z (Nat.not_lt_zero _)
  | n + 1 => by
    have ih := ok_way_down Fn hb hm n
    refine def_ok Fn scWayDown hb hm (by rintro _ _ ⟨t, k, _, _, rfl, _⟩; rfl) fun cdv A outer s H E hr dl d hR => ?_
    obtain ⟨t, k, lo, hi, rfl, h1, h2, hB, hk, rfl⟩ := hR
    cases t with
    | nil => cases hk
    | node l y r =>
      refine xr_if (xt_cmp op_eq opd_eqI (x_at (xv 0) x_int) (xv 1) (nomark _)) (fun c => ?_) fun c => ?_
      · refine xr_ret (x_lst (xa1 (xv 1)) one_small) ?_
        rw [Tr.wayDown, if_pos (of_decide_eq_true c)]; rfl
      · have e := of_decide_eq_false c
        have len : ∀ (s : Tr) (lo hi : Int), s.Bst lo hi → k ∈ s.keys → s.hgt ≤ 6 → 1 + ((s.wayDown k).map PyData.int).length ≤ sizeLine := fun s lo hi a b c => by
          rw [List.length_map, Tr.wayDown_len a b]
          have := Tr.way_le s k
          exact Nat.le_of_lt (small1000 (by omega))
        by_cases q : k < y
        · have kl := Tr.mem_left hB hk q
          refine xr_ret (x_op op_catS (opd_cat (xs := [.int y]) (len l _ _ hB.2.2.1 kl (hgt_l6 h2))) (x_lst (xa1 (x_at (xv 0) x_int)) one_small) (x_call ih hr rfl (xa_cons (x_if (k := true) ((xt_cmp op_lt opd_lt (xv 1) (x_at (xv 0) x_int) (nomark _)).of (decide_eq_true q)) (fun _ => x_at (xv 0) x_int) nofun) (xa1 (xv 1))) ⟨l, k, _, _, rfl, hgt_l h1, hgt_l6 h2, hB.2.2.1, kl, rfl⟩)) ?_
          rw [Tr.wayDown, if_neg e, if_pos q]; rfl
        · have kr := Tr.mem_right hB hk (by omega)
          refine xr_ret (x_op op_catS (opd_cat (xs := [.int y]) (len r _ _ hB.2.2.2 kr (hgt_r6 h2))) (x_lst (xa1 (x_at (xv 0) x_int)) one_small) (x_call ih hr rfl (xa_cons (x_if (k := false) ((xt_cmp op_lt opd_lt (xv 1) (x_at (xv 0) x_int) (nomark _)).of (decide_eq_false q)) nofun (fun _ => x_at (xv 0) x_int)) (xa1 (xv 1))) ⟨r, k, _, _, rfl, hgt_r h1, hgt_r6 h2, hB.2.2.2, kr, rfl⟩)) ?_
          rw [Tr.wayDown, if_neg e, if_neg q]; rfl
/-! ### splaying -/
abbrev sSplayed : Stmt := top 27
theorem scSplayed : FnScope ["shape", "key", "grand", "parent", "first"] ["shape", "key"] (defScope sSplayed) := ⟨rfl, rfl, rfl, by decide +kernel, rfl, by decide +kernel, by decide +kernel⟩
def RSplayed (dl : List PyData) (d : PyData) : Prop := ∃ (t : Tr) (k : Int), dl = [t.pd, .int k] ∧ t.Bst 1 6 ∧ k ∈ t.keys ∧ d = (t.splay k).pd
theorem last_two (w : List Int) (g p k : Int) : (((w ++ [g, p, k]).map PyData.int).drop (HT.sIx ((w ++ [g, p, k]).map PyData.int).length 0 (some (-3)))).take (HT.sIx ((w ++ [g, p, k]).map PyData.int).length ((w ++ [g, p, k]).map PyData.int).length (some (-1)) - HT.sIx ((w ++ [g, p, k]).map PyData.int).length 0 (some (-3))) = [.int g, .int p] := by
  have hl : ((w ++ [g, p, k]).map PyData.int).length = w.length + 3 := by simp
  have e1 : HT.sIx (w.length + 3) 0 (some (-3)) = w.length := by
    show (if (-3 : Int) < 0 then ((-3 : Int) + ((w.length + 3 : Nat) : Int)).toNat else min (-3 : Int).toNat (w.length + 3)) = _
    rw [if_pos (by omega)]; omega
  have e2 : HT.sIx (w.length + 3) (w.length + 3) (some (-1)) = w.length + 2 := by
    show (if (-1 : Int) < 0 then ((-1 : Int) + ((w.length + 3 : Nat) : Int)).toNat else min (-1 : Int).toNat (w.length + 3)) = _
    rw [if_pos (by omega)]; omega
  rw [hl, e1, e2, show w.length + 2 - w.length = 2 by omega, List.map_append, List.drop_append_of_le_length (by rw [List.length_map]; exact Nat.le_refl _), List.drop_of_length_le (by rw [List.length_map]; exact Nat.le_refl _)]
  rfl
theorem ok_splayed (Fn : Fun K "splayed" "splayed" sSplayed f fd) (hb : Binds K fd ["shape", "key"] []) (hm : mg "splayed" = some (.ref f)) (DT : DefOk P w K mg base 8 "turned" (RTurned 7)) (DW : DefOk P w K mg base 7 "way_to" (RWayTo 7)) (DD : DefOk P w K mg base 7 "way_down" (RWayDown 7)) (DO : DefOk P w K mg base 9 "once_up" ROnceUp) :
    DefOk P w K mg base 10 "splayed" RSplayed := by
  refine def_ok Fn scSplayed hb hm (by rintro _ _ ⟨t, k, rfl, _⟩; rfl) fun cdv A outer s H E hr dl d hR => ?_
  obtain ⟨t, k, rfl, hB, hk, rfl⟩ := hR
  have r8 := hr.mono (show 8 ≤ 9 by decide)
  have r7 := hr.mono (show 7 ≤ 9 by decide)
  refine xr_while (fun m ds => ∃ (u : Tr) (a b c : Slot), ds = [.dat u.pd, .dat (.int k), a, b, c] ∧ u.Bst 1 6 ∧ k ∈ u.keys ∧ Tr.splayN m u k = t.splay k ∧ u.way k ≤ m) 6 ⟨t, .no, .no, .no, rfl, hB, hk, rfl, Nat.le_trans (Tr.way_le t k) hB.six⟩ PassesOwn.never fun m ds' i => ?_
  obtain ⟨u, sa, sb, sc, rfl, uB, uk, ut, um⟩ := i
  have u6 := uB.six
  refine ⟨_, xt_cmp op_gt opd_gt (x_call DW r7 rfl (xa_cons (xv 0) (xa1 (xv 1))) ⟨u, k, rfl, by omega, u6, rfl⟩) x_int (nomark _), fun c => ?_, fun c => ?_⟩
  · have c' : 1 < u.way k := by have := of_decide_eq_true c; omega
    obtain ⟨w, ew, p1, p2, p3, p4⟩ := Tr.splay_last uB uk c'
    obtain ⟨f1, f2, f3, f4, f5⟩ := Tr.splay_fst uB uk c'
    have sl := last_two w (u.grd k) (u.par k) k
    rw [← ew] at sl
    refine xr_asg (d := .list [.int (u.grd k), .int (u.par k)]) (XE.of (x_sliceL (po_some pE) (po_some pE) (x_call DD r7 rfl (xa_cons (xv 0) (xa1 (xv 1))) ⟨u, k, 1, 6, rfl, by omega, u6, uB, uk, rfl⟩) (po_ev (x_neg x_int)) (po_ev (x_neg x_int))) (congrArg PyData.list sl))
      (pg_unl rfl (pgs_cons (pg_name (i := 2) scSplayed.nd rfl (.inl rfl)) (pgs_cons (pg_name (i := 3) scSplayed.nd rfl (.inl rfl)) pgs_nil))) gd_lst2 ?_
    refine xr_set (i := 4) (d := .int (u.fst k)) scSplayed.nd rfl (.inl rfl) (x_if (k := (decide (k < u.par k) == decide (u.par k < u.grd k))) (xt_cmp op_eq opd_eqB (x_cmp op_lt opd_lt (xv 1) (xv 3) (nomark _)) (x_cmp op_lt opd_lt (xv 3) (xv 2) (nomark _)) (nomark _)) (fun q => ?_) fun q => ?_) ?_
    · rw [Tr.fst, if_pos (by simpa using q)]; exact xv 3
    · rw [Tr.fst, if_neg (by simpa using q)]; exact xv 1
    · have kk1 := Tr.keys_turned u (u.fst k)
      have b1 := uB.of_keys kk1
      refine xr_set (i := 0) (d := (u.splayStep k).pd) scSplayed.nd rfl (.inl rfl) (x_call DT r8 rfl (xa_cons (x_call DT r8 rfl (xa_cons (xv 0) (xa1 (xv 4))) ⟨u, _, 1, 6, rfl, by omega, u6, uB, f1, f2, rfl⟩) (xa1 (xv 1))) ⟨u.turned (u.fst k), k, 1, 6, rfl, by have := b1.six; omega, b1.six, b1, f3, f4, rfl⟩) ?_
      cases m with
      | zero => omega
      | succ m =>
        rw [Tr.splayN, if_pos c'] at ut
        exact xr_nil ⟨m, Nat.lt_succ_self m, u.splayStep k, _, _, _, rfl, uB.of_keys (Tr.keys_splayStep u k), by rw [Tr.keys_splayStep]; exact uk, ut, by omega⟩
  · have c' : u.way k ≤ 1 := by have := of_decide_eq_false c; omega
    refine xr_ret (x_call DO hr rfl (xa_cons (xv 0) (xa1 (xv 1))) ⟨u, k, rfl, uB, uk, rfl⟩) ?_
    rw [← ut, Tr.splayN_end c']
abbrev sWithoutSplayed : Stmt := top 28
theorem scWithoutSplayed : FnScope ["shape", "key", "left", "top", "right", "new"] ["shape", "key"] (defScope sWithoutSplayed) := ⟨rfl, rfl, rfl, by decide +kernel, rfl, by decide +kernel, by decide +kernel⟩
def RWithoutSplayed (dl : List PyData) (d : PyData) : Prop := ∃ (t : Tr) (k : Int), dl = [t.pd, .int k] ∧ t.Bst 1 6 ∧ k ∈ t.keys ∧ d = (t.withoutSplayed k).pd
theorem ok_without_splayed (Fn : Fun K "without_splayed" "without_splayed" sWithoutSplayed f fd) (hb : Binds K fd ["shape", "key"] []) (hm : mg "without_splayed" = some (.ref f)) (DS : DefOk P w K mg base 10 "splayed" RSplayed) (DG : DefOk P w K mg base 7 "greatest" (RGreatest 7)) :
    DefOk P w K mg base 11 "without_splayed" RWithoutSplayed := by
  refine def_ok Fn scWithoutSplayed hb hm (by rintro _ _ ⟨t, k, rfl, _⟩; rfl) fun cdv A outer s H E hr dl d hR => ?_
  obtain ⟨t, k, rfl, hB, hk, rfl⟩ := hR
  have nn := Tr.splay_ne hk
  have sB : (t.splay k).Bst 1 6 := hB.of_keys (Tr.keys_splay t k)
  have hL : (t.splay k).lft.Bst 1 6 := by
    rw [Tr.eta nn] at sB
    obtain ⟨b1, b2, b3, b4⟩ := sB
    exact b3.wide (Int.le_refl _) (by omega)
  refine xr_asg (XE.of (x_call DS hr rfl (xa_cons (xv 0) (xa1 (xv 1))) ⟨t, k, rfl, hB, hk, rfl⟩) (pd_node nn)) (pg_tup rfl (pgs_cons (pg_name (i := 2) scWithoutSplayed.nd rfl (.inl rfl)) (pgs_cons (pg_name (i := 3) scWithoutSplayed.nd rfl (.inl rfl)) (pgs_cons (pg_name (i := 4) scWithoutSplayed.nd rfl (.inl rfl)) pgs_nil)))) gd_tup3 ?_
  refine xr_if (xt_isNil hr (xv 2) (by have := hL.six; omega)) (fun c => ?_) fun c => ?_
  · refine xr_ret (xv 4) ?_
    rw [Tr.withoutSplayed, if_pos c]
  · have nl : (t.splay k).lft ≠ .nil := fun z => by rw [z] at c; cases c
    have gm := Tr.greatest_mem nl
    refine xr_set (i := 5) scWithoutSplayed.nd rfl (.inl rfl) (XE.of (x_call DS hr rfl (xa_cons (xv 2) (xa1 (x_call DG (hr.mono (by decide)) rfl (xa1 (xv 2)) ⟨_, rfl, nl, (by have := hL.six; omega), hL.six, rfl⟩))) ⟨_, _, rfl, hL, gm, rfl⟩) (pd_node (Tr.splay_ne gm))) ?_
    refine xr_ret (x_node (x_at (xv 5) x_int) (x_at (xv 5) x_int) (xv 4)) ?_
    rw [Tr.withoutSplayed, if_neg (by rw [c]; exact Bool.false_ne_true)]
end
end TT

namespace TT
open PySem L2
def Rl.word : Rl → Str
  | .plain => "plain"
  | .top => "top"
  | .splay => "splayed"
def Rl.pd (r : Rl) : PyData := .tuple [.str r.word]
def ranks (o : List Int) : PyData := .tuple [.str "ranks", .tuple (o.map PyData.int)]
def Wd.word : Wd → Str
  | .ask => "ask"
  | .put => "in"
  | .out => "out"
def Deed.pd (d : Deed) : PyData := .tuple [.str d.w.word, .int d.k]
theorem ints_lay : ∀ ns : List Int, PyData.canLayAll0 (ns.map PyData.int) = true
  | [] => rfl
  | n :: ns => by
    rw [List.map_cons, PyData.canLayAll0, ints_lay ns]; rfl
theorem ints_depth : ∀ ns : List Int, PyData.depthAll (ns.map PyData.int) = 0
  | [] => rfl
  | n :: ns => by
    rw [List.map_cons, PyData.depthAll, ints_depth ns]; rfl
theorem list_shaped (ns : List Int) : SeqAt.shaped (.list (ns.map PyData.int)) = true := by
  simp only [SeqAt.shaped, PyData.canLay0, PyData.depth, ints_lay, ints_depth, Bool.true_and]
  decide
theorem rl_shaped (r : Rl) : SeqAt.shaped r.pd = true := by cases r <;> decide +kernel
theorem ranks_shaped (o : List Int) : SeqAt.shaped (ranks o) = true := by
  have : PyData.strOk ("ranks" : Str) = true := by decide +kernel
  simp only [ranks, SeqAt.shaped, PyData.canLay0, PyData.canLayAll0, PyData.depth, PyData.depthAll, ints_lay, ints_depth, this, Bool.true_and]
  decide
theorem eqv_some (x : PyData) (xs : List PyData) : PyData.eqv (.tuple (x :: xs)) (.tuple []) = false := by simp only [PyData.eqv, PyData.eqvAll]
theorem eqv_ints_nil (ns : List Int) : PyData.eqv (.list (ns.map PyData.int)) (.list ([] : List PyData)) = ns.isEmpty := by
  cases ns <;> simp [PyData.eqv, PyData.eqvAll]
section
variable {X : Cx} {e : Expr} {ds : DE} {pos p p1 py : Pos} {x1}
/-- isinstance of a tuple, a list, a text -/
theorem x_isTup {xs : List PyData} (T : Tp X.K X.mg) (hg : Gl X "isinstance") (hg2 : Gl X "tuple") (ha : XE X e ds (.tuple xs)) (he2 : starEach [Expr.Name "tuple" py] X.env = (false, eval (Expr.Name "tuple" py) X.env) :: starEach [] X.env := by rfl)
    (he : starEach (e :: [Expr.Name "tuple" py]) X.env = (false, eval e X.env) :: starEach [Expr.Name "tuple" py] X.env := by rfl) (hpl : (backTo pos (starEach [Expr.Name "tuple" py] X.env)).any (·.1) = false := by rfl) : XE X (.Call (.Name "isinstance" p) [e, .Name "tuple" py] [] pos) ds (.bool true) :=
  x_isi (Ty := "tuple") (n := "tuple") (k := true) hg T.isinstance hg2 T.tuple (by decide +kernel) ha rfl (by decide +kernel) (by decide) (by decide) (by decide +kernel) he2 he hpl
theorem x_isLst {xs : List PyData} (T : Tp X.K X.mg) (hg : Gl X "isinstance") (hg2 : Gl X "list") (ha : XE X e ds (.list xs)) (he2 : starEach [Expr.Name "list" py] X.env = (false, eval (Expr.Name "list" py) X.env) :: starEach [] X.env := by rfl)
    (he : starEach (e :: [Expr.Name "list" py]) X.env = (false, eval e X.env) :: starEach [Expr.Name "list" py] X.env := by rfl) (hpl : (backTo pos (starEach [Expr.Name "list" py] X.env)).any (·.1) = false := by rfl) : XE X (.Call (.Name "isinstance" p) [e, .Name "list" py] [] pos) ds (.bool true) :=
  x_isi (Ty := "list") (n := "list") (k := true) hg T.isinstance hg2 T.list (by decide +kernel) ha rfl (by decide +kernel) (by decide) (by decide) (by decide +kernel) he2 he hpl
theorem x_isStr {i : Str} (T : Tp X.K X.mg) (hg : Gl X "isinstance") (hg2 : Gl X "str") (ha : XE X e ds (.str i)) (he2 : starEach [Expr.Name "str" py] X.env = (false, eval (Expr.Name "str" py) X.env) :: starEach [] X.env := by rfl)
    (he : starEach (e :: [Expr.Name "str" py]) X.env = (false, eval e X.env) :: starEach [Expr.Name "str" py] X.env := by rfl) (hpl : (backTo pos (starEach [Expr.Name "str" py] X.env)).any (·.1) = false := by rfl) : XE X (.Call (.Name "isinstance" p) [e, .Name "str" py] [] pos) ds (.bool true) :=
  x_isi (Ty := "str") (n := "str") (k := true) hg T.isinstance hg2 T.str (by decide +kernel) ha rfl (by decide +kernel) (by decide) (by decide) (by decide +kernel) he2 he hpl
theorem x_family (T : Tp X.K X.mg) (hg : Gl X "FAMILY") : XE X (.Name "FAMILY" pos) ds (.tuple ((([("heights" : Str), "levels", "once", "plain", "rebuilt", "splayed", "top", "weights"]).map PyData.str))) := by
  obtain ⟨a, h, q⟩ := T.family
  exact x_glob (v := .ref a) hg h rfl q
theorem x_deeds (T : Tp X.K X.mg) (hg : Gl X "DEEDS") : XE X (.Name "DEEDS" pos) ds (.int 40) := by
  obtain ⟨t, h⟩ := T.deeds
  exact x_glob (v := .int 40) hg h ⟨t, rfl⟩ fun _ => .int 40
theorem rg2_ev {a b : Expr} {i j : Int} (ha : XE X a ds (.int i)) (hb : XE X b ds (.int j)) : ∀ T F H σ (Q : Int → Int → Hp → Prop), EnvOk X.K T F H σ ds → (∀ F' H', Grow T F H F' H' → Q i j H') → tRg2 (wE X a) (wE X b) σ H Q := fun T F H σ Q ok k =>
  ha T F H σ _ ok fun v F1 H1 g1 q1 => hb T F1 H1 σ _ (ok.grow g1) fun u F2 H2 g2 q2 => ⟨i, j, dp_int q1, dp_int q2, k F2 H2 (g1.trans g2)⟩
/-- rule[0] in ("..", "..") -/
theorem xt_in2 {i a b : Str} {k : Bool} {q1 q2 : Pos} {j1 j2} (h : XE X e ds (.str i)) (c : decide (i ∈ [a, b]) = k) (h1 : starEach [.Constant (.str a) j1 q1, .Constant (.str b) j2 q2] X.env = (false, eval (.Constant (.str a) j1 q1) X.env) :: starEach [.Constant (.str b) j2 q2] X.env := by rfl)
    (h2 : starEach [.Constant (.str b) j2 q2] X.env = (false, eval (.Constant (.str b) j2 q2) X.env) :: starEach [] X.env := by rfl) (hm : behindInMarks .In (.Tuple [.Constant (.str a) j1 q1, .Constant (.str b) j2 q2] x1 p1) = false := by rfl) : XT X (.Compare e [.In] [.Tuple [.Constant (.str a) j1 q1, .Constant (.str b) j2 q2] x1 p1] pos) ds k :=
  (xt_cmp op_in_seq (opd_inS (ns := [a, b])) h (x_tup (xa_cons x_str (xa1 x_str h2) h1) (by decide : 2 ≤ sizeLine)) hm).of c
end
section
variable {P : Program} {w : World} {K : PySem.W.Frag} {mg : Str → Option Value} {base : Heap} {f : Addr} {fd : FuncData}
/-! ### is_rule, need_rule -/
abbrev sIsRule : Stmt := top 57
theorem scIsRule : FnScope ["candidate", "key"] ["candidate"] (defScope sIsRule) := ⟨rfl, rfl, rfl, by decide +kernel, rfl, by decide +kernel, by decide +kernel⟩
def RIsRule (dl : List PyData) (d : PyData) : Prop := d = .bool true ∧ ((∃ r : Rl, dl = [r.pd]) ∨ ∃ o : List Int, dl = [ranks o] ∧ o.Perm six)
theorem ok_is_rule (Fn : Fun K "is_rule" "is_rule" sIsRule f fd) (hb : Binds K fd ["candidate"] []) (hm : mg "is_rule" = some (.ref f)) (T : Tp K mg) (DN : DefOk P w K mg base 1 "is_number" RIsNumber) : DefOk P w K mg base 2 "is_rule" RIsRule := by
  refine def_ok Fn scIsRule hb hm (by rintro _ _ ⟨_, ⟨r, rfl⟩ | ⟨o, rfl, _⟩⟩ <;> rfl) fun cdv A outer s H E hr dl d hR => ?_
  obtain ⟨rfl, ⟨r, rfl⟩ | ⟨o, rfl, hp⟩⟩ := hR
  · refine xr_if (k := false) (xt_or3 (k := false) (l := false) (m := false) (xt_not (k := true) (xt_val (x_isTup T rfl rfl (xv 0))))
      (fun _ => XT.of (xt_cmp (op_eqD hr.units) (opd_eqD (rl_shaped r) nil_shaped) (xv 0) (x_tup xa_nil (Nat.zero_le _)) (nomark _)) (eqv_some _ _)) fun _ _ => xt_not (k := true) (xt_val (x_isStr T rfl rfl (x_at (xv 0) x_int)))) nofun fun _ => ?_
    refine xr_if (k := true) (XT.of (xt_cmp op_in_seq opd_inS (x_at (xv 0) x_int) (x_family T rfl) rfl) (by cases r <;> decide +kernel)) (fun _ => ?_) nofun
    exact xr_ret (x_cmp op_eq opd_eqI (x_callB call_len_seq cd_lenT rfl T.len PySem.boot_len (xa1 (xv 0))) x_int (nomark _)) rfl
  · have n : ∀ y ∈ o, 1 ≤ y ∧ y ≤ 6 := fun y hy => mem_six.mp (hp.mem_iff.mp hy)
    have ol : o.length = 6 := hp.length_eq
    refine xr_if (k := false) (xt_or3 (k := false) (l := false) (m := false) (xt_not (k := true) (xt_val (x_isTup T rfl rfl (xv 0))))
      (fun _ => XT.of (xt_cmp (op_eqD hr.units) (opd_eqD (ranks_shaped o) nil_shaped) (xv 0) (x_tup xa_nil (Nat.zero_le _)) (nomark _)) (eqv_some _ _)) fun _ _ => xt_not (k := true) (xt_val (x_isStr T rfl rfl (x_at (xv 0) x_int)))) nofun fun _ => ?_
    refine xr_if (k := false) (XT.of (xt_cmp op_in_seq opd_inS (x_at (xv 0) x_int) (x_family T rfl) rfl) (by decide +kernel)) nofun fun _ => ?_
    refine xr_if (k := false) (xt_or3 (k := false) (l := false) (m := false) (XT.of (xt_cmp op_ne opd_neS (x_at (xv 0) x_int) x_str (nomark _)) (by decide +kernel))
      (fun _ => XT.of (xt_cmp op_ne opd_neI (x_callB call_len_seq cd_lenT rfl T.len PySem.boot_len (xa1 (xv 0))) x_int (nomark _)) rfl) fun _ _ => xt_not (k := true) (xt_val (x_isTup T rfl rfl (x_at (xv 0) x_int)))) nofun fun _ => ?_
    refine xr_if (k := false) (xt_not (k := true) (xt_val (XE.of (x_callB (cr_all rfl) (cd_all (bs := o.map fun _ => true)) rfl T.all (by decide +kernel) (xa1 (XE.of (XL.xe (xl_lc (own := [("key", 1)]) (g := gName 1) (tt := tYes) rfl scIsRule.nd (pi_tup pE) (blkOk_by (N := ["candidate", "key"]) (sc := defScope sIsRule) (by decide +kernel))
      (fun _ _ _ _ _ => pg_name (i := 1) scIsRule.nd rfl (.inl rfl)) (fun _ _ _ _ _ => pts_nil)
      (lcd_tup (ys := o) (enc := PyData.int) (p := fun _ => true) (q := fun _ => .bool true) (x_at (xv 0) x_int) (by rw [ol]; decide) (fun y _ => lct_yes) fun y hy _ => lce_of fun _ _ _ _ _ => ?e))) ?l))) ?a))) nofun fun _ => ?_
    case e =>
      refine x_call (DN) hr rfl (xa_cons (xv 1) (xa_cons x_int (xa1 (x_most T rfl)))) ⟨y, 1, 6, rfl, ?_⟩
      rw [decide_eq_true (n y hy).1, decide_eq_true (n y hy).2]; rfl
    case l =>
      rw [List.filter_eq_self.mpr fun _ _ => rfl, List.map_map]; rfl
    case a => simp
    refine xr_ret (x_cmp (op_eqD hr.units) (opd_eqD (d := .list (six.map PyData.int)) (e := .list (six.map PyData.int)) (list_shaped six) (list_shaped six)) (x_callB srt_tuple (cd_sortedT (ns := o) (by rw [ol]; decide) hp.symm (by decide)) rfl T.sorted (by decide +kernel) (xa1 (x_at (xv 0) x_int)))
      (XE.of (x_listRg (i := 1) (j := 7) rfl rfl T.list (prg_2 rfl T.range pE pE) (RgOk.of_le (by decide) (by decide) (by decide) (by decide)) (rg2_ev x_int (x_op op_add opd_add (x_most T rfl) x_int))) rfl) (nomark _)) (congrArg PyData.bool (by decide +kernel))
abbrev sNeedRule : Stmt := top 58
theorem scNeedRule : FnScope ["value"] ["value"] (defScope sNeedRule) := ⟨rfl, rfl, rfl, by decide +kernel, rfl, by decide +kernel, by decide +kernel⟩
def RNeedRule (dl : List PyData) (d : PyData) : Prop := d = .none ∧ ((∃ r : Rl, dl = [r.pd]) ∨ ∃ o : List Int, dl = [ranks o] ∧ o.Perm six)
theorem ok_need_rule (Fn : Fun K "need_rule" "need_rule" sNeedRule f fd) (hb : Binds K fd ["value"] []) (hm : mg "need_rule" = some (.ref f)) (D : DefOk P w K mg base 2 "is_rule" RIsRule) : DefOk P w K mg base 3 "need_rule" RNeedRule := by
  refine def_ok Fn scNeedRule hb hm (by rintro _ _ ⟨_, ⟨r, rfl⟩ | ⟨o, rfl, _⟩⟩ <;> rfl) fun cdv A outer s H E hr dl d hR => ?_
  obtain ⟨rfl, ⟨r, rfl⟩ | ⟨o, rfl, hp⟩⟩ := hR
  · exact xr_if (k := false) (xt_not (k := true) (xt_val (x_call D hr rfl (xa1 (xv 0)) ⟨rfl, .inl ⟨r, rfl⟩⟩))) nofun fun _ => xr_nil rfl
  · exact xr_if (k := false) (xt_not (k := true) (xt_val (x_call D hr rfl (xa1 (xv 0)) ⟨rfl, .inr ⟨o, rfl, hp⟩⟩))) nofun fun _ => xr_nil rfl
end
end TT

namespace TT
open PySem L2
theorem wd_ask (wd : Wd) : decide (wd.word = "ask") = decide (wd = .ask) := by cases wd <;> decide +kernel
theorem wd_put (wd : Wd) : decide (wd.word = "in") = decide (wd = .put) := by cases wd <;> decide +kernel
theorem wd_out (wd : Wd) : decide (wd.word = "out") = decide (wd = .out) := by cases wd <;> decide +kernel
theorem wd_any (wd : Wd) : decide (wd.word ∈ [("ask" : Str), "in", "out"]) = true := by cases wd <;> decide +kernel
section
variable {P : Program} {w : World} {K : PySem.W.Frag} {mg : Str → Option Value} {base : Heap} {f : Addr} {fd : FuncData}
/-! ### by_order -/
abbrev sByOrder : Stmt := top 59
theorem scByOrder : FnScope ["keys", "order", "top", "key"] ["keys", "order"] (defScope sByOrder) := ⟨rfl, rfl, rfl, by decide +kernel, rfl, by decide +kernel, by decide +kernel⟩
def RByOrder (n : Nat) (dl : List PyData) (d : PyData) : Prop := ∃ ks o : List Int, dl = [.list (ks.map PyData.int), .tuple (o.map PyData.int)] ∧ ks.length < n ∧ ks.length ≤ 1000 ∧ o.length ≤ 1000 ∧ (∀ y ∈ ks, y ∈ o) ∧ d = (plant (o.filter fun y => decide (y ∈ ks))).pd
theorem filt_len {ks : List Int} {t : Int} {p : Int → Bool} (m : t ∈ ks) (h : p t = false) : (ks.filter p).length < ks.length := by
  refine Nat.lt_of_le_of_ne (List.length_filter_le _ _) fun q => ?_
  have := (List.length_filter_eq_length_iff).mp q t m
  rw [h] at this; cases this
theorem small_lt {n : Nat} (h : n ≤ 1000) : n < sizeLine := small1000 h
theorem ok_by_order (Fn : Fun K "by_order" "by_order" sByOrder f fd) (hb : Binds K fd ["keys", "order"] []) (hm : mg "by_order" = some (.ref f)) : ∀ n, DefOk P w K mg base n "by_order" (RByOrder n)
  | 0 => def_none Fn hb hm fun dl d h => by obtain ⟨ks, o, _, z, _⟩ := h; exact absurd z (Nat.not_lt_zero _)
  | n + 1 => by
    have ih := ok_by_order Fn hb hm n
    refine def_ok Fn scByOrder hb hm (by rintro _ _ ⟨ks, o, rfl, _⟩; rfl) fun cdv A outer s H E hr dl d hR => ?_
    obtain ⟨ks, o, rfl, h1, hk, ho, hi, rfl⟩ := hR
    refine xr_if (k := ks.isEmpty) (XT.of (xt_cmp (op_eqD hr.units) (opd_eqD (e := .list []) (list_shaped ks) (list_shaped [])) (xv 0) (x_lst xa_nil (Nat.zero_le _)) (nomark _)) (eqv_ints_nil ks)) (fun c => ?_) fun c => ?_
    · refine xr_ret (x_tup xa_nil (Nat.zero_le _)) ?_
      have e : ks = [] := by simpa using c
      subst e
      rw [List.filter_eq_nil_iff.mpr (by simp)]
      rfl
    · have ne : ks ≠ [] := by intro z; rw [z] at c; cases c
      have hne : (o.filter fun y => decide (y ∈ ks)) ≠ [] := by
        intro q
        obtain ⟨y, r, e⟩ := List.exists_cons_of_ne_nil ne
        have := List.filter_eq_nil_iff.mp q y (hi y (by rw [e]; exact List.mem_cons_self))
        simp [e] at this
      obtain ⟨t, r, et⟩ := List.exists_cons_of_ne_nil hne
      have mt : t ∈ ks := by
        have : t ∈ (o.filter fun y => decide (y ∈ ks)) := by rw [et]; exact List.mem_cons_self
        simpa using (List.mem_filter.mp this).2
      refine xr_set (i := 2) (d := .int t) scByOrder.nd rfl (.inr rfl) (x_atL (XL.xe (xl_lc (own := [("key", 3)]) (g := gName 3) rfl scByOrder.nd (pi_tup pE) (blkOk_by (N := ["keys", "order", "top", "key"]) (sc := defScope sByOrder) (by decide +kernel))
        (fun _ _ _ _ _ => pg_name (i := 3) scByOrder.nd rfl (.inl rfl)) (pBT _)
        (lcd_tup (ys := o) (enc := PyData.int) (p := fun y => decide (y ∈ ks)) (q := PyData.int) (xv 1) (small_lt ho) (fun y _ => lct_of fun _ _ _ _ _ => xt_cmp op_in_seq opd_in (xv 3) (xv 0) rfl) fun y hy _ => lce_of fun _ _ _ _ _ => xv 3))) x_int ?at_) ?_
      case at_ =>
        rw [et]
        exact atI_nat (j := 0) rfl
      have len : ∀ p : Int → Bool, (ks.filter p).length ≤ 1000 := fun p => Nat.le_trans (List.length_filter_le _ _) hk
      refine xr_ret (d := (Tr.node (plant (o.filter fun y => decide (y ∈ ks.filter fun y => decide (y < t)))) t (plant (o.filter fun y => decide (y ∈ ks.filter fun y => decide (y > t))))).pd)
        (x_node (x_call ih hr rfl (xa_cons (XL.xe (xl_lc (own := [("key", 3)]) (g := gName 3) rfl scByOrder.nd (pi_list pE) (blkOk_by (N := ["keys", "order", "top", "key"]) (sc := defScope sByOrder) (by decide +kernel))
          (fun _ _ _ _ _ => pg_name (i := 3) scByOrder.nd rfl (.inl rfl)) (pBT _)
          (lcd_list (ys := ks) (enc := PyData.int) (p := fun y => decide (y < t)) (q := PyData.int) (xv 0) (small_lt hk) (fun y _ => lct_of fun _ _ _ _ _ => xt_cmp op_lt opd_lt (xv 3) (xv 2) (nomark _)) fun y hy _ => lce_of fun _ _ _ _ _ => xv 3))) (xa1 (xv 1)))
          ⟨_, o, rfl, ?l1, len _, ho, fun y hy => hi y (List.mem_filter.mp hy).1, rfl⟩) (xv 2)
        (x_call ih hr rfl (xa_cons (XL.xe (xl_lc (own := [("key", 3)]) (g := gName 3) rfl scByOrder.nd (pi_list pE) (blkOk_by (N := ["keys", "order", "top", "key"]) (sc := defScope sByOrder) (by decide +kernel))
          (fun _ _ _ _ _ => pg_name (i := 3) scByOrder.nd rfl (.inl rfl)) (pBT _)
          (lcd_list (ys := ks) (enc := PyData.int) (p := fun y => decide (y > t)) (q := PyData.int) (xv 0) (small_lt hk) (fun y _ => lct_of fun _ _ _ _ _ => xt_cmp op_gt opd_gt (xv 3) (xv 2) (nomark _)) fun y hy _ => lce_of fun _ _ _ _ _ => xv 3))) (xa1 (xv 1)))
          ⟨_, o, rfl, ?l2, len _, ho, fun y hy => hi y (List.mem_filter.mp hy).1, rfl⟩)) ?fin
      case l1 => have := filt_len (p := fun y => decide (y < t)) mt (by simp); omega
      case l2 => have := filt_len (p := fun y => decide (y > t)) mt (by simp); omega
      case fin =>
        have e1 : (o.filter fun y => decide (y ∈ ks.filter fun y => decide (y < t))) = (o.filter fun y => decide (y ∈ ks)).filter fun y => decide (y < t) := by
          rw [filter_and]
          refine filt_congr fun y _ => ?_
          simp only [List.mem_filter, Bool.decide_and, Bool.decide_eq_true]
        have e2 : (o.filter fun y => decide (y ∈ ks.filter fun y => decide (y > t))) = (o.filter fun y => decide (y ∈ ks)).filter fun y => decide (y > t) := by
          rw [filter_and]
          refine filt_congr fun y _ => ?_
          simp only [List.mem_filter, Bool.decide_and, Bool.decide_eq_true]
        show (Tr.node _ t _).pd = _
        rw [e1, e2, et, plant_cons]
/-! ### is_kept, keeps -/
abbrev sIsKept : Stmt := top 60
theorem scIsKept : FnScope ["rule", "shape"] ["rule", "shape"] (defScope sIsKept) := ⟨rfl, rfl, rfl, by decide +kernel, rfl, by decide +kernel, by decide +kernel⟩
def RKept (dl : List PyData) (d : PyData) : Prop := ∃ (o : List Int) (t : Tr), dl = [ranks o, t.pd] ∧ o.Perm six ∧ t.Bst 1 6 ∧ plant (o.filter fun y => decide (y ∈ t.keys)) = t ∧ d = .bool true
theorem ok_is_kept (Fn : Fun K "is_kept" "is_kept" sIsKept f fd) (hb : Binds K fd ["rule", "shape"] []) (hm : mg "is_kept" = some (.ref f)) (DB : DefOk P w K mg base 7 "by_order" (RByOrder 7)) (DK : DefOk P w K mg base 7 "keys_of" (RKeysOf 7)) : DefOk P w K mg base 8 "is_kept" RKept := by
  refine def_ok Fn scIsKept hb hm (by rintro _ _ ⟨o, t, rfl, _⟩; rfl) fun cdv A outer s H E hr dl d hR => ?_
  obtain ⟨o, t, rfl, hp, hB, hk, rfl⟩ := hR
  have k6 := Tr.keys_six hB
  have h6 := hB.six
  have ol : o.length = 6 := hp.length_eq
  refine xr_if (k := false) (xt_in2 (x_at (xv 0) x_int) (by decide +kernel)) nofun fun _ => ?_
  refine xr_if (k := false) (XT.of (xt_cmp op_eq opd_eqS (x_at (xv 0) x_int) x_str (nomark _)) (by decide +kernel)) nofun fun _ => ?_
  refine xr_if (k := false) (XT.of (xt_cmp op_eq opd_eqS (x_at (xv 0) x_int) x_str (nomark _)) (by decide +kernel)) nofun fun _ => ?_
  refine xr_ret (d := .bool (false || true)) (x_or2 (XE.of (x_cmp op_ne opd_neS (x_at (xv 0) x_int) x_str (nomark _)) (congrArg PyData.bool (by decide +kernel))) fun _ => ?_) rfl
  refine XE.of (x_cmp (op_eqD hr.units) (opd_eqD (d := t.pd) (e := t.pd) (pd_shaped (by omega)) (pd_shaped (by omega))) (xv 1) (XE.of (x_call DB hr rfl (xa_cons (x_call DK hr rfl (xa1 (xv 1)) ⟨t, rfl, by omega, h6, by omega, rfl⟩) (xa1 (x_at (xv 0) x_int))) ⟨t.keys, o, rfl, by omega, by omega, by omega, fun y hy => ?_, rfl⟩) ?_) (nomark _)) ?_
  · exact hp.mem_iff.mpr (mem_six.mpr (hB.mem hy))
  · rw [hk]
  · rw [eqv_same]
abbrev sKeeps : Stmt := top 61
theorem scKeeps : FnScope ["rule", "shape"] ["rule", "shape"] (defScope sKeeps) := ⟨rfl, rfl, rfl, by decide +kernel, rfl, by decide +kernel, by decide +kernel⟩
theorem ok_keeps (Fn : Fun K "keeps" "keeps" sKeeps f fd) (hb : Binds K fd ["rule", "shape"] []) (hm : mg "keeps" = some (.ref f)) (DR : DefOk P w K mg base 3 "need_rule" RNeedRule) (DS : DefOk P w K mg base 10 "need_shape" RNeedShape) (DK : DefOk P w K mg base 8 "is_kept" RKept) : DefOk P w K mg base 11 "keeps" RKept := by
  refine def_ok Fn scKeeps hb hm (by rintro _ _ ⟨o, t, rfl, _⟩; rfl) fun cdv A outer s H E hr dl d hR => ?_
  obtain ⟨o, t, rfl, hp, hB, hk, rfl⟩ := hR
  refine xr_expr (x_call DR (hr.mono (by decide)) rfl (xa1 (xv 0)) ⟨rfl, .inr ⟨o, rfl, hp⟩⟩) ?_
  refine xr_expr (x_call DS hr rfl (xa1 (xv 1)) ⟨t, rfl, hB, rfl⟩) ?_
  exact xr_ret (x_call DK (hr.mono (by decide)) rfl (xa_cons (xv 0) (xa1 (xv 1))) ⟨o, t, rfl, hp, hB, hk, rfl⟩) rfl
/-! ### moved, with_key, without_key, behind -/
abbrev sMoved : Stmt := top 64
theorem scMoved : FnScope ["rule", "shape", "key"] ["rule", "shape", "key"] (defScope sMoved) := ⟨rfl, rfl, rfl, by decide +kernel, rfl, by decide +kernel, by decide +kernel⟩
def RMoved (dl : List PyData) (d : PyData) : Prop := ∃ (r : Rl) (t : Tr) (k : Int), dl = [r.pd, t.pd, .int k] ∧ t.Bst 1 6 ∧ k ∈ t.keys ∧ d = (moved r t k).pd
theorem ok_moved (Fn : Fun K "moved" "moved" sMoved f fd) (hb : Binds K fd ["rule", "shape", "key"] []) (hm : mg "moved" = some (.ref f)) (DT : DefOk P w K mg base 9 "to_top" RToTop) (DS : DefOk P w K mg base 10 "splayed" RSplayed) : DefOk P w K mg base 11 "moved" RMoved := by
  refine def_ok Fn scMoved hb hm (by rintro _ _ ⟨r, t, k, rfl, _⟩; rfl) fun cdv A outer s H E hr dl d hR => ?_
  obtain ⟨r, t, k, rfl, hB, hk, rfl⟩ := hR
  refine xr_if (k := false) (XT.of (xt_cmp op_eq opd_eqS (x_at (xv 0) x_int) x_str (nomark _)) (by cases r <;> decide +kernel)) nofun fun _ => ?_
  refine xr_if (k := decide (r = .top)) (XT.of (xt_cmp op_eq opd_eqS (x_at (xv 0) x_int) x_str (nomark _)) (by cases r <;> decide +kernel)) (fun c => ?_) fun c => ?_
  · have e := of_decide_eq_true c
    subst e
    exact xr_ret (x_call DT (hr.mono (by decide)) rfl (xa_cons (xv 1) (xa1 (xv 2))) ⟨t, k, rfl, hB, hk, rfl⟩) rfl
  · refine xr_ret (d := (moved r t k).pd) (x_if (k := decide (r = .splay)) (XT.of (xt_cmp op_eq opd_eqS (x_at (xv 0) x_int) x_str (nomark _)) (by cases r <;> decide +kernel)) (fun c2 => ?_) fun c2 => ?_) rfl
    · have e := of_decide_eq_true c2
      subst e
      exact x_call DS hr rfl (xa_cons (xv 1) (xa1 (xv 2))) ⟨t, k, rfl, hB, hk, rfl⟩
    · cases r with
      | plain => exact xv 1
      | top => cases c
      | splay => cases c2
abbrev sWithKey : Stmt := top 62
theorem scWithKey : FnScope ["rule", "shape", "key"] ["rule", "shape", "key"] (defScope sWithKey) := ⟨rfl, rfl, rfl, by decide +kernel, rfl, by decide +kernel, by decide +kernel⟩
def RWithKey (dl : List PyData) (d : PyData) : Prop := ∃ (r : Rl) (t : Tr) (k : Int), dl = [r.pd, t.pd, .int k] ∧ t.Bst 1 6 ∧ 1 ≤ k ∧ k ≤ 6 ∧ k ∉ t.keys ∧ d = (withKey r t k).pd
theorem ok_with_key (Fn : Fun K "with_key" "with_key" sWithKey f fd) (hb : Binds K fd ["rule", "shape", "key"] []) (hm : mg "with_key" = some (.ref f)) (DM : DefOk P w K mg base 11 "moved" RMoved) (DL : DefOk P w K mg base 7 "with_leaf" (RWithLeaf 7)) : DefOk P w K mg base 12 "with_key" RWithKey := by
  refine def_ok Fn scWithKey hb hm (by rintro _ _ ⟨r, t, k, rfl, _⟩; rfl) fun cdv A outer s H E hr dl d hR => ?_
  obtain ⟨r, t, k, rfl, hB, k1, k2, hk, rfl⟩ := hR
  obtain ⟨b1, b2⟩ := Tr.bst_withLeaf hB k1 k2 hk
  refine xr_if (k := false) (xt_in2 (x_at (xv 0) x_int) (by cases r <;> decide +kernel)) nofun fun _ => ?_
  refine xr_if (k := false) (XT.of (xt_cmp op_eq opd_eqS (x_at (xv 0) x_int) x_str (nomark _)) (by cases r <;> decide +kernel)) nofun fun _ => ?_
  refine xr_if (k := false) (XT.of (xt_cmp op_eq opd_eqS (x_at (xv 0) x_int) x_str (nomark _)) (by cases r <;> decide +kernel)) nofun fun _ => ?_
  refine xr_if (k := false) (XT.of (xt_cmp op_eq opd_eqS (x_at (xv 0) x_int) x_str (nomark _)) (by cases r <;> decide +kernel)) nofun fun _ => ?_
  exact xr_ret (x_call DM hr rfl (xa_cons (xv 0) (xa_cons (x_call DL (hr.mono (by decide)) rfl (xa_cons (xv 1) (xa1 (xv 2))) ⟨t, k, rfl, by have := hB.six; omega, hB.six, rfl⟩) (xa1 (xv 2)))) ⟨r, _, k, rfl, b1, (b2 k).mpr (.inr rfl), rfl⟩) rfl
abbrev sWithoutKey : Stmt := top 63
theorem scWithoutKey : FnScope ["rule", "shape", "key"] ["rule", "shape", "key"] (defScope sWithoutKey) := ⟨rfl, rfl, rfl, by decide +kernel, rfl, by decide +kernel, by decide +kernel⟩
def RWithoutKey (dl : List PyData) (d : PyData) : Prop := ∃ (r : Rl) (t : Tr) (k : Int), dl = [r.pd, t.pd, .int k] ∧ t.Bst 1 6 ∧ k ∈ t.keys ∧ d = (withoutKey r t k).pd
theorem ok_without_key (Fn : Fun K "without_key" "without_key" sWithoutKey f fd) (hb : Binds K fd ["rule", "shape", "key"] []) (hm : mg "without_key" = some (.ref f)) (DS : DefOk P w K mg base 11 "without_splayed" RWithoutSplayed) (DW : DefOk P w K mg base 14 "without" (RWithout 7)) : DefOk P w K mg base 15 "without_key" RWithoutKey := by
  refine def_ok Fn scWithoutKey hb hm (by rintro _ _ ⟨r, t, k, rfl, _⟩; rfl) fun cdv A outer s H E hr dl d hR => ?_
  obtain ⟨r, t, k, rfl, hB, hk, rfl⟩ := hR
  refine xr_if (k := false) (xt_in2 (x_at (xv 0) x_int) (by cases r <;> decide +kernel)) nofun fun _ => ?_
  refine xr_if (k := false) (XT.of (xt_cmp op_eq opd_eqS (x_at (xv 0) x_int) x_str (nomark _)) (by cases r <;> decide +kernel)) nofun fun _ => ?_
  refine xr_if (k := false) (XT.of (xt_cmp op_eq opd_eqS (x_at (xv 0) x_int) x_str (nomark _)) (by cases r <;> decide +kernel)) nofun fun _ => ?_
  refine xr_if (k := false) (XT.of (xt_cmp op_eq opd_eqS (x_at (xv 0) x_int) x_str (nomark _)) (by cases r <;> decide +kernel)) nofun fun _ => ?_
  refine xr_ret (d := (withoutKey r t k).pd) (x_if (k := decide (r = .splay)) (XT.of (xt_cmp op_eq opd_eqS (x_at (xv 0) x_int) x_str (nomark _)) (by cases r <;> decide +kernel)) (fun c => ?_) fun c => ?_) rfl
  · rw [withoutKey, if_pos (of_decide_eq_true c)]
    exact x_call DS (hr.mono (by decide)) rfl (xa_cons (xv 1) (xa1 (xv 2))) ⟨t, k, rfl, hB, hk, rfl⟩
  · rw [withoutKey, if_neg (of_decide_eq_false c)]
    exact x_call DW hr rfl (xa_cons (xv 1) (xa1 (xv 2))) ⟨t, k, 1, 6, rfl, by have := hB.six; omega, hB.six, hB, hk, rfl⟩
abbrev sBehind : Stmt := top 65
theorem scBehind : FnScope ["rule", "shape", "deed"] ["rule", "shape", "deed"] (defScope sBehind) := ⟨rfl, rfl, rfl, by decide +kernel, rfl, by decide +kernel, by decide +kernel⟩
def RBehind (dl : List PyData) (d : PyData) : Prop := ∃ (r : Rl) (t : Tr) (h : List Int) (c : Deed), dl = [r.pd, t.pd, c.pd] ∧ Good t h ∧ okD h c ∧ d = (step r t c).pd
theorem ok_behind (Fn : Fun K "behind" "behind" sBehind f fd) (hb : Binds K fd ["rule", "shape", "deed"] []) (hm : mg "behind" = some (.ref f)) (DM : DefOk P w K mg base 11 "moved" RMoved) (DW : DefOk P w K mg base 12 "with_key" RWithKey) (DO : DefOk P w K mg base 15 "without_key" RWithoutKey) : DefOk P w K mg base 16 "behind" RBehind := by
  refine def_ok Fn scBehind hb hm (by rintro _ _ ⟨r, t, h, c, rfl, _⟩; rfl) fun cdv A outer s H E hr dl d hR => ?_
  obtain ⟨r, t, h, ⟨wd, k⟩, rfl, g, ⟨o1, o2, o3⟩, rfl⟩ := hR
  refine xr_if (k := decide (wd = .ask)) (XT.of (xt_cmp op_eq opd_eqS (x_at (xv 2) x_int) x_str (nomark _)) (wd_ask wd)) (fun c => ?_) fun c => ?_
  · have e := of_decide_eq_true c
    subst e
    exact xr_ret (x_call DM (hr.mono (by decide)) rfl (xa_cons (xv 0) (xa_cons (xv 1) (xa1 (x_at (xv 2) x_int)))) ⟨r, t, k, rfl, g.b, (g.m k).mpr (o3.mpr nofun), rfl⟩) rfl
  · refine xr_ret (d := (step r t ⟨wd, k⟩).pd) (x_if (k := decide (wd = .put)) (XT.of (xt_cmp op_eq opd_eqS (x_at (xv 2) x_int) x_str (nomark _)) (wd_put wd)) (fun c2 => ?_) fun c2 => ?_) rfl
    · have e := of_decide_eq_true c2
      subst e
      exact x_call DW (hr.mono (by decide)) rfl (xa_cons (xv 0) (xa_cons (xv 1) (xa1 (x_at (xv 2) x_int)))) ⟨r, t, k, rfl, g.b, o1, o2, fun z => o3.mp ((g.m k).mp z) rfl, rfl⟩
    · cases wd with
      | ask => cases c
      | put => cases c2
      | out => exact x_call DO hr rfl (xa_cons (xv 0) (xa_cons (xv 1) (xa1 (x_at (xv 2) x_int)))) ⟨r, t, k, rfl, g.b, (g.m k).mpr (o3.mpr nofun), rfl⟩
abbrev sCostOf : Stmt := top 66
theorem scCostOf : FnScope ["shape", "deed"] ["shape", "deed"] (defScope sCostOf) := ⟨rfl, rfl, rfl, by decide +kernel, rfl, by decide +kernel, by decide +kernel⟩
def RCostOf (dl : List PyData) (d : PyData) : Prop := ∃ (t : Tr) (c : Deed), dl = [t.pd, c.pd] ∧ t.hgt ≤ 6 ∧ d = .int (cost t c)
theorem ok_cost_of (Fn : Fun K "cost_of" "cost_of" sCostOf f fd) (hb : Binds K fd ["shape", "deed"] []) (hm : mg "cost_of" = some (.ref f)) (DW : DefOk P w K mg base 7 "way_to" (RWayTo 7)) : DefOk P w K mg base 8 "cost_of" RCostOf := by
  refine def_ok Fn scCostOf hb hm (by rintro _ _ ⟨t, c, rfl, _⟩; rfl) fun cdv A outer s H E hr dl d hR => ?_
  obtain ⟨t, ⟨wd, k⟩, rfl, h6, rfl⟩ := hR
  refine xr_ret (x_op op_add_ib opd_addB (x_call DW hr rfl (xa_cons (xv 0) (xa1 (x_at (xv 1) x_int))) ⟨t, k, rfl, by omega, h6, rfl⟩) (x_cmp op_ne opd_neS (x_at (xv 1) x_int) x_str (nomark _))) ?_
  cases wd <;> rfl
abbrev sIsDeed : Stmt := top 67
theorem scIsDeed : FnScope ["value"] ["value"] (defScope sIsDeed) := ⟨rfl, rfl, rfl, by decide +kernel, rfl, by decide +kernel, by decide +kernel⟩
def RIsDeed (dl : List PyData) (d : PyData) : Prop := ∃ c : Deed, dl = [c.pd] ∧ 1 ≤ c.k ∧ c.k ≤ 6 ∧ d = .bool true
theorem ok_is_deed (Fn : Fun K "is_deed" "is_deed" sIsDeed f fd) (hb : Binds K fd ["value"] []) (hm : mg "is_deed" = some (.ref f)) (T : Tp K mg) (DN : DefOk P w K mg base 1 "is_number" RIsNumber) : DefOk P w K mg base 2 "is_deed" RIsDeed := by
  refine def_ok Fn scIsDeed hb hm (by rintro _ _ ⟨c, rfl, _⟩; rfl) fun cdv A outer s H E hr dl d hR => ?_
  obtain ⟨⟨wd, k⟩, rfl, k1, k2, rfl⟩ := hR
  refine xr_if (k := false) (xt_or3 (k := false) (l := false) (m := false) (xt_not (k := true) (xt_val (x_isTup T rfl rfl (xv 0))))
    (fun _ => XT.of (xt_cmp op_ne opd_neI (x_callB call_len_seq cd_lenT rfl T.len PySem.boot_len (xa1 (xv 0))) x_int (nomark _)) rfl) fun _ _ => xt_not (k := true) (xt_val (x_isStr T rfl rfl (x_at (xv 0) x_int)))) nofun fun _ => ?_
  refine xr_ret (d := .bool (true && true)) (x_and2 (XE.of (x_cmp op_in_seq (opd_inS (ns := ["ask", "in", "out"])) (x_at (xv 0) x_int) (x_tup (xa_cons x_str (xa_cons x_str (xa1 x_str))) small3) rfl) (congrArg PyData.bool (wd_any wd))) fun _ => ?_) rfl
  refine x_call DN hr rfl (xa_cons (x_at (xv 0) x_int) (xa_cons x_int (xa1 (x_most T rfl)))) ⟨k, 1, 6, rfl, ?_⟩
  rw [decide_eq_true k1, decide_eq_true k2]; rfl
end
end TT

namespace TT
open PySem L2
theorem hereOf_len : ∀ (h : List Int) (l : List Deed), (hereOf h l).length ≤ h.length + l.length
  | h, [] => Nat.le_refl _
  | h, ⟨wd, k⟩ :: l => by
    have ih := hereOf_len (stepH h ⟨wd, k⟩) l
    have s : (stepH h ⟨wd, k⟩).length ≤ h.length + 1 := by
      cases wd with
      | ask => exact Nat.le_succ _
      | put => show (h ++ [k]).length ≤ _; rw [List.length_append]; exact Nat.le_refl _
      | out => exact Nat.le_succ_of_le (List.length_filter_le _ _)
    show (hereOf (stepH h ⟨wd, k⟩) l).length ≤ h.length + (l.length + 1)
    omega
theorem okRow_mem : ∀ {h : List Int} {l : List Deed}, okRow h l → ∀ c ∈ l, 1 ≤ c.k ∧ c.k ≤ 6
  | _, [], _, c, m => by cases m
  | h, d :: l, o, c, m => by
    rcases List.mem_cons.mp m with rfl | m
    · exact ⟨o.1.1, o.1.2.1⟩
    · exact okRow_mem o.2 c m
theorem map_get {α β : Type} {f : α → β} {l : List α} {i : Nat} {y : β} (h : (l.map f)[i]? = some y) : ∃ x, l[i]? = some x ∧ y = f x := by
  rw [List.getElem?_map] at h
  cases e : l[i]? with
  | none => rw [e] at h; cases h
  | some x => rw [e] at h; exact ⟨x, rfl, (Option.some.inj h).symm⟩
theorem take_all {α β : Type} {f : α → β} {l : List α} : l.take (l.map f).length = l := by rw [List.length_map, List.take_length]
def intsD (l : List Int) : PyData := .list (l.map PyData.int)
def rowD (l : List Deed) : PyData := .list (l.map Deed.pd)
section
variable {P : Program} {w : World} {K : PySem.W.Frag} {mg : Str → Option Value} {base : Heap} {f : Addr} {fd : FuncData}
/-! ### keys_along -/
abbrev sKeysAlong : Stmt := top 70
theorem scKeysAlong : FnScope ["row", "here", "found", "word", "key", "one"] ["row"] (defScope sKeysAlong) := ⟨rfl, rfl, rfl, by decide +kernel, rfl, by decide +kernel, by decide +kernel⟩
def RAlong (dl : List PyData) (d : PyData) : Prop := ∃ row : List Deed, dl = [rowD row] ∧ okRow [] row ∧ row.length ≤ 40 ∧ d = .list ((along [] row).map intsD)
theorem ok_keys_along (Fn : Fun K "keys_along" "keys_along" sKeysAlong f fd) (hb : Binds K fd ["row"] []) (hm : mg "keys_along" = some (.ref f)) : DefOk P w K mg base 1 "keys_along" RAlong := by
  refine def_ok Fn scKeysAlong hb hm (by rintro _ _ ⟨row, rfl, _⟩; rfl) fun cdv A outer s H E hr dl d hR => ?_
  obtain ⟨row, rfl, ho, hl, rfl⟩ := hR
  refine xr_parDO (i := 1) (j := 2) (d := intsD []) (ys := []) rfl scKeysAlong.nd rfl rfl (by decide) rfl rfl (x_lst xa_nil (Nat.zero_le _)) (xl_lst xa_nil (Nat.zero_le _)) rfl rfl rfl ?_
  refine xr_for (xs := row.map Deed.pd) (fun i ds => ∃ sw sk : Slot, ds = [.dat (rowD row), .dat (intsD (hereOf [] (row.take i))), .own ((along [] (row.take i)).map intsD), sw, sk, .no]) ⟨.no, .no, rfl⟩ PassesOwn.never rfl (xv 0)
    (pg_tup rfl (pgs_cons (pg_name (i := 3) scKeysAlong.nd rfl (.inl rfl)) (pgs_cons (pg_name (i := 4) scKeysAlong.nd rfl (.inr rfl)) pgs_nil))) (fun i y ds' ey hI => ?_) fun ds' hI => ?_
  · obtain ⟨sw, sk, rfl⟩ := hI
    obtain ⟨⟨wd, k⟩, er, rfl⟩ := map_get ey
    have od := okRow_at ho er
    obtain ⟨o1, o2, o3⟩ := od
    have hz : (hereOf [] (row.take i)).length ≤ 40 := by
      have h1 := hereOf_len [] (row.take i)
      have h2 : (row.take i).length ≤ row.length := by rw [List.length_take]; exact Nat.min_le_right _ _
      simp only [List.length_nil] at h1
      omega
    have az : ((along [] (row.take i)).map intsD).length < sizeLine := by
      rw [List.length_map, along_len]
      have h2 : (row.take i).length ≤ row.length := by rw [List.length_take]; exact Nat.min_le_right _ _
      exact small1000 (by omega)
    refine ⟨_, gd_tup2, ?_⟩
    refine xr_if (k := false) (XT.of (xt_cmp op_ne opd_neB (x_cmp op_in_seq (opd_in (ns := hereOf [] (row.take i))) (xv 4) (xv 1) rfl) (x_cmp op_ne opd_neS (xv 3) x_str (nomark _)) (nomark _)) ?t1) nofun fun _ => ?_
    case t1 =>
      rw [wd_put wd]
      by_cases c : wd = .put
      · have n : ¬ k ∈ hereOf [] (row.take i) := fun z => o3.mp z c
        simp [c, n]
      · have n : k ∈ hereOf [] (row.take i) := o3.mpr c
        simp [c, n]
    -- what is left of a turn: the list that stands in place 1 is put behind the others
    have fin : ∀ h' : List Int, h' = stepH (hereOf [] (row.take i)) ⟨wd, k⟩ → XR (cxOf CX0 P w K mg base ["row", "here", "found", "word", "key", "one"] "keys_along" (defScope sKeysAlong) f cdv A outer s H E).nox
        [(match defBody sKeysAlong with | [_, .For _ _ [_, _, _, z] _ _, _] => z | _ => .Pass ⟨0, 0, 0, 0⟩)] [.dat (rowD row), .dat (intsD h'), .own ((along [] (row.take i)).map intsD), .dat (.str wd.word), .dat (.int k), .no] (fun d' => d' = .list ((along [] row).map intsD))
        (fun ds3 => ∃ sw sk : Slot, ds3 = [.dat (rowD row), .dat (intsD (hereOf [] (row.take (i + 1)))), .own ((along [] (row.take (i + 1))).map intsD), sw, sk, .no]) := fun h' eh => by
      refine xr_append (i := 2) rfl (.inl rfl) (by decide) (by decide) rfl az (XE.xp (Φ := fun d => d = intsD h') (xv 1) rfl) (pe_bm PySem.F.plainAttrs_list PySem.F.slot_list_append PySem.F.type_list_append mt_append (pe_var rfl (.inl rfl) (by decide) (by decide)) (pa_cons pE pa_nil)) fun d ed => ?_
      subst ed
      refine xr_nil ⟨.dat (.str wd.word), .dat (.int k), ?_⟩
      rw [take_one er, hereOf_app, along_one, List.map_append]
      subst eh
      rfl
    refine xr_if (k := decide (wd = .put)) (XT.of (xt_cmp op_eq opd_eqS (xv 3) x_str (nomark _)) (wd_put wd)) (fun c => ?_) fun c => ?_
    · have e := of_decide_eq_true c
      subst e
      refine xr_set (i := 1) scKeysAlong.nd rfl (.inl rfl) (x_op op_catS (opd_cat (xs := (hereOf [] (row.take i)).map PyData.int) (ys := [.int k]) (by rw [List.length_map]; exact Nat.le_of_lt (small1000 (by simp; omega)))) (xv 1) (x_lst (xa1 (xv 4)) one_small)) ?_
      refine xr_nil ?_
      refine xr_if (k := false) (XT.of (xt_cmp op_eq opd_eqS (xv 3) x_str (nomark _)) ((wd_out .put).trans rfl)) nofun fun _ => ?_
      refine fin (hereOf [] (row.take i) ++ [k]) rfl |> fun z => ?_
      have ee : intsD (hereOf [] (row.take i) ++ [k]) = .list ((hereOf [] (row.take i)).map PyData.int ++ [.int k]) := by unfold intsD; rw [List.map_append]; rfl
      rw [ee] at z
      exact z
    · refine xr_if (k := decide (wd = .out)) (XT.of (xt_cmp op_eq opd_eqS (xv 3) x_str (nomark _)) (wd_out wd)) (fun c2 => ?_) fun c2 => ?_
      · have e := of_decide_eq_true c2
        subst e
        refine xr_setLc (i := 1) (own := [("one", 5)]) (g := gName 5) (xs := ((hereOf [] (row.take i)).filter fun y => decide (y ≠ k)).map PyData.int) rfl scKeysAlong.nd rfl rfl (sw_true rfl rfl rfl (by decide +kernel)) (pi_list pE) (blkOk_by (N := ["row", "here", "found", "word", "key", "one"]) (sc := defScope sKeysAlong) (by decide +kernel))
          (fun _ _ _ _ _ => pg_name (i := 5) scKeysAlong.nd rfl (.inl rfl)) (pBT _)
          (lcd_list (ys := hereOf [] (row.take i)) (enc := PyData.int) (p := fun y => decide (y ≠ k)) (q := PyData.int) (xv 1) (small1000 (by omega)) (fun y _ => lct_of fun _ _ _ _ _ => XT.of (xt_cmp op_ne opd_neI (xv 5) (xv 4) (nomark _)) (by simp)) fun y hy _ => lce_of fun _ _ _ _ _ => xv 5) ?_
        refine xr_nil ?_
        exact fin _ rfl
      · cases wd with
        | put => cases c
        | out => cases c2
        | ask => exact fin _ rfl
  · obtain ⟨sw, sk, rfl⟩ := hI
    rw [take_all]
    exact xr_retOwn (i := 2) rfl (.inl rfl) (by decide) (by decide) rfl rfl
/-! ### is_row, need_row -/
abbrev sIsRow : Stmt := top 71
theorem scIsRow : FnScope ["candidate", "deed"] ["candidate"] (defScope sIsRow) := ⟨rfl, rfl, rfl, by decide +kernel, rfl, by decide +kernel, by decide +kernel⟩
def RIsRow (dl : List PyData) (d : PyData) : Prop := ∃ row : List Deed, dl = [rowD row] ∧ okRow [] row ∧ row.length ≤ 40 ∧ d = .bool true
theorem ok_is_row (Fn : Fun K "is_row" "is_row" sIsRow f fd) (hb : Binds K fd ["candidate"] []) (hm : mg "is_row" = some (.ref f)) (T : Tp K mg) (DD : DefOk P w K mg base 2 "is_deed" RIsDeed) (DA : DefOk P w K mg base 1 "keys_along" RAlong) : DefOk P w K mg base 3 "is_row" RIsRow := by
  refine def_ok Fn scIsRow hb hm (by rintro _ _ ⟨row, rfl, _⟩; rfl) fun cdv A outer s H E hr dl d hR => ?_
  obtain ⟨row, rfl, ho, hl, rfl⟩ := hR
  have hk := okRow_mem ho
  refine xr_if (k := false) (xt_or3 (k := false) (l := false) (m := false) (xt_not (k := true) (xt_val (x_isLst T rfl rfl (xv 0))))
    (fun _ => XT.of (xt_cmp op_gt opd_gt (x_callB call_len_seq cd_lenL rfl T.len PySem.boot_len (xa1 (xv 0))) (x_deeds T rfl) (nomark _)) ?t1) fun _ _ => xt_not (k := true) (xt_val ?t2)) nofun fun _ => ?_
  case t1 => rw [List.length_map]; exact decide_eq_false (by omega)
  case t2 =>
    refine XE.of (x_callB (cr_all rfl) (cd_all (bs := row.map fun _ => true)) rfl T.all (by decide +kernel) (xa1 (XE.of (XL.xe (xl_lc (own := [("deed", 1)]) (g := gName 1) (tt := tYes) rfl scIsRow.nd (pi_list pE) (blkOk_by (N := ["candidate", "deed"]) (sc := defScope sIsRow) (by decide +kernel))
      (fun _ _ _ _ _ => pg_name (i := 1) scIsRow.nd rfl (.inl rfl)) (fun _ _ _ _ _ => pts_nil)
      (lcd_list (ys := row) (enc := Deed.pd) (p := fun _ => true) (q := fun _ => .bool true) (xv 0) (small1000 (by omega)) (fun y _ => lct_yes) fun y hy _ => lce_of fun _ _ _ _ _ => x_call DD hr rfl (xa1 (xv 1)) ⟨y, rfl, (hk y hy).1, (hk y hy).2, rfl⟩))) ?l))) ?a
    case l => rw [List.filter_eq_self.mpr fun _ _ => rfl, List.map_map]; rfl
    case a => simp
  exact xr_ret (x_cmp op_notN opd_notN (x_call DA (hr.mono (by decide)) rfl (xa1 (xv 0)) ⟨row, rfl, ho, hl, rfl⟩) x_non (nomark _)) rfl
abbrev sNeedRow : Stmt := top 72
theorem scNeedRow : FnScope ["value"] ["value"] (defScope sNeedRow) := ⟨rfl, rfl, rfl, by decide +kernel, rfl, by decide +kernel, by decide +kernel⟩
def RNeedRow (dl : List PyData) (d : PyData) : Prop := ∃ row : List Deed, dl = [rowD row] ∧ okRow [] row ∧ row.length ≤ 40 ∧ d = .none
theorem ok_need_row (Fn : Fun K "need_row" "need_row" sNeedRow f fd) (hb : Binds K fd ["value"] []) (hm : mg "need_row" = some (.ref f)) (D : DefOk P w K mg base 3 "is_row" RIsRow) : DefOk P w K mg base 4 "need_row" RNeedRow := by
  refine def_ok Fn scNeedRow hb hm (by rintro _ _ ⟨row, rfl, _⟩; rfl) fun cdv A outer s H E hr dl d hR => ?_
  obtain ⟨row, rfl, ho, hl, rfl⟩ := hR
  exact xr_if (k := false) (xt_not (k := true) (xt_val (x_call D hr rfl (xa1 (xv 0)) ⟨row, rfl, ho, hl, rfl⟩))) nofun fun _ => xr_nil rfl
/-! ### run, need_run, shapes_along, costs_along -/
def shD (l : List Tr) : PyData := .list (l.map Tr.pd)
abbrev sRun : Stmt := top 73
theorem scRun : FnScope ["rule", "row", "shape", "shapes", "costs", "deed"] ["rule", "row"] (defScope sRun) := ⟨rfl, rfl, rfl, by decide +kernel, rfl, by decide +kernel, by decide +kernel⟩
def RRun (dl : List PyData) (d : PyData) : Prop := ∃ (r : Rl) (row : List Deed), dl = [r.pd, rowD row] ∧ okRow [] row ∧ row.length ≤ 40 ∧ d = .tuple [shD (shapes r .nil row), intsD (costs r .nil row)]
theorem ok_run (Fn : Fun K "run" "run" sRun f fd) (hb : Binds K fd ["rule", "row"] []) (hm : mg "run" = some (.ref f)) (DC : DefOk P w K mg base 8 "cost_of" RCostOf) (DB : DefOk P w K mg base 16 "behind" RBehind) : DefOk P w K mg base 17 "run" RRun := by
  refine def_ok Fn scRun hb hm (by rintro _ _ ⟨r, row, rfl, _⟩; rfl) fun cdv A outer s H E hr dl d hR => ?_
  obtain ⟨r, row, rfl, ho, hl, rfl⟩ := hR
  refine xr_par3 (i := 2) (j := 3) (l := 4) (d := Tr.nil.pd) (ys := []) (zs := []) rfl scRun.nd rfl rfl rfl (by decide) (by decide) (by decide) (x_tup xa_nil (Nat.zero_le _)) (xl_lst xa_nil (Nat.zero_le _)) (xl_lst xa_nil (Nat.zero_le _))
    (fun ta h => ps_par3 rfl scRun.nd rfl rfl rfl (by decide) (by decide) (by decide) rfl rfl rfl h rfl) rfl rfl rfl ?_
  refine xr_for (xs := row.map Deed.pd) (fun i ds => ∃ sd : Slot, ds = [.dat r.pd, .dat (rowD row), .dat (shapeOf r .nil (row.take i)).pd, .own ((shapes r .nil (row.take i)).map Tr.pd), .own ((costs r .nil (row.take i)).map PyData.int), sd]) ⟨.no, rfl⟩ PassesOwn.never rfl (xv 1)
    (pg_name (i := 5) scRun.nd rfl (.inl rfl)) (fun i y ds' ey hI => ?_) fun ds' hI => ?_
  · obtain ⟨sd, rfl⟩ := hI
    obtain ⟨c, er, rfl⟩ := map_get ey
    have od := okRow_at ho er
    have g := good_of (r := r) (okRow_take i ho)
    have h2 : (row.take i).length ≤ 40 := by rw [List.length_take]; exact Nat.le_trans (Nat.min_le_right _ _) hl
    refine ⟨_, gd_name, ?_⟩
    refine xr_append (i := 4) rfl (.inl rfl) (by decide) (by decide) rfl (by rw [List.length_map, costs_len]; exact small1000 (by omega)) (XE.xp (Φ := fun d => d = .int (cost (shapeOf r .nil (row.take i)) c)) (x_call DC (hr.mono (by decide)) rfl (xa_cons (xv 2) (xa1 (xv 5))) ⟨_, c, rfl, g.b.six, rfl⟩) rfl)
      (pe_bm PySem.F.plainAttrs_list PySem.F.slot_list_append PySem.F.type_list_append mt_append (pe_var rfl (.inl rfl) (by decide) (by decide)) (pa_cons pE pa_nil)) fun d ed => ?_
    subst ed
    refine xr_set (i := 2) scRun.nd rfl (.inl rfl) (x_call DB hr rfl (xa_cons (xv 0) (xa_cons (xv 2) (xa1 (xv 5)))) ⟨r, _, _, c, rfl, g, od, rfl⟩) ?_
    refine xr_append (i := 3) rfl (.inl rfl) (by decide) (by decide) rfl (by rw [List.length_map, shapes_len]; exact small1000 (by omega)) (XE.xp (Φ := fun d => d = (step r (shapeOf r .nil (row.take i)) c).pd) (xv 2) rfl)
      (pe_bm PySem.F.plainAttrs_list PySem.F.slot_list_append PySem.F.type_list_append mt_append (pe_var rfl (.inl rfl) (by decide) (by decide)) (pa_cons pE pa_nil)) fun d ed => ?_
    subst ed
    refine xr_nil ⟨.dat c.pd, ?_⟩
    rw [take_one er, shapeOf_app, shapes_one, costs_one, List.map_append, List.map_append]
    rfl
  · obtain ⟨sd, rfl⟩ := hI
    rw [take_all]
    refine xr_freeze (i := 3) (xs := (shapes r .nil row).map Tr.pd) rfl ?_
    refine xr_freeze (i := 4) (xs := (costs r .nil row).map PyData.int) rfl ?_
    exact xr_ret (x_tup (xa_cons (xv 3) (xa1 (xv 4))) (by decide : 2 ≤ sizeLine)) rfl
abbrev sNeedRun : Stmt := top 74
theorem scNeedRun : FnScope ["rule", "row"] ["rule", "row"] (defScope sNeedRun) := ⟨rfl, rfl, rfl, by decide +kernel, rfl, by decide +kernel, by decide +kernel⟩
def RNeedRun (dl : List PyData) (d : PyData) : Prop := ∃ (r : Rl) (row : List Deed), dl = [r.pd, rowD row] ∧ okRow [] row ∧ row.length ≤ 40 ∧ d = .none
theorem ok_need_run (Fn : Fun K "need_run" "need_run" sNeedRun f fd) (hb : Binds K fd ["rule", "row"] []) (hm : mg "need_run" = some (.ref f)) (DR : DefOk P w K mg base 3 "need_rule" RNeedRule) (DW : DefOk P w K mg base 4 "need_row" RNeedRow) : DefOk P w K mg base 5 "need_run" RNeedRun := by
  refine def_ok Fn scNeedRun hb hm (by rintro _ _ ⟨r, row, rfl, _⟩; rfl) fun cdv A outer s H E hr dl d hR => ?_
  obtain ⟨r, row, rfl, ho, hl, rfl⟩ := hR
  refine xr_expr (x_call DR (hr.mono (by decide)) rfl (xa1 (xv 0)) ⟨rfl, .inl ⟨r, rfl⟩⟩) ?_
  exact xr_expr (x_call DW hr rfl (xa1 (xv 1)) ⟨row, rfl, ho, hl, rfl⟩) (xr_nil rfl)
abbrev sShapesAlong : Stmt := top 75
theorem scShapesAlong : FnScope ["rule", "row"] ["rule", "row"] (defScope sShapesAlong) := ⟨rfl, rfl, rfl, by decide +kernel, rfl, by decide +kernel, by decide +kernel⟩
def RShapes (dl : List PyData) (d : PyData) : Prop := ∃ (r : Rl) (row : List Deed), dl = [r.pd, rowD row] ∧ okRow [] row ∧ row.length ≤ 40 ∧ d = shD (shapes r .nil row)
theorem ok_shapes_along (Fn : Fun K "shapes_along" "shapes_along" sShapesAlong f fd) (hb : Binds K fd ["rule", "row"] []) (hm : mg "shapes_along" = some (.ref f)) (DN : DefOk P w K mg base 5 "need_run" RNeedRun) (DR : DefOk P w K mg base 17 "run" RRun) : DefOk P w K mg base 18 "shapes_along" RShapes := by
  refine def_ok Fn scShapesAlong hb hm (by rintro _ _ ⟨r, row, rfl, _⟩; rfl) fun cdv A outer s H E hr dl d hR => ?_
  obtain ⟨r, row, rfl, ho, hl, rfl⟩ := hR
  refine xr_expr (x_call DN (hr.mono (by decide)) rfl (xa_cons (xv 0) (xa1 (xv 1))) ⟨r, row, rfl, ho, hl, rfl⟩) ?_
  exact xr_ret (x_at (x_call DR hr rfl (xa_cons (xv 0) (xa1 (xv 1))) ⟨r, row, rfl, ho, hl, rfl⟩) x_int) rfl
abbrev sCostsAlong : Stmt := top 76
theorem scCostsAlong : FnScope ["rule", "row"] ["rule", "row"] (defScope sCostsAlong) := ⟨rfl, rfl, rfl, by decide +kernel, rfl, by decide +kernel, by decide +kernel⟩
def RCosts (dl : List PyData) (d : PyData) : Prop := ∃ (r : Rl) (row : List Deed), dl = [r.pd, rowD row] ∧ okRow [] row ∧ row.length ≤ 40 ∧ d = intsD (costs r .nil row)
theorem ok_costs_along (Fn : Fun K "costs_along" "costs_along" sCostsAlong f fd) (hb : Binds K fd ["rule", "row"] []) (hm : mg "costs_along" = some (.ref f)) (DN : DefOk P w K mg base 5 "need_run" RNeedRun) (DR : DefOk P w K mg base 17 "run" RRun) : DefOk P w K mg base 18 "costs_along" RCosts := by
  refine def_ok Fn scCostsAlong hb hm (by rintro _ _ ⟨r, row, rfl, _⟩; rfl) fun cdv A outer s H E hr dl d hR => ?_
  obtain ⟨r, row, rfl, ho, hl, rfl⟩ := hR
  refine xr_expr (x_call DN (hr.mono (by decide)) rfl (xa_cons (xv 0) (xa1 (xv 1))) ⟨r, row, rfl, ho, hl, rfl⟩) ?_
  exact xr_ret (x_at (x_call DR hr rfl (xa_cons (xv 0) (xa1 (xv 1))) ⟨r, row, rfl, ho, hl, rfl⟩) x_int) rfl
end
end TT

namespace TT
open PySem L2
/-! ### defs that turn the town -/
def spT (K : PySem.W.Frag) (R : List PyData → (PyData → Prop) → Prop) : Sp := fun vs H Q _ => ∃ (F : Hp) (a : Addr) (s : V) (ns : List Int) (more : List V) (dl : List PyData) (Φ : PyData → Prop),
  Hd (some a) F H ∧ vs = s :: .ref a :: more ∧ Dp K F s (intsD ns) ∧ DpAll K F more dl ∧ R dl Φ ∧ ∀ v d F' H', Grow (some a) F H F' H' → Φ d → Dp K F' v d → Q v H'
structure DefT (P : Program) (w : World) (K : PySem.W.Frag) (mg : Str → Option Value) (base : Heap) (k : Nat) (x : Str) (R : List PyData → (PyData → Prop) → Prop) : Prop where
  ex : ∃ f fd ps, FnOk P w K mg base CX0 k f fd ps (spT K R) ∧ mg x = some (.ref f) ∧ PySem.W.keepIn K (.ref f) = true ∧ Binds K fd ps []
section
variable {P : Program} {w : World} {base : Heap} {K : PySem.W.Frag} {mg : Str → Option Value}
theorem DefT.up {x : Str} {j k : Nat} {R : List PyData → (PyData → Prop) → Prop} (D : DefT P w K mg base j x R) (h : j ≤ k) : DefT P w K mg base k x R := by
  obtain ⟨f, fd, ps, G, r⟩ := D.ex
  exact ⟨f, fd, ps, G.mono h, r⟩
end
section
variable {X : Cx} {a b c e : Expr} {es : List Expr} {ds : DE} {d : PyData} {dl : List PyData} {pos p pt : Pos} {x t : Str} {Φ Ψ : PyData → Prop}
theorem x_callT {k j : Nat} {R : List PyData → (PyData → Prop) → Prop} {ns : List Int} (D : DefT X.prog X.w X.K X.mg X.base k x R) (hr : Room k X.A) (hg : Gl X x) (hs : XE X a ds (intsD ns)) (hN : X.N[j]? = some t) (hv : Vis X.env.scope t) (hd : (t == ("__debug__" : Str)) = false) (hcd : (t == ("__classdict__" : Str)) = false)
    (ht : ds[j]? = some .twn) (ha : XA X es ds dl) (hR : R dl Φ) (hdb : (x == ("__debug__" : Str)) = false := by decide)
    (he : starEach (a :: .Name t pt :: es) X.env = (false, eval a X.env) :: starEach (.Name t pt :: es) X.env := by rfl) (he2 : starEach (.Name t pt :: es) X.env = (false, eval (.Name t pt) X.env) :: starEach es X.env := by rfl)
    (hpl : (backTo pos (starEach (.Name t pt :: es) X.env)).any (·.1) = false := by rfl) : XP X (.Call (.Name x p) (a :: .Name t pt :: es) [] pos) ds Φ := fun T F H σ Q ok q => by
  obtain ⟨f, fd, ps, G, hm, hk, hb⟩ := D.ex
  obtain ⟨ad, h1, rfl⟩ := ok.twn j ht
  refine wE_of (pe_call G hr hg hm hk hb .nil pass0 (pa_cons pE (pa_cons (pe_var hN hv hd hcd) pA he2) he) hdb he hpl) (hs _ F H σ _ ok fun v F1 H1 g1 q1 => ⟨.ref ad, h1, ha _ F1 H1 σ _ (ok.grow g1) fun vs F2 H2 g2 q2 => ?_⟩)
  exact ⟨F2, ad, v, ns, vs, dl, Φ, (ok.hd.grow g1).grow g2, by rw [List.append_nil], Dp.up q1 g2.ff, q2, hR, fun v d F3 H3 g3 p3 q3 => q v d F3 H3 ((g1.trans g2).trans g3) p3 q3⟩
/-- some item -/
theorem xp_ix {xs : List PyData} (ha : XE X a ds (.list xs)) (hb : XP X b ds fun d => ∃ n : Int, d = .int n ∧ 0 ≤ n ∧ n < (xs.length : Int)) (hs : PlainIx b := by intro _ _; rfl) : XP X (.Subscript a b pos) ds fun d => d ∈ xs := fun T F H σ Q ok q =>
  wE_of (pe_ix ix_list pE pE hs) (ha T F H σ _ ok fun v F1 H1 g1 q1 => hb T F1 H1 σ _ (ok.grow g1) fun u d F2 H2 g2 ⟨n, ed, n0, n1⟩ q2 => by
    subst ed
    obtain ⟨a, vs, rfl, h1, h2⟩ := dp_lst q1
    have hlt : n.toNat < xs.length := by omega
    have ez : n = ((n.toNat : Nat) : Int) := by omega
    have e : atI xs ((n.toNat : Nat) : Int) = some xs[n.toNat] := atI_nat (by simp [List.getElem?_eq_getElem hlt])
    rw [← ez] at e
    obtain ⟨v', y1, y2⟩ := atI_map h2 e
    exact ⟨a, vs, n, v', rfl, dp_int q2, (g2.ff.trans ((ok.hd.grow g1).grow g2).fh).seq h1, y1, q v' _ F2 H2 (g1.trans g2) (List.getElem_mem hlt) (Dp.up y2 g2.ff)⟩)
theorem xp_tup2 {x1} (ha : XP X a ds Φ) (hb : XP X b ds Ψ) (h1 : starEach [a, b] X.env = (false, eval a X.env) :: starEach [b] X.env := by rfl) (h2 : starEach [b] X.env = (false, eval b X.env) :: starEach [] X.env := by rfl) :
    XP X (.Tuple [a, b] x1 pos) ds fun d => ∃ x y, d = .tuple [x, y] ∧ Φ x ∧ Ψ y := fun T F H σ Q ok q =>
  wE_of (pe_tup (pa_cons pE (pa_cons pE pa_nil h2) h1)) (ha T F H σ _ ok fun v d F1 H1 g1 p1 q1 => hb T F1 H1 σ _ (ok.grow g1) fun u d' F2 H2 g2 p2 q2 => ⟨(by decide : 2 ≤ sizeLine), fun p hp => by
    have g3 : Grow T F2 H2 (upd F2 p (.tup [v, u])) (upd H2 p (.tup [v, u])) := .new ((ok.hd.grow g1).grow g2) hp
    exact q _ _ _ _ ((g1.trans g2).trans g3) ⟨d, d', rfl, p1, p2⟩ (.tup (.inl (.inl upd_same)) (.cons (Dp.up q1 (g2.ff.trans g3.ff)) (.cons (Dp.up q2 g3.ff) .nil)))⟩)
theorem XP.mono (h : XP X e ds Φ) (k : ∀ d, Φ d → Ψ d) : XP X e ds Ψ := fun T F H σ Q ok q => h T F H σ Q ok fun v d F' H' g p w => q v d F' H' g (k d p) w
/-- tests whose answer is open -/
theorem xtp_or (h1 : XT X a ds false) (h2 : XTP X b ds) : XTP X (.BoolOp .Or [a, b] pos) ds := fun T F H σ Q ok q =>
  wT_of (PW.pt (pw_or pT (pw_or1 pT))) (h1 T F H σ _ ok fun F1 H1 g1 => h2 T F1 H1 σ Q (ok.grow g1) fun k F2 H2 g2 => q k F2 H2 (g1.trans g2))
theorem xtp_and (h1 : XT X a ds true) (h2 : XTP X b ds) : XTP X (.BoolOp .And [a, b] pos) ds := fun T F H σ Q ok q =>
  wT_of (PW.pt (pw_and pT (pw_and1 pT))) (h1 T F H σ _ ok fun F1 H1 g1 => h2 T F1 H1 σ Q (ok.grow g1) fun k F2 H2 g2 => q k F2 H2 (g1.trans g2))
theorem xtp_eqI {m : Int} (ha : XP X a ds fun d => ∃ n : Int, d = .int n ∧ Ψ d) (hb : XE X b ds (.int m)) (hm : behindInMarks .Eq b = false) : XTP X (.Compare a [.Eq] [b] pos) ds := fun T F H σ Q ok q =>
  wT_of (pt_cmpR op_eq pE pE hm) (ha T F H σ _ ok fun v d F1 H1 g1 ⟨n, ed, _⟩ q1 => hb T F1 H1 σ _ (ok.grow g1) fun u F2 H2 g2 q2 => by
    subst ed
    rw [dp_int q1, dp_int q2]
    exact ⟨rfl, _, rfl, q _ F2 H2 (g1.trans g2)⟩)
/-- sorted of a list of ints -/
theorem xp_sorted {ns : List Int} (hc : X.calm = true) (hg : Gl X "sorted") (hm : X.mg "sorted" = none) (h64 : ns.length < 64) (ha : XE X e ds (intsD ns)) (he : starEach (e :: []) X.env = (false, eval e X.env) :: starEach [] X.env := by rfl) (hpl : (backTo pos (starEach [] X.env)).any (·.1) = false := by rfl) :
    XP X (.Call (.Name "sorted" p) [e] [] pos) ds fun d => ∃ ms : List Int, d = intsD ms ∧ ms.Perm ns := fun T F H σ Q ok q =>
  wE_of (pe_callB cr_sorted hg hm (by decide +kernel) (pa_cons pE pa_nil he) (by decide) (by decide) he hpl) (ha T F H σ _ ok fun v F1 H1 g1 q1 => by
    obtain ⟨a, vs, rfl, h1, h2⟩ := dp_lst q1
    rw [dpAll_ints h2] at h1
    refine ⟨a, ns, rfl, g1.fh.seq h1, h64, fun ms p p1 p2 np => ?_⟩
    have g : Grow T F1 H1 (upd F1 p (.lst (ms.map V.int))) (upd H1 p (.lst (ms.map V.int))) := .new (ok.hd.grow g1) np
    exact q _ _ _ _ (g1.trans g) ⟨ms, rfl, p1⟩ (.lst (.inl (.inl upd_same)) (dpAll_ofInts ms)))
/-- for over range(n), n below a bound -/
theorem xr_forRng {tg : Expr} {g : TG} {body rest : List Stmt} {Nx : DE → Prop} {p1 p2 : Pos} (B : Nat) (I : Nat → DE → Prop) (h0 : I 0 ds) (hB : B ≤ 1000) (hp : PassesOwn (model X.prog X.w) X.A X.env X.xe) (hc : X.calm = true) (hgl : Gl X "range") (hm : X.mg "range" = none)
    (he : XP X e ds fun d => ∃ n : Int, d = .int n ∧ 0 ≤ n ∧ n ≤ (B : Int)) (hg : PG X tg g) (hs : ∀ (i : Nat) ds', i < B → I i ds' → ∃ ds2, GD X.K g (.int (i : Int)) ds' ds2 ∧ XR X body ds2 Φ fun ds3 => I (i + 1) ds3) (hd : ∀ (n : Nat) ds', n ≤ B → I n ds' → XR X rest ds' Φ Nx)
    (s1 : starEach [e] X.env = [(false, eval e X.env)] := by rfl) (s2 : starEach (e :: []) X.env = (false, eval e X.env) :: starEach [] X.env := by rfl) (hf : ∀ x, foldedSetIterable (.Call (.Name "range" p1) [e] [] p2) X.env x = pure x := by intro _; rfl) :
    XR X (.For tg (.Call (.Name "range" p1) [e] [] p2) body [] pos :: rest) ds Φ Nx := fun T F0 H0 F H σ D ok kr kn => by
  refine wSs_of (pss_cons (ps_for hp hc (pi_range1 hgl hm (pa_cons pE pa_nil s2) s1) hg pSs hf) pSs) (he T F H σ _ ok.e fun v d F1 H1 g1 ⟨n, ed, n0, n1⟩ q1 => ?_)
  subst ed
  refine ⟨n, by rw [dp_int q1], by omega, by omega, for_range (lo := 0) (n := n.toNat) (fun i σ' H' => ∃ F' ds', Same F1 F' ∧ Ok X.K T F0 H0 F' H' σ' ds' ∧ I i ds') ⟨F1, ds, .refl F1, ok.grow g1, h0⟩ (fun i σ' H' hi q => ?_) fun σ' H' q => ?_⟩
  · obtain ⟨F', ds', s', ok', i'⟩ := q
    obtain ⟨ds2, gd, bd⟩ := hs i ds' (by omega) i'
    have ez : V.int (0 + (i : Int)) = V.int (i : Int) := by rw [Int.zero_add]
    rw [ez]
    exact gd T F0 H0 F' H' σ' _ _ ok' (.int _) fun σ2 ok2 => bd T F0 H0 F' H' σ2 _ ok2 kr fun σ3 ds3 F3 H3 s3 ok3 i3 => ⟨F3, ds3, s'.trans s3, ok3, i3⟩
  · obtain ⟨F', ds', s', ok', i'⟩ := q
    exact hd n.toNat ds' (by omega) i' T F0 H0 F' H' σ' D ok' kr fun σ3 ds3 F3 H3 s3 => kn σ3 ds3 F3 H3 ((g1.ff.trans s').trans s3)
end
def startT (N : List Str) (ns : List Int) (dl : List PyData) : DE := .dat (intsD ns) :: .twn :: (dl.map Slot.dat ++ List.replicate (N.length - (dl.length + 2)) Slot.no)
theorem start_okT {K : PySem.W.Frag} {F H : Hp} {N : List Str} {ad : Addr} {s : V} {ns : List Int} {vs : List V} {dl : List PyData} (h : Hd (some ad) F H) (hs : Dp K F s (intsD ns)) (w : DpAll K F vs dl) : EnvOk K (some ad) F H (L2.start N (s :: .ref ad :: vs)) (startT N ns dl) := by
  have hl := dpAll_len w
  have no_own : ∀ (i : Nat) (x : Slot), (dl.map Slot.dat ++ List.replicate (N.length - (dl.length + 2)) Slot.no)[i]? = some x → x = .no ∨ ∃ d, x = .dat d ∧ dl[i]? = some d := fun i x q => by
    by_cases c : i < (dl.map Slot.dat).length
    · rw [List.getElem?_append_left c, List.getElem?_map] at q
      cases e : dl[i]? with
      | none => rw [e] at q; cases q
      | some d => rw [e] at q; exact .inr ⟨d, (Option.some.inj q).symm, rfl⟩
    · rw [List.getElem?_append_right (Nat.le_of_not_lt c)] at q
      exact .inl (List.eq_of_mem_replicate (List.mem_of_getElem? q))
  have noOwn : ∀ (i : Nat) (xs : List PyData), (startT N ns dl)[i]? ≠ some (.own xs) := fun i xs q => by
    match i, q with
    | 0, q => cases q
    | 1, q => cases q
    | i + 2, q => rcases no_own i _ q with z | ⟨_, z, _⟩ <;> cases z
  refine ⟨?_, h, fun i d q => ?_, fun i xs q => absurd q (noOwn i xs), fun i q => ?_, fun i j xs ys b q => absurd q (noOwn i xs)⟩
  · unfold L2.start startT
    simp only [List.length_append, List.length_map, List.length_replicate, List.length_cons, hl]
    omega
  · match i, q with
    | 0, q => cases q; exact ⟨s, rfl, hs⟩
    | 1, q => cases q
    | i + 2, q =>
      rcases no_own i _ q with z | ⟨d', z, e⟩
      · cases z
      · cases z
        obtain ⟨v, h1, h2⟩ := dpAll_get w e
        refine ⟨v, ?_, h2⟩
        show ((vs.map some) ++ _)[i]? = some (some v)
        rw [List.getElem?_append_left (by rw [List.length_map]; exact (List.getElem?_eq_some_iff.mp h1).1), List.getElem?_map, h1]
        rfl
  · match i, q with
    | 0, q => cases q
    | 1, q => exact ⟨ad, rfl, rfl⟩
    | i + 2, q => rcases no_own i _ q with z | ⟨_, z, _⟩ <;> cases z
theorem def_okT {P : Program} {w : World} {K : PySem.W.Frag} {mg : Str → Option Value} {base : Heap} {x qual : Str} {st : Stmt} {f : Addr} {fd : FuncData} {N ps : List Str} {k : Nat} {R : List PyData → (PyData → Prop) → Prop} (Fn : Fun K x qual st f fd) (S : FnScope N ps (defScope st)) (hb : Binds K fd ps []) (hm : mg x = some (.ref f))
    (hl : ∀ dl Φ, R dl Φ → dl.length + 2 = ps.length)
    (hbody : ∀ cdv A outer s H E, Room k (cxOf CX0 P w K mg base N qual (defScope st) f cdv A outer s H E).A → ∀ ns dl Φ, R dl Φ →
      XR (cxOf CX0 P w K mg base N qual (defScope st) f cdv A outer s H E).nox (defBody st) (startT N ns dl) Φ (fun _ => False)) : DefT P w K mg base (k + 1) x R := by
  refine ⟨f, fd, ps, Fn.ok S (fun vs H Q E h => ?_) (fun cdv A outer s H vs Q E hr h => ?_), hm, Fn.kp, hb⟩
  · obtain ⟨F, a, sv, ns, more, dl, Φ, hd, rfl, _, w, r, _⟩ := h
    rw [List.length_cons, List.length_cons, dpAll_len w]; exact hl dl Φ r
  · obtain ⟨F, a, sv, ns, more, dl, Φ, hd, rfl, hs, w, r, q⟩ := h
    refine ⟨_, pSs, ?_⟩
    have e0 := start_okT (N := N) hd hs w
    refine hbody cdv A outer s H E hr ns dl Φ r (some a) F H F H (L2.start N (sv :: .ref a :: more)) _ ⟨.refl hd, e0, fun i xs b q1 => ?_⟩ (fun v d' F' H' g e q1 => q v d' F' H' g e q1) fun σ' ds' F' H' _ ok' e => e.elim
    obtain ⟨b', vs', h1, h2, h3, h4, h5⟩ := e0.own i xs q1
    match i, q1 with
    | 0, q1 => cases q1
    | 1, q1 => cases q1
    | i + 2, q1 =>
      have m := List.mem_of_getElem? q1
      rcases List.mem_cons.mp m with m | m
      · cases m
      rcases List.mem_cons.mp m with m | m
      · cases m
      rcases List.mem_append.mp m with m | m
      · obtain ⟨_, _, z⟩ := List.mem_map.mp m
        cases z
      · exact nomatch List.eq_of_mem_replicate m
end TT

namespace TT
open PySem L2
theorem dpAll_set {K : PySem.W.Frag} {H : Hp} {v : V} {d : PyData} (h : Dp K H v d) : ∀ {vs : List V} {ds : List PyData} (i : Nat), DpAll K H vs ds → DpAll K H (vs.set i v) (ds.set i d)
  | _, [], _, q => by cases q; exact .nil
  | _, e :: es, 0, q => by
    cases q with
    | cons q1 q2 => exact .cons h q2
  | _, e :: es, i + 1, q => by
    cases q with
    | cons q1 q2 => exact .cons q1 (dpAll_set h i q2)
/-- a block in which the second place holds one list from first to last -/
def XW (X : Cx) (sts : List Stmt) (ds : DE) (G : PyData → DE → Prop) : Prop := ∀ T F0 H0 F H σ (D : Ends) (ad : Addr), Ok X.K T F0 H0 F H σ ds → σ[1]? = some (some (.ref ad)) →
  (∀ v d σ' ds' F' H', Ok X.K T F0 H0 F' H' σ' ds' → σ'[1]? = some (some (.ref ad)) → G d ds' → Dp X.K F' v d → D.rt v H') → wSs X sts D σ H
section
variable {X : Cx} {c e : Expr} {ds : DE} {d : PyData} {pos p1 p2 : Pos} {x : Str} {body rest : List Stmt} {G : PyData → DE → Prop} {xs : List PyData}
theorem xw_ret (h : XE X e ds d) (p : G d ds) : XW X (.Return (some e) pos :: rest) ds G := fun T F0 H0 F H σ D ad ok hs k =>
  wSs_of (pss_cons (ps_ret pE) pSs) (h T F H σ _ ok.e fun v F1 H1 g1 q1 => k v d σ ds F1 H1 (ok.grow g1) hs p q1)
theorem xw_set {i : Nat} {pos' : Pos} (hi1 : i ≠ 1) (hN : X.N.Nodup) (hi : X.N[i]? = some x) (hx : Loc X.env.scope x) (h : XE X e ds d) (k : XW X rest (ds.set i (.dat d)) G) (hs : swapsWith e (some (.Name x pos')) pos.line X.env = pure false := by rfl)
    (hf : X.fn x = true ∨ X.env.scope.names.lookup x = some .local := by first | exact .inl rfl | exact .inr rfl | assumption) : XW X (.Assign [.Name x pos'] e pos :: rest) ds G := fun T F0 H0 F H σ D ad ok h1 kr =>
  wSs_of (pss_cons (ps_set (i := i) hN hi hx pE hs hf) pSs) (h T F H σ _ ok.e fun v F1 H1 g1 q1 => k T F0 H0 F1 H1 _ D ad ((ok.grow g1).set q1) (by rw [List.getElem?_set_ne hi1]; exact h1) kr)
theorem xw_if {k : Bool} (h : XT X c ds k) (h1 : k = true → XW X body ds G) (h2 : k = false → XW X rest ds G) : XW X (.If c body [] pos :: rest) ds G := fun T F0 H0 F H σ D ad ok hs kr =>
  wSs_of (pss_cons (ps_if pT pSs pss_nil) pSs) (h T F H σ _ ok.e fun F1 H1 g1 => by
    cases k with
    | true => exact h1 rfl T F0 H0 F1 H1 σ _ ad (ok.grow g1) hs kr
    | false => exact h2 rfl T F0 H0 F1 H1 σ D ad (ok.grow g1) hs kr)
/-- xs[j] = e, xs in the second place -/
theorem xw_item {j : Nat} {z : PyData} {cj} (hN : X.N[1]? = some x) (hv : Vis X.env.scope x) (hd : (x == ("__debug__" : Str)) = false) (hcd : (x == ("__classdict__" : Str)) = false) (q : ds[1]? = some (.own xs)) (hj : j < xs.length) (h : XE X e ds z)
    (k : XW X rest (ds.set 1 (.own (xs.set j z))) G) (hs : swapsWithSole [.Subscript (.Name x p1) (.Constant (.int (j : Int)) cj p2) pos'] e pos.line X.env = pure false) (hw : swappedStores [.Subscript (.Name x p1) (.Constant (.int (j : Int)) cj p2) pos'] e X.env = pure none) :
    XW X (.Assign [.Subscript (.Name x p1) (.Constant (.int (j : Int)) cj p2) pos'] e pos :: rest) ds G := fun T F0 H0 F H σ D ad ok h1 kr =>
  wSs_of (pss_cons (ps_asg pE (pg_sub (pe_var (i := 1) hN hv hd hcd) pe_int set_list) hs hw) pSs) (h T F H σ _ ok.e fun v F1 H1 g1 q1 => by
    have ok1 := ok.grow g1
    obtain ⟨a, vs, s1, s2, s3, s4, s5⟩ := ok1.e.own 1 xs q
    rw [h1] at s1
    cases s1
    refine ⟨.ref ad, h1, ad, vs, j, j, rfl, rfl, s4, ?_, ?_⟩
    · unfold ixN
      rw [if_pos (by omega), if_pos (by rw [dpAll_len s5]; omega), Int.toNat_natCast]
    · exact k T F0 H0 F1 _ σ D ad (ok1.change (vs := vs) q h1 (dpAll_set q1 j s5)) h1 kr)
theorem get_list {X : Cx} : PGet X (fun o i H Q => ∃ p vs k v, o = .ref p ∧ i = .int k ∧ SqL X.K H p vs ∧ 0 ≤ k ∧ k < 1000 ∧ vs[k.toNat]? = some v ∧ Q v H) := by
  intro pins s σ H o i ov iv Q I ro ri hyp
  obtain ⟨p, vs, k, v, rfl, rfl, hq, k0, k1, hv, fin⟩ := hyp
  cases ro
  obtain ⟨t, rfl⟩ := ri
  obtain ⟨cells, r, pl, z⟩ := I.list hq
  obtain ⟨u, hu, ru⟩ := r.get hv
  exact wpAny_getItem_list pl.isList k0 (by omega) (by rw [← Array.getElem?_toList]; exact hu) ⟨v, H, I, ru, fin⟩
/-- xs[0] += e -/
theorem xw_aug0 {m z : Int} {more : List PyData} {cj} (hN : X.N[1]? = some x) (hv : Vis X.env.scope x) (hd : (x == ("__debug__" : Str)) = false) (hcd : (x == ("__classdict__" : Str)) = false) (q : ds[1]? = some (.own (.int m :: more))) (h : XE X e ds (.int z))
    (k : XW X rest (ds.set 1 (.own (.int (m + z) :: more))) G)
    (ha : ∀ ov iv new, augStore (.Constant (.int 0) cj p2) ov iv new = (do holding [new, ov, iv] (setItem ov iv new); release [new, ov, iv] []; pure .next) := by intros; rfl) :
    XW X (.AugAssign (.Subscript (.Name x p1) (.Constant (.int 0) cj p2) pos') .Add e pos :: rest) ds G := fun T F0 H0 F H σ D ad ok h1 kr => by
  obtain ⟨a, vs, s1, s2, s3, s4, s5⟩ := ok.e.own 1 _ q
  rw [h1] at s1
  cases s1
  refine wSs_of (pss_cons (ps_augS (pe_var (i := 1) hN hv hd hcd) pe_int get_list pE ip_add set_list ha) pSs) ⟨.ref ad, h1, ?_⟩
  cases s5 with
  | cons w1 w2 =>
    rw [dp_int w1] at s4
    rename_i vs
    refine ⟨ad, .int m :: vs, 0, .int m, rfl, rfl, .inl (.inl s4), by decide, by decide, rfl, h T F H σ _ ok.e fun v F1 H1 g1 q1 => ?_⟩
    have ok1 := ok.grow g1
    have e4 : H1 ad = some (.lst (.int m :: vs)) := g1.hh ad _ s4 s3
    refine ⟨m, z, rfl, dp_int q1, ad, .int m :: vs, 0, 0, rfl, rfl, e4, by unfold ixN; rw [if_pos (by decide), if_pos (by rw [List.length_cons]; omega)]; rfl, ?_⟩
    exact k T F0 H0 F1 _ σ D ad (ok1.change (vs := .int m :: vs) q h1 (.cons (.int (m + z)) (DpAll.up w2 g1.ff))) h1 kr
end
section
variable {P : Program} {w : World} {K : PySem.W.Frag} {mg : Str → Option Value} {base : Heap} {f : Addr} {fd : FuncData}
theorem fmod_in {a m : Int} (h : 0 < m) : 0 ≤ a.fmod m ∧ a.fmod m < m := by
  rw [Int.fmod_eq_emod_of_nonneg a (by omega)]
  exact ⟨Int.emod_nonneg a (by omega), Int.emod_lt_of_pos a h⟩
abbrev sDraw : Stmt := top 78
theorem scDraw : FnScope ["_law_script", "_law_town", "_law_many", "_law_one", "_law_at", "_law_mixed"] ["_law_script", "_law_town", "_law_many"] (defScope sDraw) := ⟨rfl, rfl, rfl, by decide +kernel, rfl, by decide +kernel, by decide +kernel⟩
def RDraw (dl : List PyData) (Φ : PyData → Prop) : Prop := ∃ m : Int, dl = [.int m] ∧ 0 < m ∧ m ≤ 1000 ∧ ∀ n : Int, 0 ≤ n → n < m → Φ (.int n)
theorem draw_body {X : Cx} {m p r : Int} {ns : List Int} (T : Tp X.K X.mg) (hr : Room 0 X.A) (h0 : 0 < m) (h1 : m ≤ 1000) (hp : 0 ≤ p) (hX : ∃ cdv A outer s H E, X = (cxOf CX0 P w K mg base ["_law_script", "_law_town", "_law_many", "_law_one", "_law_at", "_law_mixed"] "_law_draw" (defScope sDraw) f cdv A outer s H E).nox) :
    XW X (defBody sDraw) [.dat (intsD ns), .own [.int p, .int r], .dat (.int m), .no, .no, .no] (fun d ds => (∃ n : Int, d = .int n ∧ 0 ≤ n ∧ n < m) ∧ ∃ p r : Int, ds[1]? = some (.own [.int p, .int r]) ∧ 0 ≤ p) := by
  obtain ⟨cdv, A, outer, s, H, E, rfl⟩ := hX
  have m0 : m ≠ 0 := by omega
  refine xw_if (k := decide (0 < r)) (xt_view (i := 1) rfl (xt_cmp op_gt opd_gt (x_atL (xv 1) x_int rfl) x_int (nomark _))) (fun c => ?_) fun c => ?_
  · refine xw_set (i := 3) (by decide) scDraw.nd rfl (.inl rfl) (xe_view (i := 1) rfl (x_op op_modN (opd_I (i := r) (j := m) m0 rfl) (x_atL (xv 1) x_int rfl) (xv 2))) ?_
    refine xw_item (j := 1) rfl (.inl rfl) (by decide) (by decide) rfl (Nat.lt_succ_self 1) (xe_view (i := 1) rfl (x_op op_fdivN (opd_I (i := r) (j := m) ⟨m0, by omega⟩ rfl) (x_atL (xv 1) x_int rfl) (xv 2))) ?_ rfl rfl
    exact xw_ret (xv 3) ⟨⟨_, rfl, fmod_in h0⟩, p, _, rfl, hp⟩
  · refine xw_set (i := 4) (by decide) scDraw.nd rfl (.inl rfl) (xe_view (i := 1) rfl (x_atL (d := .int p) (xv 1) x_int rfl)) ?_
    refine xw_aug0 rfl (.inl rfl) (by decide) (by decide) rfl x_int ?_
    refine xw_if (k := ns.isEmpty) (XT.of (xt_cmp (op_eqD hr.units) (opd_eqD (e := .list []) (list_shaped ns) (list_shaped [])) (xv 0) (x_lst xa_nil (Nat.zero_le _)) (nomark _)) (eqv_ints_nil ns)) (fun c2 => ?_) fun c2 => ?_
    · exact xw_ret (x_op op_modN (opd_I (i := p) (j := m) m0 rfl) (xv 4) (xv 2)) ⟨⟨_, rfl, fmod_in h0⟩, p + 1, r, rfl, by omega⟩
    · have nl : 0 < ns.length := by
        cases ns with
        | nil => cases c2
        | cons y l => exact Nat.succ_pos _
      have at_ : ∀ z : Int, 0 ≤ z → z < (ns.length : Int) → ∃ y : Int, atI (ns.map PyData.int) z = some (.int y) := fun z a b => by
        have hlt : z.toNat < ns.length := by omega
        have ez : z = ((z.toNat : Nat) : Int) := by omega
        have e : atI (ns.map PyData.int) ((z.toNat : Nat) : Int) = some (.int ns[z.toNat]) := atI_nat (by rw [List.getElem?_map, List.getElem?_eq_getElem hlt]; rfl)
        rw [← ez] at e
        exact ⟨_, e⟩
      have rest : XW (cxOf CX0 P w K mg base ["_law_script", "_law_town", "_law_many", "_law_one", "_law_at", "_law_mixed"] "_law_draw" (defScope sDraw) f cdv A outer s H E).nox ((defBody sDraw).drop 5) [.dat (intsD ns), .own [.int (p + 1), .int r], .dat (.int m), .no, .dat (.int p), .no]
          (fun d ds => (∃ n : Int, d = .int n ∧ 0 ≤ n ∧ n < m) ∧ ∃ p r : Int, ds[1]? = some (.own [.int p, .int r]) ∧ 0 ≤ p) := by
        have len0 : ((ns.length : Nat) : Int) ≠ 0 := by omega
        have ix := fmod_in (a := p) (m := (ns.length : Int)) (by omega)
        obtain ⟨y, ey⟩ := at_ _ ix.1 ix.2
        have big : (0 : Int) < 2147483647 := by decide
        refine xw_set (i := 5) (by decide) scDraw.nd rfl (.inl rfl) (x_op op_modN (opd_I (j := 2147483647) (by decide) rfl)
          (x_op op_add opd_add (x_op op_add opd_add (x_op op_mul (opd_I (i := y) (j := 1103515245) (.inr ⟨by decide, by decide⟩) rfl) (x_atL (xv 0) (x_op op_modN (opd_I (i := p) (j := (ns.length : Int)) len0 rfl) (xv 4) (XE.of (x_callB call_len_seq cd_lenL rfl T.len PySem.boot_len (xa1 (xv 0))) (by rw [List.length_map]))) ey) x_int)
            (x_op op_mul (opd_I (i := 7919) (j := p) (.inl ⟨by decide, by decide⟩) rfl) x_int (xv 4))) x_int) x_int) ?_
        have mx := fmod_in (a := y * 1103515245 + 7919 * p + 12345) big
        exact xw_ret (x_op op_modN (opd_I (j := m) m0 rfl) (x_op op_modN (opd_I (j := 999983) (by decide) rfl) (x_op op_modN (opd_I (j := 2147483647) (by decide) rfl) (x_op op_pow (opd_I (i := (y * 1103515245 + 7919 * p + 12345).fmod 2147483647) (j := 5) ⟨by decide, by decide, by omega⟩ rfl) (xv 5) x_int) x_int) x_int) (xv 2)) ⟨⟨_, rfl, fmod_in h0⟩, p + 1, r, rfl, by omega⟩
      by_cases c3 : p < (ns.length : Int)
      · obtain ⟨y, ey⟩ := at_ p hp c3
        refine xw_if (k := true && decide ((10 : Int) ^ 18 ≤ y)) (xt_and2 (XT.of (xt_cmp op_lt opd_lt (xv 4) (XE.of (x_callB call_len_seq cd_lenL rfl T.len PySem.boot_len (xa1 (xv 0))) (by rw [List.length_map])) (nomark _)) (decide_eq_true c3)) fun _ => xt_cmp op_ge (opd_ge (i := y) (j := (10 : Int) ^ 18)) (x_atL (xv 0) (xv 4) ey) (x_op op_pow (opd_I (i := 10) (j := 18) ⟨by decide, by decide, by decide⟩ rfl) x_int x_int) (nomark _)) (fun _ => ?_) fun _ => rest
        have w60 : CMulW ((10 : Int) ^ 60) ((10 : Int) ^ 60) := wide_mul (a := 200) (b := 200) (by decide +kernel) (by decide +kernel) (by decide) (by decide) (by decide)
        have p60 : ∀ {q1 q2 q3 : Pos} {j1 j2}, XE (cxOf CX0 P w K mg base ["_law_script", "_law_town", "_law_many", "_law_one", "_law_at", "_law_mixed"] "_law_draw" (defScope sDraw) f cdv A outer s H E).nox (.BinOp (.Constant (.int 10) j1 q1) .Pow (.Constant (.int 60) j2 q2) q3) [.dat (intsD ns), .own [.int (p + 1), .int r], .dat (.int m), .no, .dat (.int p), .no] (.int ((10 : Int) ^ 60)) :=
          x_op op_pow (opd_I (i := 10) (j := 60) ⟨by decide, by decide, by decide⟩ rfl) x_int x_int
        refine xw_item (j := 1) rfl (.inl rfl) (by decide) (by decide) rfl (Nat.lt_succ_self 1) (x_op op_modN (opd_I (j := (10 : Int) ^ 60 * (10 : Int) ^ 60) (by decide +kernel) rfl) (x_op op_fdivN (opd_I (i := y) (j := m) ⟨m0, by omega⟩ rfl) (x_atL (xv 0) (xv 4) ey) (xv 2)) (x_op op_mulW (opd_I w60 rfl) p60 p60)) ?_ rfl rfl
        exact xw_ret (x_op op_modN (opd_I (i := y) (j := m) m0 rfl) (x_atL (xv 0) (xv 4) ey) (xv 2)) ⟨⟨_, rfl, fmod_in h0⟩, p + 1, _, rfl, by omega⟩
      · exact xw_if (k := false) (xt_and2 (k := false) (l := false) (XT.of (xt_cmp op_lt opd_lt (xv 4) (XE.of (x_callB call_len_seq cd_lenL rfl T.len PySem.boot_len (xa1 (xv 0))) (by rw [List.length_map])) (nomark _)) (decide_eq_false c3)) nofun) nofun fun _ => rest
theorem ok_draw (Fn : Fun K "_law_draw" "_law_draw" sDraw f fd) (hb : Binds K fd ["_law_script", "_law_town", "_law_many"] []) (hm : mg "_law_draw" = some (.ref f)) (T : Tp K mg) : DefT P w K mg base 1 "_law_draw" RDraw := by
  refine ⟨f, fd, _, Fn.ok scDraw (fun vs H Q E h => ?_) (fun cdv A outer s H vs Q E hr h => ?_), hm, Fn.kp, hb⟩
  · obtain ⟨F, a, sv, ns, more, dl, Φ, hd, rfl, _, w, ⟨m, rfl, _⟩, _⟩ := h
    rw [List.length_cons, List.length_cons, dpAll_len w]; rfl
  · obtain ⟨F, a, sv, ns, more, dl, Φ, hd, rfl, hs, wm, ⟨m, rfl, h0, h1, hΦ⟩, q⟩ := h
    refine ⟨_, pSs, ?_⟩
    obtain ⟨fa, p, r, ea, hp⟩ := hd.tw a rfl
    have em : more = [.int m] := dpAll_ints (ns := [m]) wm
    subst em
    have hd0 : Hd none F H := ⟨hd.fh, nofun⟩
    refine draw_body (P := P) (w := w) (K := K) (mg := mg) (base := base) (f := f) (p := p) (r := r) (ns := ns) (m := m) (X := (cxOf CX0 P w K mg base ["_law_script", "_law_town", "_law_many", "_law_one", "_law_at", "_law_mixed"] "_law_draw" (defScope sDraw) f cdv A outer s H E).nox) T hr h0 h1 hp ⟨cdv, A, outer, s, H, E, rfl⟩
      none F (fun b => if b = a then none else H b) F H (L2.start ["_law_script", "_law_town", "_law_many", "_law_one", "_law_at", "_law_mixed"] (sv :: .ref a :: [.int m])) _ a ⟨⟨.refl F, hd.fh, fun b o e _ => ?_, fun b e _ => e, nofun⟩, ⟨rfl, hd0, fun i d e => ?_, fun i xs e => ?_, fun i e => ?_, fun i j xs ys b e1 e2 _ _ => ?_⟩, fun i xs b e1 e2 => ?_⟩ rfl fun v d σ' ds' F' H' ok' s' g' qv => ?_
    · by_cases c : b = a
      · rw [if_pos c] at e; cases e
      · rw [if_neg c] at e; exact e
    · match i, e with
      | 0, e => cases e; exact ⟨sv, rfl, hs⟩
      | 1, e => cases e
      | 2, e => cases e; exact ⟨.int m, rfl, .int m⟩
      | 3, e => cases e
      | 4, e => cases e
      | 5, e => cases e
      | i + 6, e => cases e
    · match i, e with
      | 0, e => cases e
      | 1, e => cases e; exact ⟨a, _, rfl, fa, nofun, ea, .cons (.int p) (.cons (.int r) .nil)⟩
      | 2, e => cases e
      | 3, e => cases e
      | 4, e => cases e
      | 5, e => cases e
      | i + 6, e => cases e
    · match i, e with
      | 0, e => cases e
      | 1, e => cases e
      | 2, e => cases e
      | 3, e => cases e
      | 4, e => cases e
      | 5, e => cases e
      | i + 6, e => cases e
    · have only : ∀ (l : Nat) (zs : List PyData), ([.dat (intsD ns), .own [.int p, .int r], .dat (.int m), .no, .no, .no] : DE)[l]? = some (.own zs) → l = 1 := fun l zs e => by
        match l, e with
        | 0, e => cases e
        | 1, e => rfl
        | 2, e => cases e
        | 3, e => cases e
        | 4, e => cases e
        | 5, e => cases e
        | l + 6, e => cases e
      exact (only i xs e1).trans (only j ys e2).symm
    · match i, e1, e2 with
      | 0, e1, _ => cases e1
      | 1, e1, e2 => cases e2; exact if_pos rfl
      | 2, e1, _ => cases e1
      | 3, e1, _ => cases e1
      | 4, e1, _ => cases e1
      | 5, e1, _ => cases e1
      | i + 6, e1, _ => cases e1
    · obtain ⟨⟨n, rfl, n0, n1⟩, p', r', ed, hp'⟩ := g'
      obtain ⟨a', vs', s1, s2, s3, s4, s5⟩ := ok'.e.own 1 _ ed
      rw [s'] at s1
      cases s1
      have ev : vs' = [.int p', .int r'] := dpAll_ints (ns := [p', r']) s5
      subst ev
      refine q v (.int n) F' H' ⟨ok'.g.ff, ok'.g.fh, fun b o e c => ?_, fun b e c => ?_, fun b e => ?_⟩ (hΦ n n0 n1) qv
      · have nb : b ≠ a := fun z => c (by rw [z])
        exact ok'.g.hh b o (by show (if b = a then none else H b) = some o; rw [if_neg nb]; exact e) nofun
      · by_cases z : b = a
        · rw [z]; exact s2
        · exact ok'.g.fr b e (by show (if b = a then none else H b) ≠ none; rw [if_neg z]; exact c)
      · cases e
        exact ⟨p', r', s4, hp'⟩
end
end TT

namespace TT
open PySem L2
section
variable {P : Program} {w : World} {K : PySem.W.Frag} {mg : Str → Option Value} {base : Heap} {f : Addr} {fd : FuncData}
/-! ### pick -/
abbrev sPick : Stmt := top 79
theorem scPick : FnScope ["_law_script", "_law_town", "_law_some"] ["_law_script", "_law_town", "_law_some"] (defScope sPick) := ⟨rfl, rfl, rfl, by decide +kernel, rfl, by decide +kernel, by decide +kernel⟩
def RPick (dl : List PyData) (Φ : PyData → Prop) : Prop := ∃ xs : List PyData, dl = [.list xs] ∧ 0 < xs.length ∧ xs.length ≤ 1000 ∧ ∀ x ∈ xs, Φ x
theorem ok_pick (Fn : Fun K "_law_pick" "_law_pick" sPick f fd) (hb : Binds K fd ["_law_script", "_law_town", "_law_some"] []) (hm : mg "_law_pick" = some (.ref f)) (T : Tp K mg) (DD : DefT P w K mg base 1 "_law_draw" RDraw) : DefT P w K mg base 2 "_law_pick" RPick := by
  refine def_okT Fn scPick hb hm (by rintro _ _ ⟨xs, rfl, _⟩; rfl) fun cdv A outer s H E hr ns dl Φ hR => ?_
  obtain ⟨xs, rfl, h0, h1, hΦ⟩ := hR
  refine xr_retP (XP.mono (xp_ix (xv 2) (x_callT (j := 1) DD hr rfl (xv 0) rfl (.inl rfl) (by decide) (by decide) rfl (xa1 (x_callB call_len_seq cd_lenL rfl T.len PySem.boot_len (xa1 (xv 2)))) ⟨_, rfl, by omega, by omega, fun n n0 n1 => ⟨n, rfl, n0, n1⟩⟩)) hΦ)
/-! ### a deed -/
theorem rng6 : rng 1 (6 + 1 - 1 : Int).toNat = six := by decide
theorem lcd_rngOf {ds : DE} {j : Nat} {tt : TT} {te : TE} {p : Int → Bool} {q : Int → PyData} {X : Cx} {a b : Expr} {lo hi : Int} {l : List Int} (el : rng lo (hi - lo).toNat = l) (hl : XA X [a, b] ds [.int lo, .int hi]) (hb : -(2 ^ 62) ≤ lo ∧ lo < 2 ^ 62 ∧ -(2 ^ 62) ≤ hi ∧ hi < 2 ^ 62) (hz : (hi - lo).toNat < sizeLine)
    (ht : ∀ y ∈ l, LcT X.K ds j PyData.int tt y (p y)) (he : ∀ y ∈ l, p y = true → LcE X.K ds j PyData.int te y (q y)) : LcD X.K (tLc (iRng2 (wA X [a, b])) (gName j) tt te [j]) ds ((l.filter p).map q) := by
  subst el
  exact lcd_rng hl hb hz ht he
theorem mem_intsD {d : PyData} {l : List Int} (h : d ∈ l.map PyData.int) : ∃ k ∈ l, d = .int k := by
  obtain ⟨k, a, b⟩ := List.mem_map.mp h
  exact ⟨k, a, b.symm⟩
abbrev sDeed : Stmt := top 88
theorem scDeed : FnScope ["_law_script", "_law_town", "_law_here", "_law_keys_here", "_law_away", "_law_key"] ["_law_script", "_law_town", "_law_here", "_law_keys_here"] (defScope sDeed) := ⟨rfl, rfl, rfl, by decide +kernel, rfl, by decide +kernel, by decide +kernel⟩
def RDeed (dl : List PyData) (Φ : PyData → Prop) : Prop := ∃ h : List Int, dl = [intsD h, .int 6] ∧ h.length ≤ 100 ∧ (∀ y ∈ h, 1 ≤ y ∧ y ≤ 6) ∧ ∀ c : Deed, okD h c → Φ c.pd
theorem ok_deed (Fn : Fun K "_law_deed" "_law_deed" sDeed f fd) (hb : Binds K fd ["_law_script", "_law_town", "_law_here", "_law_keys_here"] []) (hm : mg "_law_deed" = some (.ref f)) (T : Tp K mg) (DD : DefT P w K mg base 1 "_law_draw" RDraw) (DP : DefT P w K mg base 2 "_law_pick" RPick) : DefT P w K mg base 3 "_law_deed" RDeed := by
  refine def_okT Fn scDeed hb hm (by rintro _ _ ⟨h, rfl, _⟩; rfl) fun cdv A outer s H E hr ns dl Φ hR => ?_
  obtain ⟨h, rfl, hl, h6, hΦ⟩ := hR
  refine xr_setLc (i := 4) (own := [("_law_key", 5)]) (g := gName 5) (xs := (six.filter fun y => !decide (y ∈ h)).map PyData.int) rfl scDeed.nd rfl rfl (sw_true rfl rfl rfl (by decide +kernel)) (pi_range2 rfl T.range pA) (blkOk_by (N := ["_law_script", "_law_town", "_law_here", "_law_keys_here", "_law_away", "_law_key"]) (sc := defScope sDeed) (by decide +kernel))
    (fun _ _ _ _ _ => pg_name (i := 5) scDeed.nd rfl (.inl rfl)) (pBT _) ?lc ?_
  case lc =>
    exact lcd_rngOf rng6 (xa_cons x_int (xa1 (x_op op_add opd_add (xv 3) x_int))) (by decide) (by decide +kernel) (fun y _ => lct_of fun _ _ _ _ _ => xt_cmp op_notIn_seq (opd_notIn (ns := h)) (xv 5) (xv 2) rfl) fun y hy _ => lce_of fun _ _ _ _ _ => xv 5
  have memA : ∀ y, y ∈ (six.filter fun y => !decide (y ∈ h)) ↔ (1 ≤ y ∧ y ≤ 6) ∧ y ∉ h := fun y => by
    rw [List.mem_filter, mem_six]; simp
  have la : (six.filter fun y => !decide (y ∈ h)).length ≤ 6 := List.length_filter_le _ _
  generalize (six.filter fun y => !decide (y ∈ h)) = away at memA la
  have ret1 : 0 < away.length → XR (cxOf CX0 P w K mg base ["_law_script", "_law_town", "_law_here", "_law_keys_here", "_law_away", "_law_key"] "_law_deed" (defScope sDeed) f cdv A outer s H E).nox
      (match defBody sDeed with | [_, .If _ z _ _, _] => z | _ => []) [.dat (intsD ns), .twn, .dat (intsD h), .dat (.int 6), .dat (intsD away), .no] Φ (fun ds' => XR (cxOf CX0 P w K mg base ["_law_script", "_law_town", "_law_here", "_law_keys_here", "_law_away", "_law_key"] "_law_deed" (defScope sDeed) f cdv A outer s H E).nox ((defBody sDeed).drop 2) ds' Φ fun _ => False) := fun la0 => by
    refine xr_retP (XP.mono (xp_tup2 (XE.xp (Φ := fun d => d = .str "in") x_str rfl) (x_callT (j := 1) (Φ := fun d => d ∈ away.map PyData.int) DP hr rfl (xv 0) rfl (.inl rfl) (by decide) (by decide) rfl (xa1 (xv 4)) ⟨_, rfl, by rw [List.length_map]; exact la0, by rw [List.length_map]; omega, fun x hx => hx⟩)) ?_)
    rintro _ ⟨x, y, rfl, rfl, hy⟩
    obtain ⟨k, hk, rfl⟩ := mem_intsD hy
    have m := (memA k).mp hk
    exact hΦ ⟨.put, k⟩ ⟨m.1.1, m.1.2, ⟨fun z => absurd z m.2, fun z => absurd rfl z⟩⟩
  have ret2 : 0 < h.length → XR (cxOf CX0 P w K mg base ["_law_script", "_law_town", "_law_here", "_law_keys_here", "_law_away", "_law_key"] "_law_deed" (defScope sDeed) f cdv A outer s H E).nox ((defBody sDeed).drop 2) [.dat (intsD ns), .twn, .dat (intsD h), .dat (.int 6), .dat (intsD away), .no] Φ (fun _ => False) := fun h0 => by
    refine xr_retP (XP.mono (xp_tup2 (x_callT (j := 1) (Φ := fun d => d ∈ ([.str "ask", .str "out"] : List PyData)) DP hr rfl (xv 0) rfl (.inl rfl) (by decide) (by decide) rfl (xa1 (x_lst (xa_cons x_str (xa1 x_str)) (by decide : 2 ≤ sizeLine))) ⟨_, rfl, (Nat.succ_pos 1), (show 2 ≤ 1000 by decide), fun x hx => hx⟩)
      (x_callT (j := 1) (Φ := fun d => d ∈ h.map PyData.int) DP hr rfl (xv 0) rfl (.inl rfl) (by decide) (by decide) rfl (xa1 (xv 2)) ⟨_, rfl, by rw [List.length_map]; exact h0, by rw [List.length_map]; omega, fun x hx => hx⟩)) ?_)
    rintro _ ⟨x, y, rfl, hx, hy⟩
    obtain ⟨k, hk, rfl⟩ := mem_intsD hy
    have m := h6 k hk
    rcases List.mem_cons.mp hx with rfl | hx
    · exact hΦ ⟨.ask, k⟩ ⟨m.1, m.2, ⟨fun _ => nofun, fun _ => hk⟩⟩
    · rw [List.mem_singleton] at hx
      subst hx
      exact hΦ ⟨.out, k⟩ ⟨m.1, m.2, ⟨fun _ => nofun, fun _ => hk⟩⟩
  have isE : ∀ (l : List Int), l.isEmpty = true → l = [] := fun l c => by cases l <;> simp_all
  by_cases ch : h = []
  · have la0 : 0 < away.length := List.length_pos_of_mem ((memA 1).mpr ⟨⟨by decide, by decide⟩, by rw [ch]; exact nofun⟩)
    exact xr_if (k := true) (xt_or2 (k := true) (l := true) (XT.of (xt_cmp (op_eqD hr.units) (opd_eqD (e := .list []) (list_shaped h) (list_shaped [])) (xv 2) (x_lst xa_nil (Nat.zero_le _)) (nomark _)) (by rw [eqv_ints_nil, ch]; rfl)) nofun) (fun _ => ret1 la0) nofun
  · have h0 : 0 < h.length := List.length_pos_iff.mpr ch
    have eh : h.isEmpty = false := by cases h with
      | nil => exact absurd rfl ch
      | cons y l => rfl
    by_cases ca : away = []
    · exact xr_if (k := false) (xt_or2 (k := false) (l := false) (XT.of (xt_cmp (op_eqD hr.units) (opd_eqD (e := .list []) (list_shaped h) (list_shaped [])) (xv 2) (x_lst xa_nil (Nat.zero_le _)) (nomark _)) (by rw [eqv_ints_nil, eh])) fun _ =>
        xt_and2 (k := false) (l := false) (XT.of (xt_cmp (op_neD hr.units) (opd_neD (e := .list []) (list_shaped away) (list_shaped [])) (xv 4) (x_lst xa_nil (Nat.zero_le _)) (nomark _)) (by rw [eqv_ints_nil, ca]; rfl)) nofun) nofun fun _ => ret2 h0
    · have a0 : 0 < away.length := List.length_pos_iff.mpr ca
      have ea : away.isEmpty = false := by cases away with
        | nil => exact absurd rfl ca
        | cons y l => rfl
      exact xr_ifP (xtp_or (XT.of (xt_cmp (op_eqD hr.units) (opd_eqD (e := .list []) (list_shaped h) (list_shaped [])) (xv 2) (x_lst xa_nil (Nat.zero_le _)) (nomark _)) (by rw [eqv_ints_nil, eh]))
        (xtp_and (XT.of (xt_cmp (op_neD hr.units) (opd_neD (e := .list []) (list_shaped away) (list_shaped [])) (xv 4) (x_lst xa_nil (Nat.zero_le _)) (nomark _)) (by rw [eqv_ints_nil, ea]; rfl))
          (xtp_eqI (Ψ := fun _ => True) (x_callT (j := 1) (DD) (hr.mono (by decide)) rfl (xv 0) rfl (.inl rfl) (by decide) (by decide) rfl (xa1 x_int) ⟨2, rfl, by decide, by decide, fun n _ _ => ⟨n, rfl, trivial⟩⟩) x_int (nomark _)))) (ret1 a0) (ret2 h0)
end
end TT

namespace TT
open PySem L2
section
variable {P : Program} {w : World} {K : PySem.W.Frag} {mg : Str → Option Value} {base : Heap} {f : Addr} {fd : FuncData}
/-! ### a row -/
theorem here_range {row : List Deed} (h : okRow [] row) : ∀ y ∈ hereOf [] row, 1 ≤ y ∧ y ≤ 6 := fun y hy => by
  have g := good_of (r := .plain) h
  exact g.b.mem ((g.m y).mpr hy)
theorem okD_same {h h' : List Int} {c : Deed} (m : ∀ y, y ∈ h ↔ y ∈ h') (o : okD h c) : okD h' c := ⟨o.1, o.2.1, (m c.k).symm.trans o.2.2⟩
theorem okRow_one {row : List Deed} {c : Deed} (h : okRow [] row) (o : okD (hereOf [] row) c) : okRow [] (row ++ [c]) := okRow_app.mpr ⟨h, o, trivial⟩
abbrev sRow : Stmt := top 89
abbrev nRow : List Str := ["_law_script", "_law_town", "_law_keys_here", "_law_many", "_law_here", "_law_row_here", "_law_k", "_law_deed_here", "_law_key"]
theorem scRow : FnScope nRow ["_law_script", "_law_town", "_law_keys_here", "_law_many"] (defScope sRow) := ⟨rfl, rfl, rfl, by decide +kernel, rfl, by decide +kernel, by decide +kernel⟩
def RRow (dl : List PyData) (Φ : PyData → Prop) : Prop := dl = [.int 6, .int 16] ∧ ∀ row : List Deed, okRow [] row → row.length ≤ 16 → Φ (rowD row)
theorem ok_row (Fn : Fun K "_law_row" "_law_row" sRow f fd) (hb : Binds K fd ["_law_script", "_law_town", "_law_keys_here", "_law_many"] []) (hm : mg "_law_row" = some (.ref f)) (T : Tp K mg) (DD : DefT P w K mg base 1 "_law_draw" RDraw) (DE : DefT P w K mg base 3 "_law_deed" RDeed) : DefT P w K mg base 4 "_law_row" RRow := by
  refine def_okT Fn scRow hb hm (by rintro _ _ ⟨rfl, _⟩; rfl) fun cdv A outer s H E hr ns dl Φ hR => ?_
  obtain ⟨rfl, hΦ⟩ := hR
  refine xr_parDO (i := 4) (j := 5) (d := intsD []) (ys := []) rfl scRow.nd rfl rfl (by decide) rfl rfl (x_lst xa_nil (Nat.zero_le _)) (xl_lst xa_nil (Nat.zero_le _)) rfl rfl rfl ?_
  refine xr_forRng 16 (fun i ds => ∃ (row : List Deed) (h : List Int) (sk sd : Slot), ds = [.dat (intsD ns), .twn, .dat (.int 6), .dat (.int 16), .dat (intsD h), .own (row.map Deed.pd), sk, sd, .no] ∧ row.length = i ∧ okRow [] row ∧ h.length ≤ i ∧ ∀ y, y ∈ h ↔ y ∈ hereOf [] row)
    ⟨[], [], .no, .no, rfl, rfl, trivial, Nat.le_refl _, fun y => Iff.rfl⟩ (by decide) PassesOwn.never rfl rfl T.range
    (x_callT (j := 1) DD (hr.mono (by decide)) rfl (xv 0) rfl (.inl rfl) (by decide) (by decide) rfl (xa1 (x_op op_add opd_add (xv 3) x_int)) ⟨17, rfl, by decide, by decide, fun n n0 n1 => ⟨n, rfl, n0, by omega⟩⟩)
    (pg_name (i := 6) scRow.nd rfl (.inl rfl)) (fun i ds' hi hI => ?_) fun n ds' hn hI => ?_
  · obtain ⟨row, h, sk, sd, rfl, rl, ho, hl, mem⟩ := hI
    have h6 : ∀ y ∈ h, 1 ≤ y ∧ y ≤ 6 := fun y hy => here_range ho y ((mem y).mp hy)
    refine ⟨_, gd_name, ?_⟩
    refine xr_setP (i := 7) (Ψ := fun d => ∃ c : Deed, d = c.pd ∧ okD h c) scRow.nd rfl (.inr rfl) (x_callT (j := 1) DE hr rfl (xv 0) rfl (.inl rfl) (by decide) (by decide) rfl (xa_cons (xv 4) (xa1 (xv 2))) ⟨h, rfl, by omega, h6, fun c oc => ⟨c, rfl, oc⟩⟩) fun d hd => ?_
    obtain ⟨⟨wd, k⟩, rfl, oc⟩ := hd
    refine xr_append (i := 5) rfl (.inl rfl) (by decide) (by decide) rfl (by rw [List.length_map]; exact small1000 (by omega)) (XE.xp (Φ := fun d => d = (⟨wd, k⟩ : Deed).pd) (xv 7) rfl)
      (pe_bm PySem.F.plainAttrs_list PySem.F.slot_list_append PySem.F.type_list_append mt_append (pe_var rfl (.inl rfl) (by decide) (by decide)) (pa_cons pE pa_nil)) fun d ed => ?_
    subst ed
    have eA : row.map Deed.pd ++ [(⟨wd, k⟩ : Deed).pd] = (row ++ [(⟨wd, k⟩ : Deed)]).map Deed.pd := by rw [List.map_append]; rfl
    have oc' : okD (hereOf [] row) ⟨wd, k⟩ := okD_same mem oc
    have ho' : okRow [] (row ++ [⟨wd, k⟩]) := okRow_one ho oc'
    have hereE : hereOf [] (row ++ [⟨wd, k⟩]) = stepH (hereOf [] row) ⟨wd, k⟩ := by rw [hereOf_app]; rfl
    have fin : ∀ h' : List Int, h'.length ≤ i + 1 → (∀ y, y ∈ h' ↔ y ∈ stepH (hereOf [] row) ⟨wd, k⟩) → XR (cxOf CX0 P w K mg base nRow "_law_row" (defScope sRow) f cdv A outer s H E).nox []
        [.dat (intsD ns), .twn, .dat (.int 6), .dat (.int 16), .dat (intsD h'), .own (row.map Deed.pd ++ [(⟨wd, k⟩ : Deed).pd]), .dat (.int (i : Int)), .dat (⟨wd, k⟩ : Deed).pd, .no] Φ
        (fun ds => ∃ (row : List Deed) (h : List Int) (sk sd : Slot), ds = [.dat (intsD ns), .twn, .dat (.int 6), .dat (.int 16), .dat (intsD h), .own (row.map Deed.pd), sk, sd, .no] ∧ row.length = i + 1 ∧ okRow [] row ∧ h.length ≤ i + 1 ∧ ∀ y, y ∈ h ↔ y ∈ hereOf [] row) := fun h' l' m' => by
      refine xr_nil ?_
      exact ⟨row ++ [⟨wd, k⟩], h', _, _, (by rw [← eA]), (by rw [List.length_append, rl]; rfl), ho', l', fun y => by rw [hereE]; exact m' y⟩
    refine xr_if (k := decide (wd = .put)) (XT.of (xt_cmp op_eq opd_eqS (x_at (xv 7) x_int) x_str (nomark _)) (wd_put wd)) (fun c => ?_) fun c => ?_
    · have e := of_decide_eq_true c
      subst e
      refine xr_setP (i := 4) (Ψ := fun d => ∃ ms : List Int, d = intsD ms ∧ ms.Perm (h ++ [k])) scRow.nd rfl (.inl rfl) (xp_sorted rfl rfl T.sorted (by rw [List.length_append]; simp; omega) (XE.of (x_op op_catS (opd_cat (xs := h.map PyData.int) (ys := [.int k]) (by rw [List.length_map]; exact Nat.le_of_lt (small1000 (by simp; omega)))) (xv 4) (x_lst (xa1 (x_at (xv 7) x_int)) one_small)) ?ec)) fun d hd => ?_
      case ec =>
        show PyData.list (h.map PyData.int ++ [.int k]) = intsD (h ++ [k])
        unfold intsD; rw [List.map_append]; rfl
      obtain ⟨ms, rfl, hp⟩ := hd
      refine xr_nil ?_
      refine xr_if (k := false) (XT.of (xt_cmp op_eq opd_eqS (x_at (xv 7) x_int) x_str (nomark _)) ((wd_out .put).trans rfl)) nofun fun _ => ?_
      refine fin ms (by rw [hp.length_eq, List.length_append]; simp; omega) fun y => ?_
      rw [hp.mem_iff]
      show y ∈ h ++ [k] ↔ y ∈ hereOf [] row ++ [k]
      rw [List.mem_append, List.mem_append, mem]
    · refine xr_if (k := decide (wd = .out)) (XT.of (xt_cmp op_eq opd_eqS (x_at (xv 7) x_int) x_str (nomark _)) (wd_out wd)) (fun c2 => ?_) fun c2 => ?_
      · have e := of_decide_eq_true c2
        subst e
        refine xr_setLc (i := 4) (own := [("_law_key", 8)]) (g := gName 8) (xs := (h.filter fun y => decide (y ≠ k)).map PyData.int) rfl scRow.nd rfl rfl (sw_true rfl rfl rfl (by decide +kernel)) (pi_list pE) (blkOk_by (N := nRow) (sc := defScope sRow) (by decide +kernel))
          (fun _ _ _ _ _ => pg_name (i := 8) scRow.nd rfl (.inl rfl)) (pBT _)
          (lcd_list (ys := h) (enc := PyData.int) (p := fun y => decide (y ≠ k)) (q := PyData.int) (xv 4) (small1000 (by omega)) (fun y _ => lct_of fun _ _ _ _ _ => XT.of (xt_cmp op_ne opd_neI (xv 8) (x_at (xv 7) x_int) (nomark _)) (by simp)) fun y hy _ => lce_of fun _ _ _ _ _ => xv 8) ?_
        refine xr_nil ?_
        refine fin _ (Nat.le_succ_of_le (Nat.le_trans (List.length_filter_le _ _) hl)) fun y => ?_
        show y ∈ h.filter _ ↔ y ∈ (hereOf [] row).filter fun y => decide (y ≠ k)
        rw [List.mem_filter, List.mem_filter, mem]
      · cases wd with
        | put => cases c
        | out => cases c2
        | ask => exact fin h (Nat.le_succ_of_le hl) mem
  · obtain ⟨row, h, sk, sd, rfl, rl, ho, hl, mem⟩ := hI
    exact xr_retOwn (i := 5) rfl (.inl rfl) (by decide) (by decide) rfl (hΦ row ho (by omega))
/-! ### the law's own keys and plants -/
abbrev sLawKeys : Stmt := top 80
theorem scLawKeys : FnScope ["_law_shape"] ["_law_shape"] (defScope sLawKeys) := ⟨rfl, rfl, rfl, by decide +kernel, rfl, by decide +kernel, by decide +kernel⟩
theorem ok_law_keys (Fn : Fun K "_law_keys" "_law_keys" sLawKeys f fd) (hb : Binds K fd ["_law_shape"] []) (hm : mg "_law_keys" = some (.ref f)) : ∀ n, DefOk P w K mg base n "_law_keys" (RKeysOf n)
  | 0 => def_none Fn hb hm fun dl d h => by obtain ⟨t, _, z, _⟩ := h; exact absurd z (Nat.not_lt_zero _)
  | n + 1 => by
    have ih := ok_law_keys Fn hb hm n
    refine def_ok Fn scLawKeys hb hm (by rintro _ _ ⟨t, rfl, _⟩; rfl) fun cdv A outer s H E hr dl d hR => ?_
    obtain ⟨t, rfl, h1, h2, h3, rfl⟩ := hR
    refine xr_ret (d := .list (t.keys.map PyData.int)) (x_if (xt_notNil hr (xv 0) (by omega)) (fun c => ?_) fun c => ?_) rfl
    · cases t with
      | nil => cases c
      | node l y r =>
        have hl := h3
        simp only [Tr.keys, List.length_append, List.length_singleton] at hl
        have e : ((Tr.node l y r).keys.map PyData.int) = (l.keys.map PyData.int ++ [.int y]) ++ r.keys.map PyData.int := by simp [Tr.keys]
        rw [e]
        refine x_op op_catS (opd_cat ?_) (x_op op_catS (opd_cat ?_) (x_call ih hr rfl (xa1 (x_at (xv 0) x_int)) ⟨l, rfl, hgt_l h1, hgt_l6 h2, by omega, rfl⟩) (x_lst (xa1 (x_at (xv 0) x_int)) one_small)) (x_call ih hr rfl (xa1 (x_at (xv 0) x_int)) ⟨r, rfl, hgt_r h1, hgt_r6 h2, by omega, rfl⟩)
        · simp only [List.length_append, List.length_map, List.length_singleton]
          exact Nat.le_of_lt (small1000 (by omega))
        · simp only [List.length_map, List.length_singleton]
          exact Nat.le_of_lt (small1000 (by omega))
    · cases t with
      | nil => exact x_lst xa_nil (Nat.zero_le _)
      | node l y r => cases c
abbrev sPlant : Stmt := top 84
theorem scPlant : FnScope ["_law_keys_here", "_law_top", "_law_key"] ["_law_keys_here"] (defScope sPlant) := ⟨rfl, rfl, rfl, by decide +kernel, rfl, by decide +kernel, by decide +kernel⟩
def RPlant (n : Nat) (dl : List PyData) (d : PyData) : Prop := ∃ l : List Int, dl = [intsD l] ∧ l.length < n ∧ l.length ≤ 1000 ∧ d = (plant l).pd
theorem ok_plant (Fn : Fun K "_law_plant" "_law_plant" sPlant f fd) (hb : Binds K fd ["_law_keys_here"] []) (hm : mg "_law_plant" = some (.ref f)) : ∀ n, DefOk P w K mg base n "_law_plant" (RPlant n)
  | 0 => def_none Fn hb hm fun dl d h => by obtain ⟨l, _, z, _⟩ := h; exact absurd z (Nat.not_lt_zero _)
  | n + 1 => by
    have ih := ok_plant Fn hb hm n
    refine def_ok Fn scPlant hb hm (by rintro _ _ ⟨l, rfl, _⟩; rfl) fun cdv A outer s H E hr dl d hR => ?_
    obtain ⟨l, rfl, h1, hk, rfl⟩ := hR
    refine xr_if (k := l.isEmpty) (XT.of (xt_cmp (op_eqD hr.units) (opd_eqD (e := .list []) (list_shaped l) (list_shaped [])) (xv 0) (x_lst xa_nil (Nat.zero_le _)) (nomark _)) (eqv_ints_nil l)) (fun c => ?_) fun c => ?_
    · cases l with
      | nil => exact xr_ret (x_tup xa_nil (Nat.zero_le _)) rfl
      | cons t r => cases c
    · cases l with
      | nil => cases c
      | cons t r =>
        refine xr_set (i := 1) (d := .int t) scPlant.nd rfl (.inr rfl) (x_atL (xv 0) x_int (atI_nat (j := 0) rfl)) ?_
        have l1 := filt_lt_len t r (fun y => decide (y < t)) (by simp)
        have l2 := filt_lt_len t r (fun y => decide (y > t)) (by simp)
        simp only [List.length_cons] at h1 hk
        refine xr_ret (x_node (x_call ih hr rfl (xa1 (XL.xe (xl_lc (own := [("_law_key", 2)]) (g := gName 2) rfl scPlant.nd (pi_list pE) (blkOk_by (N := ["_law_keys_here", "_law_top", "_law_key"]) (sc := defScope sPlant) (by decide +kernel))
            (fun _ _ _ _ _ => pg_name (i := 2) scPlant.nd rfl (.inl rfl)) (pBT _)
            (lcd_list (ys := t :: r) (enc := PyData.int) (p := fun y => decide (y < t)) (q := PyData.int) (xv 0) (small1000 hk) (fun y _ => lct_of fun _ _ _ _ _ => xt_cmp op_lt opd_lt (xv 2) (xv 1) (nomark _)) fun y hy _ => lce_of fun _ _ _ _ _ => xv 2)))) ⟨_, rfl, by omega, by omega, rfl⟩) (xv 1)
          (x_call ih hr rfl (xa1 (XL.xe (xl_lc (own := [("_law_key", 2)]) (g := gName 2) rfl scPlant.nd (pi_list pE) (blkOk_by (N := ["_law_keys_here", "_law_top", "_law_key"]) (sc := defScope sPlant) (by decide +kernel))
            (fun _ _ _ _ _ => pg_name (i := 2) scPlant.nd rfl (.inl rfl)) (pBT _)
            (lcd_list (ys := t :: r) (enc := PyData.int) (p := fun y => decide (y > t)) (q := PyData.int) (xv 0) (small1000 hk) (fun y _ => lct_of fun _ _ _ _ _ => xt_cmp op_gt opd_gt (xv 2) (xv 1) (nomark _)) fun y hy _ => lce_of fun _ _ _ _ _ => xv 2)))) ⟨_, rfl, by omega, by omega, rfl⟩)) ?_
        rw [plant_cons]
end
end TT

namespace TT
open PySem L2
/-! ### the law's own forms -/
theorem last_shape {r : Rl} (row : List Deed) : atI ([Tr.nil.pd] ++ (shapes r .nil row).map Tr.pd) (-1) = some (shapeOf r .nil row).pd := by
  rcases List.eq_nil_or_concat row with rfl | ⟨l, d, rfl⟩
  · rfl
  · rw [List.concat_eq_append, shapes_one, shapeOf_app, List.map_append, ← List.append_assoc]
    exact atI_last _ _
theorem last_shape1 {r : Rl} (l : List Deed) (d : Deed) : atI ((shapes r .nil (l ++ [d])).map Tr.pd) (-1) = some (shapeOf r .nil (l ++ [d])).pd := by
  rw [shapes_one, shapeOf_app, List.map_append]
  exact atI_last _ _
theorem last_cost {r : Rl} (l : List Deed) (d : Deed) : atI ((costs r .nil (l ++ [d])).map PyData.int) (-1) = some (.int (cost (shapeOf r .nil l) d)) := by
  rw [costs_one, List.map_append]
  exact atI_last _ _
theorem last_int (l : List Int) (z : Int) : atI ((l ++ [z]).map PyData.int) (-1) = some (.int z) := by
  rw [List.map_append]
  exact atI_last _ _
theorem asks_one (l : List Int) (z : Int) : asks (l ++ [z]) = asks l ++ [⟨.ask, z⟩] := by unfold asks; rw [List.map_append]; rfl
theorem asks_len (l : List Int) : (asks l).length = l.length := by unfold asks; rw [List.length_map]
theorem firsts_len : ∀ (acc l : List Int), (firsts acc l).length ≤ acc.length + l.length
  | acc, [] => Nat.le_refl _
  | acc, k :: l => by
    unfold firsts
    have ih := firsts_len (if k ∈ acc then acc else acc ++ [k]) l
    have s : (if k ∈ acc then acc else acc ++ [k]).length ≤ acc.length + 1 := by
      split
      · exact Nat.le_succ _
      · rw [List.length_append]; exact Nat.le_refl _
    rw [List.length_cons]
    omega
section
variable {X : Cx} {a b c e : Expr} {ds : DE} {d : PyData} {pos p p1 p2 p3 p4 p5 p6 : Pos} {x y : Str} {rest : List Stmt} {Φ Ψ : PyData → Prop} {Nx : DE → Prop} {i j : Nat} {xs ys : List PyData}
/-- list(xs) -/
theorem xl_list (hg : Gl X "list") (hm : X.mg "list" = none) (ha : XE X e ds (.list xs)) (he : starEach (e :: []) X.env = (false, eval e X.env) :: starEach [] X.env := by rfl) (hpl : (backTo pos (starEach [] X.env)).any (·.1) = false := by rfl) : XL X (.Call (.Name "list" p) [e] [] pos) ds xs := fun T F H σ Q ok q =>
  wE_of (pe_callTy call_list_of hg hm (by decide +kernel) (pa_cons pE pa_nil he) (by decide) (by decide) he hpl) (ha T F H σ _ ok fun v F1 H1 g1 q1 => by
    obtain ⟨a, vs, rfl, h1, h2⟩ := dp_lst q1
    refine ⟨a, vs, rfl, .inl (g1.fh.seq h1), fun l hl => ?_⟩
    have hd := ok.hd.grow g1
    have np : H l = none := by
      cases z : H l with
      | none => rfl
      | some o => exact absurd hl (g1.ne (by rw [z]; exact nofun))
    exact q l vs F1 _ (g1.trans (.newOwn hd hl)) np (hd.fh.free hl) upd_same h2)
/-- the town is made; from there on it is the town -/
theorem town_made {F0 H0 F H : Hp} {σ : L2.St} {D : Ends} (ok : Ok X.K none F0 H0 F H σ ds) (hN : X.N.Nodup) (hi : X.N[i]? = some x) (hx : Loc X.env.scope x) (h : XL X e ds [.int 0, .int 0]) (k : XR X rest (ds.set i .twn) Φ fun _ => False)
    (kr : ∀ v d F' H', Grow none F0 H0 F' H' → Φ d → Dp X.K F' v d → D.rt v H') (hs : swapsWith e (some (.Name x p)) pos.line X.env = pure false := by rfl)
    (hf : X.fn x = true ∨ X.env.scope.names.lookup x = some .local := by first | exact .inl rfl | exact .inr rfl | assumption) : wSs X (.Assign [.Name x p] e pos :: rest) D σ H :=
  wSs_of (pss_cons (ps_set (i := i) hN hi hx pE hs hf) pSs) (h none F H σ (fun v H1 => wSs X rest D (σ.set i (some v)) H1) ok.e fun q vs F1 H1 g1 n f w1 w2 => by
    have nf := ok.e.nofresh n
    have n0 := ok.new0 n
    have ok1 := ok.grow g1
    have ev : vs = [.int 0, .int 0] := dpAll_ints (ns := [0, 0]) w2
    subst ev
    have tw : Twn H1 q := ⟨0, 0, w1, Int.le_refl 0⟩
    have hd : Hd (some q) F1 H1 := ⟨ok1.e.hd.fh, fun b e => by cases e; exact ⟨f, tw⟩⟩
    have at_i : ∀ {j : Nat} {s : Slot}, (ds.set i .twn)[j]? = some s → (i = j ∧ s = .twn ∧ i < ds.length) ∨ (i ≠ j ∧ ds[j]? = some s) := fun {j s} z => by
      by_cases c : i = j
      · subst c
        have hl : i < ds.length := by
          have := (List.getElem?_eq_some_iff.mp z).1
          rwa [List.length_set] at this
        rw [List.getElem?_set_self hl] at z
        exact .inl ⟨rfl, (Option.some.inj z).symm, hl⟩
      · rw [List.getElem?_set_ne c] at z
        exact .inr ⟨c, z⟩
    refine k (some q) F0 H0 F1 H1 _ D ⟨⟨ok1.g.ff, ok1.g.fh, fun b o e _ => ok1.g.hh b o e nofun, ok1.g.fr, fun b e => by cases e; exact tw⟩, ⟨by rw [List.length_set, List.length_set]; exact ok1.e.len, hd, fun j d z => ?_, fun j zs z => ?_, fun j z => ?_, fun j l zs us b z1 z2 z3 z4 => ?_⟩, fun j zs b z1 z2 => ?_⟩ (fun v d F' H' g pd w => kr v d F' H' ⟨g.ff, g.fh, fun b o e _ => g.hh b o e (fun z => by cases z; rw [n0] at e; cases e), g.fr, nofun⟩ pd w) (fun _ _ _ _ _ _ z => z.elim)
    · rcases at_i z with ⟨_, u, _⟩ | ⟨c, z⟩
      · cases u
      · rw [List.getElem?_set_ne c]; exact ok1.e.dat j d z
    · rcases at_i z with ⟨_, u, _⟩ | ⟨c, z⟩
      · cases u
      · rw [List.getElem?_set_ne c]
        obtain ⟨b, us, u1, u2, u3, u4, u5⟩ := ok1.e.own j zs z
        exact ⟨b, us, u1, u2, (fun e => by cases e; exact nf.2 j zs z u1), u4, u5⟩
    · rcases at_i z with ⟨c, _, hl⟩ | ⟨c, z⟩
      · subst c; exact ⟨q, by rw [List.getElem?_set_self (by rw [ok1.e.len]; exact hl)], rfl⟩
      · obtain ⟨b, _, u⟩ := ok1.e.twn j z
        cases u
    · rcases at_i z1 with ⟨_, u, _⟩ | ⟨c1, z1⟩
      · cases u
      · rcases at_i z2 with ⟨_, u, _⟩ | ⟨c2, z2⟩
        · cases u
        · rw [List.getElem?_set_ne c1] at z3
          rw [List.getElem?_set_ne c2] at z4
          exact ok1.e.sep j l zs us b z1 z2 z3 z4
    · rcases at_i z1 with ⟨_, u, _⟩ | ⟨c1, z1⟩
      · cases u
      · rw [List.getElem?_set_ne c1] at z2
        exact ok1.o j zs b z1 z2)
/-- xs.append(ys.pop(e)), both one's own -/
theorem xr_popOver (hij : i ≠ j) (q1 : ds[i]? = some (.own xs)) (q2 : ds[j]? = some (.own ys)) (hz : xs.length < sizeLine) (hB : ys.length ≤ 1000) (h : XP X e ds fun d => ∃ n : Int, d = .int n ∧ 0 ≤ n ∧ n < (ys.length : Int))
    (hp : PE X (.Call (.Attribute (.Name x p1) "append" p2) [.Call (.Attribute (.Name y p3) "pop" p4) [e] [] p5] [] p6) (tBM X.K "list" rAppend (tVar i) (tCons (tBM X.K "list" rPopAt (tVar j) (tCons (wE X e) tNil)) tNil)))
    (k : ∀ (n : Nat) (z : PyData), ys[n]? = some z → XR X rest ((ds.set j (.own (ys.eraseIdx n))).set i (.own (xs ++ [z]))) Φ Nx)
    (hs : swapsWith (.Call (.Attribute (.Name x p1) "append" p2) [.Call (.Attribute (.Name y p3) "pop" p4) [e] [] p5] [] p6) none pos.line X.env = pure false := by rfl) :
    XR X (.Expr (.Call (.Attribute (.Name x p1) "append" p2) [.Call (.Attribute (.Name y p3) "pop" p4) [e] [] p5] [] p6) pos :: rest) ds Φ Nx := fun T F0 H0 F H σ D ok kr kn => by
  obtain ⟨a, vs, s1, s2, s3, s4, s5⟩ := ok.e.own i xs q1
  obtain ⟨b, ws, t1, t2, t3, t4, t5⟩ := ok.e.own j ys q2
  refine wSs_of (pss_cons (ps_expr hp hs) pSs) ⟨.ref a, s1, .inl ⟨rfl, vs, .inl (.inl s4)⟩, .ref b, t1, .inl ⟨rfl, ws, .inl (.inl t4)⟩, h T F H σ _ ok.e fun v d F1 H1 g1 ⟨n, ed, n0, n1⟩ w1 => ?_⟩
  subst ed
  have ok1 := ok.grow g1
  have t5' := DpAll.up t5 g1.ff
  have lt : n.toNat < ys.length := by omega
  have ez : ys[n.toNat]? = some ys[n.toNat] := List.getElem?_eq_getElem lt
  obtain ⟨u, eu, du⟩ := dpAll_get t5' ez
  have hw : H1 b = some (.lst ws) := g1.hh b _ t4 t3
  have okB := ok1.change (vs := ws) q2 t1 (dpAll_erase (i := n.toNat) t5')
  have nab : a ≠ b := fun z => hij (ok.e.sep i j xs ys a q1 q2 s1 (z ▸ t1))
  have q1' : (ds.set j (.own (ys.eraseIdx n.toNat)))[i]? = some (.own xs) := by rw [List.getElem?_set_ne (Ne.symm hij)]; exact q1
  obtain ⟨a', vs', y1, y2, y3, y4, y5⟩ := okB.e.own i xs q1'
  rw [s1] at y1
  cases y1
  refine ⟨b, ws, n, n.toNat, u, rfl, by rw [dp_int w1], hw, by omega, by omega, ?_, eu, a, vs', u, rfl, rfl, y4, by rw [dpAll_len y5]; exact hz, ?_⟩
  · rw [dpAll_len t5]
    exact seqIndex_of n0 n1
  · exact k n.toNat _ ez T F0 H0 F1 _ σ D (okB.change (vs := vs') q1' s1 (dpAll_app y5 (.cons du .nil))) kr fun σ2 ds2 F2 H2 s2 => kn σ2 ds2 F2 H2 (g1.ff.trans s2)
end
end TT

namespace TT
open PySem L2
abbrev sLaw : Stmt := top 90
abbrev nLaw : List Str := ["_law_script", "_law_town", "_law_row_here", "_law_here", "_law_left", "_law_asks", "_law_key", "_law_last", "_law_order_here", "_law_shape", "_law_again"]
theorem scLaw : FnScope nLaw ["_law_script"] (defScope sLaw) := ⟨rfl, rfl, rfl, by decide +kernel, rfl, by decide +kernel, by decide +kernel⟩
/-- what the law calls -/
structure Calls (P : Program) (w : World) (K : PySem.W.Frag) (mg : Str → Option Value) (base : Heap) : Prop where
  draw : DefT P w K mg base 1 "_law_draw" RDraw
  pick : DefT P w K mg base 2 "_law_pick" RPick
  row : DefT P w K mg base 4 "_law_row" RRow
  shapes : DefOk P w K mg base 18 "shapes_along" RShapes
  costs : DefOk P w K mg base 18 "costs_along" RCosts
  keys : DefOk P w K mg base 7 "_law_keys" (RKeysOf 7)
  plant : DefOk P w K mg base 13 "_law_plant" (RPlant 13)
  keeps : DefOk P w K mg base 11 "keeps" RKept
section
variable {P : Program} {w : World} {K : PySem.W.Frag} {mg : Str → Option Value} {base : Heap} {f : Addr} {fd : FuncData}
theorem law_tail {cdv : Value} {A' : Around} {outer : List Env} {s : Shared} {H : Hp} {E : XK} (T : Tp K mg) (C : Calls P w K mg base) (hr : Room 18 (cxOf CX0 P w K mg base nLaw "law" (defScope sLaw) f cdv A' outer s H E).A) {row : List Deed} {ns h B A : List Int} {z : Int} {left : List PyData} {sk : Slot}
    (ho : okRow [] row) (hl : row.length ≤ 16) (eA : A = B ++ [z]) (hA : ∀ y ∈ A, y ∈ hereOf [] row) (hC : ∀ y ∈ hereOf [] row, y ∈ A) (lA : A.length ≤ 12) :
    XR (cxOf CX0 P w K mg base nLaw "law" (defScope sLaw) f cdv A' outer s H E).nox ((defBody sLaw).drop 6) [.dat (intsD ns), .twn, .dat (rowD row), .dat (intsD h), .own left, .own (A.map PyData.int), sk, .no, .no, .no, .no] (fun d => d = .bool true) (fun _ => False) := by
  have r6 := here_range ho
  have rA : ∀ y ∈ A, 1 ≤ y ∧ y ≤ 6 := fun y hy => r6 y (hA y hy)
  -- the row with the asks behind it
  have hoA : okRow [] (row ++ asks A) := okRow_app.mpr ⟨ho, ok_asks r6 hA⟩
  have hB : ∀ y ∈ B, y ∈ hereOf [] row := fun y hy => hA y (by rw [eA]; exact List.mem_append_left _ hy)
  have hz : z ∈ hereOf [] row := hA z (by rw [eA]; exact List.mem_append_right _ (List.mem_singleton.mpr rfl))
  have hoAz : okRow [] ((row ++ asks A) ++ [⟨.ask, z⟩]) := okRow_app.mpr ⟨hoA, ⟨(r6 z hz).1, (r6 z hz).2, by rw [hereOf_app, here_asks]; exact ⟨fun _ => nofun, fun _ => hz⟩⟩, trivial⟩
  have len1 : (row ++ asks A).length ≤ 28 := by rw [List.length_append, asks_len]; omega
  have len2 : ((row ++ asks A) ++ [(⟨.ask, z⟩ : Deed)]).length ≤ 29 := by rw [List.length_append]; exact Nat.succ_le_succ len1
  have rowE : row ++ asks A = (row ++ asks B) ++ [⟨.ask, z⟩] := by rw [eA, asks_one, List.append_assoc]
  -- the shapes behind it
  have gd : ∀ r : Rl, Good (shapeOf r .nil row) (hereOf [] row) := fun r => good_of ho
  have gdA : ∀ r : Rl, Good (shapeOf r .nil (row ++ asks A)) (hereOf [] row) := fun r => by
    have g := good_of (r := r) hoA
    rw [hereOf_app, here_asks] at g
    exact g
  have tops : ∀ r : Rl, r ≠ .plain → (shapeOf r .nil (row ++ asks A)).top = z := fun r hr' => by
    have hoB : okRow [] (row ++ asks B) := okRow_app.mpr ⟨ho, ok_asks r6 hB⟩
    have gB := good_of (r := r) hoB
    rw [hereOf_app, here_asks, shapeOf_app] at gB
    rw [shapeOf_app, eA]
    exact top_last hr' gB.b ((gB.m z).mpr hz)
  have ways : ∀ r : Rl, r ≠ .plain → cost (shapeOf r .nil (row ++ asks A)) ⟨.ask, z⟩ = 1 := fun r hr' => by
    have n : shapeOf r .nil (row ++ asks A) ≠ .nil := ne_of_key (((gdA r).m z).mpr hz)
    show ((shapeOf r .nil (row ++ asks A)).way z : Int) + _ = 1
    rw [Tr.way_top (tops r hr') n]
    rfl
  have topE : shapeOf .top .nil (row ++ asks A) = plant (firsts [] A.reverse) := by
    rw [shapeOf_app, top_asks_of (gd .top).b fun y hy => hC y (((gd .top).m y).mp hy), firsts_plant]
    rfl
  have fm : ∀ y, y ∈ firsts [] A.reverse ↔ y ∈ A := fun y => by rw [firsts_mem, List.mem_reverse]; simp
  have fn : (firsts [] A.reverse).Nodup := firsts_nodup [] _ List.nodup_nil
  have fl : (firsts [] A.reverse).length ≤ 12 := by
    have := firsts_len [] A.reverse
    rw [List.length_reverse] at this
    simp only [List.length_nil] at this
    omega
  have perm := order_perm fn fun y hy => rA y ((fm y).mp hy)
  -- the code
  refine xr_freeze (i := 5) rfl ?_
  refine xr_set (i := 2) (d := rowD (row ++ asks A)) scLaw.nd rfl (.inl rfl) (XE.of (x_op op_catS (opd_cat (xs := row.map Deed.pd) (ys := (asks A).map Deed.pd) ?sz) (xv 2) (XE.of (XL.xe (xl_lc (own := [("_law_key", 6)]) (g := gName 6) (tt := tYes) rfl scLaw.nd (pi_list pE) (blkOk_by (N := nLaw) (sc := defScope sLaw) (by decide +kernel))
    (fun _ _ _ _ _ => pg_name (i := 6) scLaw.nd rfl (.inl rfl)) (fun _ _ _ _ _ => pts_nil)
    (lcd_list (ys := A) (enc := PyData.int) (p := fun _ => true) (q := fun k => (⟨.ask, k⟩ : Deed).pd) (xv 5) (small1000 (by omega)) (fun y _ => lct_yes) fun y hy _ => lce_of fun _ _ _ _ _ => x_tup (xa_cons x_str (xa1 (xv 6))) (by decide : 2 ≤ sizeLine)))) ?e1)) ?e2) ?_
  case sz => rw [List.length_map, List.length_map, asks_len]; exact Nat.le_of_lt (small1000 (by omega))
  case e1 => rw [List.filter_eq_self.mpr fun _ _ => rfl]; unfold asks; rw [List.map_map]; rfl
  case e2 => unfold rowD; rw [List.map_append]
  refine xr_setL (i := 7) scLaw.nd rfl (.inr rfl) (xl_lst xa_nil (Nat.zero_le _)) ?_
  refine xr_for (xs := A.reverse.map PyData.int) (fun i ds => ∃ sk : Slot, ds = [.dat (intsD ns), .twn, .dat (rowD (row ++ asks A)), .dat (intsD h), .own left, .dat (intsD A), sk, .own ((firsts [] (A.reverse.take i)).map PyData.int), .no, .no, .no]) ⟨sk, rfl⟩ PassesOwn.never rfl
    (XE.of (x_rev (xv 5)) (congrArg PyData.list List.map_reverse.symm)) (pg_name (i := 6) scLaw.nd rfl (.inl rfl)) (fun i y ds' ey hI => ?_) fun ds' hI => ?_
  · obtain ⟨sk', rfl⟩ := hI
    obtain ⟨k, er, rfl⟩ := map_get ey
    have tk := take_one er
    refine ⟨_, gd_name, ?_⟩
    refine xr_if (xt_view (i := 7) rfl (xt_cmp op_notIn_seq (opd_notIn (ns := firsts [] (A.reverse.take i))) (xv 6) (xv 7) rfl)) (fun c => ?_) fun c => ?_
    · have c' : k ∉ firsts [] (A.reverse.take i) := by simpa using c
      refine xr_append (i := 7) rfl (.inr (.inl rfl)) (by decide) (by decide) rfl ?sz2 (XE.xp (Φ := fun d => d = .int k) (xv 6) rfl) (pe_bm PySem.F.plainAttrs_list PySem.F.slot_list_append PySem.F.type_list_append mt_append (pe_var rfl (.inr (.inl rfl)) (by decide) (by decide)) (pa_cons pE pa_nil)) fun d ed => ?_
      case sz2 =>
        rw [List.length_map]
        have h1 := firsts_len [] (A.reverse.take i)
        have h2 : (A.reverse.take i).length ≤ A.length := by rw [List.length_take, List.length_reverse]; exact Nat.min_le_right _ _
        simp only [List.length_nil] at h1
        exact small1000 (by omega)
      subst ed
      refine xr_nil (xr_nil ⟨.dat (.int k), ?_⟩)
      rw [tk, firsts_one, if_neg c', List.map_append]
      rfl
    · have c' : k ∈ firsts [] (A.reverse.take i) := by simpa using c
      refine xr_nil ⟨.dat (.int k), ?_⟩
      rw [tk, firsts_one, if_pos c']
      rfl
  · obtain ⟨sk', rfl⟩ := hI
    rw [take_all]
    refine xr_freeze (i := 7) (xs := (firsts [] A.reverse).map PyData.int) rfl ?_
    generalize firsts [] A.reverse = last at *
    refine xr_set (i := 8) (d := .tuple ((last ++ six.filter fun y => !decide (y ∈ last)).map PyData.int)) scLaw.nd rfl (.inl rfl) (x_callTy call_tuple_of cd_tupleL rfl T.tuple (by decide +kernel) (xa1 (XE.of (x_op op_catS (opd_cat (xs := last.map PyData.int) (ys := (six.filter fun y => !decide (y ∈ last)).map PyData.int) ?sz3) (xv 7)
      (XL.xe (xl_lc (own := [("_law_key", 6)]) (g := gName 6) rfl scLaw.nd (pi_range2 rfl T.range pA) (blkOk_by (N := nLaw) (sc := defScope sLaw) (by decide +kernel)) (fun _ _ _ _ _ => pg_name (i := 6) scLaw.nd rfl (.inl rfl)) (pBT _)
        (lcd_rngOf (l := six) (lo := 1) (hi := 7) (by decide) (xa_cons x_int (xa1 x_int)) (by decide) (by decide +kernel) (fun y _ => lct_of fun _ _ _ _ _ => xt_cmp op_notIn_seq (opd_notIn (ns := last)) (xv 6) (xv 7) rfl) fun y hy _ => lce_of fun _ _ _ _ _ => xv 6)))) ?e3))) ?_
    case sz3 =>
      rw [List.length_map, List.length_map]
      have := List.length_filter_le (fun y => !decide (y ∈ last)) six
      have e6 : six.length = 6 := rfl
      exact Nat.le_of_lt (small1000 (by omega))
    case e3 => rw [← List.map_append]
    refine xr_set (i := 9) (d := (plant last).pd) scLaw.nd rfl (.inl rfl) (x_atL (x_call C.shapes hr rfl (xa_cons (XE.of (x_tup (xa1 x_str) one_small) (show _ = Rl.top.pd from rfl)) (xa1 (xv 2))) ⟨.top, row ++ asks A, rfl, hoA, by omega, rfl⟩) (x_neg x_int) ?at1) ?_
    case at1 =>
      rw [← topE, rowE]
      exact last_shape1 _ _
    have bst : (plant last).Bst 1 6 := plant_bst _ _ _ _ (Nat.le_refl _) fun y hy => rA y ((fm y).mp hy)
    refine xr_if (k := false) (xt_or2 (k := false) (l := false) (XT.of (xt_cmp (op_neD hr.units) (opd_neD (d := (plant last).pd) (e := (plant last).pd) (pd_shaped (by have := bst.six; omega)) (pd_shaped (by have := bst.six; omega))) (xv 9) (x_call C.plant (hr.mono (by decide)) rfl (xa1 (xv 7)) ⟨last, rfl, by omega, by omega, rfl⟩) (nomark _)) (by rw [eqv_same]; rfl)) fun _ => ?_) nofun fun _ => ?_
    · refine XT.of (xt_cmp op_notBl (opd_notB (i := true) (j := true)) (x_call C.keeps (hr.mono (by decide)) rfl (xa_cons (XE.of (x_tup (xa_cons x_str (xa1 (xv 8))) (by decide : 2 ≤ sizeLine)) (show _ = ranks (last ++ six.filter fun y => !decide (y ∈ last)) from rfl)) (xa1 (xv 9))) ⟨_, plant last, rfl, perm, bst, ?kp, rfl⟩) x_bl (nomark _)) (by decide)
      have q := ranks_keep (last := last) (others := six.filter fun y => !decide (y ∈ last)) fun y hy => by simpa using (List.mem_filter.mp hy).2
      rw [byOrder_plant fun y hy => perm.mem_iff.mpr (mem_six.mpr (bst.mem hy))] at q
      exact q
    · have gs := gdA .splay
      have ns' : shapeOf .splay .nil (row ++ asks A) ≠ .nil := ne_of_key ((gs.m z).mpr hz)
      refine xr_if (k := false) (XT.of (xt_cmp op_ne (opd_neI (i := (shapeOf .splay .nil (row ++ asks A)).top) (j := z)) (x_top1 ns' (x_atL (x_call C.shapes hr rfl (xa_cons (XE.of (x_tup (xa1 x_str) one_small) (show _ = Rl.splay.pd from rfl)) (xa1 (xv 2))) ⟨.splay, row ++ asks A, rfl, hoA, by omega, rfl⟩) (x_neg x_int) ?at2)) (x_atL (xv 5) (x_neg x_int) ?at3) (nomark _)) (by rw [tops .splay nofun]; simp)) nofun fun _ => ?_
      case at2 =>
        rw [rowE]
        exact last_shape1 _ _
      case at3 => rw [eA]; exact last_int B z
      refine xr_set (i := 10) (d := rowD ((row ++ asks A) ++ [⟨.ask, z⟩])) scLaw.nd rfl (.inl rfl) (XE.of (x_op op_catS (opd_cat (xs := (row ++ asks A).map Deed.pd) (ys := [(⟨.ask, z⟩ : Deed).pd]) ?sz4) (xv 2) (x_lst (xa1 (x_tup (xa_cons x_str (xa1 (x_atL (d := .int z) (xv 5) (x_neg x_int) ?at4))) (by decide : 2 ≤ sizeLine))) one_small)) ?e5) ?_
      case sz4 =>
        rw [List.length_map]
        exact Nat.le_of_lt (small1000 (by simp only [List.length_singleton]; omega))
      case at4 => rw [eA]; exact last_int B z
      case e5 => simp only [rowD, List.map_append, List.map_cons, List.map_nil]
      refine xr_ret (d := .bool (true && true)) (x_and2 (XE.of (x_cmp op_eq (opd_eqI (i := cost (shapeOf .top .nil (row ++ asks A)) ⟨.ask, z⟩) (j := 1)) (x_atL (x_call C.costs hr rfl (xa_cons (XE.of (x_tup (xa1 x_str) one_small) (show _ = Rl.top.pd from rfl)) (xa1 (xv 10))) ⟨.top, _, rfl, hoAz, by omega, rfl⟩) (x_neg x_int) (last_cost _ _)) x_int (nomark _)) ?f1) fun _ =>
        XE.of (x_cmp op_eq (opd_eqI (i := cost (shapeOf .splay .nil (row ++ asks A)) ⟨.ask, z⟩) (j := 1)) (x_atL (x_call C.costs hr rfl (xa_cons (XE.of (x_tup (xa1 x_str) one_small) (show _ = Rl.splay.pd from rfl)) (xa1 (xv 10))) ⟨.splay, _, rfl, hoAz, by omega, rfl⟩) (x_neg x_int) (last_cost _ _)) x_int (nomark _)) ?f2) rfl
      case f1 => rw [ways .top nofun]; rfl
      case f2 => rw [ways .splay nofun]; rfl
end
end TT

namespace TT
open PySem L2
theorem map_erase {α β : Type} (g : α → β) : ∀ (l : List α) (n : Nat), (l.map g).eraseIdx n = (l.eraseIdx n).map g
  | [], _ => rfl
  | x :: l, 0 => rfl
  | x :: l, n + 1 => by
    show g x :: (l.map g).eraseIdx n = g x :: (l.eraseIdx n).map g
    rw [map_erase g l n]
theorem mem_erase : ∀ {l : List Int} {n : Nat} {k y : Int}, l[n]? = some k → y ∈ l → y = k ∨ y ∈ l.eraseIdx n
  | [], _, _, _, h, _ => by simp at h
  | x :: l, 0, k, y, h, m => by
    have e : x = k := by simpa using h
    rcases List.mem_cons.mp m with rfl | m
    · exact .inl e
    · exact .inr m
  | x :: l, n + 1, k, y, h, m => by
    rcases List.mem_cons.mp m with rfl | m
    · exact .inr List.mem_cons_self
    · rcases mem_erase (n := n) (by simpa using h) m with q | q
      · exact .inl q
      · exact .inr (List.mem_cons_of_mem _ q)
theorem of_erase : ∀ {l : List Int} {n : Nat} {y : Int}, y ∈ l.eraseIdx n → y ∈ l
  | [], _, _, m => m
  | x :: l, 0, y, m => List.mem_cons_of_mem _ m
  | x :: l, n + 1, y, m => by
    rcases List.mem_cons.mp m with rfl | m
    · exact List.mem_cons_self
    · exact List.mem_cons_of_mem _ (of_erase m)
theorem len_erase1 : ∀ {l : List Int} {n : Nat} {k : Int}, l[n]? = some k → (l.eraseIdx n).length + 1 = l.length
  | [], _, _, h => by simp at h
  | x :: l, 0, k, h => rfl
  | x :: l, n + 1, k, h => by
    show (l.eraseIdx n).length + 1 + 1 = l.length + 1
    rw [len_erase1 (n := n) (k := k) (by simpa using h)]
section
variable {P : Program} {w : World} {K : PySem.W.Frag} {mg : Str → Option Value} {base : Heap} {f : Addr} {fd : FuncData}
theorem law_front {cdv : Value} {A' : Around} {outer : List Env} {s : Shared} {H : Hp} {E : XK} (T : Tp K mg) (C : Calls P w K mg base) (hr : Room 18 (cxOf CX0 P w K mg base nLaw "law" (defScope sLaw) f cdv A' outer s H E).A) {ns : List Int} :
    XR (cxOf CX0 P w K mg base nLaw "law" (defScope sLaw) f cdv A' outer s H E).nox ((defBody sLaw).drop 1) [.dat (intsD ns), .twn, .no, .no, .no, .no, .no, .no, .no, .no, .no] (fun d => d = .bool true) (fun _ => False) := by
  refine xr_setP (i := 2) (Ψ := fun d => ∃ row : List Deed, d = rowD row ∧ okRow [] row ∧ row.length ≤ 16) scLaw.nd rfl (.inl rfl) (x_callT (j := 1) C.row (hr.mono (by decide)) rfl (xv 0) rfl (.inl rfl) (by decide) (by decide) rfl (xa_cons x_int (xa1 x_int)) ⟨rfl, fun row ho hl => ⟨row, rfl, ho, hl⟩⟩) fun d hd => ?_
  obtain ⟨row, rfl, ho, hl⟩ := hd
  have g := good_of (r := .plain) ho
  have k6 := Tr.keys_six g.b
  have h6 := g.b.six
  refine xr_set (i := 3) (d := intsD (shapeOf .plain .nil row).keys) scLaw.nd rfl (.inl rfl) (x_call C.keys (hr.mono (by decide)) rfl (xa1 (x_atL (x_op op_catS (opd_cat (xs := [Tr.nil.pd]) (ys := (shapes .plain .nil row).map Tr.pd) ?sz) (x_lst (xa1 (x_tup xa_nil (Nat.zero_le _))) one_small)
    (x_call C.shapes hr rfl (xa_cons (XE.of (x_tup (xa1 x_str) one_small) (show _ = Rl.plain.pd from rfl)) (xa1 (xv 2))) ⟨.plain, row, rfl, ho, by omega, rfl⟩)) (x_neg x_int) (last_shape row))) ⟨shapeOf .plain .nil row, rfl, by omega, h6, by omega, rfl⟩) ?_
  case sz => rw [List.length_map, shapes_len]; exact Nat.le_of_lt (small1000 (by simp only [List.length_singleton]; omega))
  have mem : ∀ y, y ∈ (shapeOf .plain .nil row).keys ↔ y ∈ hereOf [] row := g.m
  generalize (shapeOf .plain .nil row).keys = h at mem k6
  refine xr_if (k := h.isEmpty) (XT.of (xt_cmp (op_eqD hr.units) (opd_eqD (e := .list []) (list_shaped h) (list_shaped [])) (xv 3) (x_lst xa_nil (Nat.zero_le _)) (nomark _)) (eqv_ints_nil h)) (fun _ => xr_ret x_bl rfl) fun ce => ?_
  have hne : h ≠ [] := fun z => by rw [z] at ce; cases ce
  refine xr_parOO (i := 4) (j := 5) (xs := h.map PyData.int) (ys := []) rfl scLaw.nd rfl rfl (by decide) rfl rfl (xl_list rfl T.list (xv 3)) (xl_lst xa_nil (Nat.zero_le _)) rfl rfl rfl ?_
  refine xr_while (fun m ds => ∃ L A : List Int, ds = [.dat (intsD ns), .twn, .dat (rowD row), .dat (intsD h), .own (L.map PyData.int), .own (A.map PyData.int), .no, .no, .no, .no, .no] ∧ L.length = m ∧ A.length + 2 * L.length ≤ 12 ∧ (∀ y ∈ A, y ∈ h) ∧ (∀ y ∈ L, y ∈ h) ∧ ∀ y ∈ h, y ∈ A ∨ y ∈ L)
    h.length ⟨h, [], rfl, rfl, by simp only [List.length_nil]; omega, nofun, fun y hy => hy, fun y hy => .inr hy⟩ PassesOwn.never fun m ds' hI => ?_
  obtain ⟨L, A, rfl, rfl, len, mA, mL, mC⟩ := hI
  refine ⟨!L.isEmpty, xt_view (i := 4) rfl (XT.of (xt_cmp (op_neD hr.units) (opd_neD (e := .list []) (list_shaped L) (list_shaped [])) (xv 4) (x_lst xa_nil (Nat.zero_le _)) (nomark _)) (by rw [eqv_ints_nil])), fun c => ?_, fun c => ?_⟩
  · have L0 : 0 < L.length := by
      cases L with
      | nil => cases c
      | cons y l => exact Nat.succ_pos _
    -- the second part of a turn
    have second : ∀ A2 : List Int, A2.length + 2 * L.length ≤ 13 → (∀ y ∈ A2, y ∈ h) → (∀ y ∈ A, y ∈ A2) → XR (cxOf CX0 P w K mg base nLaw "law" (defScope sLaw) f cdv A' outer s H E).nox
        (match defBody sLaw with | [_, _, _, _, _, .While _ [_, z] _ _, _, _, _, _, _, _, _, _, _] => [z] | _ => [])
        [.dat (intsD ns), .twn, .dat (rowD row), .dat (intsD h), .own (L.map PyData.int), .own (A2.map PyData.int), .no, .no, .no, .no, .no] (fun d => d = .bool true)
        (fun ds2 => ∃ m', m' < L.length ∧ ∃ L A : List Int, ds2 = [.dat (intsD ns), .twn, .dat (rowD row), .dat (intsD h), .own (L.map PyData.int), .own (A.map PyData.int), .no, .no, .no, .no, .no] ∧ L.length = m' ∧ A.length + 2 * L.length ≤ 12 ∧ (∀ y ∈ A, y ∈ h) ∧ (∀ y ∈ L, y ∈ h) ∧ ∀ y ∈ h, y ∈ A ∨ y ∈ L) := fun A2 l2 m2 i2 => by
      refine xr_popOver (i := 5) (j := 4) (xs := A2.map PyData.int) (ys := L.map PyData.int) (by decide) rfl rfl (by rw [List.length_map]; exact small1000 (by omega)) (by rw [List.length_map]; omega)
        (x_callT (j := 1) C.draw (hr.mono (by decide)) rfl (xv 0) rfl (.inl rfl) (by decide) (by decide) rfl (xa1 (xe_view (i := 4) rfl (x_callB call_len_seq (cd_lenL (xs := L.map PyData.int)) rfl T.len PySem.boot_len (xa1 (xv 4))))) ⟨_, rfl, by rw [List.length_map]; omega, by rw [List.length_map]; omega, fun n n0 n1 => ⟨n, rfl, n0, n1⟩⟩)
        (pe_bm PySem.F.plainAttrs_list PySem.F.slot_list_append PySem.F.type_list_append mt_append (pe_var rfl (.inl rfl) (by decide) (by decide)) (pa_cons (pe_bm PySem.F.plainAttrs_list PySem.F.slot_list_pop PySem.F.type_list_pop mt_popAt (pe_var rfl (.inl rfl) (by decide) (by decide)) (pa_cons pE pa_nil)) pa_nil)) fun n z ez => ?_
      obtain ⟨k, ek, rfl⟩ := map_get ez
      have le := len_erase1 ek
      refine xr_nil ?_
      refine ⟨(L.eraseIdx n).length, by omega, L.eraseIdx n, A2 ++ [k], ?_, rfl, by rw [List.length_append]; simp only [List.length_singleton]; omega, fun y hy => ?_, fun y hy => mL y (of_erase hy), fun y hy => ?_⟩
      · rw [map_erase, List.map_append]; rfl
      · rcases List.mem_append.mp hy with q | q
        · exact m2 y q
        · rw [List.mem_singleton] at q
          exact q ▸ mL k (List.mem_of_getElem? ek)
      · rcases mC y hy with q | q
        · exact .inl (List.mem_append_left _ (i2 y q))
        · rcases mem_erase ek q with q | q
          · exact .inl (List.mem_append_right _ (List.mem_singleton.mpr q))
          · exact .inr q
    by_cases cA : A = []
    · exact xr_if (k := false) (xt_and2 (k := false) (l := false) (xt_view (i := 5) rfl (XT.of (xt_cmp (op_neD hr.units) (opd_neD (e := .list []) (list_shaped A) (list_shaped [])) (xv 5) (x_lst xa_nil (Nat.zero_le _)) (nomark _)) (by rw [eqv_ints_nil, cA]; rfl))) nofun) nofun fun _ => second A (by omega) mA fun y hy => hy
    · have eA : A.isEmpty = false := by cases A with
        | nil => exact absurd rfl cA
        | cons y l => rfl
      refine xr_ifP (xtp_and (xt_view (i := 5) rfl (XT.of (xt_cmp (op_neD hr.units) (opd_neD (e := .list []) (list_shaped A) (list_shaped [])) (xv 5) (x_lst xa_nil (Nat.zero_le _)) (nomark _)) (by rw [eqv_ints_nil, eA]; rfl)))
        (xtp_eqI (Ψ := fun _ => True) (x_callT (j := 1) C.draw (hr.mono (by decide)) rfl (xv 0) rfl (.inl rfl) (by decide) (by decide) rfl (xa1 x_int) ⟨3, rfl, by decide, by decide, fun n _ _ => ⟨n, rfl, trivial⟩⟩) x_int (nomark _))) ?_ (second A (by omega) mA fun y hy => hy)
      refine xr_append (i := 5) rfl (.inl rfl) (by decide) (by decide) rfl (by rw [List.length_map]; exact small1000 (by omega)) (Φ' := fun d => d ∈ h.map PyData.int) (x_callT (j := 1) C.pick (hr.mono (by decide)) rfl (xv 0) rfl (.inl rfl) (by decide) (by decide) rfl (xa1 (xv 3)) ⟨_, rfl, by rw [List.length_map]; exact List.length_pos_iff.mpr hne, by rw [List.length_map]; omega, fun x hx => hx⟩)
        (pe_bm PySem.F.plainAttrs_list PySem.F.slot_list_append PySem.F.type_list_append mt_append (pe_var rfl (.inl rfl) (by decide) (by decide)) (pa_cons pE pa_nil)) fun d hd => ?_
      obtain ⟨k, hk, rfl⟩ := mem_intsD hd
      refine xr_nil ?_
      have z := second (A ++ [k]) (by rw [List.length_append]; simp only [List.length_singleton]; omega) (fun y hy => ?_) fun y hy => List.mem_append_left _ hy
      · rw [List.map_append] at z
        exact z
      · rcases List.mem_append.mp hy with q | q
        · exact mA y q
        · rw [List.mem_singleton] at q
          exact q ▸ hk
  · have eL : L = [] := by
      cases L with
      | nil => rfl
      | cons y l => cases c
    subst eL
    have cover : ∀ y ∈ h, y ∈ A := fun y hy => (mC y hy).resolve_right nofun
    have nA : A ≠ [] := fun z => by
      obtain ⟨y, r, e⟩ := List.exists_cons_of_ne_nil hne
      have := cover y (by rw [e]; exact List.mem_cons_self)
      rw [z] at this; cases this
    rcases List.eq_nil_or_concat A with q | ⟨B, z, q⟩
    · exact absurd q nA
    · rw [List.concat_eq_append] at q
      exact law_tail T C hr ho hl q (fun y hy => (mem y).mp (mA y hy)) (fun y hy => cover y ((mem y).mpr hy)) (by simp only [List.length_nil] at len; omega)
/-- what law(script) promises: for a list of at most 63 ints the answer is True -/
def spLaw (K : PySem.W.Frag) : Sp := fun vs H Q _ => ∃ (a : Addr) (ns : List Int), vs = [.ref a] ∧ SqL K H a (ns.map V.int) ∧ ns.length ≤ 63 ∧ ∀ H', Q (.bl true) H'
theorem ok_law (Fn : Fun K "law" "law" sLaw f fd) (T : Tp K mg) (C : Calls P w K mg base) : FnOk P w K mg base CX0 19 f fd ["_law_script"] (spLaw K) := by
  refine Fn.ok scLaw (fun vs H Q E h => ?_) (fun cdv A outer s H vs Q E hr h => ?_)
  · obtain ⟨a, ns, rfl, _⟩ := h
    rfl
  · obtain ⟨a, ns, rfl, hS, _, q⟩ := h
    refine ⟨_, pSs, ?_⟩
    have hd : Hd none H H := ⟨.refl H, nofun⟩
    have w0 : DpAll K H [V.ref a] [intsD ns] := .cons (.lst hS (dpAll_ofInts ns)) .nil
    have e0 := start_ok (N := nLaw) hd w0
    refine town_made (i := 1) (Φ := fun d => d = .bool true) (X := (cxOf CX0 P w K mg base nLaw "law" (defScope sLaw) f cdv A outer s H E).nox) ⟨.refl hd, e0, fun i xs b q1 => ?_⟩ scLaw.nd rfl (.inl rfl) (xl_lst (xa_cons x_int (xa1 x_int)) (by decide : 2 ≤ sizeLine)) (law_front T C hr) fun v d F' H' g e w => ?_
    · match i, q1 with
      | 0, q1 => cases q1
      | i + 1, q1 =>
        have m := List.mem_of_getElem? q1
        rcases List.mem_append.mp m with m | m
        · obtain ⟨_, _, z⟩ := List.mem_map.mp m
          cases z
        · exact nomatch List.eq_of_mem_replicate m
    · subst e
      rw [dp_bl w]
      exact q H'
end
end TT

namespace TT
open PySem L2
/-! ### the end: each def stands where the top leaves it -/
def DefAt (K : PySem.W.Frag) (x : Str) (st : Stmt) : Prop := ∃ (f : Addr) (fd : FuncData), PySem.W.nsIn K mainGlobals x = some (some (.ref f)) ∧ Fun K x x st f fd
theorem def_at {K : PySem.W.Frag} {x : Str} {st : Stmt} {f : Addr} {oc : Value} {od an : Option Addr} {osl : Array (Option Value)} {kV doc pm cdv ct : Value} (a : PySem.W.nsIn K mainGlobals x = some (some (.ref f)))
    (l : K.lookup f = some ⟨oc, od, .func (PySem.W.fnOf x x (defArgs st) (defBody st) (defScope st) .none kV doc pm an cdv ct), osl⟩) (c : PySem.W.codeIn K cdv x = true) (k : PySem.W.keepIn K (.ref f) = true) : DefAt K x st := ⟨f, _, a, fun_mk l c k⟩
theorem str_rel (x : Str) (t : Tok) : RelV (.str x) (.str x t) := ⟨t, rfl⟩
theorem all_mk {l : PySem.W.OpenLaw} {w : World} {K : PySem.W.Frag} {h : Heap} {mg : Str → Option Value} {fa fam : Addr} {tm td : Tok} {fd0 : Option Addr} {fn : Nat} {fsl : Array (Option Value)} {t0 t1 t2 t3 t4 t5 t6 t7 : Tok} (X : K.In h) (G : h.Ns mainGlobals mg) (hfa : mg "law" = some (.ref fa))
    (d0 : DefAt K "is_number" sIsNumber)
    (d1 : DefAt K "is_between" sIsBetween)
    (d2 : DefAt K "is_shape" sIsShape)
    (d3 : DefAt K "need_shape" sNeedShape)
    (d4 : DefAt K "keys_of" sKeysOf)
    (d5 : DefAt K "way_to" sWayTo)
    (d6 : DefAt K "left_up" sLeftUp)
    (d7 : DefAt K "right_up" sRightUp)
    (d8 : DefAt K "turned" sTurned)
    (d9 : DefAt K "with_leaf" sWithLeaf)
    (d10 : DefAt K "least" sLeast)
    (d11 : DefAt K "greatest" sGreatest)
    (d12 : DefAt K "without" sWithout)
    (d13 : DefAt K "once_up" sOnceUp)
    (d14 : DefAt K "to_top" sToTop)
    (d15 : DefAt K "way_down" sWayDown)
    (d16 : DefAt K "splayed" sSplayed)
    (d17 : DefAt K "without_splayed" sWithoutSplayed)
    (d18 : DefAt K "is_rule" sIsRule)
    (d19 : DefAt K "need_rule" sNeedRule)
    (d20 : DefAt K "by_order" sByOrder)
    (d21 : DefAt K "is_kept" sIsKept)
    (d22 : DefAt K "keeps" sKeeps)
    (d23 : DefAt K "with_key" sWithKey)
    (d24 : DefAt K "without_key" sWithoutKey)
    (d25 : DefAt K "moved" sMoved)
    (d26 : DefAt K "behind" sBehind)
    (d27 : DefAt K "cost_of" sCostOf)
    (d28 : DefAt K "is_deed" sIsDeed)
    (d29 : DefAt K "keys_along" sKeysAlong)
    (d30 : DefAt K "is_row" sIsRow)
    (d31 : DefAt K "need_row" sNeedRow)
    (d32 : DefAt K "run" sRun)
    (d33 : DefAt K "need_run" sNeedRun)
    (d34 : DefAt K "shapes_along" sShapesAlong)
    (d35 : DefAt K "costs_along" sCostsAlong)
    (d36 : DefAt K "_law_draw" sDraw)
    (d37 : DefAt K "_law_pick" sPick)
    (d38 : DefAt K "_law_keys" sLawKeys)
    (d39 : DefAt K "_law_plant" sPlant)
    (d40 : DefAt K "_law_deed" sDeed)
    (d41 : DefAt K "_law_row" sRow)
    (d42 : DefAt K "law" sLaw)
    (z0 : PySem.W.nsIn K mainGlobals "isinstance" = some none)
    (z1 : PySem.W.nsIn K mainGlobals "int" = some none)
    (z2 : PySem.W.nsIn K mainGlobals "bool" = some none)
    (z3 : PySem.W.nsIn K mainGlobals "tuple" = some none)
    (z4 : PySem.W.nsIn K mainGlobals "str" = some none)
    (z5 : PySem.W.nsIn K mainGlobals "list" = some none)
    (z6 : PySem.W.nsIn K mainGlobals "len" = some none)
    (z7 : PySem.W.nsIn K mainGlobals "range" = some none)
    (z8 : PySem.W.nsIn K mainGlobals "sorted" = some none)
    (z9 : PySem.W.nsIn K mainGlobals "all" = some none)
    (cm : PySem.W.nsIn K mainGlobals "MOST" = some (some (.int 6 tm))) (cd : PySem.W.nsIn K mainGlobals "DEEDS" = some (some (.int 40 td))) (cf : PySem.W.nsIn K mainGlobals "FAMILY" = some (some (.ref fam)))
    (cl : K.lookup fam = some ⟨.type "tuple", fd0, .seq #[.str "heights" t0, .str "levels" t1, .str "once" t2, .str "plain" t3, .str "rebuilt" t4, .str "splayed" t5, .str "top" t6, .str "weights" t7] fn, fsl⟩) :
    ∃ fd : FuncData, (∀ (s : Shared) (v : Value), BindsTo s fd ⟨[v], []⟩ [("_law_script", v)]) ∧ ∀ base : Heap, K.In base → base.Ns mainGlobals mg → FnOk l.prog w K mg base CX0 19 fa fd ["_law_script"] (spLaw K) := by
  have T : Tp K mg := {
    isinstance := PySem.W.mg_none_of X G z0
    int := PySem.W.mg_none_of X G z1
    bool := PySem.W.mg_none_of X G z2
    tuple := PySem.W.mg_none_of X G z3
    str := PySem.W.mg_none_of X G z4
    list := PySem.W.mg_none_of X G z5
    len := PySem.W.mg_none_of X G z6
    range := PySem.W.mg_none_of X G z7
    sorted := PySem.W.mg_none_of X G z8
    all := PySem.W.mg_none_of X G z9
    most := ⟨tm, PySem.W.mg_of X G cm⟩
    deeds := ⟨td, PySem.W.mg_of X G cd⟩
    family := ⟨fam, PySem.W.mg_of X G cf, fun F => .tup (xs := [.str "heights", .str "levels", .str "once", .str "plain", .str "rebuilt", .str "splayed", .str "top", .str "weights"]) (.inr ⟨_, _, fn, cl, rfl, rfl, (show 8 ≤ sizeLine by decide), .cons (str_rel "heights" t0) (.cons (str_rel "levels" t1) (.cons (str_rel "once" t2) (.cons (str_rel "plain" t3) (.cons (str_rel "rebuilt" t4) (.cons (str_rel "splayed" t5) (.cons (str_rel "top" t6) (.cons (str_rel "weights" t7) (.nil))))))))⟩) (.cons (.str _) (.cons (.str _) (.cons (.str _) (.cons (.str _) (.cons (.str _) (.cons (.str _) (.cons (.str _) (.cons (.str _) .nil))))))))⟩ }
  obtain ⟨f0, e0, a0, F0⟩ := d0
  have m0 := PySem.W.mg_of X G a0
  have b0 := F0.binds (ps := ["value", "least", "most"]) fun _ _ _ _ _ _ us hl => match us, hl with | [_, _, _], _ => rfl
  obtain ⟨f1, e1, a1, F1⟩ := d1
  have m1 := PySem.W.mg_of X G a1
  have b1 := F1.binds (ps := ["value", "low", "high"]) fun _ _ _ _ _ _ us hl => match us, hl with | [_, _, _], _ => rfl
  obtain ⟨f2, e2, a2, F2⟩ := d2
  have m2 := PySem.W.mg_of X G a2
  have b2 := F2.binds (ps := ["candidate"]) fun _ _ _ _ _ _ us hl => match us, hl with | [_], _ => rfl
  obtain ⟨f3, e3, a3, F3⟩ := d3
  have m3 := PySem.W.mg_of X G a3
  have b3 := F3.binds (ps := ["value"]) fun _ _ _ _ _ _ us hl => match us, hl with | [_], _ => rfl
  obtain ⟨f4, e4, a4, F4⟩ := d4
  have m4 := PySem.W.mg_of X G a4
  have b4 := F4.binds (ps := ["shape"]) fun _ _ _ _ _ _ us hl => match us, hl with | [_], _ => rfl
  obtain ⟨f5, e5, a5, F5⟩ := d5
  have m5 := PySem.W.mg_of X G a5
  have b5 := F5.binds (ps := ["shape", "key"]) fun _ _ _ _ _ _ us hl => match us, hl with | [_, _], _ => rfl
  obtain ⟨f6, e6, a6, F6⟩ := d6
  have m6 := PySem.W.mg_of X G a6
  have b6 := F6.binds (ps := ["part"]) fun _ _ _ _ _ _ us hl => match us, hl with | [_], _ => rfl
  obtain ⟨f7, e7, a7, F7⟩ := d7
  have m7 := PySem.W.mg_of X G a7
  have b7 := F7.binds (ps := ["part"]) fun _ _ _ _ _ _ us hl => match us, hl with | [_], _ => rfl
  obtain ⟨f8, e8, a8, F8⟩ := d8
  have m8 := PySem.W.mg_of X G a8
  have b8 := F8.binds (ps := ["shape", "key"]) fun _ _ _ _ _ _ us hl => match us, hl with | [_, _], _ => rfl
  obtain ⟨f9, e9, a9, F9⟩ := d9
  have m9 := PySem.W.mg_of X G a9
  have b9 := F9.binds (ps := ["shape", "key"]) fun _ _ _ _ _ _ us hl => match us, hl with | [_, _], _ => rfl
  obtain ⟨f10, e10, a10, F10⟩ := d10
  have m10 := PySem.W.mg_of X G a10
  have b10 := F10.binds (ps := ["shape"]) fun _ _ _ _ _ _ us hl => match us, hl with | [_], _ => rfl
  obtain ⟨f11, e11, a11, F11⟩ := d11
  have m11 := PySem.W.mg_of X G a11
  have b11 := F11.binds (ps := ["shape"]) fun _ _ _ _ _ _ us hl => match us, hl with | [_], _ => rfl
  obtain ⟨f12, e12, a12, F12⟩ := d12
  have m12 := PySem.W.mg_of X G a12
  have b12 := F12.binds (ps := ["shape", "key"]) fun _ _ _ _ _ _ us hl => match us, hl with | [_, _], _ => rfl
  obtain ⟨f13, e13, a13, F13⟩ := d13
  have m13 := PySem.W.mg_of X G a13
  have b13 := F13.binds (ps := ["shape", "key"]) fun _ _ _ _ _ _ us hl => match us, hl with | [_, _], _ => rfl
  obtain ⟨f14, e14, a14, F14⟩ := d14
  have m14 := PySem.W.mg_of X G a14
  have b14 := F14.binds (ps := ["shape", "key"]) fun _ _ _ _ _ _ us hl => match us, hl with | [_, _], _ => rfl
  obtain ⟨f15, e15, a15, F15⟩ := d15
  have m15 := PySem.W.mg_of X G a15
  have b15 := F15.binds (ps := ["shape", "key"]) fun _ _ _ _ _ _ us hl => match us, hl with | [_, _], _ => rfl
  obtain ⟨f16, e16, a16, F16⟩ := d16
  have m16 := PySem.W.mg_of X G a16
  have b16 := F16.binds (ps := ["shape", "key"]) fun _ _ _ _ _ _ us hl => match us, hl with | [_, _], _ => rfl
  obtain ⟨f17, e17, a17, F17⟩ := d17
  have m17 := PySem.W.mg_of X G a17
  have b17 := F17.binds (ps := ["shape", "key"]) fun _ _ _ _ _ _ us hl => match us, hl with | [_, _], _ => rfl
  obtain ⟨f18, e18, a18, F18⟩ := d18
  have m18 := PySem.W.mg_of X G a18
  have b18 := F18.binds (ps := ["candidate"]) fun _ _ _ _ _ _ us hl => match us, hl with | [_], _ => rfl
  obtain ⟨f19, e19, a19, F19⟩ := d19
  have m19 := PySem.W.mg_of X G a19
  have b19 := F19.binds (ps := ["value"]) fun _ _ _ _ _ _ us hl => match us, hl with | [_], _ => rfl
  obtain ⟨f20, e20, a20, F20⟩ := d20
  have m20 := PySem.W.mg_of X G a20
  have b20 := F20.binds (ps := ["keys", "order"]) fun _ _ _ _ _ _ us hl => match us, hl with | [_, _], _ => rfl
  obtain ⟨f21, e21, a21, F21⟩ := d21
  have m21 := PySem.W.mg_of X G a21
  have b21 := F21.binds (ps := ["rule", "shape"]) fun _ _ _ _ _ _ us hl => match us, hl with | [_, _], _ => rfl
  obtain ⟨f22, e22, a22, F22⟩ := d22
  have m22 := PySem.W.mg_of X G a22
  have b22 := F22.binds (ps := ["rule", "shape"]) fun _ _ _ _ _ _ us hl => match us, hl with | [_, _], _ => rfl
  obtain ⟨f23, e23, a23, F23⟩ := d23
  have m23 := PySem.W.mg_of X G a23
  have b23 := F23.binds (ps := ["rule", "shape", "key"]) fun _ _ _ _ _ _ us hl => match us, hl with | [_, _, _], _ => rfl
  obtain ⟨f24, e24, a24, F24⟩ := d24
  have m24 := PySem.W.mg_of X G a24
  have b24 := F24.binds (ps := ["rule", "shape", "key"]) fun _ _ _ _ _ _ us hl => match us, hl with | [_, _, _], _ => rfl
  obtain ⟨f25, e25, a25, F25⟩ := d25
  have m25 := PySem.W.mg_of X G a25
  have b25 := F25.binds (ps := ["rule", "shape", "key"]) fun _ _ _ _ _ _ us hl => match us, hl with | [_, _, _], _ => rfl
  obtain ⟨f26, e26, a26, F26⟩ := d26
  have m26 := PySem.W.mg_of X G a26
  have b26 := F26.binds (ps := ["rule", "shape", "deed"]) fun _ _ _ _ _ _ us hl => match us, hl with | [_, _, _], _ => rfl
  obtain ⟨f27, e27, a27, F27⟩ := d27
  have m27 := PySem.W.mg_of X G a27
  have b27 := F27.binds (ps := ["shape", "deed"]) fun _ _ _ _ _ _ us hl => match us, hl with | [_, _], _ => rfl
  obtain ⟨f28, e28, a28, F28⟩ := d28
  have m28 := PySem.W.mg_of X G a28
  have b28 := F28.binds (ps := ["value"]) fun _ _ _ _ _ _ us hl => match us, hl with | [_], _ => rfl
  obtain ⟨f29, e29, a29, F29⟩ := d29
  have m29 := PySem.W.mg_of X G a29
  have b29 := F29.binds (ps := ["row"]) fun _ _ _ _ _ _ us hl => match us, hl with | [_], _ => rfl
  obtain ⟨f30, e30, a30, F30⟩ := d30
  have m30 := PySem.W.mg_of X G a30
  have b30 := F30.binds (ps := ["candidate"]) fun _ _ _ _ _ _ us hl => match us, hl with | [_], _ => rfl
  obtain ⟨f31, e31, a31, F31⟩ := d31
  have m31 := PySem.W.mg_of X G a31
  have b31 := F31.binds (ps := ["value"]) fun _ _ _ _ _ _ us hl => match us, hl with | [_], _ => rfl
  obtain ⟨f32, e32, a32, F32⟩ := d32
  have m32 := PySem.W.mg_of X G a32
  have b32 := F32.binds (ps := ["rule", "row"]) fun _ _ _ _ _ _ us hl => match us, hl with | [_, _], _ => rfl
  obtain ⟨f33, e33, a33, F33⟩ := d33
  have m33 := PySem.W.mg_of X G a33
  have b33 := F33.binds (ps := ["rule", "row"]) fun _ _ _ _ _ _ us hl => match us, hl with | [_, _], _ => rfl
  obtain ⟨f34, e34, a34, F34⟩ := d34
  have m34 := PySem.W.mg_of X G a34
  have b34 := F34.binds (ps := ["rule", "row"]) fun _ _ _ _ _ _ us hl => match us, hl with | [_, _], _ => rfl
  obtain ⟨f35, e35, a35, F35⟩ := d35
  have m35 := PySem.W.mg_of X G a35
  have b35 := F35.binds (ps := ["rule", "row"]) fun _ _ _ _ _ _ us hl => match us, hl with | [_, _], _ => rfl
  obtain ⟨f36, e36, a36, F36⟩ := d36
  have m36 := PySem.W.mg_of X G a36
  have b36 := F36.binds (ps := ["_law_script", "_law_town", "_law_many"]) fun _ _ _ _ _ _ us hl => match us, hl with | [_, _, _], _ => rfl
  obtain ⟨f37, e37, a37, F37⟩ := d37
  have m37 := PySem.W.mg_of X G a37
  have b37 := F37.binds (ps := ["_law_script", "_law_town", "_law_some"]) fun _ _ _ _ _ _ us hl => match us, hl with | [_, _, _], _ => rfl
  obtain ⟨f38, e38, a38, F38⟩ := d38
  have m38 := PySem.W.mg_of X G a38
  have b38 := F38.binds (ps := ["_law_shape"]) fun _ _ _ _ _ _ us hl => match us, hl with | [_], _ => rfl
  obtain ⟨f39, e39, a39, F39⟩ := d39
  have m39 := PySem.W.mg_of X G a39
  have b39 := F39.binds (ps := ["_law_keys_here"]) fun _ _ _ _ _ _ us hl => match us, hl with | [_], _ => rfl
  obtain ⟨f40, e40, a40, F40⟩ := d40
  have m40 := PySem.W.mg_of X G a40
  have b40 := F40.binds (ps := ["_law_script", "_law_town", "_law_here", "_law_keys_here"]) fun _ _ _ _ _ _ us hl => match us, hl with | [_, _, _, _], _ => rfl
  obtain ⟨f41, e41, a41, F41⟩ := d41
  have m41 := PySem.W.mg_of X G a41
  have b41 := F41.binds (ps := ["_law_script", "_law_town", "_law_keys_here", "_law_many"]) fun _ _ _ _ _ _ us hl => match us, hl with | [_, _, _, _], _ => rfl
  obtain ⟨f42, e42, a42, F42⟩ := d42
  have m42 := PySem.W.mg_of X G a42
  have b42 := F42.binds (ps := ["_law_script"]) fun _ _ _ _ _ _ us hl => match us, hl with | [_], _ => rfl
  cases hfa.symm.trans m42
  refine ⟨e42, fun s v => ?_, fun base _ _ => ?_⟩
  · obtain ⟨oc, od, kV, doc, pm, an, cdv, ct, osl, rfl, _⟩ := F42.ex
    exact .of_eq rfl
  have D_is_number := ok_is_number (P := l.prog) (w := w) (base := base) F0 b0 m0 T
  have D_is_between := ok_is_between (P := l.prog) (w := w) (base := base) F1 b1 m1 T D_is_number 7
  have D_is_shape := ok_is_shape (P := l.prog) (w := w) (base := base) F2 b2 m2 T D_is_between
  have D_need_shape := ok_need_shape (P := l.prog) (w := w) (base := base) F3 b3 m3 D_is_shape
  have D_keys_of := ok_keys_of (P := l.prog) (w := w) (base := base) F4 b4 m4 7
  have D_way_to := ok_way_to (P := l.prog) (w := w) (base := base) F5 b5 m5 7
  have D_left_up := ok_left_up (P := l.prog) (w := w) (base := base) F6 b6 m6 
  have D_right_up := ok_right_up (P := l.prog) (w := w) (base := base) F7 b7 m7 
  have D_turned := ok_turned (P := l.prog) (w := w) (base := base) F8 b8 m8 D_left_up D_right_up 7
  have D_with_leaf := ok_with_leaf (P := l.prog) (w := w) (base := base) F9 b9 m9 7
  have D_least := ok_least (P := l.prog) (w := w) (base := base) F10 b10 m10 7
  have D_greatest := ok_greatest (P := l.prog) (w := w) (base := base) F11 b11 m11 7
  have D_without := ok_without (P := l.prog) (w := w) (base := base) F12 b12 m12 D_least 7
  have D_once_up := ok_once_up (P := l.prog) (w := w) (base := base) F13 b13 m13 D_turned
  have D_to_top := ok_to_top (P := l.prog) (w := w) (base := base) F14 b14 m14 D_turned
  have D_way_down := ok_way_down (P := l.prog) (w := w) (base := base) F15 b15 m15 7
  have D_splayed := ok_splayed (P := l.prog) (w := w) (base := base) F16 b16 m16 D_turned D_way_to D_way_down D_once_up
  have D_without_splayed := ok_without_splayed (P := l.prog) (w := w) (base := base) F17 b17 m17 D_splayed D_greatest
  have D_is_rule := ok_is_rule (P := l.prog) (w := w) (base := base) F18 b18 m18 T D_is_number
  have D_need_rule := ok_need_rule (P := l.prog) (w := w) (base := base) F19 b19 m19 D_is_rule
  have D_by_order := ok_by_order (P := l.prog) (w := w) (base := base) F20 b20 m20 7
  have D_is_kept := ok_is_kept (P := l.prog) (w := w) (base := base) F21 b21 m21 D_by_order D_keys_of
  have D_keeps := ok_keeps (P := l.prog) (w := w) (base := base) F22 b22 m22 D_need_rule D_need_shape D_is_kept
  have D_moved := ok_moved (P := l.prog) (w := w) (base := base) F25 b25 m25 D_to_top D_splayed
  have D_with_key := ok_with_key (P := l.prog) (w := w) (base := base) F23 b23 m23 D_moved D_with_leaf
  have D_without_key := ok_without_key (P := l.prog) (w := w) (base := base) F24 b24 m24 D_without_splayed D_without
  have D_behind := ok_behind (P := l.prog) (w := w) (base := base) F26 b26 m26 D_moved D_with_key D_without_key
  have D_cost_of := ok_cost_of (P := l.prog) (w := w) (base := base) F27 b27 m27 D_way_to
  have D_is_deed := ok_is_deed (P := l.prog) (w := w) (base := base) F28 b28 m28 T D_is_number
  have D_keys_along := ok_keys_along (P := l.prog) (w := w) (base := base) F29 b29 m29 
  have D_is_row := ok_is_row (P := l.prog) (w := w) (base := base) F30 b30 m30 T D_is_deed D_keys_along
  have D_need_row := ok_need_row (P := l.prog) (w := w) (base := base) F31 b31 m31 D_is_row
  have D_run := ok_run (P := l.prog) (w := w) (base := base) F32 b32 m32 D_cost_of D_behind
  have D_need_run := ok_need_run (P := l.prog) (w := w) (base := base) F33 b33 m33 D_need_rule D_need_row
  have D_shapes_along := ok_shapes_along (P := l.prog) (w := w) (base := base) F34 b34 m34 D_need_run D_run
  have D_costs_along := ok_costs_along (P := l.prog) (w := w) (base := base) F35 b35 m35 D_need_run D_run
  have D_law_draw := ok_draw (P := l.prog) (w := w) (base := base) F36 b36 m36 T
  have D_law_pick := ok_pick (P := l.prog) (w := w) (base := base) F37 b37 m37 T D_law_draw
  have D_law_keys := ok_law_keys (P := l.prog) (w := w) (base := base) F38 b38 m38 7
  have D_law_plant := ok_plant (P := l.prog) (w := w) (base := base) F39 b39 m39 13
  have D_law_deed := ok_deed (P := l.prog) (w := w) (base := base) F40 b40 m40 T D_law_draw D_law_pick
  have D_law_row := ok_row (P := l.prog) (w := w) (base := base) F41 b41 m41 T D_law_draw D_law_deed
  exact ok_law F42 T ⟨D_law_draw, D_law_pick, D_law_row, D_shapes_along, D_costs_along, D_law_keys, D_law_plant, D_keeps⟩
theorem walk {l : PySem.W.OpenLaw} {q : Program} {loose : List Str} {XP : (Str → Option Value) → Heap → Prop} {YP : World → Heap → Prop} {d : DefRec} {K : Params → PySem.W.Frag} (hn : l.most = some 63) (hdf : d.params.defaults = [])
    (hY : ∀ (w : World) (h : Heap), YP w h → (K w.params).In h)
    (F : ∀ (w : World) (mg : Str → Option Value) (fa : Addr) (h : Heap), (K w.params).In h → h.Ns mainGlobals mg → mg d.name = some (.ref fa) →
      ∃ fd : FuncData, (∀ (s : Shared) (u : Value), BindsTo s fd ⟨[u], []⟩ [("_law_script", u)]) ∧ ∀ base : Heap, (K w.params).In base → base.Ns mainGlobals mg → FnOk l.prog w (K w.params) mg base CX0 19 fa fd ["_law_script"] (spLaw (K w.params))) :
    PySem.W.WalkO q loose XP YP l.row.toRowW d [] (fun f vs => PySem.call f vs) :=
  L2.walk_of (n := 63) (k := 19) (x := "_law_script") (CX := fun _ => CX0) (sp := fun w => spLaw (K w.params)) hn (by decide) hdf ⟨rfl, by decide, by decide⟩ hY F (fun _ _ a ns hl _ hS => ⟨a, ns, rfl, hS, hl, fun _ => rfl⟩) fun _ _ _ _ _ z => z
end TT

open PySem PySem.W PyProof.Rows
set_option maxRecDepth 100000 in
set_option maxHeartbeats 0 in
theorem PySem.Challenge.cw_turnedtrees_k45_whole_last_asked_holds : PySem.Challenge.rw_turnedtrees_k45_whole_last_asked.Holds := by
  w_on; o_law; k_head; (case hw => w_witness2)
  k_fill
  refine TT.walk (l := PySem.Challenge.rw_turnedtrees_k45_whole_last_asked) rfl rfl (fun w h Y => PySem.W.kIn_of Y) ?F
  case F =>
    intro w mg fa h KX G hmg
    refine' TT.all_mk KX G hmg ?d0 ?d1 ?d2 ?d3 ?d4 ?d5 ?d6 ?d7 ?d8 ?d9 ?d10 ?d11 ?d12 ?d13 ?d14 ?d15 ?d16 ?d17 ?d18 ?d19 ?d20 ?d21 ?d22 ?d23 ?d24 ?d25 ?d26 ?d27 ?d28 ?d29 ?d30 ?d31 ?d32 ?d33 ?d34 ?d35 ?d36 ?d37 ?d38 ?d39 ?d40 ?d41 ?d42 ?z0 ?z1 ?z2 ?z3 ?z4 ?z5 ?z6 ?z7 ?z8 ?z9 ?cm ?cd ?cf ?cl
    (case d0 => refine' TT.def_at ?a ?l ?c ?k; (case a => k_is); (case l => k_is); (case c => k_is); (case k => k_is))
    (case d1 => refine' TT.def_at ?a ?l ?c ?k; (case a => k_is); (case l => k_is); (case c => k_is); (case k => k_is))
    (case d2 => refine' TT.def_at ?a ?l ?c ?k; (case a => k_is); (case l => k_is); (case c => k_is); (case k => k_is))
    (case d3 => refine' TT.def_at ?a ?l ?c ?k; (case a => k_is); (case l => k_is); (case c => k_is); (case k => k_is))
    (case d4 => refine' TT.def_at ?a ?l ?c ?k; (case a => k_is); (case l => k_is); (case c => k_is); (case k => k_is))
    (case d5 => refine' TT.def_at ?a ?l ?c ?k; (case a => k_is); (case l => k_is); (case c => k_is); (case k => k_is))
    (case d6 => refine' TT.def_at ?a ?l ?c ?k; (case a => k_is); (case l => k_is); (case c => k_is); (case k => k_is))
    (case d7 => refine' TT.def_at ?a ?l ?c ?k; (case a => k_is); (case l => k_is); (case c => k_is); (case k => k_is))
    (case d8 => refine' TT.def_at ?a ?l ?c ?k; (case a => k_is); (case l => k_is); (case c => k_is); (case k => k_is))
    (case d9 => refine' TT.def_at ?a ?l ?c ?k; (case a => k_is); (case l => k_is); (case c => k_is); (case k => k_is))
    (case d10 => refine' TT.def_at ?a ?l ?c ?k; (case a => k_is); (case l => k_is); (case c => k_is); (case k => k_is))
    (case d11 => refine' TT.def_at ?a ?l ?c ?k; (case a => k_is); (case l => k_is); (case c => k_is); (case k => k_is))
    (case d12 => refine' TT.def_at ?a ?l ?c ?k; (case a => k_is); (case l => k_is); (case c => k_is); (case k => k_is))
    (case d13 => refine' TT.def_at ?a ?l ?c ?k; (case a => k_is); (case l => k_is); (case c => k_is); (case k => k_is))
    (case d14 => refine' TT.def_at ?a ?l ?c ?k; (case a => k_is); (case l => k_is); (case c => k_is); (case k => k_is))
    (case d15 => refine' TT.def_at ?a ?l ?c ?k; (case a => k_is); (case l => k_is); (case c => k_is); (case k => k_is))
    (case d16 => refine' TT.def_at ?a ?l ?c ?k; (case a => k_is); (case l => k_is); (case c => k_is); (case k => k_is))
    (case d17 => refine' TT.def_at ?a ?l ?c ?k; (case a => k_is); (case l => k_is); (case c => k_is); (case k => k_is))
    (case d18 => refine' TT.def_at ?a ?l ?c ?k; (case a => k_is); (case l => k_is); (case c => k_is); (case k => k_is))
    (case d19 => refine' TT.def_at ?a ?l ?c ?k; (case a => k_is); (case l => k_is); (case c => k_is); (case k => k_is))
    (case d20 => refine' TT.def_at ?a ?l ?c ?k; (case a => k_is); (case l => k_is); (case c => k_is); (case k => k_is))
    (case d21 => refine' TT.def_at ?a ?l ?c ?k; (case a => k_is); (case l => k_is); (case c => k_is); (case k => k_is))
    (case d22 => refine' TT.def_at ?a ?l ?c ?k; (case a => k_is); (case l => k_is); (case c => k_is); (case k => k_is))
    (case d23 => refine' TT.def_at ?a ?l ?c ?k; (case a => k_is); (case l => k_is); (case c => k_is); (case k => k_is))
    (case d24 => refine' TT.def_at ?a ?l ?c ?k; (case a => k_is); (case l => k_is); (case c => k_is); (case k => k_is))
    (case d25 => refine' TT.def_at ?a ?l ?c ?k; (case a => k_is); (case l => k_is); (case c => k_is); (case k => k_is))
    (case d26 => refine' TT.def_at ?a ?l ?c ?k; (case a => k_is); (case l => k_is); (case c => k_is); (case k => k_is))
    (case d27 => refine' TT.def_at ?a ?l ?c ?k; (case a => k_is); (case l => k_is); (case c => k_is); (case k => k_is))
    (case d28 => refine' TT.def_at ?a ?l ?c ?k; (case a => k_is); (case l => k_is); (case c => k_is); (case k => k_is))
    (case d29 => refine' TT.def_at ?a ?l ?c ?k; (case a => k_is); (case l => k_is); (case c => k_is); (case k => k_is))
    (case d30 => refine' TT.def_at ?a ?l ?c ?k; (case a => k_is); (case l => k_is); (case c => k_is); (case k => k_is))
    (case d31 => refine' TT.def_at ?a ?l ?c ?k; (case a => k_is); (case l => k_is); (case c => k_is); (case k => k_is))
    (case d32 => refine' TT.def_at ?a ?l ?c ?k; (case a => k_is); (case l => k_is); (case c => k_is); (case k => k_is))
    (case d33 => refine' TT.def_at ?a ?l ?c ?k; (case a => k_is); (case l => k_is); (case c => k_is); (case k => k_is))
    (case d34 => refine' TT.def_at ?a ?l ?c ?k; (case a => k_is); (case l => k_is); (case c => k_is); (case k => k_is))
    (case d35 => refine' TT.def_at ?a ?l ?c ?k; (case a => k_is); (case l => k_is); (case c => k_is); (case k => k_is))
    (case d36 => refine' TT.def_at ?a ?l ?c ?k; (case a => k_is); (case l => k_is); (case c => k_is); (case k => k_is))
    (case d37 => refine' TT.def_at ?a ?l ?c ?k; (case a => k_is); (case l => k_is); (case c => k_is); (case k => k_is))
    (case d38 => refine' TT.def_at ?a ?l ?c ?k; (case a => k_is); (case l => k_is); (case c => k_is); (case k => k_is))
    (case d39 => refine' TT.def_at ?a ?l ?c ?k; (case a => k_is); (case l => k_is); (case c => k_is); (case k => k_is))
    (case d40 => refine' TT.def_at ?a ?l ?c ?k; (case a => k_is); (case l => k_is); (case c => k_is); (case k => k_is))
    (case d41 => refine' TT.def_at ?a ?l ?c ?k; (case a => k_is); (case l => k_is); (case c => k_is); (case k => k_is))
    (case d42 => refine' TT.def_at ?a ?l ?c ?k; (case a => k_is); (case l => k_is); (case c => k_is); (case k => k_is))
    (case z0 => k_is)
    (case z1 => k_is)
    (case z2 => k_is)
    (case z3 => k_is)
    (case z4 => k_is)
    (case z5 => k_is)
    (case z6 => k_is)
    (case z7 => k_is)
    (case z8 => k_is)
    (case z9 => k_is)
    (case cm => k_is); (case cd => k_is); (case cf => k_is); (case cl => k_is)
