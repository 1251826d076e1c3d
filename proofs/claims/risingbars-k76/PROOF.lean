import PyProof.Rows.All
import Wide.All
import OpenK.AllK
import Wide.FinOn
import KE.LtSeq
import HandS.ForMost
import KE.KMinKey
import HandS.SortKw
import KE.KEqDict
import KE.KDictCopyH
import HandS.SetKeys
import HandS.DictComp
import KE.KStateDown
import HandS.Base
import HandS.Call
import HandS.Ends
import HandS.More
import HandS.Words
import HandS.WordsExc
import HandS.Defaults
import HandS.Property
import HandS.MakeKwOnly
import HandS.Head0
import HandS.Head1
import HandS.Head2
import HandS.HeadEnd
import HandS.HeadHook1
import HandS.HeadHook2
import HandS.Flow
import HandS.Style
import HandS.Walk
import HandS.NoneIn
import HandS.Strs
import HandS.Steps
import KE.KEqSeq
import PySem.Challenge.RW_risingbars_k76_whole_explained_or_a_ring
set_option Elab.async false
set_option linter.all false
section
/-! Risingbars, law k76: the mathematics, plain Lean. -/
set_option autoImplicit false
namespace RB
variable {S : Type} [DecidableEq S]

structure Row (S : Type) where
  judge : S
  item : S
  grade : Int
  lot : Int
  part : Int

inductive Dr where
  | rises | falls | stays
  deriving DecidableEq

def goesD : Dr → Int → Int → Bool
  | .stays, _, _ => true
  | .rises, p, q => decide (p ≤ q)
  | .falls, p, q => decide (q ≤ p)

def isOne (p q : Int × Row S) : Bool := decide (p.2.judge = q.2.judge) && decide (p.2.lot = q.2.lot)
def ahead (dr : S → Dr) (p q : Int × Row S) : Bool := isOne p q && (goesD (dr p.2.judge) p.1 q.1 || decide (p.2.part = q.2.part))

/-- the parts rise with the places -/
def Mono (T : List (Int × Row S)) : Prop := ∀ p ∈ T, ∀ q ∈ T, p.2.judge = q.2.judge → p.1 ≤ q.1 → p.2.part ≤ q.2.part

theorem goesD_refl (d : Dr) (p : Int) : goesD d p p = true := by cases d <;> simp [goesD]
theorem ahead_refl (dr : S → Dr) (p : Int × Row S) : ahead dr p p = true := by simp [ahead, isOne, goesD_refl]
theorem ahead_iff {dr : S → Dr} {p q : Int × Row S} : ahead dr p q = true ↔ p.2.judge = q.2.judge ∧ p.2.lot = q.2.lot ∧ (goesD (dr p.2.judge) p.1 q.1 = true ∨ p.2.part = q.2.part) := by
  simp [ahead, isOne, and_assoc]
theorem ahead_trans {T : List (Int × Row S)} (M : Mono T) {dr : S → Dr} {p q r : Int × Row S} (hp : p ∈ T) (hq : q ∈ T) (hr : r ∈ T) (h1 : ahead dr p q = true) (h2 : ahead dr q r = true) : ahead dr p r = true := by
  rw [ahead_iff] at h1 h2 ⊢
  obtain ⟨j1, l1, a1⟩ := h1
  obtain ⟨j2, l2, a2⟩ := h2
  refine ⟨j1.trans j2, l1.trans l2, ?_⟩
  rw [← j1] at a2
  have mpq := M p hp q hq j1
  have mqp := M q hq p hp j1.symm
  have mqr := M q hq r hr j2
  have mrq := M r hr q hq j2.symm
  have mpr := M p hp r hr (j1.trans j2)
  have mrp := M r hr p hp (j1.trans j2).symm
  cases e : dr p.2.judge with
  | stays => left; rfl
  | rises =>
    rw [e] at a1 a2
    simp only [goesD, decide_eq_true_eq] at a1 a2 ⊢
    omega
  | falls =>
    rw [e] at a1 a2
    simp only [goesD, decide_eq_true_eq] at a1 a2 ⊢
    omega

/-- a link leads from i to o -/
def Adj (T : List (Int × Row S)) (dr : S → Dr) (i o : S) : Prop := ∃ p ∈ T, ∃ q ∈ T, ahead dr p q = true ∧ p.2.grade < q.2.grade ∧ p.2.item = i ∧ q.2.item = o
def Good (A : S → S → Prop) (q : S → Int) : Prop := ∀ i o, A i o → q i < q o

def base (c : Int) (d : S → Int) (w : Row S) (k : Nat) : Int := if w.grade ≤ (k : Int) then d w.item + 1 else c

structure Bars (T : List (Int × Row S)) (dr : S → Dr) (G : Nat) (c : Int) (d : S → Int) (B : Int → Nat → Int) : Prop where
  up : ∀ p ∈ T, ∀ w ∈ T, ahead dr w p = true → ∀ k, k < G → base c d w.2 k ≤ B p.1 k
  at_ : ∀ p ∈ T, ∀ k, k < G → ∃ w ∈ T, ahead dr w p = true ∧ B p.1 k = base c d w.2 k

def Expl (T : List (Int × Row S)) (dr : S → Dr) (G : Nat) (d : S → Int) (B : Int → Nat → Int) : Prop := ∀ p ∈ T,
  (∀ k, k < G → (B p.1 k ≤ d p.2.item ↔ (k : Int) + 1 ≤ p.2.grade)) ∧ (∀ k, k + 1 < G → B p.1 k ≤ B p.1 (k + 1)) ∧
  ∀ w ∈ T, ahead dr w p = true → ∀ k, k < G → B w.1 k ≤ B p.1 k

theorem base_le {c : Int} {d : S → Int} {w : Row S} {k j : Nat} (hd : 0 ≤ d w.item) (hc : c ≤ 0) (h : k ≤ j) : base c d w k ≤ base c d w j := by
  unfold base
  split <;> split <;> omega

theorem expl_iff {T : List (Int × Row S)} (M : Mono T) {dr : S → Dr} {G : Nat} {c : Int} {d : S → Int} {B : Int → Nat → Int} (b : Bars T dr G c d B) (hc : c ≤ 0) (hd : ∀ p ∈ T, 0 ≤ d p.2.item)
    (hg : ∀ p ∈ T, 0 ≤ p.2.grade ∧ p.2.grade ≤ (G : Int)) : Expl T dr G d B ↔ Good (Adj T dr) d := by
  constructor
  · rintro h i o ⟨p, hp, q, hq, ha, hl, rfl, rfl⟩
    obtain ⟨h1, _, _⟩ := h q hq
    have gp := hg p hp
    have gq := hg q hq
    -- k = p.grade: base p k = d p + 1 ≤ B q k ≤ d q, for k + 1 ≤ q.grade
    have hk : p.2.grade.toNat < G := by omega
    have u := b.up q hq p hp ha p.2.grade.toNat hk
    have v := (h1 p.2.grade.toNat hk).mpr (by omega)
    unfold base at u
    rw [if_pos (by omega)] at u
    omega
  · intro h p hp
    refine ⟨fun k hk => ?_, fun k hk => ?_, fun w hw ha k hk => ?_⟩
    · constructor
      · intro hb
        by_cases hh : p.2.grade ≤ (k : Int)
        · have u := b.up p hp p hp (ahead_refl dr p) k hk
          unfold base at u
          rw [if_pos hh] at u
          omega
        · omega
      · intro hh
        obtain ⟨w, hw, ha, e⟩ := b.at_ p hp k hk
        rw [e]
        unfold base
        split
        · rename_i hwk
          have := h w.2.item p.2.item ⟨w, hw, p, hp, ha, by omega, rfl, rfl⟩
          omega
        · have := hd p hp
          omega
    · obtain ⟨w, hw, ha, e⟩ := b.at_ p hp k (by omega)
      rw [e]
      exact Int.le_trans (base_le (hd w hw) hc (Nat.le_succ k)) (b.up p hp w hw ha (k + 1) hk)
    · obtain ⟨v, hv, hva, e⟩ := b.at_ w hw k hk
      rw [e]
      exact b.up p hp v hv (ahead_trans M hv hw hp hva ha) k hk

/-! ### ways and depths -/
inductive Way (A : S → S → Prop) : S → S → Prop where
  | one {i o : S} : A i o → Way A i o
  | cons {i m o : S} : A i m → Way A m o → Way A i o
theorem Way.trans {A : S → S → Prop} {i m o : S} (h : Way A i m) (h' : Way A m o) : Way A i o := by
  induction h with
  | one a => exact .cons a h'
  | cons a _ ih => exact .cons a (ih h')
theorem Way.snoc {A : S → S → Prop} {i m o : S} (h : Way A i m) (h' : A m o) : Way A i o := h.trans (.one h')
theorem Way.lt {A : S → S → Prop} {q : S → Int} (g : Good A q) {i o : S} (h : Way A i o) : q i < q o := by
  induction h with
  | one a => exact g _ _ a
  | cons a _ ih => exact Int.lt_trans (g _ _ a) ih
theorem Way.last {A : S → S → Prop} {i o : S} (h : Way A i o) : ∃ m, A m o := by
  induction h with
  | one a => exact ⟨_, a⟩
  | cons _ _ ih => exact ih

def Step (A : S → S → Prop) (d g : S → Int) : Prop := (∀ o, d o ≤ g o) ∧ (∀ i o, A i o → d i + 1 ≤ g o) ∧ ∀ o, g o = d o ∨ ∃ i, A i o ∧ g o = d i + 1
inductive Rnd (A : S → S → Prop) : Nat → (S → Int) → Prop where
  | zero : Rnd A 0 (fun _ => 0)
  | succ {r : Nat} {d g : S → Int} : Rnd A r d → Step A d g → (∃ o, g o ≠ d o) → Rnd A (r + 1) g

variable {A : S → S → Prop}
theorem Rnd.le {r : Nat} {d : S → Int} (h : Rnd A r d) : ∀ {q : S → Int}, (∀ o, 0 ≤ q o) → Good A q → ∀ o, d o ≤ q o := by
  induction h with
  | zero => intro q h0 _ o; exact h0 o
  | succ _ st _ ih =>
    intro q h0 g o
    rcases st.2.2 o with e | ⟨i, a, e⟩
    · rw [e]; exact ih h0 g o
    · rw [e]
      have := ih h0 g i
      have := g i o a
      omega
theorem Rnd.bound {r : Nat} {d : S → Int} (h : Rnd A r d) : ∀ o, 0 ≤ d o ∧ d o ≤ r := by
  induction h with
  | zero => intro o; exact ⟨Int.le_refl 0, Int.le_refl 0⟩
  | @succ r d g _ st _ ih =>
    intro o
    have h1 := st.1 o
    have h2 := ih o
    rcases st.2.2 o with e | ⟨i, a, e⟩
    · omega
    · have := ih i
      omega
theorem Rnd.in_ {r : Nat} {d : S → Int} (h : Rnd A r d) : ∀ o, 1 ≤ d o → ∃ i, A i o := by
  induction h with
  | zero => intro o h; have : (1 : Int) ≤ 0 := h; omega
  | @succ r d g _ st _ ih =>
    intro o ho
    rcases st.2.2 o with e | ⟨i, a, e⟩
    · exact ih o (by omega)
    · exact ⟨i, a⟩
/-- what has grown in the last round has grown to its number -/
theorem Rnd.new {r : Nat} {d g : S → Int} (h : Rnd A r d) (st : Step A d g) : ∀ o, g o ≠ d o → g o = (r : Int) + 1 := by
  induction h generalizing g with
  | zero =>
    intro o ho
    rcases st.2.2 o with e | ⟨i, _, e⟩
    · exact absurd e ho
    · simpa using e
  | @succ r e d _ st0 _ ih =>
    intro o ho
    rcases st.2.2 o with e1 | ⟨i, a, e1⟩
    · exact absurd e1 ho
    · by_cases hi : d i = e i
      · have h1 := st0.2.1 i o a
        have h2 := st.1 o
        omega
      · have := ih st0 i hi
        omega
theorem Rnd.top {r : Nat} {d : S → Int} (h : Rnd A (r + 1) d) : ∃ o, d o = (r : Int) + 1 := by
  cases h with
  | succ h st e =>
    obtain ⟨o, ho⟩ := e
    exact ⟨o, h.new st o ho⟩
theorem Rnd.no {n : Nat} {d : S → Int} (h : Rnd A (n + 1) d) {items : List S} (hA : ∀ i o, A i o → o ∈ items) {q : S → Int} (h0 : ∀ o, 0 ≤ q o) (g : Good A q) (hq : ∀ o ∈ items, q o < (n : Int) + 1) : False := by
  obtain ⟨o, ho⟩ := h.top
  have h1 := h.le h0 g o
  obtain ⟨i, a⟩ := h.in_ o (by omega)
  have := hq o (hA i o a)
  omega
theorem Rnd.fix {r : Nat} {d g : S → Int} (h : Rnd A r d) (st : Step A d g) (e : ∀ o, g o = d o) : Good A d ∧ ∀ o, 0 ≤ d o ∧ d o ≤ r := by
  refine ⟨fun i o a => ?_, h.bound⟩
  have := st.2.1 i o a
  rw [e o] at this
  omega

/-! ### ranks -/
open Classical in
theorem rank_of_acyclic {items : List S} (hA : ∀ i o, A i o → i ∈ items ∧ o ∈ items) (ac : ∀ i ∈ items, ¬ Way A i i) : ∃ q : S → Int, (∀ o, 0 ≤ q o) ∧ Good A q ∧ ∀ o ∈ items, q o < items.length := by
  refine ⟨fun v => ((items.countP fun u => decide (Way A u v) : Nat) : Int), fun o => Int.natCast_nonneg _, fun i o a => ?_, fun o ho => ?_⟩
  · have hi := (hA i o a).1
    have key : ∀ l : List S, (l.countP fun u => decide (Way A u i)) + (if i ∈ l then 1 else 0) ≤ l.countP fun u => decide (Way A u o) := by
      intro l
      induction l with
      | nil => simp
      | cons x r ih =>
        rw [List.countP_cons, List.countP_cons]
        have mono : Way A x i → Way A x o := fun h => h.snoc a
        by_cases hx : x = i
        · subst hx
          have h1 : ¬ Way A x x := ac x hi
          have h2 : Way A x o := .one a
          simp only [h1, h2, decide_true, decide_false, if_true, List.mem_cons, true_or]
          by_cases hm : x ∈ r
          · rw [if_pos hm] at ih; simp only [Bool.false_eq_true, if_false]; omega
          · rw [if_neg hm] at ih; simp only [Bool.false_eq_true, if_false]; omega
        · have e : (i ∈ x :: r) = (i ∈ r) := by
            simp only [List.mem_cons, eq_iff_iff, or_iff_right_iff_imp]
            intro h; exact absurd h.symm hx
          simp only [e]
          by_cases hw : Way A x i
          · simp only [hw, mono hw, decide_true, if_true]; omega
          · simp only [hw, decide_false, Bool.false_eq_true, if_false]; omega
    have := key items
    rw [if_pos hi] at this
    show ((items.countP fun u => decide (Way A u i) : Nat) : Int) < ((items.countP fun u => decide (Way A u o) : Nat) : Int)
    omega
  · have : items.countP (fun u => decide (Way A u o)) < items.length := by
      apply Nat.lt_of_le_of_ne List.countP_le_length
      intro e
      have := (List.countP_eq_length.mp e) o ho
      exact ac o ho (of_decide_eq_true this)
    show ((items.countP fun u => decide (Way A u o) : Nat) : Int) < _
    omega

/-- any numbers, made ranks -/
def ranked (items : List S) (q : S → Int) (v : S) : Int := ((items.countP fun u => decide (q u < q v) : Nat) : Int)
theorem ranked_lt {items : List S} {q : S → Int} {u v : S} (hu : u ∈ items) (h : q u < q v) : ranked items q u < ranked items q v := by
  unfold ranked
  have key : ∀ l : List S, (l.countP fun x => decide (q x < q u)) + (if u ∈ l then 1 else 0) ≤ l.countP fun x => decide (q x < q v) := by
    intro l
    induction l with
    | nil => simp
    | cons x r ih =>
      rw [List.countP_cons, List.countP_cons]
      by_cases hx : x = u
      · subst hx
        have h1 : ¬ q x < q x := Int.lt_irrefl _
        simp only [h1, h, decide_true, decide_false, if_true, List.mem_cons, true_or, Bool.false_eq_true, if_false]
        by_cases hm : x ∈ r
        · rw [if_pos hm] at ih; omega
        · rw [if_neg hm] at ih; omega
      · have e : (u ∈ x :: r) = (u ∈ r) := by
          simp only [List.mem_cons, eq_iff_iff, or_iff_right_iff_imp]
          intro h; exact absurd h.symm hx
        simp only [e]
        by_cases hw : q x < q u
        · have : q x < q v := Int.lt_trans hw h
          simp only [hw, this, decide_true, if_true]; omega
        · simp only [hw, decide_false, Bool.false_eq_true, if_false]; omega
  have := key items
  rw [if_pos hu] at this
  omega
theorem ranked_bd {items : List S} {q : S → Int} {v : S} (hv : v ∈ items) : 0 ≤ ranked items q v ∧ ranked items q v < items.length := by
  unfold ranked
  refine ⟨Int.natCast_nonneg _, ?_⟩
  have : items.countP (fun u => decide (q u < q v)) < items.length := by
    apply Nat.lt_of_le_of_ne List.countP_le_length
    intro e
    have := (List.countP_eq_length.mp e) v hv
    exact Int.lt_irrefl _ (of_decide_eq_true this)
  omega
open Classical in
theorem rank_apart {items : List S} (hA : ∀ i o, A i o → i ∈ items ∧ o ∈ items) {q : S → Int} (g : Good A q) (h0 : ∀ o, 0 ≤ q o) (hq : ∀ o ∈ items, q o < items.length) {a b : S} (ha : a ∈ items) (hb : b ∈ items) (ne : a ≠ b) (nw : ¬ Way A a b) :
    ∃ q' : S → Int, (∀ o, 0 ≤ q' o) ∧ Good A q' ∧ (∀ o ∈ items, q' o < items.length) ∧ q' b < q' a := by
  let q1 : S → Int := fun v => if v = a ∨ Way A a v then q v + items.length else q v
  have g1 : Good A q1 := by
    intro i o h
    have hq0 := g i o h
    show (if i = a ∨ Way A a i then q i + items.length else q i) < (if o = a ∨ Way A a o then q o + items.length else q o)
    by_cases hi : i = a ∨ Way A a i
    · have ho : o = a ∨ Way A a o := by
        rcases hi with rfl | w
        · exact .inr (.one h)
        · exact .inr (w.snoc h)
      rw [if_pos hi, if_pos ho]; omega
    · rw [if_neg hi]
      split
      · have := hq i (hA i o h).1; have := h0 o; omega
      · omega
  refine ⟨ranked items q1, fun o => Int.natCast_nonneg _, fun i o h => ranked_lt (hA i o h).1 (g1 i o h), fun o ho => (ranked_bd ho).2, ranked_lt hb ?_⟩
  show (if b = a ∨ Way A a b then q b + items.length else q b) < (if a = a ∨ Way A a a then q a + items.length else q a)
  rw [if_neg (fun h => h.elim (fun e => ne e.symm) nw), if_pos (Or.inl rfl)]
  have := hq b hb
  have := h0 a
  omega
theorem Rnd.cycle {n : Nat} {d : S → Int} (h : Rnd A (n + 1) d) {items : List S} (hl : items.length = n + 1) (hA : ∀ i o, A i o → i ∈ items ∧ o ∈ items) : ∃ i ∈ items, Way A i i := by
  apply Classical.byContradiction
  intro no
  obtain ⟨q, h0, g, hq⟩ := rank_of_acyclic hA (fun i hi w => no ⟨i, hi, w⟩)
  exact h.no (fun i o a => (hA i o a).2) h0 g fun o ho => by have := hq o ho; omega

/-! ### what reaches a goal -/
theorem reach_iff {F : S → Prop} {goal w : S} (hg : F goal) (hc : ∀ i o, A i o → F o → F i) (hs : ∀ k, F k → k = goal ∨ Way A k goal) : (∃ o, A w o ∧ F o) ↔ Way A w goal := by
  constructor
  · rintro ⟨o, a, f⟩
    rcases hs o f with rfl | h
    · exact .one a
    · exact .cons a h
  · intro h
    have all : ∀ x, Way A x goal → F x := by
      intro x hx
      generalize he : goal = g at hx
      induction hx with
      | one a => subst he; exact hc _ _ a hg
      | cons a _ ih => exact hc _ _ a (ih he)
    cases h with
    | one a => exact ⟨_, a, hg⟩
    | cons a r => exact ⟨_, a, all _ r⟩
end RB
end

section
set_option maxRecDepth 100000
set_option maxHeartbeats 4000000
/-! min of a list of nested tuples and lists: it ends, and gives one of the items -/
namespace RB
open PySem PySem.SeqAt
/-- two data whose order Python tells: ints, texts, tuples and lists of such, place by place -/
inductive OrdP : PyData → PyData → Prop where
  | int (i j : Int) : OrdP (.int i) (.int j)
  | str (x y : Str) : OrdP (.str x) (.str y)
  | tup {xs ys : List PyData} : (∀ (k : Nat) (d e : PyData), xs[k]? = some d → ys[k]? = some e → OrdP d e) → OrdP (.tuple xs) (.tuple ys)
  | lst {xs ys : List PyData} : (∀ (k : Nat) (d e : PyData), xs[k]? = some d → ys[k]? = some e → OrdP d e) → OrdP (.list xs) (.list ys)

theorem readsAll_at {h : Heap} : ∀ {vs : List Value} {ds : List PyData} {as : List Addr}, ReadsAll h vs ds as → ∀ (k : Nat) (hk : k < vs.length), ∃ d bs, ds[k]? = some d ∧ Reads h vs[k] d bs
  | _, _, _, .nil, k, hk => absurd hk (Nat.not_lt_zero _)
  | _, _, _, .cons r1 r2, 0, hk => ⟨_, _, rfl, r1⟩
  | _, _, _, .cons r1 r2, k + 1, hk => by
    obtain ⟨d, bs, e, r⟩ := readsAll_at r2 k (Nat.lt_of_succ_lt_succ hk)
    exact ⟨d, bs, by simpa using e, by simpa using r⟩

theorem canLay_tuple {xs : List PyData} (h : (PyData.tuple xs).canLay0 = true) : PyData.canLayAll0 xs = true := by simpa [PyData.canLay0] using h
theorem canLay_list {xs : List PyData} (h : (PyData.list xs).canLay0 = true) : PyData.canLayAll0 xs = true := by simpa [PyData.canLay0] using h
theorem canLay_at {xs : List PyData} (h : PyData.canLayAll0 xs = true) {k : Nat} {d : PyData} (e : xs[k]? = some d) : d.canLay0 = true := PyData.canLay0_of_mem xs d h (List.mem_of_getElem? e)
theorem depth_at : ∀ {xs : List PyData} {k : Nat} {d : PyData}, xs[k]? = some d → d.depth ≤ PyData.depthAll xs
  | [], k, d, e => by simp at e
  | x :: r, 0, d, e => by
    have : x = d := by simpa using e
    subst this
    simp only [PyData.depthAll]
    omega
  | x :: r, k + 1, d, e => by
    have := depth_at (xs := r) (k := k) (d := d) (by simpa using e)
    simp only [PyData.depthAll]
    omega

theorem rcLt_int (A : Around) (s : Shared) (i j : Int) (t u : Tok) : RcLt A s (.int i t) (.int j u) (decide (i < j)) := fun prog w E Q h =>
  (CmpOf.ints_lt (prog := prog) (w := w) (A := A) (P := fun (k : Nat) v => ∃ t, v = .int (if k = 0 then i else j) t) (fun k => if k = 0 then i else j) (fun k v h => h)) 0 1 _ _ s Q E ⟨t, rfl⟩ ⟨u, rfl⟩ h
theorem rcLt_text (A : Around) (s : Shared) (x y : Str) (t u : Tok) : RcLt A s (.str x t) (.str y u) (decide (x.cps.toList < y.cps.toList)) := fun prog w E Q h =>
  (PyProof.Rows.lt_str h : wpAny (model prog w) A (compareOp .Lt (.str x t) (.str y u)) Q E s)

/-- the less of two such data is told, one way or the other -/
theorem lt_told {d e : PyData} (o : OrdP d e) : ∀ (A : Around) (s : Shared) (a b : Value) (as bs : List Addr), Reads s.heap a d as → Reads s.heap b e bs → d.canLay0 = true → e.canLay0 = true → A.units + (d.depth + e.depth) < cLine →
    ∃ r, RcLt A s a b r := by
  induction o with
  | int i j =>
    intro A s a b as bs ra rb _ _ _
    cases ra
    cases rb
    exact ⟨_, rcLt_int A s i j _ _⟩
  | str x y =>
    intro A s a b as bs ra rb _ _ _
    cases ra
    cases rb
    exact ⟨_, rcLt_text A s x y _ _⟩
  | @tup xs ys _ ih =>
    intro A s a b as bs ra rb ca cb hu
    cases ra with
    | @tuple p o1 vs n _ as h1 h2 h3 h4 =>
      cases rb with
      | @tuple q o2 ws m _ bs g1 g2 g3 g4 =>
        have hx := canLay_tuple ca
        have hy := canLay_tuple cb
        simp only [PyData.depth] at hu
        have hr : ∀ j, ∃ r, ∀ (z1 : j < vs.size) (z2 : j < ws.size), RcLt A.in1 s vs[j] ws[j] r := fun j => by
          by_cases z1 : j < vs.size
          · by_cases z2 : j < ws.size
            · obtain ⟨d, ds, e1, r1⟩ := readsAll_at h4 j (by simpa using z1)
              obtain ⟨e, es, e2, r2⟩ := readsAll_at g4 j (by simpa using z2)
              have k1 := depth_at e1
              have k2 := depth_at e2
              obtain ⟨r, hr⟩ := ih j d e e1 e2 A.in1 s _ _ _ _ r1 r2 (canLay_at hx e1) (canLay_at hy e2) (by show A.units + 1 + _ < cLine; omega)
              exact ⟨r, fun _ _ => by simpa using hr⟩
            · exact ⟨true, fun _ z => absurd z z2⟩
          · exact ⟨true, fun z _ => absurd z z1⟩
        refine ⟨_, RcLt.tuples (e := pairEq xs ys) (r := fun j => Classical.choose (hr j)) ⟨o1, h1, h2, n, h3⟩ ⟨o2, g1, g2, m, g3⟩ (by omega) (fun j z1 z2 => ?_) fun j z1 z2 _ => Classical.choose_spec (hr j) z1 z2⟩
        have := eqAt_readsAll xs ys A.in1 s _ _ _ _ h4 g4 hx hy (by show A.units + 1 + _ < cLine; omega) j (by simpa using z1) (by simpa using z2)
        simpa using this
  | @lst xs ys _ ih =>
    intro A s a b as bs ra rb ca cb hu
    cases ra with
    | @list p o1 vs n _ as h1 h2 h3 h4 =>
      cases rb with
      | @list q o2 ws m _ bs g1 g2 g3 g4 =>
        have hx := canLay_list ca
        have hy := canLay_list cb
        simp only [PyData.depth] at hu
        have hr : ∀ j, ∃ r, ∀ (z1 : j < vs.size) (z2 : j < ws.size), RcLt A.in1 s vs[j] ws[j] r := fun j => by
          by_cases z1 : j < vs.size
          · by_cases z2 : j < ws.size
            · obtain ⟨d, ds, e1, r1⟩ := readsAll_at h4 j (by simpa using z1)
              obtain ⟨e, es, e2, r2⟩ := readsAll_at g4 j (by simpa using z2)
              have k1 := depth_at e1
              have k2 := depth_at e2
              obtain ⟨r, hr⟩ := ih j d e e1 e2 A.in1 s _ _ _ _ r1 r2 (canLay_at hx e1) (canLay_at hy e2) (by show A.units + 1 + _ < cLine; omega)
              exact ⟨r, fun _ _ => by simpa using hr⟩
            · exact ⟨true, fun _ z => absurd z z2⟩
          · exact ⟨true, fun z _ => absurd z z1⟩
        refine ⟨_, RcLt.lists (e := pairEq xs ys) (r := fun j => Classical.choose (hr j)) ⟨o1, h1, h2, n, h3⟩ ⟨o2, g1, g2, m, g3⟩ (by omega) (fun j z1 z2 => ?_) fun j z1 z2 _ => Classical.choose_spec (hr j) z1 z2⟩
        have := eqAt_readsAll xs ys A.in1 s _ _ _ _ h4 g4 hx hy (by show A.units + 1 + _ < cLine; omega) j (by simpa using z1) (by simpa using z2)
        simpa using this

section
variable {prog : Program} {w : World} {A : Around} {R : Result → Shared → Prop} {l I S : Addr} {items : Array Value} {G : Heap → Prop}
/-- min's loop over a list whose items can be told apart at every heap that is G: it ends with one of the items -/
theorem min_turns (hh : A.handled = none) (hlI : l ≠ I) (hIS : I ≠ S) (hlS : l ≠ S) (hG : ∀ h h', G h → (∀ b o, b ≠ I → b ≠ S → h.get? b = some o → h'.get? b = some o) → G h')
    (hcmp : ∀ (s : Shared) (x y : Value), G s.heap → x ∈ items → y ∈ items → ∃ r, RcLt A.in1 s x y r) :
    ∀ (m j : Nat) (s : Shared) (best : Value) (c : Nat), items.size - j = m → s.heap.IsListIter I l j → s.heap.IsList l items → G s.heap → j ≤ items.size → best ∈ items →
    s.heap.get? S = some { cls := .type "list", dict := none, data := .seq #[best, best] c, slots := #[] } →
    (∀ v h' tk, v ∈ items → (∀ b o, b ≠ I → b ≠ S → s.heap.get? b = some o → h'.get? b = some o) → R (.ok (.ret v)) { s with heap := h', toks := tk }) →
    codeAny (model prog w) A (.builtin "min.loop" ⟨[.ref I, .none, .ref S], []⟩) R s := by
  have W := Walks.list (prog := prog) (w := w) (A := A.in1) hh I l hlI items
  have nm : (toString "min" ++ toString ".loop" : String) = "min.loop" := by decide
  have hSI : S ∉ ([I] : List Addr) := fun h => hIS (List.mem_singleton.mp h).symm
  have hSf : S ∉ ([I, l] : List Addr) := fun h => by
    rcases List.mem_cons.mp h with h | h
    · exact hIS h.symm
    · exact hlS (List.mem_singleton.mp h).symm
  intro m
  induction m with
  | zero =>
    intro j s best c hm hit hl hg hj hb hS hR
    have hjn : j = items.size := by omega
    subst hjn
    refine codeAny_builtin F.entry_min_loop ?_
    rw [Around.under_plainId F.plain_min_loop _]
    show wpAny _ A.in1 (seqItems? (.ref S) >>= _) _ _ s
    refine wpAny_bind (wpAny_seqItems hS rfl (show wpAny _ A.in1 (tryCatch (pyNext (.ref I)) _ >>= _) _ _ s from ?_))
    refine wpAny_bind (wpAny_tryCatch (W.done s _ _ ⟨hit, hl⟩ fun h' tk k1 => ?_))
    have hS' := k1 S _ hSI hS
    refine (show wpAny _ A.in1 (updateSeq S (fun _ => #[]) >>= _) _ _ _ from wpAny_bind (wpAny_updateSeq hS' rfl (wpAny_bind (wpAny_letGo (wpAny_pure ?_)))))
    exact hR best _ tk hb fun b o hbI hbS e => (Heap.get?_update_other _ _ (Ne.symm hbS)).trans (k1 b o (fun z => hbI (List.mem_singleton.mp z)) e)
  | succ m ih =>
    intro j s best c hm hit hl hg hj hb hS hR
    have hlt : j < items.size := by omega
    refine codeAny_builtin F.entry_min_loop ?_
    rw [Around.under_plainId F.plain_min_loop _]
    show wpAny _ A.in1 (seqItems? (.ref S) >>= _) _ _ s
    refine wpAny_bind (wpAny_seqItems hS rfl (show wpAny _ A.in1 (tryCatch (pyNext (.ref I)) _ >>= _) _ _ s from ?_))
    refine wpAny_bind (wpAny_tryCatch (W.item j s _ _ hlt ⟨hit, hl⟩ fun v h' tk hv st' k1 => ?_))
    have hS' := k1 S _ hSI hS
    have kk : ∀ b o, b ≠ I → b ≠ S → s.heap.get? b = some o → h'.get? b = some o := fun b o z _ e => k1 b o (fun q => z (List.mem_singleton.mp q)) e
    have hg' : G h' := hG _ _ hg kk
    have hvm : v ∈ items := Array.mem_of_getElem? hv
    obtain ⟨r, hr⟩ := hcmp { s with heap := h', toks := tk } v best hg' hvm hb
    refine (show wpAny _ A.in1 (tryCatch (holding [v, v] (richCompare .Lt v best >>= _)) _ >>= _) _ _ _ from wpAny_bind (wpAny_tryCatch (wpAny_holding (wpAny_bind (hr prog w _ _ ?_)))))
    refine wpAny_bind (wpAny_holding (wpAny_truthy_bool (wpAny_bind (wpAny_letGo (wpAny_pure ?_)))))
    cases r with
    | true =>
      simp only [if_true]
      refine wpAny_bind (wpAny_updateSeq hS' rfl (wpAny_bind (wpAny_letGo ?_)))
      rw [nm]
      refine wpAny_pure ⟨plainId_quiet F.plain_min_loop _, ih (j + 1) _ v _ (by omega) ?_ ?_ ?_ hlt hvm (Heap.get?_update_self _ hS' rfl) fun v' h2 tk2 hv' k2 => ?_⟩
      · exact (W.frame _ _ _ st' fun b hbf o e => (Heap.get?_update_other _ _ (fun z : S = b => hSf (by rw [z]; exact hbf))).trans e).1
      · exact (W.frame _ _ _ st' fun b hbf o e => (Heap.get?_update_other _ _ (fun z : S = b => hSf (by rw [z]; exact hbf))).trans e).2
      · exact hG _ _ hg' fun b o _ z e => (Heap.get?_update_other _ _ (Ne.symm z)).trans e
      · exact hR v' h2 tk2 hv' fun b o z1 z2 e => k2 b o z1 z2 ((Heap.get?_update_other _ _ (Ne.symm z2)).trans (kk b o z1 z2 e))
    | false =>
      simp only [Bool.false_eq_true, if_false]
      refine wpAny_bind (wpAny_letGo ?_)
      rw [nm]
      refine wpAny_pure ⟨plainId_quiet F.plain_min_loop _, ih (j + 1) _ best c (by omega) st'.1 st'.2 hg' hlt hb hS' fun v' h2 tk2 hv' k2 => ?_⟩
      exact hR v' h2 tk2 hv' fun b o z1 z2 e => k2 b o z1 z2 (kk b o z1 z2 e)
end

section
variable {prog : Program} {w : World} {A : Around} {E : Value → Shared → Prop} {s : Shared} {l : Addr} {items : Array Value} {G : Heap → Prop}
theorem call_min_some {Q : Value → Shared → Prop} (hh : A.handled = none) (hl : s.heap.IsList l items) (hn : 0 < items.size) (hg : G s.heap)
    (hG : ∀ h h', G h → (∀ b o, b < s.heap.objs.size → h.get? b = some o → h'.get? b = some o) → G h')
    (hcmp : ∀ (s : Shared) (x y : Value), G s.heap → x ∈ items → y ∈ items → ∃ r, RcLt A.in1 s x y r)
    (h : ∀ v h' tk, v ∈ items → (∀ b o, s.heap.get? b = some o → h'.get? b = some o) → Q v { s with heap := h', toks := tk }) :
    wpAny (model prog w) A (call (.builtin "min") [.ref l]) Q E s := by
  have nm : (toString "min" ++ toString ".loop" : String) = "min.loop" := by decide
  have hlt : l < s.heap.objs.size := by
    obtain ⟨_, e, _⟩ := hl
    exact Heap.lt_size e
  refine call_function_tree F.kind_min F.plain_min F.entry_min (F.args_min1 _) ?_
  show wpAny _ A.in1 (Builtin.Builtins.bindParams "min" ["key", "default"] 0 ⟨[], []⟩ >>= _) _ _ s
  refine wpAny_bind (wpAny_of_eq (show Builtin.Builtins.bindParams "min" ["key", "default"] 0 ⟨[], []⟩ = pure [none, none] from rfl) (wpAny_bind (wpAny_pure ?_)))
  refine wpAny_bind (wpAny_pyIter_list hl ?_)
  refine wpAny_bind (wpAny_newObj_type ?_)
  rw [nm]
  -- the iterator and the pair of the best one so far: two new objects
  have eI : (s.heap.push { cls := .type "list_iterator", data := .fields #[.ref l, .int 0 0] }).objs.size = s.heap.objs.size + 1 := Heap.size_push ..
  have nIS : s.heap.objs.size ≠ (s.heap.push { cls := .type "list_iterator", data := .fields #[.ref l, .int 0 0] }).objs.size := by rw [eI]; exact Nat.ne_of_lt (Nat.lt_succ_self _)
  have nlI : l ≠ s.heap.objs.size := Nat.ne_of_lt hlt
  have nlS : l ≠ (s.heap.push { cls := .type "list_iterator", data := .fields #[.ref l, .int 0 0] }).objs.size := by rw [eI]; exact Nat.ne_of_lt (Nat.lt_succ_of_lt hlt)
  have old : ∀ b o, s.heap.get? b = some o → ((s.heap.push { cls := .type "list_iterator", data := .fields #[.ref l, .int 0 0] }).push { cls := .type "list", data := .seq #[] }).get? b = some o :=
    fun b o e => Heap.get?_push_of_some _ (Heap.get?_push_of_some _ e)
  have W := Walks.list (prog := prog) (w := w) (A := A.in1) hh s.heap.objs.size l nlI items
  have it0 : ((s.heap.push { cls := .type "list_iterator", data := .fields #[.ref l, .int 0 0] }).push { cls := .type "list", data := .seq #[] }).IsListIter s.heap.objs.size l 0 := ⟨_, Heap.get?_push_of_some _ (Heap.get?_push_size _ rfl), rfl, rfl⟩
  have l0 : ((s.heap.push { cls := .type "list_iterator", data := .fields #[.ref l, .int 0 0] }).push { cls := .type "list", data := .seq #[] }).IsList l items := by
    obtain ⟨o, e, r⟩ := hl
    exact ⟨o, old _ _ e, r⟩
  have hS0 : ((s.heap.push { cls := .type "list_iterator", data := .fields #[.ref l, .int 0 0] }).push { cls := .type "list", data := .seq #[] }).get? (s.heap.push { cls := .type "list_iterator", data := .fields #[.ref l, .int 0 0] }).objs.size = some { cls := .type "list", dict := none, data := .seq #[] 0, slots := #[] } := Heap.get?_push_size _ rfl
  have g0 := hG _ _ hg (fun b o _ e => old b o e)
  refine wpAny_pure ⟨plainId_quiet F.plain_min_loop _, ?_⟩
  refine codeAny_builtin F.entry_min_loop ?_
  rw [Around.under_plainId F.plain_min_loop _]
  refine wpAny_bind (wpAny_seqItems hS0 rfl (show wpAny _ A.in1 (tryCatch (pyNext (.ref s.heap.objs.size)) _ >>= _) _ _ _ from ?_))
  refine wpAny_bind (wpAny_tryCatch (W.item 0 _ _ _ hn ⟨it0, l0⟩ fun v h' tk hv st' k1 => ?_))
  have hS' := k1 _ _ (fun z => nIS (List.mem_singleton.mp z).symm) hS0
  show wpAny _ A.in1 (updateSeq (s.heap.push _).objs.size (fun _ => #[v, v]) >>= _) _ _ _
  refine wpAny_bind (wpAny_updateSeq hS' rfl ?_)
  rw [nm]
  have hSf : (s.heap.push { cls := .type "list_iterator", data := .fields #[.ref l, .int 0 0] }).objs.size ∉ ([s.heap.objs.size, l] : List Addr) := fun z => by
    rcases List.mem_cons.mp z with z | z
    · exact nIS z.symm
    · exact nlS (List.mem_singleton.mp z).symm
  have st2 := fun f => W.frame 1 h' (h'.update (s.heap.push { cls := .type "list_iterator", data := .fields #[.ref l, .int 0 0] }).objs.size f) st' fun b hb o e => (Heap.get?_update_other _ _ (fun z => hSf (by rw [z]; exact hb))).trans e
  refine wpAny_pure ⟨plainId_quiet F.plain_min_loop _, min_turns (l := l) (I := s.heap.objs.size) (S := (s.heap.push { cls := .type "list_iterator", data := .fields #[.ref l, .int 0 0] }).objs.size) (G := fun h => G h) hh nlI nIS nlS ?_ hcmp _ 1 _ v _ rfl (st2 _).1 (st2 _).2 ?_ hn (Array.mem_of_getElem? hv) (Heap.get?_update_self _ hS' rfl) fun v' h2 tk2 hv' k2 => ?_⟩
  · exact fun h1 h2 g k => hG h1 h2 g fun b o hb e => k b o (Nat.ne_of_lt hb) (by rw [eI]; exact Nat.ne_of_lt (Nat.lt_succ_of_lt hb)) e
  · exact hG _ _ g0 fun b o hb e => (Heap.get?_update_other _ _ (by rw [eI]; exact (Nat.ne_of_lt (Nat.lt_succ_of_lt hb)).symm)).trans (k1 b o (fun z => (Nat.ne_of_lt hb) (List.mem_singleton.mp z)) e)
  · refine h v' h2 tk2 hv' fun b o e => ?_
    have hb := Heap.lt_size e
    refine k2 b o (Nat.ne_of_lt hb) (by rw [eI]; exact Nat.ne_of_lt (Nat.lt_succ_of_lt hb)) ?_
    exact (Heap.get?_update_other _ _ (by rw [eI]; exact (Nat.ne_of_lt (Nat.lt_succ_of_lt hb)).symm)).trans (k1 b o (fun z => (Nat.ne_of_lt hb) (List.mem_singleton.mp z)) (old b o e))
end

open L2 PySem.Spec PyProof.Rows in
/-- min(xs): some item -/
def rMinD (K : PySem.W.Frag) : List V → Hp → VK → Prop := fun vs H Q => ∃ (a : Addr) (xs : List V) (ds : List PyData), vs = [V.ref a] ∧ SqL K H a xs ∧ xs ≠ [] ∧ DpAll K H xs ds ∧
  (∀ d ∈ ds, d.canLay0 = true ∧ d.depth ≤ 30) ∧ (∀ d ∈ ds, ∀ e ∈ ds, OrdP d e) ∧ ∀ x ∈ xs, Q x H
open L2 PySem.Spec PyProof.Rows in
theorem cr_minD {X : Cx} (hc : X.calm = true) (hu : X.A.units + 64 < cLine) : CallR X (.builtin "min") (rMinD X.K) := by
  intro pins s σ H vs us Q I r h
  obtain ⟨a, xs, ds, rfl, hs, hne, hd, hl, ho, q⟩ := h
  obtain ⟨its, rv, hp, _⟩ := I.list hs
  rw [Vals.ref1 r]
  obtain ⟨as, ra⟩ := Dp.readsAll I ds xs its hd rv
  have hlen : its.length = xs.length := rv.length.symm
  have hpos : 0 < its.toArray.size := by
    rw [List.size_toArray, hlen]
    exact List.length_pos_iff.mpr hne
  refine call_min_some (G := fun h => ∀ b o, s.heap.get? b = some o → h.get? b = some o) (I.ok.hd hc) hp.isList hpos (fun _ _ e => e) (fun h h' g k b o e => k b o (Heap.lt_size e) (g b o e)) (fun s1 x y g hx hy => ?_) fun v h' tk hv hk => ?_
  · have rk := ReadsAll.keeps g ra
    have at_ : ∀ z ∈ its.toArray, ∃ d bs, d ∈ ds ∧ Reads s1.heap z d bs := fun z hz => by
      obtain ⟨i, hi, e⟩ := List.mem_iff_getElem.mp (by simpa using hz)
      obtain ⟨d, bs, e2, r2⟩ := readsAll_at rk i hi
      exact ⟨d, bs, List.mem_of_getElem? e2, by rw [← e]; exact r2⟩
    obtain ⟨d, as', hd', rx⟩ := at_ x hx
    obtain ⟨e, bs', he', ry⟩ := at_ y hy
    have k1 := (hl d hd').2
    have k2 := (hl e he').2
    exact lt_told (ho d hd' e he') X.A.in1 s1 x y as' bs' rx ry (hl d hd').1 (hl e he').1 (by show X.A.units + 1 + _ < cLine; omega)
  · obtain ⟨i, hi, e⟩ := List.mem_iff_getElem.mp (by simpa using hv)
    have hx : i < xs.length := by rw [← hlen]; exact hi
    obtain ⟨u, e2, r2⟩ := Vals.get rv (List.getElem?_eq_getElem hx)
    have e3 : u = v := by
      rw [List.getElem?_eq_getElem hi] at e2
      exact (Option.some.inj e2).symm.trans e
    rw [← e3]
    exact ⟨_, H, I.kept hk, r2, q _ (List.getElem_mem hx)⟩
end RB
end

section
set_option maxRecDepth 100000
set_option maxHeartbeats 4000000
/-! max of a list of ints with a default -/
namespace RB
open PySem
theorem args_max_dflt (a v : Value) : argsOk "max" ⟨[a], [("default", v)]⟩ := by
  unfold argsOk
  kernel_rfl
theorem bind_max_dflt (v : Value) : Builtin.Builtins.bindParams "max" ["key", "default"] 0 ⟨[], [("default", v)]⟩ = pure [none, some v] := by rfl
section
variable {prog : Program} {w : World} {A : Around} {R : Result → Shared → Prop} {l I S : Addr} {items : Array Value} {num : Nat → Int} {kw : List (Str × Value)}
theorem max_turns (hh : A.handled = none) (hlI : l ≠ I) (hIS : I ≠ S) (hlS : l ≠ S) (hn : ∀ (i : Nat) (v : Value), items[i]? = some v → ∃ t, v = .int (num i) t) :
    ∀ (m j i : Nat) (s : Shared) (b : Int) (t : Tok) (c : Nat), items.size - j = m → s.heap.IsListIter I l j → s.heap.IsList l items → j ≤ items.size → i < items.size → b = num i → (∀ k, k < j → num k ≤ b) →
    s.heap.get? S = some { cls := .type "list", dict := none, data := .seq #[.int b t, .int b t] c, slots := #[] } →
    (∀ (i : Nat) h' t' tk, i < items.size → (∀ k, k < items.size → num k ≤ num i) → (∀ b o, b ≠ I → b ≠ S → s.heap.get? b = some o → h'.get? b = some o) → R (.ok (.ret (.int (num i) t'))) { s with heap := h', toks := tk }) →
    codeAny (model prog w) A (.builtin "max.loop" ⟨[.ref I, .none, .ref S], kw⟩) R s := by
  have W := Walks.list (prog := prog) (w := w) (A := A.in1) hh I l hlI items
  have nm : (toString "max" ++ toString ".loop" : String) = "max.loop" := by decide
  have hSI : S ∉ ([I] : List Addr) := fun h => hIS (List.mem_singleton.mp h).symm
  have hSf : S ∉ ([I, l] : List Addr) := fun h => by
    rcases List.mem_cons.mp h with h | h
    · exact hIS h.symm
    · exact hlS (List.mem_singleton.mp h).symm
  intro m
  induction m with
  | zero =>
    intro j i s b t c hm hit hl hj hi hb hbest hS hR
    have hjn : j = items.size := by omega
    subst hjn
    refine codeAny_builtin F.entry_max_loop ?_
    rw [Around.under_plainId F.plain_max_loop _]
    refine wpAny_bind (wpAny_seqItems hS rfl (show wpAny _ A.in1 (tryCatch (pyNext (.ref I)) _ >>= _) _ _ s from ?_))
    refine wpAny_bind (wpAny_tryCatch (W.done s _ _ ⟨hit, hl⟩ fun h' tk k1 => ?_))
    have hS' := k1 S _ hSI hS
    refine (show wpAny _ A.in1 (updateSeq S (fun _ => #[]) >>= _) _ _ _ from wpAny_bind (wpAny_updateSeq hS' rfl (wpAny_bind (wpAny_letGo (wpAny_pure ?_)))))
    subst hb
    exact hR i _ t tk hi hbest fun b o hbI hbS e => (Heap.get?_update_other _ _ (Ne.symm hbS)).trans (k1 b o (fun z => hbI (List.mem_singleton.mp z)) e)
  | succ m ih =>
    intro j i s b t c hm hit hl hj hi hb hbest hS hR
    have hlt : j < items.size := by omega
    refine codeAny_builtin F.entry_max_loop ?_
    rw [Around.under_plainId F.plain_max_loop _]
    refine wpAny_bind (wpAny_seqItems hS rfl (show wpAny _ A.in1 (tryCatch (pyNext (.ref I)) _ >>= _) _ _ s from ?_))
    refine wpAny_bind (wpAny_tryCatch (W.item j s _ _ hlt ⟨hit, hl⟩ fun v h' tk hv st' k1 => ?_))
    have hS' := k1 S _ hSI hS
    have kk : ∀ b o, b ≠ I → b ≠ S → s.heap.get? b = some o → h'.get? b = some o := fun b o z _ e => k1 b o (fun q => z (List.mem_singleton.mp q)) e
    obtain ⟨t2, rfl⟩ := hn j v hv
    refine (show wpAny _ A.in1 (tryCatch (holding [.int (num j) t2, .int (num j) t2] (richCompare .Gt (.int (num j) t2) (.int b t) >>= _)) _ >>= _) _ _ _ from wpAny_bind (wpAny_tryCatch (wpAny_holding (wpAny_bind
      (CmpOf.ints_gt (prog := prog) (w := w) (A := A.in1) (P := fun (k : Nat) v => ∃ t, v = .int (if k = 0 then num j else b) t) (fun k => if k = 0 then num j else b) (fun k v h => h) 0 1 _ _ _ _ _ ⟨t2, rfl⟩ ⟨t, rfl⟩ ?_)))))
    refine wpAny_bind (wpAny_holding (wpAny_truthy_bool (wpAny_bind (wpAny_letGo (wpAny_pure ?_)))))
    rw [show (fun (i k : Nat) => decide ((if i = 0 then num j else b) > if k = 0 then num j else b)) 0 1 = decide (num j > b) from rfl]
    by_cases hgt : num j > b
    · simp only [hgt, decide_true, if_true]
      refine wpAny_bind (wpAny_updateSeq hS' rfl (wpAny_bind (wpAny_letGo ?_)))
      rw [nm]
      have st2 := fun f => W.frame (j + 1) h' (h'.update S f) st' fun b hbf o e => (Heap.get?_update_other _ _ (fun z : S = b => hSf (by rw [z]; exact hbf))).trans e
      refine wpAny_pure ⟨plainId_quiet F.plain_max_loop _, ih (j + 1) j _ (num j) t2 _ (by omega) (st2 _).1 (st2 _).2 hlt hlt rfl (fun k hk => ?_) (Heap.get?_update_self _ hS' rfl) fun i' h2 t' tk2 hi' hb' k2 => ?_⟩
      · by_cases e : k = j
        · rw [e]; exact Int.le_refl _
        · have := hbest k (by omega); omega
      · exact hR i' h2 t' tk2 hi' hb' fun b o z1 z2 e => k2 b o z1 z2 ((Heap.get?_update_other _ _ (Ne.symm z2)).trans (kk b o z1 z2 e))
    · simp only [hgt, decide_false, Bool.false_eq_true, if_false]
      refine wpAny_bind (wpAny_letGo ?_)
      rw [nm]
      refine wpAny_pure ⟨plainId_quiet F.plain_max_loop _, ih (j + 1) i _ b t c (by omega) st'.1 st'.2 hlt hi hb (fun k hk => ?_) hS' fun i' h2 t' tk2 hi' hb' k2 => ?_⟩
      · by_cases e : k = j
        · rw [e]; omega
        · exact hbest k (by omega)
      · exact hR i' h2 t' tk2 hi' hb' fun b o z1 z2 e => k2 b o z1 z2 (kk b o z1 z2 e)
end
section
variable {prog : Program} {w : World} {A : Around} {E : Value → Shared → Prop} {s : Shared} {l : Addr} {items : Array Value} {num : Nat → Int} {d : Value}
theorem call_max_dflt {Q : Value → Shared → Prop} (hh : A.handled = none) (hl : s.heap.IsList l items) (hn : ∀ (i : Nat) (v : Value), items[i]? = some v → ∃ t, v = .int (num i) t)
    (h0 : items.size = 0 → ∀ h' tk, (∀ b o, s.heap.get? b = some o → h'.get? b = some o) → Q d { s with heap := h', toks := tk })
    (h : ∀ (i : Nat) h' t' tk, i < items.size → (∀ k, k < items.size → num k ≤ num i) → (∀ b o, s.heap.get? b = some o → h'.get? b = some o) → Q (.int (num i) t') { s with heap := h', toks := tk }) :
    wpAny (model prog w) A (call (.builtin "max") [.ref l] [("default", d)]) Q E s := by
  have nm : (toString "max" ++ toString ".loop" : String) = "max.loop" := by decide
  have hlt : l < s.heap.objs.size := by
    obtain ⟨_, e, _⟩ := hl
    exact Heap.lt_size e
  refine PyProof.Rows.kmk_tree F.kind_max F.plain_max F.entry_max (args_max_dflt _ _) ?_
  show wpAny _ A.in1 (Builtin.Builtins.bindParams "max" ["key", "default"] 0 ⟨[], [("default", d)]⟩ >>= _) _ _ s
  refine wpAny_bind (wpAny_of_eq (bind_max_dflt d) (wpAny_bind (wpAny_pure ?_)))
  refine wpAny_bind (wpAny_pyIter_list hl ?_)
  refine wpAny_bind (wpAny_newObj_type ?_)
  rw [nm]
  have eI : (s.heap.push { cls := .type "list_iterator", data := .fields #[.ref l, .int 0 0] }).objs.size = s.heap.objs.size + 1 := Heap.size_push ..
  have nIS : s.heap.objs.size ≠ (s.heap.push { cls := .type "list_iterator", data := .fields #[.ref l, .int 0 0] }).objs.size := by rw [eI]; exact Nat.ne_of_lt (Nat.lt_succ_self _)
  have nlI : l ≠ s.heap.objs.size := Nat.ne_of_lt hlt
  have nlS : l ≠ (s.heap.push { cls := .type "list_iterator", data := .fields #[.ref l, .int 0 0] }).objs.size := by rw [eI]; exact Nat.ne_of_lt (Nat.lt_succ_of_lt hlt)
  have old : ∀ b o, s.heap.get? b = some o → ((s.heap.push { cls := .type "list_iterator", data := .fields #[.ref l, .int 0 0] }).push { cls := .type "list", data := .seq #[] }).get? b = some o :=
    fun b o e => Heap.get?_push_of_some _ (Heap.get?_push_of_some _ e)
  have W := Walks.list (prog := prog) (w := w) (A := A.in1) hh s.heap.objs.size l nlI items
  have it0 : ((s.heap.push { cls := .type "list_iterator", data := .fields #[.ref l, .int 0 0] }).push { cls := .type "list", data := .seq #[] }).IsListIter s.heap.objs.size l 0 := ⟨_, Heap.get?_push_of_some _ (Heap.get?_push_size _ rfl), rfl, rfl⟩
  have l0 : ((s.heap.push { cls := .type "list_iterator", data := .fields #[.ref l, .int 0 0] }).push { cls := .type "list", data := .seq #[] }).IsList l items := by
    obtain ⟨o, e, r⟩ := hl
    exact ⟨o, old _ _ e, r⟩
  have hS0 : ((s.heap.push { cls := .type "list_iterator", data := .fields #[.ref l, .int 0 0] }).push { cls := .type "list", data := .seq #[] }).get? (s.heap.push { cls := .type "list_iterator", data := .fields #[.ref l, .int 0 0] }).objs.size = some { cls := .type "list", dict := none, data := .seq #[] 0, slots := #[] } := Heap.get?_push_size _ rfl
  refine wpAny_pure ⟨plainId_quiet F.plain_max_loop _, ?_⟩
  refine codeAny_builtin F.entry_max_loop ?_
  rw [Around.under_plainId F.plain_max_loop _]
  refine wpAny_bind (wpAny_seqItems hS0 rfl (show wpAny _ A.in1 (tryCatch (pyNext (.ref s.heap.objs.size)) _ >>= _) _ _ _ from ?_))
  by_cases hz : items.size = 0
  · refine wpAny_bind (wpAny_tryCatch (W.done _ _ _ ⟨by rw [hz]; exact it0, l0⟩ fun h' tk k1 => ?_))
    refine wpAny_bind (wpAny_rule (wpAny_pure ?_))
    exact h0 hz h' tk fun b o e => k1 b o (fun z => (Nat.ne_of_lt (Heap.lt_size e)) (List.mem_singleton.mp z)) (old b o e)
  · have hpos : 0 < items.size := Nat.pos_of_ne_zero hz
    refine wpAny_bind (wpAny_tryCatch (W.item 0 _ _ _ hpos ⟨it0, l0⟩ fun v h' tk hv st' k1 => ?_))
    have hS' := k1 _ _ (fun z => nIS (List.mem_singleton.mp z).symm) hS0
    obtain ⟨t, rfl⟩ := hn 0 v hv
    show wpAny _ A.in1 (updateSeq (s.heap.push _).objs.size (fun _ => #[.int (num 0) t, .int (num 0) t]) >>= _) _ _ _
    refine wpAny_bind (wpAny_updateSeq hS' rfl ?_)
    rw [nm]
    have hSf : (s.heap.push { cls := .type "list_iterator", data := .fields #[.ref l, .int 0 0] }).objs.size ∉ ([s.heap.objs.size, l] : List Addr) := fun z => by
      rcases List.mem_cons.mp z with z | z
      · exact nIS z.symm
      · exact nlS (List.mem_singleton.mp z).symm
    have st2 := fun f => W.frame 1 h' (h'.update (s.heap.push { cls := .type "list_iterator", data := .fields #[.ref l, .int 0 0] }).objs.size f) st' fun b hb o e => (Heap.get?_update_other _ _ (fun z => hSf (by rw [z]; exact hb))).trans e
    refine wpAny_pure ⟨plainId_quiet F.plain_max_loop _, max_turns (l := l) (I := s.heap.objs.size) (num := num) hh nlI nIS nlS hn _ 1 0 _ (num 0) t _ rfl (st2 _).1 (st2 _).2 hpos hpos rfl (fun k hk => ?_) (Heap.get?_update_self _ hS' rfl) fun i h2 t' tk2 hi hb k2 => ?_⟩
    · have : k = 0 := by omega
      rw [this]
      exact Int.le_refl _
    · refine h i h2 t' tk2 hi hb fun b o e => ?_
      have hb := Heap.lt_size e
      refine k2 b o (Nat.ne_of_lt hb) (by rw [eI]; exact Nat.ne_of_lt (Nat.lt_succ_of_lt hb)) ?_
      exact (Heap.get?_update_other _ _ (by rw [eI]; exact (Nat.ne_of_lt (Nat.lt_succ_of_lt hb)).symm)).trans (k1 b o (fun z => (Nat.ne_of_lt hb) (List.mem_singleton.mp z)) (old b o e))
end
open L2 PySem.Spec PyProof.Rows in
/-- max(ns, default=d) -/
def rMaxD (K : PySem.W.Frag) : List V → List V → Hp → VK → Prop := fun vs zs H Q => ∃ (a : Addr) (ns : List Int) (d : Int), vs = [V.ref a] ∧ zs = [V.int d] ∧ SqL K H a (ns.map V.int) ∧
  (ns = [] → Q (.int d) H) ∧ ∀ m, m ∈ ns → (∀ y ∈ ns, y ≤ m) → Q (.int m) H
open L2 PySem.Spec PyProof.Rows in
theorem cr_maxD {X : Cx} (hc : X.calm = true) : CallRK X (.builtin "max") ["default"] (rMaxD X.K) := by
  intro pins s σ H vs zs us ws Q I r rz h
  obtain ⟨a, ns, d, rfl, rfl, hs, q0, q⟩ := h
  obtain ⟨its, rv, hp, _⟩ := I.list hs
  rw [Vals.ref1 r]
  obtain ⟨u, rfl, ru⟩ := vals1 rz
  have hlen : its.length = ns.length := by
    have := rv.length
    rw [List.length_map] at this
    exact this.symm
  refine call_max_dflt (num := fun i => ns.getD i 0) (items := its.toArray) (I.ok.hd hc) hp.isList (fun i v hv => ?_) (fun hz h' tk hk => ?_) fun i h' t' tk hi hb hk => ?_
  · have hi : i < its.length := by
      have := (Array.getElem?_eq_some_iff.mp hv).1
      simpa using this
    have hi2 : i < ns.length := by omega
    have e1 : (ns.map V.int)[i]? = some (V.int ns[i]) := by rw [List.getElem?_map, List.getElem?_eq_getElem hi2]; rfl
    obtain ⟨u2, e2, r2⟩ := Vals.get rv e1
    have e3 : its[i]? = some v := by simpa using hv
    rw [e2] at e3
    obtain ⟨t, et⟩ := r2
    refine ⟨t, ?_⟩
    rw [← Option.some.inj e3, et, List.getD_eq_getElem?_getD, List.getElem?_eq_getElem hi2] <;> rfl
  · have : ns = [] := by
      have h1 : its.length = 0 := by simpa using hz
      exact List.length_eq_zero_iff.mp (by omega)
    exact ⟨_, H, I.kept hk, ru, q0 this⟩
  · have hi2 : i < ns.length := by
      have : i < its.length := by simpa using hi
      omega
    have e1 : ns.getD i 0 = ns[i] := by rw [List.getD_eq_getElem?_getD, List.getElem?_eq_getElem hi2] <;> rfl
    refine ⟨.int _, H, I.kept hk, ⟨t', rfl⟩, q _ (by rw [e1]; exact List.getElem_mem hi2) fun y hy => ?_⟩
    obtain ⟨k, hk2, e2⟩ := List.mem_iff_getElem.mp hy
    have := hb k (by simp; omega)
    have e3 : ns.getD k 0 = y := by rw [List.getD_eq_getElem?_getD, List.getElem?_eq_getElem hk2, ← e2] <;> rfl
    rw [← e3]
    exact this
end RB
end

section
set_option maxRecDepth 100000
set_option maxHeartbeats 4000000
/-! dicts told by their keys and a function; setdefault and values of a dict with tuple keys; == of two dicts of ints; x = {a dict comprehension} -/
namespace RB
open PySem PySem.Spec PyProof.Rows L2
/-! ### a dict by its keys and a function -/
section
variable {κ α : Type} [DecidableEq κ] [DecidableEq α]
/-- the pairs of a dict: the keys in their order, each with its value -/
def dG (e : α → κ) (ks : List α) (f : α → V) : List (κ × V) := ks.map fun k => (e k, f k)
theorem dG_length (e : α → κ) (ks : List α) (f : α → V) : (dG e ks f).length = ks.length := List.length_map ..
theorem dG_keys (e : α → κ) (ks : List α) (f : α → V) : (dG e ks f).map (·.1) = ks.map e := by simp [dG]
theorem dG_get? (e : α → κ) (ks : List α) (f : α → V) (i : Nat) : (dG e ks f)[i]? = ks[i]?.map fun k => (e k, f k) := List.getElem?_map ..
theorem dG_at {e : α → κ} (inj : ∀ a b, e a = e b → a = b) {ks : List α} {f : α → V} {k : α} (h : k ∈ ks) : valV (dG e ks f) (e k) = some (f k) := by
  induction ks with
  | nil => cases h
  | cons x r ih =>
    by_cases c : e x = e k
    · have : x = k := inj _ _ c
      subst this
      exact valV_pos rfl
    · refine (valV_neg c).trans (ih ?_)
      rcases List.mem_cons.mp h with h | h
      · exact absurd (congrArg e h.symm) c
      · exact h
theorem dG_no {e : α → κ} (inj : ∀ a b, e a = e b → a = b) {ks : List α} {f : α → V} {k : α} (h : k ∉ ks) : valV (dG e ks f) (e k) = none := by
  induction ks with
  | nil => rfl
  | cons x r ih =>
    have c : ¬ e x = e k := fun c => h (by rw [inj _ _ c]; exact List.mem_cons_self)
    exact (valV_neg c).trans (ih fun z => h (List.mem_cons_of_mem _ z))
theorem dG_isSome {e : α → κ} (inj : ∀ a b, e a = e b → a = b) (ks : List α) (f : α → V) (k : α) : (valV (dG e ks f) (e k)).isSome = decide (k ∈ ks) := by
  by_cases h : k ∈ ks
  · rw [dG_at inj h]; simp [h]
  · rw [dG_no inj h]; simp [h]
theorem dG_putOld {e : α → κ} (inj : ∀ a b, e a = e b → a = b) {ks : List α} {f : α → V} {k : α} (v : V) (h : k ∈ ks) : putK (dG e ks f) (e k) v = dG e ks fun x => if x = k then v else f x := by
  have h1 : ((dG e ks f).any fun kv => decide (kv.1 = e k)) = true := by rw [valV_any, dG_at inj h]; rfl
  unfold putK
  rw [if_pos h1]
  unfold dG
  rw [List.map_map]
  refine List.map_congr_left fun x _ => ?_
  show (if e x = e k then (e x, v) else (e x, f x)) = (e x, if x = k then v else f x)
  by_cases c : x = k
  · rw [if_pos (congrArg e c), if_pos c]
  · rw [if_neg fun z => c (inj _ _ z), if_neg c]
theorem dG_putNew {e : α → κ} (inj : ∀ a b, e a = e b → a = b) {ks : List α} {f : α → V} {k : α} (v : V) (h : k ∉ ks) : putK (dG e ks f) (e k) v = dG e (ks ++ [k]) fun x => if x = k then v else f x := by
  rw [putK_new _ (dG_no inj h)]
  unfold dG
  rw [List.map_append]
  congr 1
  · refine List.map_congr_left fun x hx => ?_
    have c : ¬ x = k := fun z => h (by rw [← z]; exact hx)
    show (e x, f x) = (e x, if x = k then v else f x)
    rw [if_neg c]
  · simp
theorem dG_congr {e : α → κ} {ks : List α} {f g : α → V} (h : ∀ k ∈ ks, f k = g k) : dG e ks f = dG e ks g := List.map_congr_left fun k hk => by rw [h k hk]
end
/-- keys that are texts; that are ints -/
abbrev dS (ks : List Str) (f : Str → V) : List (Key × V) := dG Sum.inr ks f
abbrev dI (ks : List Int) (f : Int → V) : List (Key × V) := dG Sum.inl ks f
theorem injS : ∀ a b : Str, (Sum.inr a : Key) = Sum.inr b → a = b := fun _ _ h => Sum.inr.inj h
theorem injI : ∀ a b : Int, (Sum.inl a : Key) = Sum.inl b → a = b := fun _ _ h => Sum.inl.inj h
theorem dS_get {H : Hp} {a : Addr} {ks : List Str} {f : Str → V} {k : Str} (h : Rd H a (.dK (dS ks f))) (hk : k ∈ ks) : DGet H a (.str k) (some (f k)) := .inl ⟨_, Sum.inr k, h, rfl, (dG_at injS hk).symm⟩
theorem dI_get {H : Hp} {a : Addr} {ks : List Int} {f : Int → V} {k : Int} (h : Rd H a (.dK (dI ks f))) (hk : k ∈ ks) : DGet H a (.int k) (some (f k)) := .inl ⟨_, Sum.inl k, h, rfl, (dG_at injI hk).symm⟩
theorem dS_ask {H : Hp} {a : Addr} {ks : List Str} {f : Str → V} (k : Str) (h : Rd H a (.dK (dS ks f))) : DGet H a (.str k) (if k ∈ ks then some (f k) else none) := .inl ⟨_, Sum.inr k, h, rfl, by
  by_cases c : k ∈ ks
  · rw [if_pos c]; exact (dG_at injS c).symm
  · rw [if_neg c]; exact (dG_no injS c).symm⟩
theorem dI_ask {H : Hp} {a : Addr} {ks : List Int} {f : Int → V} (k : Int) (h : Rd H a (.dK (dI ks f))) : DGet H a (.int k) (if k ∈ ks then some (f k) else none) := .inl ⟨_, Sum.inl k, h, rfl, by
  by_cases c : k ∈ ks
  · rw [if_pos c]; exact (dG_at injI c).symm
  · rw [if_neg c]; exact (dG_no injI c).symm⟩
theorem dS_putOld {H : Hp} {a : Addr} {ks : List Str} {f : Str → V} {k : Str} (v : V) (h : H a = some (.dK (dS ks f))) (hk : k ∈ ks) (hz : ks.length < sizeLine) : DPut H a (.str k) v (upd H a (.dK (dS ks fun x => if x = k then v else f x))) :=
  .inl ⟨_, Sum.inr k, h, rfl, by rw [dG_length]; exact hz, by rw [dG_putOld injS v hk]⟩
theorem dI_putOld {H : Hp} {a : Addr} {ks : List Int} {f : Int → V} {k : Int} (v : V) (h : H a = some (.dK (dI ks f))) (hk : k ∈ ks) (hz : ks.length < sizeLine) : DPut H a (.int k) v (upd H a (.dK (dI ks fun x => if x = k then v else f x))) :=
  .inl ⟨_, Sum.inl k, h, rfl, by rw [dG_length]; exact hz, by rw [dG_putOld injI v hk]⟩
theorem dS_putNew {H : Hp} {a : Addr} {ks : List Str} {f : Str → V} {k : Str} (v : V) (h : H a = some (.dK (dS ks f))) (hk : k ∉ ks) (hz : ks.length < sizeLine) : DPut H a (.str k) v (upd H a (.dK (dS (ks ++ [k]) fun x => if x = k then v else f x))) :=
  .inl ⟨_, Sum.inr k, h, rfl, by rw [dG_length]; exact hz, by rw [dG_putNew injS v hk]⟩
theorem dI_putNew {H : Hp} {a : Addr} {ks : List Int} {f : Int → V} {k : Int} (v : V) (h : H a = some (.dK (dI ks f))) (hk : k ∉ ks) (hz : ks.length < sizeLine) : DPut H a (.int k) v (upd H a (.dK (dI (ks ++ [k]) fun x => if x = k then v else f x))) :=
  .inl ⟨_, Sum.inl k, h, rfl, by rw [dG_length]; exact hz, by rw [dG_putNew injI v hk]⟩
/-! ### setdefault, values: a dict whose keys are tuples -/
section
variable {X : Cx} {pins : List (Addr × Obj)} {σ : L2.St} {H : Hp} {s : Shared} {a b : Addr} {r : Value} {d : V} {k : List Key} {A : Around} {E : Value → Shared → Prop}
theorem setdT {kvs : List (List Key × V)} {Q : Value → Shared → Prop} (hu : A.units + 1 < cLine) (I : Inv X pins σ H s) (e : H a = some (.dT kvs)) (eb : H b = some (.tup (k.map kV))) (rd : RelV d r) (hl : kvs.length < sizeLine)
    (h1 : ∀ v, valV kvs k = some v → ∀ (w' : Value) (s' : Shared), Inv X pins σ H s' → RelV v w' → Q w' s') (h2 : valV kvs k = none → ∀ (w' : Value) (s' : Shared), Inv X pins σ (upd H a (.dT (putK kvs k d))) s' → RelV d w' → Q w' s') :
    wpAny (model X.prog X.w) A (call (.builtin "dict.setdefault") [.ref a, .ref b, r]) Q E s := by
  obtain ⟨z, hd, xs, rel, dd⟩ := dt_of I.hok e
  have hz : xs.length ≤ sizeLine := by
    rw [← Paired.length rel]
    exact z
  refine call_setdefault_heap (hsz := hz) (tupleKind_room_in1 hu) (key_of I.hok eb) hd dd (fun p hp => ?_) fun hn h' dd' hs => ?_
  · have q := rel.val k
    rw [hp] at q
    cases q0 : valV kvs k with
    | none =>
      rw [q0] at q
      exact (show False from q).elim
    | some v0 =>
      rw [q0] at q
      exact h1 v0 q0 _ _ (I.tok _) q
  · have q := rel.val k
    rw [hn] at q
    cases q0 : valV kvs k with
    | some v0 =>
      rw [q0] at q
      exact (show False from q).elim
    | none =>
      have hl2 : (putK kvs k d).length ≤ sizeLine := by
        have := length_putK kvs k d
        omega
      obtain ⟨q, es, ep, hq, g2, g3, g4, _, g5⟩ := dd'
      refine h2 q0 _ _ (d_write I (by rw [e]; exact True.intro) hs ⟨q, hq⟩ ⟨hl2, hd, _, (rel.put k eb rd).keeps fun c ys ec => ?_, q, es, ep, hq, g2, g3, g4, g5⟩) rd
      rw [upd_ne (ne_of ec e fun z => nomatch z)]
      exact ec
end
/-- d.setdefault(k, z), d's keys tuples -/
def tSetdT (td ty tx : TE) : TE := fun σ H Q => td σ H fun x H1 => ∃ a, x = .ref a ∧ IsD H1 a ∧ ty σ H1 fun y H2 => tx σ H2 fun z H3 => ∃ (kvs : List (List Key × V)) (k : List Key) (b : Addr), H3 a = some (.dT kvs) ∧ y = .ref b ∧ H3 b = some (.tup (k.map kV)) ∧ kvs.length < sizeLine ∧
  (∀ v, valV kvs k = some v → Q v H3) ∧ (valV kvs k = none → Q z (upd H3 a (.dT (putK kvs k z))))
theorem pe_setdT {X : Cx} {o e f : Expr} {td ty tx : TE} {apos cpos : Pos} (hu : X.A.units + 1 < cLine) (ho : PE X o td) (he : PE X e ty) (hf : PE X f tx) (m : M2 X o "setdefault" apos e f cpos) : PE X (.Call (.Attribute o "setdefault" apos) [e, f] [] cpos) (tSetdT td ty tx) := by
  refine ⟨fun pins s σ H Q I h => ?_⟩
  refine wpAny_Call_method m.base m.few m.line PySem.F.plainAttrs_dict PySem.F.slot_dict_setdefault PySem.F.type_dict_setdefault (thn (ho.run pins s σ H _ I h) fun u s1 ⟨x, H1, I1, rx, a, ex, d, q1⟩ => ?_)
  subst ex
  cases (show u = Value.ref a from rx)
  obtain ⟨t1, t2, _⟩ := isD_at I1 d
  refine ⟨t1, t2, ?_⟩
  rw [m.trees]
  refine Calls.callWith_builtin rfl (Calls.evalArgs_plain (Calls.spliced_cons (thn (he.run pins s1 σ H1 _ I1 q1) fun iv s2 ⟨y, H2, I2, ry, q2⟩ =>
    Calls.spliced_cons (thn (hf.run pins s2 σ H2 _ I2 q2) fun fv s3 ⟨z, H3, I3, rz, kvs, k, b, ea, ey, eb, hl, q3, q4⟩ => Calls.spliced_nil ?_))))
  subst ey
  cases (show iv = Value.ref b from ry)
  exact setdT hu I3 ea eb rz hl (fun v hv w' s4 I4 rw' => ⟨v, _, I4, rw', q3 v hv⟩) fun hn w' s4 I4 rw' => ⟨z, _, I4, rw', q4 hn⟩
/-- list(d.values()), d's keys tuples -/
def tListVals (te : TE) : TE := fun σ H Q => te σ H fun x H1 => ∃ (d : Addr) (kvs : List (List Key × V)), x = .ref d ∧ H1 d = some (.dT kvs) ∧ ∀ p, H1 p = none → Q (.ref p) (upd H1 p (.lst (kvs.map (·.2))))
theorem pe_listVals {X : Cx} {e : Expr} {te : TE} {p apos cpos pos : Pos} (hc : X.calm = true) (he : PE X e te) (hg : Gl X "list") (hm : X.mg "list" = none) (hv : bootBuiltins "list" = some (.type "list")) (hbase : attributeBase e "values" X.env (eval e X.env) = eval e X.env := by rfl)
    (hline : (apos.endLine == cpos.line) = true := by rfl)
    (hs : starEach [.Call (.Attribute e "values" apos) [] [] cpos] X.env = (false, eval (.Call (.Attribute e "values" apos) [] [] cpos) X.env) :: starEach [] X.env := by rfl) :
    PE X (.Call (.Name "list" p) [.Call (.Attribute e "values" apos) [] [] cpos] [] pos) (tListVals te) := by
  refine ⟨fun pins s σ H Q I hq => ?_⟩
  refine wpAny_Call_Name_kw (ld_blt I hg hm hv (PyProof.Rows.callWith_type1 ?_ hs rfl))
  rw [hs]
  refine (show wpAny _ _ (spliced ((false, eval (.Call (.Attribute e "values" apos) [] [] cpos) X.env) :: backTo pos (starEach [] X.env))) _ _ s from Calls.spliced_cons ?_)
  refine wpAny_Call_method (T := "dict") (id := "dict.values") hbase rfl hline F.plainAttrs_dict F.slot_dict_values F.type_dict_values (thn (he.run pins s σ H _ I hq) fun u s1 ⟨x, H1, I1, rx, d, kvs, ex, hd, q⟩ => ?_)
  subst ex
  cases (show u = Value.ref d from rx)
  obtain ⟨hz, hs0, xs, rel, dd⟩ := dt_of I1.hok hd
  obtain ⟨es, ep, hr, hsz, hat⟩ := dd.raw
  obtain ⟨t1, t2, _⟩ := isD_at I1 (.inr ⟨kvs, .inl hd⟩)
  have lk : kvs.length = xs.length := Paired.length rel
  have I2 : Inv X pins σ H1 { s1 with heap := s1.heap.push { cls := .type "dict_values", data := .fields #[.ref d] } } := I1.kept (t' := s1.toks) fun b ob q => Heap.get?_push_of_some _ q
  refine ⟨t1, t2, ?_⟩
  show wpAny _ _ (callWith cpos (.builtin "dict.values") [.ref d] [] []) _ X.xe s1
  refine method_meetsIn F.slot_dict_values F.entry_dict_values rfl (PySem.evalArgs_none ⟨rfl, t1, F.args_dict_values_1 _, _, meets_dict_values_raw d hs0, ⟨es, ep, hr⟩, Calls.spliced_nil ?_⟩)
  refine PySem.W.kdl_call (KdlSrc.rawValues (d := d) (es := es) (ep := ep)) (I1.ok.hd hc) ⟨⟨_, Heap.get?_push_size _ rfl, rfl, rfl⟩, hr.at fun o e => Heap.get?_push_of_some _ e⟩ (by omega) fun h' tk acc c hk hS hi => ?_
  obtain ⟨hi1, hi2⟩ := hi
  have hvals : Vals (kvs.map (·.2)) acc.toList := by
    have all : ∀ (l : List (List Key × V)) (m : List (List Key × Addr × Value)) (j : Nat), Paired (fun (p : List Key × V) (q : List Key × Addr × Value) => p.1 = q.1 ∧ H1 q.2.1 = some (.tup (p.1.map kV)) ∧ RelV p.2 q.2.2) l m → (∀ i y, m[i]? = some y → xs[j + i]? = some y) →
        ∀ us : List Value, us.length = l.length → (∀ i v, us[i]? = some v → acc[j + i]? = some v) → Vals (l.map (·.2)) us := by
      intro l
      induction l with
      | nil =>
        intro m j _ _ us hl _
        have : us = [] := List.length_eq_zero_iff.mp hl
        subst this
        exact .nil
      | cons p l ih =>
        intro m j hp hx us hl hu
        cases hp with
        | @cons _ q _ m h t =>
          cases us with
          | nil => simp at hl
          | cons v us =>
            have hv := hu 0 v rfl
            obtain ⟨hi, ev⟩ := hi2 (j + 0) v hv
            obtain ⟨y, hy, _, ey, _⟩ := hat (j + 0) hi
            have hq := hx 0 q rfl
            rw [hq] at hy
            cases hy
            refine .cons ?_ (ih m (j + 1) t (fun i y hy => ?_) us (by simpa using hl) fun i v hv => ?_)
            · rw [ev, ey]
              exact h.2.2
            · have := hx (i + 1) y hy
              rwa [show j + 1 + i = j + (i + 1) by omega]
            · have := hu (i + 1) v hv
              rwa [show j + 1 + i = j + (i + 1) by omega]
    refine all kvs xs 0 rel (fun i y hy => by rw [Nat.zero_add]; exact hy) acc.toList ?_ fun i v hv => by rw [Nat.zero_add]; simpa using hv
    rw [Array.length_toList, hi1, hsz]
    exact lk.symm
  exact ⟨.ref _, upd H1 _ (.lst (kvs.map (·.2))), I2.laid (t' := tk) (fun b o e => hk b o e) (Nat.le_refl _) ⟨by rw [List.length_map]; exact hz, acc.toList, c, hvals, by rw [Array.toArray_toList]; exact hS⟩, rfl, q _ (I2.hok.fresh (Nat.le_refl _))⟩
/-! ### == of two dicts of ints with the same keys -/
theorem hits_ints {A : Around} {s : Shared} {κ : Type} [DecidableEq κ] {ls : List (κ × V)} {vb : List (κ × Value)} (rb : KV ls vb) {f g : κ → Int} : ∀ {ks : List κ} {va : List (κ × Value)}, KV (ks.map fun k => (k, V.int (f k))) va → (∀ k ∈ ks, valV ls k = some (.int (g k))) →
    PySem.W.KeqHits A s vb va (ks.all fun k => decide (f k = g k))
  | [], _, .nil, _ => .nil
  | k :: ks, _, .cons (b := q) h t, hl => by
    obtain ⟨h1, t1, h2⟩ := h
    have rr : RelO (some (V.int (g k))) (valueAt vb k) := by
      rw [← hl k List.mem_cons_self]
      exact rb.val k
    obtain ⟨y, hy, t2, ry⟩ := rr.some_of
    obtain ⟨k', v⟩ := q
    have e1 : k = k' := h1
    have e2 : v = Value.int (f k) t1 := h2
    subst e1 e2 ry
    rw [List.all_cons]
    refine .hit hy ?_ (hits_ints rb t fun k' hk => hl k' (List.mem_cons_of_mem _ hk))
    have := SeqAt.EqAt.int_int (A := A) (s := s) (f k) t1 (g k) t2
    have e : (f k == g k) = decide (f k = g k) := by
      by_cases c : f k = g k
      · rw [c]; simp
      · rw [decide_eq_false c]; exact beq_eq_false_iff_ne.mpr c
    rw [← e]
    exact this
def rEqI : R2 := fun x y H Q => ∃ (a b : Addr) (ks : List Str) (f g : Str → Int), x = .ref a ∧ y = .ref b ∧ H a = some (.dK (dS ks fun k => .int (f k))) ∧ H b = some (.dK (dS ks fun k => .int (g k))) ∧ Q (.bl (ks.all fun k => decide (f k = g k))) H
theorem op_eqI {X : Cx} (hu : X.A.units < cLine) : OpR X (compareOp .Eq) rEqI := by
  intro pins s σ H x y v u Q I rx ry h
  obtain ⟨a, b, ks, f, g, rfl, rfl, ea, eb, q⟩ := h
  cases (show v = Value.ref a from rx)
  cases (show u = Value.ref b from ry)
  obtain ⟨_, ya, va, ra, da⟩ := dk_of I.hok ea
  obtain ⟨_, yb, vb, rb, db⟩ := dk_of I.hok eb
  have hl : va.length = vb.length := by
    rw [← ra.length, ← rb.length, dG_length, dG_length]
  have e1 : dS ks (fun k => .int (f k)) = (ks.map Sum.inr).map fun k : Key => (k, V.int (match k with | .inr x => f x | .inl _ => 0)) := by
    rw [List.map_map]
    rfl
  have hh : PySem.W.KeqHits X.A.in1 s vb va ((ks.map (Sum.inr : Str → Key)).all fun k => decide ((match k with | .inr x => f x | .inl _ => 0) = (match k with | .inr x => g x | .inl _ => 0))) := by
    refine hits_ints (ls := dS ks fun k => .int (g k)) rb (f := fun k : Key => match k with | .inr x => f x | .inl _ => 0) (g := fun k : Key => match k with | .inr x => g x | .inl _ => 0) (by rw [← e1]; exact ra) fun k hk => ?_
    obtain ⟨z, hz, rfl⟩ := List.mem_map.mp hk
    exact dG_at injS hz
  have e2 : ((ks.map (Sum.inr : Str → Key)).all fun k => decide ((match k with | .inr x => f x | .inl _ => 0) = (match k with | .inr x => g x | .inl _ => 0))) = ks.all fun k => decide (f k = g k) := by
    rw [List.all_map]
    rfl
  rw [e2] at hh
  exact PySem.W.keq_eq (knd := mixKind X.prog X.w) (r := ks.all fun k => decide (f k = g k)) ya yb da db hu (fun _ => hh) (fin_bl I q (by simp [hl]))
/-! ### x = {k: v for ..} -/
theorem swap_dc {kx vx : Expr} {gs : List Comprehension} {scope : Scope} {pos py : Pos} {y : Str} {l : Nat} {env : Env} (hk : env.scope.kind = .function) (hy : env.scope.names.lookup y = some .local) (hl : (py.line == pos.line) = true)
    (hn : (scope.names.any fun (n, k) => n == y && (k == .local || k == .cell)) = false) : swapsWith (.DictComp kx vx gs scope pos) (some (.Name y py)) l env = pure true := by
  have k1 : env.kindOf y = some .local := hy
  have k2 : env.blockKind = .function := by
    unfold Env.blockKind
    rw [hk] <;> rfl
  unfold swapsWith
  simp only [k2, k1, hn, Expr.pos, hl] <;> rfl
theorem ps_setDc {X : Cx} {i : Nat} {y : Str} {py : Pos} {kx vx tg iter : Expr} {ifs : List Expr} {scope : Scope} {own : List (Str × Nat)} {pos spos : Pos} {wi : TI} {g : TG} {tt : TT} {tk tv : TE} (hc : X.calm = true) (hN : X.N.Nodup) (hy : X.N[i]? = some y) (hyl : X.env.scope.names.lookup y = some .local)
    (hw : swapsWith (.DictComp kx vx [⟨tg, iter, ifs, 0⟩] scope pos) (some (.Name y py)) spos.line X.env = pure true) (hi : PI X tg iter wi) (ok : BlkOk X.N X.env.scope scope own)
    (hg : ∀ (s : Shared) (H : Hp) (C : Addr) (cl : List (Str × Addr)) (fp : List Addr), PG (X.blk s H scope (compEnvC scope cl C X.env) fp) tg g)
    (ht : ∀ (s : Shared) (H : Hp) (C : Addr) (cl : List (Str × Addr)) (fp : List Addr), PTs (X.blk s H scope (compEnvC scope cl C X.env) fp) ifs tt)
    (hk : ∀ (s : Shared) (H : Hp) (C : Addr) (cl : List (Str × Addr)) (fp : List Addr), PE (X.blk s H scope (compEnvC scope cl C X.env) fp) kx tk)
    (he : ∀ (s : Shared) (H : Hp) (C : Addr) (cl : List (Str × Addr)) (fp : List Addr), PE (X.blk s H scope (compEnvC scope cl C X.env) fp) vx tv) (hs : ∀ x, foldedSetIterable iter X.env x = pure x := by intro _; rfl) :
    PS X (.Assign [.Name y py] (.DictComp kx vx [⟨tg, iter, ifs, 0⟩] scope pos) spos) (tAsg (tDc wi g tt tk tv (own.map (·.2))) (gName i)) := by
  refine ⟨fun pins s σ H D I h => ?_⟩
  rw [exec_Assign_Name_used _ _ _ _ hw]
  refine wpAny_bind (wpAny_standAt (wpAny_bind (show wpAny _ X.A (do let _ ← comprehension (.DictComp kx vx [⟨tg, iter, ifs, 0⟩] scope pos) scope X.env (firstIterPos [⟨tg, iter, ifs, 0⟩] pos) newDict false (eval iter X.env) (some (assign (.Name y py) X.env))) _ _ s from ?_)))
  have h2 : tDc wi g tt tk tv (own.map (·.2)) σ H (fun x H1 => gName i x σ H1 D.nx) := h
  refine wpAny_bind (thn (dc_core (Qf := fun _ s' => SP X pins D .next s') hc hN I hi ok hg ht hk he hs h2 fun L C s' m H' I' q hn f => ?_) fun _ s' hq => wpAny_pure (wpAny_pure hq))
  refine (show wpAny _ _ (assign (.Name y py) X.env (.ref L)) _ _ _ from wpAny_assign_Name (store_ok2 (v := V.ref L) I' hN hy (.inl hyl) rfl (fun s2 I2 ⟨a, sb, ha⟩ => ?_) (.inr hyl)))
  obtain ⟨f0, f1, f2, f3, f4, f5⟩ := f
  have ne : C ≠ a := by
    rcases ha with z | z
    · exact z ▸ f1
    · exact fun e => f4 y a z e.symm
  exact ⟨m, hn.sameBut sb ne, fun h3 sb3 => ⟨_, H', I2.turned (t' := s2.toks) (fun b o hb e => (sb3.2 b hb).trans e) f0 f1 f3 f4 f5, q⟩⟩
end RB
end

section
set_option maxRecDepth 100000
set_option maxHeartbeats 0
namespace RB
open PySem PySem.Spec PyProof.Rows L2
/-! ### the text by places -/
def top (i : Nat) : Stmt := PySem.Challenge.pw_risingbars_k76_whole_explained_or_a_ring.main.body.getD i (.Pass ⟨0, 0, 0, 0⟩)
abbrev s_is_name : Stmt := top 19
abbrev s_is_drift : Stmt := top 20
abbrev s_are_names : Stmt := top 21
abbrev s_is_event : Stmt := top 22
abbrev s_is_first : Stmt := top 23
abbrev s_check_drifts : Stmt := top 26
abbrev s_check_answers : Stmt := top 27
abbrev s_nearest : Stmt := top 28
abbrev s_law_row : Stmt := top 31
abbrev s_law_numbers : Stmt := top 32
abbrev s_law_log : Stmt := top 33
abbrev s_law_made : Stmt := top 34
abbrev s_law_places : Stmt := top 35
abbrev s_law_rows : Stmt := top 36
abbrev s_law_drifts : Stmt := top 37
abbrev s_law_is_one : Stmt := top 38
abbrev s_law_goes : Stmt := top 39
abbrev s_law_ahead : Stmt := top 40
abbrev s_law_bars : Stmt := top 42
abbrev s_law_explains : Stmt := top 43
abbrev s_law_change : Stmt := top 44
abbrev s_law_good : Stmt := top 45
abbrev s_law : Stmt := top 46
abbrev log_s_init : Stmt := inClass (top 24) 0
abbrev log_s_drift_of : Stmt := inClass (top 24) 5
abbrev log_s_is_answer : Stmt := inClass (top 24) 6
abbrev case_s_init : Stmt := inClass (top 29) 0
abbrev case_s_gather : Stmt := inClass (top 29) 1
abbrev case_s_answers : Stmt := inClass (top 29) 2
abbrev case_s_are_together : Stmt := inClass (top 29) 5
abbrev case_s_are_in_order : Stmt := inClass (top 29) 6
abbrev case_s_ahead : Stmt := inClass (top 29) 9
abbrev case_s_links : Stmt := inClass (top 29) 10
abbrev case_s_edges : Stmt := inClass (top 29) 11
abbrev case_s_way_on : Stmt := inClass (top 29) 12
abbrev case_s_first_way : Stmt := inClass (top 29) 13
abbrev case_s_way_between : Stmt := inClass (top 29) 14
abbrev case_s_ring : Stmt := inClass (top 29) 15
abbrev case_s_depths : Stmt := inClass (top 29) 16
abbrev case_s_explanation : Stmt := inClass (top 29) 18
abbrev case_s_fits : Stmt := inClass (top 29) 19
abbrev case_s_explains : Stmt := inClass (top 29) 20
abbrev log_s_item_names : Stmt := inClass (top 24) 1
abbrev log_s_grades : Stmt := inClass (top 24) 2
abbrev log_s_judges : Stmt := inClass (top 24) 3
abbrev log_s_events : Stmt := inClass (top 24) 4
/-! ### what the head tells -/
def d_is_name : He.DefD := ⟨("is_name", none), "is_name", "is_name", defArgs s_is_name, defBody s_is_name, defScope s_is_name, [], []⟩
def d_is_drift : He.DefD := ⟨("is_drift", none), "is_drift", "is_drift", defArgs s_is_drift, defBody s_is_drift, defScope s_is_drift, [], []⟩
def d_are_names : He.DefD := ⟨("are_names", none), "are_names", "are_names", defArgs s_are_names, defBody s_are_names, defScope s_are_names, [], []⟩
def d_is_event : He.DefD := ⟨("is_event", none), "is_event", "is_event", defArgs s_is_event, defBody s_is_event, defScope s_is_event, [], []⟩
def d_is_first : He.DefD := ⟨("is_first", none), "is_first", "is_first", defArgs s_is_first, defBody s_is_first, defScope s_is_first, [], []⟩
def d_check_drifts : He.DefD := ⟨("check_drifts", none), "check_drifts", "check_drifts", defArgs s_check_drifts, defBody s_check_drifts, defScope s_check_drifts, [], []⟩
def d_check_answers : He.DefD := ⟨("check_answers", none), "check_answers", "check_answers", defArgs s_check_answers, defBody s_check_answers, defScope s_check_answers, [], []⟩
def d_nearest : He.DefD := ⟨("nearest", none), "nearest", "nearest", defArgs s_nearest, defBody s_nearest, defScope s_nearest, [], []⟩
def d_law_row : He.DefD := ⟨("_law_row", none), "_law_row", "_law_row", defArgs s_law_row, defBody s_law_row, defScope s_law_row, [], []⟩
def d_law_numbers : He.DefD := ⟨("_law_numbers", none), "_law_numbers", "_law_numbers", defArgs s_law_numbers, defBody s_law_numbers, defScope s_law_numbers, [], []⟩
def d_law_log : He.DefD := ⟨("_law_log", none), "_law_log", "_law_log", defArgs s_law_log, defBody s_law_log, defScope s_law_log, [], []⟩
def d_law_made : He.DefD := ⟨("_law_made", none), "_law_made", "_law_made", defArgs s_law_made, defBody s_law_made, defScope s_law_made, [], []⟩
def d_law_places : He.DefD := ⟨("_law_places", none), "_law_places", "_law_places", defArgs s_law_places, defBody s_law_places, defScope s_law_places, [], []⟩
def d_law_rows : He.DefD := ⟨("_law_rows", none), "_law_rows", "_law_rows", defArgs s_law_rows, defBody s_law_rows, defScope s_law_rows, [], []⟩
def d_law_drifts : He.DefD := ⟨("_law_drifts", none), "_law_drifts", "_law_drifts", defArgs s_law_drifts, defBody s_law_drifts, defScope s_law_drifts, [], []⟩
def d_law_is_one : He.DefD := ⟨("_law_is_one", none), "_law_is_one", "_law_is_one", defArgs s_law_is_one, defBody s_law_is_one, defScope s_law_is_one, [], []⟩
def d_law_goes : He.DefD := ⟨("_law_goes", none), "_law_goes", "_law_goes", defArgs s_law_goes, defBody s_law_goes, defScope s_law_goes, [], []⟩
def d_law_ahead : He.DefD := ⟨("_law_ahead", none), "_law_ahead", "_law_ahead", defArgs s_law_ahead, defBody s_law_ahead, defScope s_law_ahead, [], []⟩
def d_law_bars : He.DefD := ⟨("_law_bars", none), "_law_bars", "_law_bars", defArgs s_law_bars, defBody s_law_bars, defScope s_law_bars, [], []⟩
def d_law_explains : He.DefD := ⟨("_law_explains", none), "_law_explains", "_law_explains", defArgs s_law_explains, defBody s_law_explains, defScope s_law_explains, [], []⟩
def d_law_change : He.DefD := ⟨("_law_change", none), "_law_change", "_law_change", defArgs s_law_change, defBody s_law_change, defScope s_law_change, [], []⟩
def d_law_good : He.DefD := ⟨("_law_good", none), "_law_good", "_law_good", defArgs s_law_good, defBody s_law_good, defScope s_law_good, [], []⟩
def d_law : He.DefD := ⟨("law", none), "law", "law", defArgs s_law, defBody s_law, defScope s_law, [], []⟩
def d_log_init : He.DefD := ⟨("Log", some "__init__"), "__init__", "Log.__init__", defArgs log_s_init, defBody log_s_init, defScope log_s_init, [], []⟩
def d_log_drift_of : He.DefD := ⟨("Log", some "drift_of"), "drift_of", "Log.drift_of", defArgs log_s_drift_of, defBody log_s_drift_of, defScope log_s_drift_of, [], []⟩
def d_log_is_answer : He.DefD := ⟨("Log", some "is_answer"), "is_answer", "Log.is_answer", defArgs log_s_is_answer, defBody log_s_is_answer, defScope log_s_is_answer, [], []⟩
def d_case_init : He.DefD := ⟨("Case", some "__init__"), "__init__", "Case.__init__", defArgs case_s_init, defBody case_s_init, defScope case_s_init, [], [("drifts", .non), ("struck", .non), ("resets", .non), ("moves", .non)]⟩
def d_case_gather : He.DefD := ⟨("Case", some "_gather"), "_gather", "Case._gather", defArgs case_s_gather, defBody case_s_gather, defScope case_s_gather, [], []⟩
def d_case_answers : He.DefD := ⟨("Case", some "answers"), "answers", "Case.answers", defArgs case_s_answers, defBody case_s_answers, defScope case_s_answers, [], []⟩
def d_case_are_together : He.DefD := ⟨("Case", some "_are_together"), "_are_together", "Case._are_together", defArgs case_s_are_together, defBody case_s_are_together, defScope case_s_are_together, [], []⟩
def d_case_are_in_order : He.DefD := ⟨("Case", some "_are_in_order"), "_are_in_order", "Case._are_in_order", defArgs case_s_are_in_order, defBody case_s_are_in_order, defScope case_s_are_in_order, [], []⟩
def d_case_ahead : He.DefD := ⟨("Case", some "_ahead"), "_ahead", "Case._ahead", defArgs case_s_ahead, defBody case_s_ahead, defScope case_s_ahead, [], []⟩
def d_case_links : He.DefD := ⟨("Case", some "links"), "links", "Case.links", defArgs case_s_links, defBody case_s_links, defScope case_s_links, [], []⟩
def d_case_edges : He.DefD := ⟨("Case", some "_edges"), "_edges", "Case._edges", defArgs case_s_edges, defBody case_s_edges, defScope case_s_edges, [], []⟩
def d_case_way_on : He.DefD := ⟨("Case", some "_way_on"), "_way_on", "Case._way_on", defArgs case_s_way_on, defBody case_s_way_on, defScope case_s_way_on, [], []⟩
def d_case_first_way : He.DefD := ⟨("Case", some "_first_way"), "_first_way", "Case._first_way", defArgs case_s_first_way, defBody case_s_first_way, defScope case_s_first_way, [], []⟩
def d_case_way_between : He.DefD := ⟨("Case", some "way_between"), "way_between", "Case.way_between", defArgs case_s_way_between, defBody case_s_way_between, defScope case_s_way_between, [], []⟩
def d_case_ring : He.DefD := ⟨("Case", some "ring"), "ring", "Case.ring", defArgs case_s_ring, defBody case_s_ring, defScope case_s_ring, [], []⟩
def d_case_depths : He.DefD := ⟨("Case", some "_depths"), "_depths", "Case._depths", defArgs case_s_depths, defBody case_s_depths, defScope case_s_depths, [], []⟩
def d_case_explanation : He.DefD := ⟨("Case", some "explanation"), "explanation", "Case.explanation", defArgs case_s_explanation, defBody case_s_explanation, defScope case_s_explanation, [], []⟩
def d_case_fits : He.DefD := ⟨("Case", some "_fits"), "_fits", "Case._fits", defArgs case_s_fits, defBody case_s_fits, defScope case_s_fits, [], []⟩
def d_case_explains : He.DefD := ⟨("Case", some "explains"), "explains", "Case.explains", defArgs case_s_explains, defBody case_s_explains, defScope case_s_explains, [], []⟩
def fns : List He.DefD := [d_is_name, d_is_drift, d_are_names, d_is_event, d_is_first, d_check_drifts, d_check_answers, d_nearest, d_law_row, d_law_numbers, d_law_log, d_law_made, d_law_places, d_law_rows, d_law_drifts, d_law_is_one, d_law_goes, d_law_ahead, d_law_bars, d_law_explains, d_law_change, d_law_good, d_law, d_log_init, d_log_drift_of, d_log_is_answer, d_case_init, d_case_gather, d_case_answers, d_case_are_together, d_case_are_in_order, d_case_ahead, d_case_links, d_case_edges, d_case_way_on, d_case_first_way, d_case_way_between, d_case_ring, d_case_depths, d_case_explanation, d_case_fits, d_case_explains]
def fas : List He.Fa := [.glo "is_name", .glo "is_drift", .glo "are_names", .glo "is_event", .glo "is_first", .glo "check_drifts", .glo "check_answers", .glo "nearest", .glo "_law_row", .glo "_law_numbers", .glo "_law_log", .glo "_law_made", .glo "_law_places", .glo "_law_rows", .glo "_law_drifts", .glo "_law_is_one", .glo "_law_goes", .glo "_law_ahead", .glo "_law_bars", .glo "_law_explains", .glo "_law_change", .glo "_law_good", .glo "law", .glo "Log", .glo "Case", .free "abs", .free "int", .free "len", .free "range", .free "max", .free "min", .free "sorted", .free "all", .free "any", .free "list", .free "dict", .free "set", .free "enumerate", .free "zip", .str "LETTERS" "abcdefghijklmnopqrstuvwxyz0123456789", .str "RISES" "rises", .str "FALLS" "falls", .str "STAYS" "stays", .str "ANSWER" "answer", .str "RESET" "reset", .int "MOST_ITEMS" 20, .int "MOST_JUDGES" 8, .int "MOST_EVENTS" 120, .int "MOST_GRADE" 9, .cls "Log", .cls "Case", .mkr "Log", .mkr "Case", .noat "Log" "_items", .noat "Log" "_grades", .noat "Log" "_judges", .noat "Log" "_events", .noat "Case" "_items", .noat "Case" "_grades", .noat "Case" "_drifts", .noat "Case" "_told", .noat "Case" "_lots", .meth "Log" "drift_of", .meth "Log" "is_answer", .meth "Case" "_gather", .meth "Case" "answers", .meth "Case" "_are_together", .meth "Case" "_are_in_order", .meth "Case" "_ahead", .meth "Case" "links", .meth "Case" "_edges", .meth "Case" "_way_on", .meth "Case" "_first_way", .meth "Case" "way_between", .meth "Case" "ring", .meth "Case" "_depths", .meth "Case" "explanation", .meth "Case" "_fits", .meth "Case" "explains"]
/-! ### the four properties of a log -/
/-- the property object -/
def pAd (K : PySem.W.Frag) (f : Str) : Addr := He.ma K (He.ga K "Log") f
/-- its getter -/
def gAd (K : PySem.W.Frag) (f : Str) : Addr := match PySem.W.recIn K (pAd K f) "property" with
  | some (.ref g :: _) => g
  | _ => 0
abbrev GetV : Type := Option (Str × Str × Arguments × FuncBody × Scope × Addr × List (Str × Addr) × Value × Addr)
def getV (K : PySem.W.Frag) (f : Str) : GetV := match K.lookup (gAd K f) with
  | some ⟨_, _, .func fd, _⟩ => some (fd.name, fd.qualname, fd.params, fd.body, fd.scope, fd.globals, fd.closure, fd.defaults, fd.builtins)
  | _ => none
def wantV (f qual : Str) (st : Stmt) : GetV := some (f, qual, defArgs st, .stmts (defBody st), defScope st, mainGlobals, [], .none, builtinsNs)
def propB (K : PySem.W.Frag) (f qual : Str) : Bool :=
  He.eqO (PySem.W.findIn K (.ref (He.ga K "Log")) f) (some (some (.ref (pAd K f)))) &&
  (He.eqO (PySem.W.specialIn K (.ref (pAd K f)) "__get__") (some (some (.builtin "property.__get__"))) &&
  (decide (PySem.W.takesIn K (.ref (pAd K f)) = some true) &&
  ((match PySem.W.recIn K (pAd K f) "property" with
    | some (.ref g :: _) => true
    | _ => false) &&
  (match K.lookup (gAd K f) with
    | some ⟨_, _, .func fd, _⟩ => PySem.W.codeIn K fd.code qual && PySem.W.keepIn K (.ref (gAd K f))
    | _ => false))))
def props : List (Str × Str × Stmt) := [("item_names", "Log.item_names", log_s_item_names), ("grades", "Log.grades", log_s_grades), ("judges", "Log.judges", log_s_judges), ("events", "Log.events", log_s_events)]
/-! ### the Hook -/
abbrev Al : Type := Bool × List He.FnW × List GetV
def look (K : PySem.W.Frag) : Al := ((fas.all fun f => f.ok K) && ((fns.all fun d => d.ok K) && (props.all fun p => propB K p.1 p.2.1)), fns.map fun d => He.fnW K d.at_, props.map fun p => getV K p.1)
def want : Al := (true, fns.map He.DefD.val, props.map fun p => wantV p.1 p.2.1 p.2.2)
def obsQ (n : Nat) (g : Addr → Option Obj) : Al := look (He.frG g (He.asD g n))
def hk (n : Nat) : PySem.W.Hook where
  α := Al
  obs := fun s => obsQ n s.heap.get?
  val := fun _ => want
  says := fun _ h => ∃ K : PySem.W.Frag, K.In h ∧ look K = want
  of := fun _ _ e => ⟨_, He.frG_in, e⟩
  keeps := fun _ _ _ ⟨K, i, c⟩ k => ⟨K, PySem.W.Frag.In.keeps i k, c⟩
abbrev R : PySem.W.OpenRow := PySem.W.OpenLaw.row PySem.Challenge.rw_risingbars_k76_whole_explained_or_a_ring
def ob (s : PySem.W.SharedT) : Al := obsQ 5 (HandSHeadRun.getT s)
theorem ob_eq (s : PySem.W.SharedT) : ob s = (hk 5).obs s.abs := by
  have e : HandSHeadRun.getT s = s.abs.heap.get? := funext (HandSHeadRun.getT_eq s)
  unfold ob
  rw [e] <;> rfl
def loose0 : List PySem.Str := ["_wall", "__name__", "BarError", "InvalidLog", "InvalidDrift", "UnknownItem", "UnknownJudge", "InvalidPlace", "LETTERS", "RISES", "FALLS", "STAYS", "ANSWER", "RESET", "MOST_ITEMS", "MOST_JUDGES", "MOST_EVENTS", "MOST_GRADE", "is_name", "is_drift", "are_names", "is_event", "is_first", "check_drifts", "check_answers", "nearest", "_law_row", "_law_numbers", "_law_log", "_law_made"]
def loose1 : List PySem.Str := ["_law_places", "_law_rows", "_law_drifts", "_law_is_one", "_law_goes", "_law_ahead", "_law_bars", "_law_explains", "_law_change", "_law_good", "Log", "Case", "_law_links"]
def loose : List PySem.Str := loose0 ++ loose1
theorem run (w : World) : HandSHeadRun.RunEq R (PySem.W.view R.prog [46]) (hk 5) ob 6000 loose w := by
  intro os
  kernel_rfl
end RB
end

section
set_option maxRecDepth 100000
set_option maxHeartbeats 4000000
/-! the head's facts by names; a def's kept promise and its call -/
namespace RB
open PySem PySem.Spec PyProof.Rows L2
/-- what the top has left, as the walks ask it -/
structure Txt (K : PySem.W.Frag) (mg : Str → Option Value) : Prop where
  c : look K = want
  at_ : ∃ h : Heap, K.In h ∧ h.Ns mainGlobals mg
section
variable {K : PySem.W.Frag} {mg : Str → Option Value}
theorem Txt.fact (T : Txt K mg) (i : Nat) {f : He.Fa} (h : fas[i]? = some f := by rfl) : f.ok K = true := by
  have c1 := (He.ba (congrArg (fun z : Al => z.1) T.c)).1
  exact List.all_eq_true.mp c1 f (List.mem_of_getElem? h)
theorem Txt.def_ (T : Txt K mg) (i : Nat) {d : He.DefD} (h : fns[i]? = some d := by rfl) : ∃ fd, FunD K d.name d.qual d.params d.body d.scope (d.dvs K) (d.kws K) (He.fAd K d.at_) fd := by
  have c2 := (He.ba (He.ba (congrArg (fun z : Al => z.1) T.c)).2).1
  have e : fns.map (fun d => He.fnW K d.at_) = fns.map He.DefD.val := congrArg (fun z : Al => z.2.1) T.c
  have e2 : (fns.map fun d => He.fnW K d.at_)[i]? = (fns.map He.DefD.val)[i]? := by rw [e]
  rw [List.getElem?_map, List.getElem?_map, h] at e2
  exact He.DefD.funD (Option.some.inj e2) (List.all_eq_true.mp c2 d (List.mem_of_getElem? h))
theorem Txt.glo (T : Txt K mg) (i : Nat) {x : Str} (h : fas[i]? = some (.glo x) := by rfl) : mg x = some (.ref (He.ga K x)) := by
  obtain ⟨hp, X, G⟩ := T.at_
  exact He.glo_ok X G (T.fact i h)
theorem Txt.free (T : Txt K mg) (i : Nat) {x : Str} (h : fas[i]? = some (.free x) := by rfl) : mg x = none := by
  obtain ⟨hp, X, G⟩ := T.at_
  exact He.free_ok X G (T.fact i h)
theorem Txt.str (T : Txt K mg) (i : Nat) {x z : Str} (h : fas[i]? = some (.str x z) := by rfl) : ∃ t, mg x = some (.str z t) := by
  obtain ⟨hp, X, G⟩ := T.at_
  exact He.str_ok X G (T.fact i h)
theorem Txt.int (T : Txt K mg) (i : Nat) {x : Str} {z : Int} (h : fas[i]? = some (.int x z) := by rfl) : ∃ t, mg x = some (.int z t) := by
  obtain ⟨hp, X, G⟩ := T.at_
  exact He.int_ok X G (T.fact i h)
/-- the two classes -/
abbrev CL (K : PySem.W.Frag) : Addr := He.ga K "Log"
abbrev CC (K : PySem.W.Frag) : Addr := He.ga K "Case"

theorem Txt.g_is_name (T : Txt K mg) : mg "is_name" = some (.ref (He.ga K "is_name")) := T.glo 0
theorem Txt.g_is_drift (T : Txt K mg) : mg "is_drift" = some (.ref (He.ga K "is_drift")) := T.glo 1
theorem Txt.g_are_names (T : Txt K mg) : mg "are_names" = some (.ref (He.ga K "are_names")) := T.glo 2
theorem Txt.g_is_event (T : Txt K mg) : mg "is_event" = some (.ref (He.ga K "is_event")) := T.glo 3
theorem Txt.g_is_first (T : Txt K mg) : mg "is_first" = some (.ref (He.ga K "is_first")) := T.glo 4
theorem Txt.g_check_drifts (T : Txt K mg) : mg "check_drifts" = some (.ref (He.ga K "check_drifts")) := T.glo 5
theorem Txt.g_check_answers (T : Txt K mg) : mg "check_answers" = some (.ref (He.ga K "check_answers")) := T.glo 6
theorem Txt.g_nearest (T : Txt K mg) : mg "nearest" = some (.ref (He.ga K "nearest")) := T.glo 7
theorem Txt.g_law_row (T : Txt K mg) : mg "_law_row" = some (.ref (He.ga K "_law_row")) := T.glo 8
theorem Txt.g_law_numbers (T : Txt K mg) : mg "_law_numbers" = some (.ref (He.ga K "_law_numbers")) := T.glo 9
theorem Txt.g_law_log (T : Txt K mg) : mg "_law_log" = some (.ref (He.ga K "_law_log")) := T.glo 10
theorem Txt.g_law_made (T : Txt K mg) : mg "_law_made" = some (.ref (He.ga K "_law_made")) := T.glo 11
theorem Txt.g_law_places (T : Txt K mg) : mg "_law_places" = some (.ref (He.ga K "_law_places")) := T.glo 12
theorem Txt.g_law_rows (T : Txt K mg) : mg "_law_rows" = some (.ref (He.ga K "_law_rows")) := T.glo 13
theorem Txt.g_law_drifts (T : Txt K mg) : mg "_law_drifts" = some (.ref (He.ga K "_law_drifts")) := T.glo 14
theorem Txt.g_law_is_one (T : Txt K mg) : mg "_law_is_one" = some (.ref (He.ga K "_law_is_one")) := T.glo 15
theorem Txt.g_law_goes (T : Txt K mg) : mg "_law_goes" = some (.ref (He.ga K "_law_goes")) := T.glo 16
theorem Txt.g_law_ahead (T : Txt K mg) : mg "_law_ahead" = some (.ref (He.ga K "_law_ahead")) := T.glo 17
theorem Txt.g_law_bars (T : Txt K mg) : mg "_law_bars" = some (.ref (He.ga K "_law_bars")) := T.glo 18
theorem Txt.g_law_explains (T : Txt K mg) : mg "_law_explains" = some (.ref (He.ga K "_law_explains")) := T.glo 19
theorem Txt.g_law_change (T : Txt K mg) : mg "_law_change" = some (.ref (He.ga K "_law_change")) := T.glo 20
theorem Txt.g_law_good (T : Txt K mg) : mg "_law_good" = some (.ref (He.ga K "_law_good")) := T.glo 21
theorem Txt.g_law (T : Txt K mg) : mg "law" = some (.ref (He.ga K "law")) := T.glo 22
theorem Txt.g_Log (T : Txt K mg) : mg "Log" = some (.ref (He.ga K "Log")) := T.glo 23
theorem Txt.g_Case (T : Txt K mg) : mg "Case" = some (.ref (He.ga K "Case")) := T.glo 24
theorem Txt.f_abs (T : Txt K mg) : mg "abs" = none := T.free 25
theorem Txt.f_int (T : Txt K mg) : mg "int" = none := T.free 26
theorem Txt.f_len (T : Txt K mg) : mg "len" = none := T.free 27
theorem Txt.f_range (T : Txt K mg) : mg "range" = none := T.free 28
theorem Txt.f_max (T : Txt K mg) : mg "max" = none := T.free 29
theorem Txt.f_min (T : Txt K mg) : mg "min" = none := T.free 30
theorem Txt.f_sorted (T : Txt K mg) : mg "sorted" = none := T.free 31
theorem Txt.f_all (T : Txt K mg) : mg "all" = none := T.free 32
theorem Txt.f_any (T : Txt K mg) : mg "any" = none := T.free 33
theorem Txt.f_list (T : Txt K mg) : mg "list" = none := T.free 34
theorem Txt.f_dict (T : Txt K mg) : mg "dict" = none := T.free 35
theorem Txt.f_set (T : Txt K mg) : mg "set" = none := T.free 36
theorem Txt.f_enumerate (T : Txt K mg) : mg "enumerate" = none := T.free 37
theorem Txt.f_zip (T : Txt K mg) : mg "zip" = none := T.free 38
theorem Txt.s_LETTERS (T : Txt K mg) : ∃ t, mg "LETTERS" = some (.str "abcdefghijklmnopqrstuvwxyz0123456789" t) := T.str 39
theorem Txt.s_RISES (T : Txt K mg) : ∃ t, mg "RISES" = some (.str "rises" t) := T.str 40
theorem Txt.s_FALLS (T : Txt K mg) : ∃ t, mg "FALLS" = some (.str "falls" t) := T.str 41
theorem Txt.s_STAYS (T : Txt K mg) : ∃ t, mg "STAYS" = some (.str "stays" t) := T.str 42
theorem Txt.s_ANSWER (T : Txt K mg) : ∃ t, mg "ANSWER" = some (.str "answer" t) := T.str 43
theorem Txt.s_RESET (T : Txt K mg) : ∃ t, mg "RESET" = some (.str "reset" t) := T.str 44
theorem Txt.i_MOST_ITEMS (T : Txt K mg) : ∃ t, mg "MOST_ITEMS" = some (.int 20 t) := T.int 45
theorem Txt.i_MOST_JUDGES (T : Txt K mg) : ∃ t, mg "MOST_JUDGES" = some (.int 8 t) := T.int 46
theorem Txt.i_MOST_EVENTS (T : Txt K mg) : ∃ t, mg "MOST_EVENTS" = some (.int 120 t) := T.int 47
theorem Txt.i_MOST_GRADE (T : Txt K mg) : ∃ t, mg "MOST_GRADE" = some (.int 9 t) := T.int 48
theorem Txt.c_Log (T : Txt K mg) : Cls K (He.ga K "Log") := He.cls_ok (T.fact 49)
theorem Txt.c_Case (T : Txt K mg) : Cls K (He.ga K "Case") := He.cls_ok (T.fact 50)
theorem Txt.k_Log (T : Txt K mg) : Mk K (He.ga K "Log") (He.ma K (He.ga K "Log") "__init__") := He.mkr_ok (T.fact 51)
theorem Txt.k_Case (T : Txt K mg) : Mk K (He.ga K "Case") (He.ma K (He.ga K "Case") "__init__") := He.mkr_ok (T.fact 52)
theorem Txt.n_Log_items (T : Txt K mg) : NoAttr K (He.ga K "Log") "_items" := He.noat_ok (T.fact 53)
theorem Txt.n_Log_grades (T : Txt K mg) : NoAttr K (He.ga K "Log") "_grades" := He.noat_ok (T.fact 54)
theorem Txt.n_Log_judges (T : Txt K mg) : NoAttr K (He.ga K "Log") "_judges" := He.noat_ok (T.fact 55)
theorem Txt.n_Log_events (T : Txt K mg) : NoAttr K (He.ga K "Log") "_events" := He.noat_ok (T.fact 56)
theorem Txt.n_Case_items (T : Txt K mg) : NoAttr K (He.ga K "Case") "_items" := He.noat_ok (T.fact 57)
theorem Txt.n_Case_grades (T : Txt K mg) : NoAttr K (He.ga K "Case") "_grades" := He.noat_ok (T.fact 58)
theorem Txt.n_Case_drifts (T : Txt K mg) : NoAttr K (He.ga K "Case") "_drifts" := He.noat_ok (T.fact 59)
theorem Txt.n_Case_told (T : Txt K mg) : NoAttr K (He.ga K "Case") "_told" := He.noat_ok (T.fact 60)
theorem Txt.n_Case_lots (T : Txt K mg) : NoAttr K (He.ga K "Case") "_lots" := He.noat_ok (T.fact 61)
theorem Txt.m_Log_drift_of (T : Txt K mg) : Meth K (He.ga K "Log") "drift_of" (He.ma K (He.ga K "Log") "drift_of") := He.meth_ok (T.fact 62)
theorem Txt.m_Log_is_answer (T : Txt K mg) : Meth K (He.ga K "Log") "is_answer" (He.ma K (He.ga K "Log") "is_answer") := He.meth_ok (T.fact 63)
theorem Txt.m_Case_gather (T : Txt K mg) : Meth K (He.ga K "Case") "_gather" (He.ma K (He.ga K "Case") "_gather") := He.meth_ok (T.fact 64)
theorem Txt.m_Case_answers (T : Txt K mg) : Meth K (He.ga K "Case") "answers" (He.ma K (He.ga K "Case") "answers") := He.meth_ok (T.fact 65)
theorem Txt.m_Case_are_together (T : Txt K mg) : Meth K (He.ga K "Case") "_are_together" (He.ma K (He.ga K "Case") "_are_together") := He.meth_ok (T.fact 66)
theorem Txt.m_Case_are_in_order (T : Txt K mg) : Meth K (He.ga K "Case") "_are_in_order" (He.ma K (He.ga K "Case") "_are_in_order") := He.meth_ok (T.fact 67)
theorem Txt.m_Case_ahead (T : Txt K mg) : Meth K (He.ga K "Case") "_ahead" (He.ma K (He.ga K "Case") "_ahead") := He.meth_ok (T.fact 68)
theorem Txt.m_Case_links (T : Txt K mg) : Meth K (He.ga K "Case") "links" (He.ma K (He.ga K "Case") "links") := He.meth_ok (T.fact 69)
theorem Txt.m_Case_edges (T : Txt K mg) : Meth K (He.ga K "Case") "_edges" (He.ma K (He.ga K "Case") "_edges") := He.meth_ok (T.fact 70)
theorem Txt.m_Case_way_on (T : Txt K mg) : Meth K (He.ga K "Case") "_way_on" (He.ma K (He.ga K "Case") "_way_on") := He.meth_ok (T.fact 71)
theorem Txt.m_Case_first_way (T : Txt K mg) : Meth K (He.ga K "Case") "_first_way" (He.ma K (He.ga K "Case") "_first_way") := He.meth_ok (T.fact 72)
theorem Txt.m_Case_way_between (T : Txt K mg) : Meth K (He.ga K "Case") "way_between" (He.ma K (He.ga K "Case") "way_between") := He.meth_ok (T.fact 73)
theorem Txt.m_Case_ring (T : Txt K mg) : Meth K (He.ga K "Case") "ring" (He.ma K (He.ga K "Case") "ring") := He.meth_ok (T.fact 74)
theorem Txt.m_Case_depths (T : Txt K mg) : Meth K (He.ga K "Case") "_depths" (He.ma K (He.ga K "Case") "_depths") := He.meth_ok (T.fact 75)
theorem Txt.m_Case_explanation (T : Txt K mg) : Meth K (He.ga K "Case") "explanation" (He.ma K (He.ga K "Case") "explanation") := He.meth_ok (T.fact 76)
theorem Txt.m_Case_fits (T : Txt K mg) : Meth K (He.ga K "Case") "_fits" (He.ma K (He.ga K "Case") "_fits") := He.meth_ok (T.fact 77)
theorem Txt.m_Case_explains (T : Txt K mg) : Meth K (He.ga K "Case") "explains" (He.ma K (He.ga K "Case") "explains") := He.meth_ok (T.fact 78)
theorem Txt.d_is_name (T : Txt K mg) : ∃ fd, FunD K d_is_name.name d_is_name.qual d_is_name.params d_is_name.body d_is_name.scope (d_is_name.dvs K) (d_is_name.kws K) (He.fAd K d_is_name.at_) fd := T.def_ 0
theorem Txt.d_is_drift (T : Txt K mg) : ∃ fd, FunD K d_is_drift.name d_is_drift.qual d_is_drift.params d_is_drift.body d_is_drift.scope (d_is_drift.dvs K) (d_is_drift.kws K) (He.fAd K d_is_drift.at_) fd := T.def_ 1
theorem Txt.d_are_names (T : Txt K mg) : ∃ fd, FunD K d_are_names.name d_are_names.qual d_are_names.params d_are_names.body d_are_names.scope (d_are_names.dvs K) (d_are_names.kws K) (He.fAd K d_are_names.at_) fd := T.def_ 2
theorem Txt.d_is_event (T : Txt K mg) : ∃ fd, FunD K d_is_event.name d_is_event.qual d_is_event.params d_is_event.body d_is_event.scope (d_is_event.dvs K) (d_is_event.kws K) (He.fAd K d_is_event.at_) fd := T.def_ 3
theorem Txt.d_is_first (T : Txt K mg) : ∃ fd, FunD K d_is_first.name d_is_first.qual d_is_first.params d_is_first.body d_is_first.scope (d_is_first.dvs K) (d_is_first.kws K) (He.fAd K d_is_first.at_) fd := T.def_ 4
theorem Txt.d_check_drifts (T : Txt K mg) : ∃ fd, FunD K d_check_drifts.name d_check_drifts.qual d_check_drifts.params d_check_drifts.body d_check_drifts.scope (d_check_drifts.dvs K) (d_check_drifts.kws K) (He.fAd K d_check_drifts.at_) fd := T.def_ 5
theorem Txt.d_check_answers (T : Txt K mg) : ∃ fd, FunD K d_check_answers.name d_check_answers.qual d_check_answers.params d_check_answers.body d_check_answers.scope (d_check_answers.dvs K) (d_check_answers.kws K) (He.fAd K d_check_answers.at_) fd := T.def_ 6
theorem Txt.d_nearest (T : Txt K mg) : ∃ fd, FunD K d_nearest.name d_nearest.qual d_nearest.params d_nearest.body d_nearest.scope (d_nearest.dvs K) (d_nearest.kws K) (He.fAd K d_nearest.at_) fd := T.def_ 7
theorem Txt.d_law_row (T : Txt K mg) : ∃ fd, FunD K d_law_row.name d_law_row.qual d_law_row.params d_law_row.body d_law_row.scope (d_law_row.dvs K) (d_law_row.kws K) (He.fAd K d_law_row.at_) fd := T.def_ 8
theorem Txt.d_law_numbers (T : Txt K mg) : ∃ fd, FunD K d_law_numbers.name d_law_numbers.qual d_law_numbers.params d_law_numbers.body d_law_numbers.scope (d_law_numbers.dvs K) (d_law_numbers.kws K) (He.fAd K d_law_numbers.at_) fd := T.def_ 9
theorem Txt.d_law_log (T : Txt K mg) : ∃ fd, FunD K d_law_log.name d_law_log.qual d_law_log.params d_law_log.body d_law_log.scope (d_law_log.dvs K) (d_law_log.kws K) (He.fAd K d_law_log.at_) fd := T.def_ 10
theorem Txt.d_law_made (T : Txt K mg) : ∃ fd, FunD K d_law_made.name d_law_made.qual d_law_made.params d_law_made.body d_law_made.scope (d_law_made.dvs K) (d_law_made.kws K) (He.fAd K d_law_made.at_) fd := T.def_ 11
theorem Txt.d_law_places (T : Txt K mg) : ∃ fd, FunD K d_law_places.name d_law_places.qual d_law_places.params d_law_places.body d_law_places.scope (d_law_places.dvs K) (d_law_places.kws K) (He.fAd K d_law_places.at_) fd := T.def_ 12
theorem Txt.d_law_rows (T : Txt K mg) : ∃ fd, FunD K d_law_rows.name d_law_rows.qual d_law_rows.params d_law_rows.body d_law_rows.scope (d_law_rows.dvs K) (d_law_rows.kws K) (He.fAd K d_law_rows.at_) fd := T.def_ 13
theorem Txt.d_law_drifts (T : Txt K mg) : ∃ fd, FunD K d_law_drifts.name d_law_drifts.qual d_law_drifts.params d_law_drifts.body d_law_drifts.scope (d_law_drifts.dvs K) (d_law_drifts.kws K) (He.fAd K d_law_drifts.at_) fd := T.def_ 14
theorem Txt.d_law_is_one (T : Txt K mg) : ∃ fd, FunD K d_law_is_one.name d_law_is_one.qual d_law_is_one.params d_law_is_one.body d_law_is_one.scope (d_law_is_one.dvs K) (d_law_is_one.kws K) (He.fAd K d_law_is_one.at_) fd := T.def_ 15
theorem Txt.d_law_goes (T : Txt K mg) : ∃ fd, FunD K d_law_goes.name d_law_goes.qual d_law_goes.params d_law_goes.body d_law_goes.scope (d_law_goes.dvs K) (d_law_goes.kws K) (He.fAd K d_law_goes.at_) fd := T.def_ 16
theorem Txt.d_law_ahead (T : Txt K mg) : ∃ fd, FunD K d_law_ahead.name d_law_ahead.qual d_law_ahead.params d_law_ahead.body d_law_ahead.scope (d_law_ahead.dvs K) (d_law_ahead.kws K) (He.fAd K d_law_ahead.at_) fd := T.def_ 17
theorem Txt.d_law_bars (T : Txt K mg) : ∃ fd, FunD K d_law_bars.name d_law_bars.qual d_law_bars.params d_law_bars.body d_law_bars.scope (d_law_bars.dvs K) (d_law_bars.kws K) (He.fAd K d_law_bars.at_) fd := T.def_ 18
theorem Txt.d_law_explains (T : Txt K mg) : ∃ fd, FunD K d_law_explains.name d_law_explains.qual d_law_explains.params d_law_explains.body d_law_explains.scope (d_law_explains.dvs K) (d_law_explains.kws K) (He.fAd K d_law_explains.at_) fd := T.def_ 19
theorem Txt.d_law_change (T : Txt K mg) : ∃ fd, FunD K d_law_change.name d_law_change.qual d_law_change.params d_law_change.body d_law_change.scope (d_law_change.dvs K) (d_law_change.kws K) (He.fAd K d_law_change.at_) fd := T.def_ 20
theorem Txt.d_law_good (T : Txt K mg) : ∃ fd, FunD K d_law_good.name d_law_good.qual d_law_good.params d_law_good.body d_law_good.scope (d_law_good.dvs K) (d_law_good.kws K) (He.fAd K d_law_good.at_) fd := T.def_ 21
theorem Txt.d_law (T : Txt K mg) : ∃ fd, FunD K d_law.name d_law.qual d_law.params d_law.body d_law.scope (d_law.dvs K) (d_law.kws K) (He.fAd K d_law.at_) fd := T.def_ 22
theorem Txt.d_log_init (T : Txt K mg) : ∃ fd, FunD K d_log_init.name d_log_init.qual d_log_init.params d_log_init.body d_log_init.scope (d_log_init.dvs K) (d_log_init.kws K) (He.fAd K d_log_init.at_) fd := T.def_ 23
theorem Txt.d_log_drift_of (T : Txt K mg) : ∃ fd, FunD K d_log_drift_of.name d_log_drift_of.qual d_log_drift_of.params d_log_drift_of.body d_log_drift_of.scope (d_log_drift_of.dvs K) (d_log_drift_of.kws K) (He.fAd K d_log_drift_of.at_) fd := T.def_ 24
theorem Txt.d_log_is_answer (T : Txt K mg) : ∃ fd, FunD K d_log_is_answer.name d_log_is_answer.qual d_log_is_answer.params d_log_is_answer.body d_log_is_answer.scope (d_log_is_answer.dvs K) (d_log_is_answer.kws K) (He.fAd K d_log_is_answer.at_) fd := T.def_ 25
theorem Txt.d_case_init (T : Txt K mg) : ∃ fd, FunD K d_case_init.name d_case_init.qual d_case_init.params d_case_init.body d_case_init.scope (d_case_init.dvs K) (d_case_init.kws K) (He.fAd K d_case_init.at_) fd := T.def_ 26
theorem Txt.d_case_gather (T : Txt K mg) : ∃ fd, FunD K d_case_gather.name d_case_gather.qual d_case_gather.params d_case_gather.body d_case_gather.scope (d_case_gather.dvs K) (d_case_gather.kws K) (He.fAd K d_case_gather.at_) fd := T.def_ 27
theorem Txt.d_case_answers (T : Txt K mg) : ∃ fd, FunD K d_case_answers.name d_case_answers.qual d_case_answers.params d_case_answers.body d_case_answers.scope (d_case_answers.dvs K) (d_case_answers.kws K) (He.fAd K d_case_answers.at_) fd := T.def_ 28
theorem Txt.d_case_are_together (T : Txt K mg) : ∃ fd, FunD K d_case_are_together.name d_case_are_together.qual d_case_are_together.params d_case_are_together.body d_case_are_together.scope (d_case_are_together.dvs K) (d_case_are_together.kws K) (He.fAd K d_case_are_together.at_) fd := T.def_ 29
theorem Txt.d_case_are_in_order (T : Txt K mg) : ∃ fd, FunD K d_case_are_in_order.name d_case_are_in_order.qual d_case_are_in_order.params d_case_are_in_order.body d_case_are_in_order.scope (d_case_are_in_order.dvs K) (d_case_are_in_order.kws K) (He.fAd K d_case_are_in_order.at_) fd := T.def_ 30
theorem Txt.d_case_ahead (T : Txt K mg) : ∃ fd, FunD K d_case_ahead.name d_case_ahead.qual d_case_ahead.params d_case_ahead.body d_case_ahead.scope (d_case_ahead.dvs K) (d_case_ahead.kws K) (He.fAd K d_case_ahead.at_) fd := T.def_ 31
theorem Txt.d_case_links (T : Txt K mg) : ∃ fd, FunD K d_case_links.name d_case_links.qual d_case_links.params d_case_links.body d_case_links.scope (d_case_links.dvs K) (d_case_links.kws K) (He.fAd K d_case_links.at_) fd := T.def_ 32
theorem Txt.d_case_edges (T : Txt K mg) : ∃ fd, FunD K d_case_edges.name d_case_edges.qual d_case_edges.params d_case_edges.body d_case_edges.scope (d_case_edges.dvs K) (d_case_edges.kws K) (He.fAd K d_case_edges.at_) fd := T.def_ 33
theorem Txt.d_case_way_on (T : Txt K mg) : ∃ fd, FunD K d_case_way_on.name d_case_way_on.qual d_case_way_on.params d_case_way_on.body d_case_way_on.scope (d_case_way_on.dvs K) (d_case_way_on.kws K) (He.fAd K d_case_way_on.at_) fd := T.def_ 34
theorem Txt.d_case_first_way (T : Txt K mg) : ∃ fd, FunD K d_case_first_way.name d_case_first_way.qual d_case_first_way.params d_case_first_way.body d_case_first_way.scope (d_case_first_way.dvs K) (d_case_first_way.kws K) (He.fAd K d_case_first_way.at_) fd := T.def_ 35
theorem Txt.d_case_way_between (T : Txt K mg) : ∃ fd, FunD K d_case_way_between.name d_case_way_between.qual d_case_way_between.params d_case_way_between.body d_case_way_between.scope (d_case_way_between.dvs K) (d_case_way_between.kws K) (He.fAd K d_case_way_between.at_) fd := T.def_ 36
theorem Txt.d_case_ring (T : Txt K mg) : ∃ fd, FunD K d_case_ring.name d_case_ring.qual d_case_ring.params d_case_ring.body d_case_ring.scope (d_case_ring.dvs K) (d_case_ring.kws K) (He.fAd K d_case_ring.at_) fd := T.def_ 37
theorem Txt.d_case_depths (T : Txt K mg) : ∃ fd, FunD K d_case_depths.name d_case_depths.qual d_case_depths.params d_case_depths.body d_case_depths.scope (d_case_depths.dvs K) (d_case_depths.kws K) (He.fAd K d_case_depths.at_) fd := T.def_ 38
theorem Txt.d_case_explanation (T : Txt K mg) : ∃ fd, FunD K d_case_explanation.name d_case_explanation.qual d_case_explanation.params d_case_explanation.body d_case_explanation.scope (d_case_explanation.dvs K) (d_case_explanation.kws K) (He.fAd K d_case_explanation.at_) fd := T.def_ 39
theorem Txt.d_case_fits (T : Txt K mg) : ∃ fd, FunD K d_case_fits.name d_case_fits.qual d_case_fits.params d_case_fits.body d_case_fits.scope (d_case_fits.dvs K) (d_case_fits.kws K) (He.fAd K d_case_fits.at_) fd := T.def_ 40
theorem Txt.d_case_explains (T : Txt K mg) : ∃ fd, FunD K d_case_explains.name d_case_explains.qual d_case_explains.params d_case_explains.body d_case_explains.scope (d_case_explains.dvs K) (d_case_explains.kws K) (He.fAd K d_case_explains.at_) fd := T.def_ 41
/-! ### the four properties -/
theorem Txt.prop (T : Txt K mg) (i : Nat) {f qual : Str} {st : Stmt} (h : props[i]? = some (f, qual, st) := by rfl) : PropOf K (CL K) f (pAd K f) (gAd K f) ∧ PySem.W.keepIn K (.ref (gAd K f)) = true ∧
    ∃ (oc : Value) (od : Option Addr) (kV doc pm : Value) (an : Option Addr) (cd ct : Value) (osl : Array (Option Value)), K.lookup (gAd K f) = some ⟨oc, od, .func (PySem.W.fnOf f qual (defArgs st) (defBody st) (defScope st) .none kV doc pm an cd ct), osl⟩ ∧ PySem.W.codeIn K cd qual = true := by
  have c3 := (He.ba (He.ba (congrArg (fun z : Al => z.1) T.c)).2).2
  have b : propB K f qual = true := List.all_eq_true.mp c3 _ (List.mem_of_getElem? h)
  have e : props.map (fun p => getV K p.1) = props.map fun p => wantV p.1 p.2.1 p.2.2 := congrArg (fun z : Al => z.2.2) T.c
  have e2 : (props.map fun p => getV K p.1)[i]? = (props.map fun p => wantV p.1 p.2.1 p.2.2)[i]? := by rw [e]
  rw [List.getElem?_map, List.getElem?_map, h] at e2
  have e3 : getV K f = wantV f qual st := Option.some.inj e2
  unfold propB at b
  obtain ⟨b1, b⟩ := He.ba b
  obtain ⟨b2, b⟩ := He.ba b
  obtain ⟨b3, b⟩ := He.ba b
  obtain ⟨b4, b5⟩ := He.ba b
  have r4 : ∃ rest, PySem.W.recIn K (pAd K f) "property" = some (.ref (gAd K f) :: rest) := by
    unfold gAd
    split at b4
    · rename_i g rest q
      exact ⟨rest, by rw [q]⟩
    · cases b4
  unfold getV at e3
  cases q : K.lookup (gAd K f) with
  | none =>
    rw [q] at b5
    cases b5
  | some o =>
    obtain ⟨oc, od, dt, osl⟩ := o
    rw [q] at b5 e3
    cases dt with
    | func fd =>
      obtain ⟨c1, c2⟩ := He.ba b5
      obtain ⟨n1, n2, n3, n4, n5, n6, n7, n8, n9, n10, n11, n12, n13, n14, n15⟩ := fd
      simp only [wantV, Option.some.injEq, Prod.mk.injEq] at e3
      obtain ⟨h1, h2, h3, h4, h5, h6, h7, h8, h9⟩ := e3
      subst h1 h2 h3 h4 h5 h6 h7 h8 h9
      exact ⟨⟨He.eqO_ok b1, He.eqO_ok b2, of_decide_eq_true b3, r4⟩, c2, oc, od, n9, n10, n11, n12, n13, n14, osl, rfl, c1⟩
    | _ => cases b5
end
/-! ### a def's kept promise -/
structure Kept (P : Program) (w : World) (K : PySem.W.Frag) (mg : Str → Option Value) (base : Heap) (k : Nat) (f : Addr) (ps : List Str) (sp : Sp) : Prop where
  ex : ∃ fd, FnOk P w K mg base CX0 k f fd ps sp ∧ Binds K fd ps [] ∧ PySem.W.keepIn K (.ref f) = true
/-- arguments by their places alone -/
def Plain (d : He.DefD) (ps : List Str) : Prop := ∀ (kV doc pm : Value) (an : Option Addr) (cd ct : Value) (us : List Value), us.length = ps.length → bindArgs (PySem.W.fnOf d.name d.qual d.params d.body d.scope .none kV doc pm an cd ct) ⟨us, []⟩ = pure (ps.zip us)
/-- the context of a def's body -/
abbrev Bx (P : Program) (w : World) (K : PySem.W.Frag) (mg : Str → Option Value) (base : Heap) (N : List Str) (d : He.DefD) (cd : Value) (A : Around) (outer : List Env) (s : Shared) (H : Hp) (E : XK) : Cx :=
  (cxOf CX0 P w K mg base N d.qual d.scope (He.fAd K d.at_) cd A outer s H E).nox
section
variable {P : Program} {w : World} {K : PySem.W.Frag} {mg : Str → Option Value} {base : Heap} {d : He.DefD} {N ps : List Str} {k : Nat} {sp : Sp}
theorem keep_of (h : ∃ fd, FunD K d.name d.qual d.params d.body d.scope [] (d.kws K) (He.fAd K d.at_) fd) (S : FnScope N ps d.scope) (pl : Plain d ps) (len : ∀ vs H Q E, sp vs H Q E → vs.length = ps.length)
    (hb : ∀ (cd : Value) (A : Around) (outer : List Env) (s : Shared) (H : Hp) (vs : List V) (Q : VK) (E : XK), Room k (Bx P w K mg base N d cd A outer s H E).A → sp vs H Q E →
      ∃ t, PSs (Bx P w K mg base N d cd A outer s H E) d.body t ∧ t { nx := fun _ H' => Q .non H', rt := Q } (start N vs) H) : Kept P w K mg base (k + 1) (He.fAd K d.at_) ps sp := by
  obtain ⟨fd, F⟩ := h
  refine ⟨fd, F.ok S len fun cd A outer s H vs Q E hr h => ?_, F.bindsN pl, F.kp⟩
  obtain ⟨t, h1, h2⟩ := hb cd A outer s H vs Q E hr h
  exact ⟨t, PSs.nox h1, h2⟩
end
section
variable {X : Cx} {k j : Nat} {f C : Addr} {ps : List Str} {sp : Sp} {x m : Str} {p pos apos : Pos} {e o : Expr} {es : List Expr} {t : TA} {ta : TE}
/-- f(e, ..) -/
theorem pe_f (G : Kept X.prog X.w X.K X.mg X.base k f ps sp) (hr : Room j X.A) (hj : k ≤ j) (hg : Gl X x) (hm : X.mg x = some (.ref f)) (ha : PA X (e :: es) t) (hdb : (x == ("__debug__" : Str)) = false := by decide)
    (he : starEach (e :: es) X.env = (false, eval e X.env) :: starEach es X.env := by rfl) (hpl : (backTo pos (starEach es X.env)).any (·.1) = false := by rfl) : PE X (.Call (.Name x p) (e :: es) [] pos) (tCall sp [] E0 t) := by
  obtain ⟨fd, F, b, kp⟩ := G.ex
  exact pe_call F (hr.mono hj) hg hm kp b .nil pass0 ha hdb he hpl
/-- o.m(e, ..) -/
theorem pe_m {pl : Sem Bool} (he : PE X o ta) (c : Cls X.K C) (hm : Meth X.K C m f) (G : Kept X.prog X.w X.K X.mg X.base k f ps sp) (hr : Room j X.A) (hj : k ≤ j) (ha : PA X (e :: es) t)
    (hst : starEach (e :: es) X.env = (false, eval e X.env) :: starEach es X.env := by rfl) (hpl : (backTo pos (starEach es X.env)).any (·.1) = false := by rfl)
    (ht : eval (.Call (.Attribute o m apos) (e :: es) [] pos) X.env = (do
      let ov ← eval o X.env
      standAt apos.atName
      let (f, first) ← holding [ov] (getMethod ov m pl)
      callWith pos f first (backTo pos (starEach (e :: es) X.env)) (backToKw pos (keywordEach [] X.env))) := by rfl) : PE X (.Call (.Attribute o m apos) (e :: es) [] pos) (tMeth C m sp [] E0 ta t) := by
  obtain ⟨fd, F, b, kp⟩ := G.ex
  exact pe_meth he c hm F (hr.mono hj) b .nil pass0 ha hst hpl ht
/-- o.m() -/
theorem pe_m0 {pl : Sem Bool} (he : PE X o ta) (c : Cls X.K C) (hm : Meth X.K C m f) (G : Kept X.prog X.w X.K X.mg X.base k f ps sp) (hr : Room j X.A) (hj : k ≤ j)
    (ht : eval (.Call (.Attribute o m apos) [] [] pos) X.env = (do
      let ov ← eval o X.env
      standAt apos.atName
      let (f, first) ← holding [ov] (getMethod ov m pl)
      callWith pos f first (backTo pos (starEach [] X.env)) (backToKw pos (keywordEach [] X.env))) := by rfl) : PE X (.Call (.Attribute o m apos) [] [] pos) (tMeth C m sp [] E0 ta tNil) := by
  obtain ⟨fd, F, b, kp⟩ := G.ex
  exact pe_meth0 he c hm F (hr.mono hj) b .nil pass0 ht
/-- a module's text, a module's int -/
theorem pe_gs {z : Str} (h : ∃ t, X.mg x = some (.str z t)) (hg : Gl X x) (hd : (x == ("__debug__" : Str)) = false := by decide) : PE X (.Name x pos) (tC (.str z)) := by
  obtain ⟨t, e⟩ := h
  exact pe_glob hg e ⟨t, rfl⟩ hd
theorem pe_gi {z : Int} (h : ∃ t, X.mg x = some (.int z t)) (hg : Gl X x) (hd : (x == ("__debug__" : Str)) = false := by decide) : PE X (.Name x pos) (tC (.int z)) := by
  obtain ⟨t, e⟩ := h
  exact pe_glob hg e ⟨t, rfl⟩ hd
end
end RB
end

section
set_option maxRecDepth 100000
set_option maxHeartbeats 4000000
/-! readings of comprehensions: what the turns give, one relation a turn -/
namespace RB
open PySem PySem.Spec PyProof.Rows L2
theorem same_upd {H H' : Hp} {p : Addr} {o : HO} (s : Same H H') (n : H p = none) : Same H (upd H' p o) := fun b u e => by
  rw [upd_ne (ne_of_none e n)]
  exact s b u e
theorem same_new {H : Hp} {p : Addr} {o : HO} (n : H p = none) : Same H (upd H p o) := same_upd (Same.refl H) n
theorem Same.rd {H H' : Hp} {a : Addr} {u : HO} (s : Same H H') (r : Rd H a u) : Rd H' a u := by
  rcases r with r | ⟨o, r⟩
  · exact .inl (s _ _ r)
  · exact .inr ⟨o, s _ _ r⟩
/-- all but what stands at d is kept -/
def SameBut (d : Addr) (H H' : Hp) : Prop := ∀ b o, b ≠ d → H b = some o → H' b = some o
theorem Same.but {H H' : Hp} (s : Same H H') (d : Addr) : SameBut d H H' := fun b o _ e => s b o e
theorem pair_map {α : Type} {f : α → V} : ∀ {l : List α} {ys : List V}, Paired (fun i y => y = f i) l ys → ys = l.map f
  | _, _, .nil => rfl
  | _, _, .cons h t => by rw [List.map_cons, ← pair_map t, h]
theorem pair_snoc {α β : Type} {F : α → β → Prop} : ∀ {l : List α} {m : List β} {a : α} {b : β}, Paired F l m → F a b → Paired F (l ++ [a]) (m ++ [b])
  | _, _, _, _, .nil, h => .cons h .nil
  | _, _, _, _, .cons g t, h => .cons g (pair_snoc t h)
theorem pair_get {α β : Type} {F : α → β → Prop} : ∀ {l : List α} {m : List β}, Paired F l m → ∀ {i : Nat} {a : α}, l[i]? = some a → ∃ b, m[i]? = some b ∧ F a b
  | _, _, .nil, i, a, h => by simp at h
  | x :: _, _, .cons g t, 0, a, h => by
    have e : x = a := by simpa using h
    subst e
    exact ⟨_, rfl, g⟩
  | _ :: _, _, .cons g t, i + 1, a, h => by
    obtain ⟨b, e, r⟩ := pair_get t (i := i) (a := a) (by simpa using h)
    exact ⟨b, by simpa using e, r⟩
theorem range_succ_filter (sel : Nat → Bool) (i : Nat) : (List.range (i + 1)).filter sel = (List.range i).filter sel ++ (if sel i = true then [i] else []) := by
  rw [List.range_succ, List.filter_append]
  congr 1
  by_cases h : sel i = true
  · simp [h]
  · simp [h]
theorem filter_all (n : Nat) : (List.range n).filter (fun _ => true) = List.range n := List.filter_eq_self.mpr fun _ _ => rfl
section
variable {J : It} {n : Nat} {G : Hp → Prop} {Y : Nat → Hp → V → Hp → Prop}
/-- [e for .. if ..]: the turns that sel takes give items that are R; nothing else is changed -/
theorem lc_rel (w : Walk J n G Y) {g : TG} {tt : TT} {te : TE} {vs : List Nat} {σ : L2.St} {H1 : Hp} {D : Addr} {Qd : Hp → Prop} (hD : H1 D = none) (hz : n ≤ sizeLine) (sel : Nat → Bool) (R : Nat → V → Hp → Prop)
    (stays : ∀ i y H H', R i y H → (∃ l, H D = some (.lst l)) → SameBut D H H' → R i y H') (hG : ∀ H, Same H1 H → G H)
    (hs : ∀ i x H H', i < n → Same H1 H → (∃ l, H D = some (.lst l)) → Y i H x H' → ∀ (N : V → Hp → Prop) (Z : Hp → Prop), (sel i = true → ∀ y H4, Same H H4 → R i y H4 → N y H4) → (sel i = false → ∀ H3, Same H H3 → Z H3) →
      g x (wipe σ vs) H' fun σ2 H2 => wipe σ2 vs = wipe σ vs ∧ tt σ2 H2 fun b H3 => if b = true then te σ2 H3 fun y H4 => N y H4 else Z H3)
    (hd : ∀ H ys, Same H1 H → H D = some (.lst ys) → Paired (fun i y => R i y H) ((List.range n).filter sel) ys → Qd H) :
    ∃ W : Nat → Nat → Hp → Prop, (∃ m, W 0 m (upd H1 D (.lst []))) ∧ ∀ i m H, W i m H →
      (J.stop i H ∧ Qd H) ∨ (J.go i H ∧ ∃ Nx : Hp → Prop, (∀ H', Nx H' → ∃ m', m' < m ∧ W (i + 1) m' H') ∧ ∀ x H', J.yld i H x H' → g x (wipe σ vs) H' fun σ2 H2 => wipe σ2 vs = wipe σ vs ∧ tt σ2 H2 fun b H3 =>
        if b = true then te σ2 H3 fun y H4 => ∃ acc, H4 D = some (.lst acc) ∧ acc.length < sizeLine ∧ Nx (upd H4 D (.lst (acc ++ [y]))) else Nx H3) := by
  refine lc_it w (fun i H => Same H1 H ∧ ∃ ys, H D = some (.lst ys) ∧ ys.length ≤ i ∧ Paired (fun i y => R i y H) ((List.range i).filter sel) ys) ⟨same_new hD, [], upd_same, Nat.zero_le _, .nil⟩ (fun i H _ p => hG H p.1) ?_ ?_
  · rintro i x H H' hi ⟨s, ys, e, hl, hp⟩ hY
    refine hs i x H H' hi s ⟨ys, e⟩ hY _ _ (fun hsel y H4 s4 r4 => ?_) fun hsel H3 s3 => ?_
    · have e4 : H4 D = some (.lst ys) := s4 _ _ e
      have sb : SameBut D H4 (upd H4 D (.lst (ys ++ [y]))) := fun b o ne q => by rw [upd_ne ne]; exact q
      refine ⟨ys, e4, by omega, same_upd (Same.trans s s4) hD, ys ++ [y], upd_same, by rw [List.length_append]; simp; omega, ?_⟩
      rw [range_succ_filter, if_pos hsel]
      refine pair_snoc (Paired.mapP hp fun i y r => ?_) (stays i y H4 _ r4 ⟨ys, e4⟩ sb)
      exact stays i y H _ r ⟨ys, e⟩ fun b o ne q => by rw [upd_ne ne]; exact s4 _ _ q
    · refine ⟨Same.trans s s3, ys, s3 _ _ e, by omega, ?_⟩
      rw [range_succ_filter, if_neg (by rw [hsel]; decide), List.append_nil]
      exact Paired.mapP hp fun i y r => stays i y H _ r ⟨ys, e⟩ (Same.but s3 D)
  · rintro H ⟨s, ys, e, _, hp⟩
    exact hd H ys s e hp
/-- .. each item told by its turn -/
theorem lc_val (w : Walk J n G Y) {g : TG} {tt : TT} {te : TE} {vs : List Nat} {σ : L2.St} {H1 : Hp} {D : Addr} {Qd : Hp → Prop} (hD : H1 D = none) (hz : n ≤ sizeLine) (sel : Nat → Bool) (f : Nat → V) (hG : ∀ H, Same H1 H → G H)
    (hs : ∀ i x H H', i < n → Same H1 H → Y i H x H' → ∀ (N : V → Hp → Prop) (Z : Hp → Prop), (sel i = true → ∀ H4, Same H H4 → N (f i) H4) → (sel i = false → ∀ H3, Same H H3 → Z H3) →
      g x (wipe σ vs) H' fun σ2 H2 => wipe σ2 vs = wipe σ vs ∧ tt σ2 H2 fun b H3 => if b = true then te σ2 H3 fun y H4 => N y H4 else Z H3)
    (hd : ∀ H, Same H1 H → H D = some (.lst (((List.range n).filter sel).map f)) → Qd H) :
    ∃ W : Nat → Nat → Hp → Prop, (∃ m, W 0 m (upd H1 D (.lst []))) ∧ ∀ i m H, W i m H →
      (J.stop i H ∧ Qd H) ∨ (J.go i H ∧ ∃ Nx : Hp → Prop, (∀ H', Nx H' → ∃ m', m' < m ∧ W (i + 1) m' H') ∧ ∀ x H', J.yld i H x H' → g x (wipe σ vs) H' fun σ2 H2 => wipe σ2 vs = wipe σ vs ∧ tt σ2 H2 fun b H3 =>
        if b = true then te σ2 H3 fun y H4 => ∃ acc, H4 D = some (.lst acc) ∧ acc.length < sizeLine ∧ Nx (upd H4 D (.lst (acc ++ [y]))) else Nx H3) :=
  lc_rel w hD hz sel (fun i y _ => y = f i) (fun _ _ _ _ r _ _ => r) hG (fun i x H H' hi s _ hY N Z a b => hs i x H H' hi s hY N Z (fun c H4 s4 => a c _ H4 s4 rfl) b) fun H ys s e p => hd H s (by rw [e, pair_map p])
end
section
variable {J : It} {n : Nat} {G : Hp → Prop} {Y : Nat → Hp → V → Hp → Prop}
/-- {k: v for ..}: the keys ks; R tells what holds of the values so far -/
theorem dc_inv (w : Walk J n G Y) {g : TG} {tk tv : TE} {vs : List Nat} {σ : L2.St} {H1 : Hp} {D : Addr} {Qd : Hp → Prop} {ks : List Str} (hn : ks.length = n) (nd : ks.Nodup) (hD : H1 D = none) (hz : n ≤ sizeLine) (R : Nat → (Str → V) → Hp → Prop)
    (h0 : R 0 (fun _ => .non) (upd H1 D (.dK []))) (hG : ∀ H, Same H1 H → G H)
    (hs : ∀ i x H H' k f, ks[i]? = some k → k ∉ ks.take i → Same H1 H → H D = some (.dK (dS (ks.take i) f)) → R i f H → Y i H x H' → ∀ (N : V → V → Hp → Prop) (Z : Hp → Prop),
      (∀ y H4, Same H H4 → (∀ H5, SameBut D H4 H5 → R (i + 1) (fun x => if x = k then y else f x) H5) → N (.str k) y H4) →
      g x (wipe σ vs) H' fun σ2 H2 => wipe σ2 vs = wipe σ vs ∧ tYes σ2 H2 fun b H3 => if b = true then tk σ2 H3 fun z H4 => tv σ2 H4 fun y H5 => N z y H5 else Z H3)
    (hd : ∀ H f, Same H1 H → H D = some (.dK (dS ks f)) → R n f H → Qd H) :
    ∃ W : Nat → Nat → Hp → Prop, (∃ m, W 0 m (upd H1 D (.dK []))) ∧ ∀ i m H, W i m H →
      (J.stop i H ∧ Qd H) ∨ (J.go i H ∧ ∃ Nx : Hp → Prop, (∀ H', Nx H' → ∃ m', m' < m ∧ W (i + 1) m' H') ∧ ∀ x H', J.yld i H x H' → g x (wipe σ vs) H' fun σ2 H2 => wipe σ2 vs = wipe σ vs ∧ tYes σ2 H2 fun b H3 =>
        if b = true then tk σ2 H3 fun y H4 => tv σ2 H4 fun z H5 => ∃ kvs k, y = kV k ∧ H5 D = some (.dK kvs) ∧ kvs.length < sizeLine ∧ Nx (upd H5 D (.dK (putK kvs k z))) else Nx H3) := by
  let Pv : Nat → Hp → Prop := fun i H => Same H1 H ∧ ∃ f, H D = some (.dK (dS (ks.take i) f)) ∧ R i f H
  refine ⟨fun i m H => m = n - i ∧ i ≤ n ∧ Pv i H, ⟨n, by simp, Nat.zero_le _, same_new hD, fun _ => .non, by rw [upd_same]; rfl, h0⟩, ?_⟩
  rintro i m H ⟨rfl, hi, s, f, e, hR⟩
  by_cases hlt : i < n
  · refine .inr ⟨w.goes i H hlt (hG H s), Pv (i + 1), fun H' p' => ⟨n - (i + 1), by omega, rfl, hlt, p'⟩, fun x H' y => ?_⟩
    have hk : ks[i]? = some ks[i] := List.getElem?_eq_getElem (by omega)
    have ht : ks.take (i + 1) = ks.take i ++ [ks[i]] := by rw [List.take_succ, hk]; rfl
    have hnot : ks[i] ∉ ks.take i := by
      have := nd
      rw [← List.take_append_drop (i + 1) ks, ht] at this
      have h2 := (List.nodup_append.mp (List.nodup_append.mp this).1)
      intro hm
      exact h2.2.2 _ hm _ (List.mem_singleton.mpr rfl) rfl
    refine hs i x H H' ks[i] f hk hnot s e hR (w.yields i H x H' hlt (hG H s) y) (fun z y H5 => ∃ kvs k, z = kV k ∧ H5 D = some (.dK kvs) ∧ kvs.length < sizeLine ∧ Pv (i + 1) (upd H5 D (.dK (putK kvs k y)))) _ fun y H4 s4 r4 => ?_
    refine ⟨_, Sum.inr ks[i], rfl, s4 _ _ e, by rw [dG_length, List.length_take]; omega, same_upd (Same.trans s s4) hD, fun x => if x = ks[i] then y else f x, by rw [upd_same, dG_putNew injS y hnot, ht], ?_⟩
    exact r4 _ fun b o ne q => by rw [upd_ne ne]; exact q
  · have : i = n := by omega
    subst this
    have e' : H D = some (.dK (dS ks f)) := by
      rw [← hn, List.take_length] at e
      exact e
    exact .inl ⟨w.stops H (hG H s), hd H f s e' hR⟩
end
end RB
end

section
set_option maxRecDepth 100000
set_option maxHeartbeats 4000000
/-! len(set(xs)), xs a list of different texts -/
namespace RB
open PySem PySem.Spec PyProof.Rows
theorem take_any {xs : List Str} (nd : xs.Nodup) {i : Nat} (hi : i < xs.length) : (xs.take i).any (· == xs[i]) = false := by
  rw [List.any_eq_false]
  intro y hy
  have ht : xs.take (i + 1) = xs.take i ++ [xs[i]] := by rw [List.take_succ, List.getElem?_eq_getElem hi]; rfl
  have h1 := nd
  rw [← List.take_append_drop (i + 1) xs, ht] at h1
  have h2 := (List.nodup_append.mp (List.nodup_append.mp h1).1).2.2 y hy xs[i] (List.mem_singleton.mpr rfl)
  simpa using h2
section
variable {prog : Program} {w : World} {A : Around} {R : Result → Shared → Prop} {I : Addr} {fp wr : List Addr} {G : Array GenState → Array GenState → Prop} {n : Nat} {P : Nat → Value → Prop} {St : Nat → Shared → Prop}
theorem set_turns (W : WalksS prog w A.in1 I fp wr G n P St) (S : Addr) (hSf : S ∉ fp) (xs : List Str) (hsz : xs.length = n) (nd : xs.Nodup) (hn1 : n + 1 < scanBound) (hval : ∀ (i : Nat) (v : Value), P i v → ∃ t, v = .str (xs.getD i Str.empty) t) :
    ∀ (m i : Nat) (s : Shared), n - i = m → i ≤ n → St i s → s.heap.SetOf (PySem.strKind prog w) S (fun k => (xs.take i).any (· == k)) i →
      (∀ s', Moved (S :: wr) G s s' → s'.heap.SetOf (PySem.strKind prog w) S (fun k => (xs.take n).any (· == k)) n → R (.ok (.ret .none)) s') →
      codeAny (model prog w) A (.builtin "set.update.loop" ⟨[.ref S, .ref I], []⟩) R s := by
  have notW : S ∉ wr := fun h => hSf (W.sub _ h)
  have more : ∀ b ∈ wr, b ∈ S :: wr := fun b hb => List.mem_cons_of_mem _ hb
  intro m
  induction m with
  | zero =>
    intro i s hm hi hst hS hR
    have e : i = n := by omega
    subst e
    refine codeAny_builtin F.entry_set_update_loop ?_
    rw [Around.under_plainId F.plain_set_update_loop _]
    refine (show wpAny _ A.in1 (pyNext (.ref I) >>= _) _ _ s from wpAny_bind (W.done s _ _ hst fun s' mv => ?_))
    refine (show wpAny _ A.in1 (ret Value.none) _ _ s' from wpAny_pure (hR s' (mv.mono more) ?_))
    obtain ⟨o, es, ep, t, ho, q⟩ := hS
    exact ⟨o, es, ep, t, mv.heap S _ notW ho, q⟩
  | succ m ih =>
    intro i s hm hi hst hS hR
    have hlt : i < n := by omega
    have hix : i < xs.length := by omega
    refine codeAny_builtin F.entry_set_update_loop ?_
    rw [Around.under_plainId F.plain_set_update_loop _]
    refine (show wpAny _ A.in1 (pyNext (.ref I) >>= _) _ _ s from wpAny_bind (W.item i s _ _ hlt hst fun v s' hP hst' mv => ?_))
    obtain ⟨t, rfl⟩ := hval i v hP
    have hS' : s'.heap.SetOf (PySem.strKind prog w) S (fun k => (xs.take i).any (· == k)) i := by
      obtain ⟨o, es, ep, tb, ho, q⟩ := hS
      exact ⟨o, es, ep, tb, mv.heap S _ notW ho, q⟩
    have ei : xs.getD i Str.empty = xs[i] := by rw [List.getD_eq_getElem?_getD, List.getElem?_eq_getElem hix] <;> rfl
    rw [ei]
    refine (show wpAny _ A.in1 (holding [Value.str xs[i] t] (setAdd S (.str xs[i] t)) >>= _) _ _ s' from wpAny_bind (wpAny_holding ?_))
    unfold setAdd
    refine wpAny_holding (wpAny_bind ((PySem.strKind prog w).pyHash (k := xs[i]) (strKind_is _ _ _ _) ?_))
    refine wpAny_setAddHashed_of (knd := PySem.strKind prog w) (s := { s' with toks := s'.toks + 1 }) (strKind_is _ _ _ _) rfl hS' (by omega) fun h' sb hS2 => ?_
    have ht : xs.take (i + 1) = xs.take i ++ [xs[i]] := by rw [List.take_succ, List.getElem?_eq_getElem hix]; rfl
    have hSi : h'.SetOf (PySem.strKind prog w) S (fun k => (xs.take (i + 1)).any (· == k)) (i + 1) := by
      refine SetOf_congr hS2 (fun k => ?_) (by rw [take_any nd hix]; rfl)
      rw [ht, List.any_append]
      congr 1
      by_cases e : k = xs[i]
      · subst e; simp
      · have e2 : (xs[i] == k) = false := beq_eq_false_iff_ne.mpr fun q => e q.symm
        simp [e, e2]
    refine wpAny_pure ⟨plainId_quiet F.plain_set_update_loop _, ih (i + 1) _ (by omega) hlt (W.frame _ s' _ _ hst' (Nat.le_succ _) fun b hb o e => ?_) hSi fun s2 mv2 hS3 => ?_⟩
    · exact (sb.2 b fun q : b = S => hSf (q ▸ hb)).trans e
    · exact hR s2 (Moved.trans W.gtrans ((mv.mono more).then_heap (Nat.le_succ _) fun b o hb e => (sb.2 b fun q : b = S => hb (q ▸ List.mem_cons_self)).trans e) mv2) hS3
end
section
variable {prog : Program} {w : World} {A : Around} {E : Value → Shared → Prop} {s : Shared}
theorem call_set_texts {l : Addr} {items : Array Value} {xs : List Str} {Q : Value → Shared → Prop} (hh : A.handled = none) (hl : s.heap.IsList l items) (hi : StrsAre items.toList xs) (nd : xs.Nodup) (hz : xs.length + 1 < scanBound)
    (h : ∀ (h' : Heap) (tk : Nat), h'.SetOf (PySem.strKind prog w) s.heap.objs.size (fun k => (xs.take items.size).any (· == k)) items.size → (∀ b o, b < s.heap.objs.size → s.heap.get? b = some o → h'.get? b = some o) →
      Q (.ref s.heap.objs.size) { s with heap := h', toks := tk }) : wpAny (model prog w) A (call (.type "set") [.ref l]) Q E s := by
  obtain ⟨c, tl, hmro⟩ := PySem.F.called_set.mro
  have hmade := PySem.F.called_set.made; have hsub := PySem.F.called_set.sub
  refine wpAny_call (codeAny_of_tree (show wpAny _ _ (callAny (.type "set") _) _ _ _ from wpAny_pure ⟨Code.quiet_builtin _ (by decide +kernel), codeAny_builtin PySem.F.entry_type_call ?_⟩))
  rw [Around.under_plain (weight_type_call_type "set" [.ref l] []) rfl]
  have h1 := PySem.F.called_set.notType; have h2 := PySem.F.called_set.canCreate; have hct := PySem.F.typeCall_set_1 (.ref l)
  repeat (any_goals (first | assumption | wp_step))
  refine codeAny_mono (code_set_new_1 (.ref l) (E := E) (Q₁ := fun ob s₁ => ∃ led : Bool, ob = .ref s.heap.objs.size ∧ s₁ = { s with heap := s.heap.push { cls := .type "set", dict := none, data := .set #[] 0 (.fresh 0 0 led) } }) fun led => ⟨led, rfl, rfl⟩) fun r s₁ hr => ?_
  cases r with
  | error e => exact hr
  | ok fl => cases fl with
    | ret ob =>
      obtain ⟨led, rfl, rfl⟩ := hr
      have hS : (s.heap.push { cls := .type "set", dict := none, data := .set #[] 0 (.fresh 0 0 led) }).get? s.heap.objs.size = some { cls := .type "set", dict := none, data := .set #[] 0 (.fresh 0 0 led) } := Heap.get?_push_size _ rfl
      have hT : Shared.TypeIs { s with heap := s.heap.push { cls := .type "set", dict := none, data := .set #[] 0 (.fresh 0 0 led) } } (.ref s.heap.objs.size) "set" := ⟨_, hS, rfl⟩
      have hli := PySem.F.called_set.init.lookup; have hbi := PySem.F.called_set.init.bind (.ref s.heap.objs.size)
      repeat (any_goals (first | assumption | wp_step))
      refine codeAny_mono (codeAny_call_builtin (R := wants (fun r s₂ => r = .none ∧ ∃ h' tk, s₂ = { s with heap := h', toks := tk } ∧ h'.SetOf (PySem.strKind prog w) s.heap.objs.size (fun k => (xs.take items.size).any (· == k)) items.size ∧
          (∀ b o, b < s.heap.objs.size → s.heap.get? b = some o → h'.get? b = some o)) E) PySem.F.called_set.init.plain PySem.F.entry_set_init (check_set_init_1 hT ?_)) fun r₂ s₂ hr₂ => ?_
      · obtain ⟨⟨ocls, odict, odata, oslots⟩, hol, hcl, nl, hdl⟩ := hl
        simp only at hcl hdl
        subst hcl hdl
        have hol' : (s.heap.push { cls := .type "set", dict := none, data := .set #[] 0 (.fresh 0 0 led) }).get? l = some { cls := .type "list", dict := odict, data := .seq items nl, slots := oslots } := Heap.get?_push_of_some _ hol
        have hsls := PySem.F.sub_list_set; have hslf := PySem.F.sub_list_frozenset; have hne : (Value.type "list" == Value.type "dict") = false := by decide
        have hl1 : (s.heap.push { cls := .type "set", dict := none, data := .set #[] 0 (.fresh 0 0 led) }).IsList l items := ⟨_, hol', rfl, nl, rfl⟩
        unfold Builtin.«set.__init__» noKeywords Builtin.Frozenset.updateFrom
        generalize hPI : pyIter = PI; wp_walk; subst hPI
        refine wpAny_pyIter_list hl1 (wpAny_bind (wpAny_runValue ?_))
        have hlS : l < s.heap.objs.size := Heap.lt_size hol
        have eI : (s.heap.push { cls := .type "set", dict := none, data := .set #[] 0 (.fresh 0 0 led) }).objs.size = s.heap.objs.size + 1 := Heap.size_push ..
        have nl' : l ≠ (s.heap.push { cls := .type "set", dict := none, data := .set #[] 0 (.fresh 0 0 led) }).objs.size := by rw [eI]; exact Nat.ne_of_lt (Nat.lt_succ_of_lt hlS)
        have hSf : s.heap.objs.size ∉ [(s.heap.push { cls := .type "set", dict := none, data := .set #[] 0 (.fresh 0 0 led) }).objs.size, l] := fun z => by
          rw [eI] at z
          rcases List.mem_cons.mp z with z | z
          · exact Nat.ne_of_lt (Nat.lt_succ_self _) z
          · exact Nat.ne_of_gt hlS (List.mem_singleton.mp z)
        have hsz : xs.length = items.size := by rw [← StrsAre.len_eq hi, Array.length_toList]
        refine set_turns ((Walks.list (by simp [hh]) _ l nl' items).toS) s.heap.objs.size hSf xs hsz nd (by omega) (fun i v hv => SS.strs_at hi i v (by rw [Array.getElem?_toList]; exact hv)) (items.size - 0) 0 _ rfl (Nat.zero_le _) ⟨⟨_, Heap.get?_push_size _ rfl, rfl, rfl⟩, hl1.push _⟩ ?_ ?_
        · have hget : ((s.heap.push { cls := .type "set", dict := none, data := .set #[] 0 (.fresh 0 0 led) }).push { cls := .type "list_iterator", data := .fields #[.ref l, .int 0 0] }).get? s.heap.objs.size = some { cls := .type "set", dict := none, data := .set #[] 0 (.fresh 0 0 led) } := Heap.get?_push_of_some _ hS
          exact SetOf_congr ((setObjOf_fresh (knd := PySem.strKind prog w) led).setOf hget (by unfold scanBound; omega)) (fun _ => rfl) rfl
        · intro s' mv hS'
          obtain ⟨h', g', d', tk', os'⟩ := s'
          cases (show g' = s.gens from mv.gens); cases (show d' = s.drawn from mv.drawn); cases (show os' = s.os from mv.os)
          refine (show wpAny _ _ _ _ _ _ from wpAny_pure (show wpAny _ _ (ret Value.none) _ _ _ from wpAny_pure ⟨rfl, h', tk', rfl, hS', fun b o hb e => ?_⟩))
          refine mv.heap b o (fun z => ?_) (Heap.get?_push_of_some _ (Heap.get?_push_of_some _ e))
          rcases List.mem_cons.mp z with z | z
          · exact Nat.ne_of_lt hb z
          · have := List.mem_singleton.mp z
            rw [eI] at this
            exact Nat.ne_of_lt (Nat.lt_succ_of_lt hb) this
      · cases r₂ with
        | error e => exact hr₂
        | ok fl₂ => cases fl₂ with
          | ret r =>
            obtain ⟨rfl, h', tk, rfl, hS', hk'⟩ := hr₂
            repeat (any_goals (first | assumption | wp_step))
            exact h _ _ hS' hk'
          | _ => exact hr₂.elim
    | _ => exact hr.elim
end
open L2
def tLenTexts (K : PySem.W.Frag) (ta : TE) : TE := fun σ H Q => ta σ H fun x H1 => ∃ (l : Addr) (xs : List Str), x = .ref l ∧ SqL K H1 l (xs.map V.str) ∧ xs.Nodup ∧ xs.length ≤ 60 ∧ Q (.int xs.length) H1
theorem pe_lenTexts {X : Cx} {a : Expr} {ta : TE} {p p2 q pos : Pos} (hc : X.calm = true) (hg : Gl X "len") (hm : X.mg "len" = none) (hg2 : Gl X "set") (hm2 : X.mg "set" = none) (ha : PE X a ta) (na : starEach [a] X.env = (false, eval a X.env) :: starEach [] X.env := by rfl) :
    PE X (.Call (.Name "len" p) [.Call (.Name "set" p2) [a] [] q] [] pos) (tLenTexts X.K ta) := by
  refine ⟨fun pins s σ H Q I h => ?_⟩
  refine Call_ (ld_blt I hg hm boot_len (PyProof.Rows.callWith_builtin1 (PyProof.Rows.args_cons ?_ rfl) rfl rfl))
  refine Call_ (ld_blt I hg2 hm2 boot_set (PyProof.Rows.callWith_type1 (PyProof.Rows.args_cons (thn (ha.run pins s σ H _ I h) fun v s1 ⟨x, H1, I1, r1, q1⟩ => PyProof.Rows.args_nil ?_) na) na rfl))
  obtain ⟨l, xs, rfl, hq, nd, h60, q1⟩ := q1
  cases r1
  obtain ⟨its, r, pl, hz⟩ := I1.list hq
  refine call_set_texts (I1.ok.hd hc) pl.isList (by simpa using strsAre_of r) nd (by unfold scanBound; omega) fun h' tk hS hk => PyProof.Rows.args_nil ?_
  have hl : its.toArray.size = xs.length := by rw [List.size_toArray, ← r.length, List.length_map]
  rw [hl] at hS
  obtain ⟨o, es, ep, t, ho, hex, hd, _, _, _, hf, hn⟩ := hS
  have I2 : Inv X pins σ H1 { s1 with heap := h', toks := tk } := I1.kept fun b o e => hk b o (Heap.lt_size e) e
  exact call_len_set ho hex hd hf (by rw [hn] <;> omega) ⟨.int xs.length, H1, I2.tok _, ⟨_, by rw [hn]⟩, q1⟩
end RB
end

section
set_option maxRecDepth 100000
set_option maxHeartbeats 4000000
/-! what stands in the heap: logs, cases, rows -/
namespace RB
open PySem PySem.Spec PyProof.Rows L2
theorem iteY {c A B : Prop} [Decidable c] (hc : c) (h : A) : if decide c = true then A else B := by
  rw [if_pos (decide_eq_true hc)]
  exact h
theorem iteN {c A B : Prop} [Decidable c] (hc : ¬ c) (h : B) : if decide c = true then A else B := by
  rw [if_neg (by rw [decide_eq_false hc]; decide)]
  exact h
theorem iteD {c A B : Prop} [Decidable c] (h1 : c → A) (h2 : ¬ c → B) : if decide c = true then A else B := by
  by_cases hc : c
  · exact iteY hc (h1 hc)
  · exact iteN hc (h2 hc)
theorem iteB {b : Bool} {A B : Prop} (h1 : b = true → A) (h2 : b = false → B) : if b = true then A else B := by
  cases b with
  | true => exact iteT (h1 rfl)
  | false => exact iteF (h2 rfl)
theorem yesT {σ : L2.St} {H : Hp} {A B : Hp → Prop} (h : A H) : tYes σ H fun b H' => if b = true then A H' else B H' := by
  show if true = true then A H else B H
  rw [if_pos rfl]
  exact h
theorem small {n : Nat} (h : n ≤ 16000000) : n ≤ sizeLine := by
  rw [sizeLine_eq]
  omega
theorem smaller {n : Nat} (h : n ≤ 16000000) : n < sizeLine := by
  rw [sizeLine_eq]
  omega
/-! ### membership by values -/
theorem inV_str (x : Str) (xs : List Str) : inV (.str x) (xs.map V.str) = decide (x ∈ xs) := by
  unfold inV
  rw [List.any_map]
  induction xs with
  | nil => simp
  | cons y r ih =>
    rw [List.any_cons, ih]
    have e : (((fun y => eqV y (V.str x)) ∘ V.str) y) = (y == x) := rfl
    rw [e]
    by_cases c : y = x
    · subst c; simp
    · have c2 : ¬ x = y := fun z => c z.symm
      rw [beq_eq_false_iff_ne.mpr c]
      simp [List.mem_cons, c2]
theorem inV_int (x : Int) (xs : List Int) : inV (.int x) (xs.map V.int) = decide (x ∈ xs) := by
  unfold inV
  rw [List.any_map]
  induction xs with
  | nil => simp
  | cons y r ih =>
    rw [List.any_cons, ih]
    have e : (((fun y => eqV y (V.int x)) ∘ V.int) y) = (y == x) := rfl
    rw [e]
    by_cases c : y = x
    · subst c; simp
    · have c2 : ¬ x = y := fun z => c z.symm
      rw [beq_eq_false_iff_ne.mpr c]
      simp [List.mem_cons, c2]
theorem flat_str (xs : List Str) : (xs.map V.str).all flatV = true := by simp [List.all_map, flatV, Function.comp_def]
theorem flat_int (xs : List Int) : (xs.map V.int).all flatV = true := by simp [List.all_map, flatV, Function.comp_def]
/-! ### a heap in which dicts may be locked besides -/
def Lk (H H' : Hp) : Prop := ∀ b o, H b = some o → H' b = some o ∨ ((∃ kvs, o = HO.dK kvs) ∧ ∃ od, H' b = some (.frz od o))
section
variable {H H' H2 : Hp} {b d : Addr} {u : HO}
theorem Lk.of (s : Same H H') : Lk H H' := fun b o e => .inl (s b o e)
theorem Lk.refl : Lk H H := fun b o e => .inl e
theorem Lk.trans (a : Lk H H') (c : Lk H' H2) : Lk H H2 := fun b o e => by
  rcases a b o e with h | ⟨hk, od, h⟩
  · exact c b o h
  · rcases c b _ h with g | ⟨⟨kvs, z⟩, _⟩
    · exact .inr ⟨hk, od, g⟩
    · cases z
theorem Lk.rd (l : Lk H H') (r : Rd H b u) : Rd H' b u := by
  rcases r with r | ⟨o, r⟩
  · rcases l b u r with h | ⟨_, od, h⟩
    · exact .inl h
    · exact .inr ⟨od, h⟩
  · rcases l b _ r with h | ⟨⟨kvs, z⟩, _⟩
    · exact .inr ⟨o, h⟩
    · cases z
theorem Lk.tup (l : Lk H H') {xs : List V} (e : H b = some (.tup xs)) : H' b = some (.tup xs) := by
  rcases l b _ e with h | ⟨⟨kvs, z⟩, _⟩
  · exact h
  · cases z
theorem Lk.lst (l : Lk H H') {xs : List V} (e : H b = some (.lst xs)) : H' b = some (.lst xs) := by
  rcases l b _ e with h | ⟨⟨kvs, z⟩, _⟩
  · exact h
  · cases z
theorem Lk.ins (l : Lk H H') {C dx : Addr} {fs : List (Str × V)} (e : H b = some (.ins C dx fs)) : H' b = some (.ins C dx fs) := by
  rcases l b _ e with h | ⟨⟨kvs, z⟩, _⟩
  · exact h
  · cases z
theorem Lk.free (l : Lk H H') (h : H' b = none) : H b = none := by
  cases q : H b with
  | none => rfl
  | some o =>
    rcases l b o q with z | ⟨_, od, z⟩
    · rw [h] at z; cases z
    · rw [h] at z; cases z
/-- a dict is locked -/
theorem Lk.lock {kvs : List (Key × V)} {od : Obj} (e : H d = some (.dK kvs)) : Lk H (upd H d (.frz od (.dK kvs))) := fun b o q => by
  by_cases c : b = d
  · subst c
    rw [e] at q
    cases q
    exact .inr ⟨⟨kvs, rfl⟩, od, upd_same⟩
  · exact .inl (by rw [upd_ne c]; exact q)
/-- it is let go -/
theorem unlock {od : Obj} (e : H d = some u) (s : Same (upd H d (.frz od u)) H') : H' d = some (.frz od u) ∧ Same H (upd H' d u) := by
  refine ⟨s _ _ upd_same, fun b o q => ?_⟩
  by_cases c : b = d
  · subst c
    rw [e] at q
    rw [upd_same]
    exact q
  · rw [upd_ne c]
    exact s b o (by rw [upd_ne c]; exact q)
end
/-! ### lists of tuples -/
/-- the values vs are tuples that hold what f tells of xs -/
def Refs {α : Type} (H : Hp) (f : α → List V) (xs : List α) (vs : List V) : Prop := Paired (fun x v => ∃ a, v = V.ref a ∧ H a = some (.tup (f x))) xs vs
section
variable {α : Type} {H H' : Hp} {f : α → List V} {xs : List α} {vs : List V}
theorem Refs.lk (r : Refs H f xs vs) (s : Lk H H') : Refs H' f xs vs := Paired.mapP r fun x v ⟨a, e, h⟩ => ⟨a, e, s.tup h⟩
theorem Refs.same (r : Refs H f xs vs) (s : Same H H') : Refs H' f xs vs := r.lk (.of s)
theorem Refs.get (r : Refs H f xs vs) {i : Nat} {x : α} (h : xs[i]? = some x) : ∃ a, vs[i]? = some (.ref a) ∧ H a = some (.tup (f x)) := by
  obtain ⟨v, e, a, rfl, ha⟩ := pair_get r h
  exact ⟨a, e, ha⟩
theorem Refs.len (r : Refs H f xs vs) : xs.length = vs.length := Paired.length r
theorem Refs.back (r : Refs H f xs vs) {i : Nat} {v : V} (h : vs[i]? = some v) : ∃ x a, xs[i]? = some x ∧ v = .ref a ∧ H a = some (.tup (f x)) := by
  have hi : i < xs.length := by
    rw [r.len]
    exact (List.getElem?_eq_some_iff.mp h).1
  obtain ⟨a, e, ha⟩ := r.get (List.getElem?_eq_getElem hi)
  rw [h] at e
  exact ⟨_, a, List.getElem?_eq_getElem hi, Option.some.inj e, ha⟩
theorem Refs.snoc (r : Refs H f xs vs) {x : α} {a : Addr} (h : H a = some (.tup (f x))) : Refs H f (xs ++ [x]) (vs ++ [.ref a]) := pair_snoc r ⟨a, rfl, h⟩
end
/-! ### logs -/
inductive Ev where
  | ans (j i : Str) (g : Int)
  | rst (j : Str)
def Ev.tv : Ev → List V
  | .ans j i g => [.str "answer", .str j, .str i, .int g]
  | .rst j => [.str "reset", .str j]
def Ev.judge : Ev → Str
  | .ans j _ _ => j
  | .rst j => j
structure Lg where
  items : List Str
  grades : Int
  judges : List (Str × Str)
  events : List Ev
def jv (p : Str × Str) : List V := [.str p.1, .str p.2]
def Lg.names (g : Lg) : List Str := g.judges.map (·.1)
def itemNames : List Str := ["x", "b", "m2", "a", "z9"]
def judgeNames : List Str := ["ann", "bo"]
def driftNames : List Str := ["rises", "falls", "stays"]
def Lg.EvOk (g : Lg) : Ev → Prop
  | .ans j i k => j ∈ g.names ∧ i ∈ g.items ∧ 0 ≤ k ∧ k ≤ g.grades
  | .rst j => j ∈ g.names
structure Lg.Ok (g : Lg) : Prop where
  i0 : 1 ≤ g.items.length
  i4 : g.items.length ≤ 4
  ind : g.items.Nodup
  inm : ∀ i ∈ g.items, i ∈ itemNames
  g1 : 1 ≤ g.grades
  g2 : g.grades ≤ 2
  j0 : 1 ≤ g.judges.length
  j2 : g.judges.length ≤ 2
  jnd : g.names.Nodup
  jnm : ∀ j ∈ g.names, j ∈ judgeNames
  jd : ∀ j ∈ g.judges, j.2 ∈ driftNames
  e9 : g.events.length ≤ 9
  ev : ∀ e ∈ g.events, g.EvOk e
/-- the parts of a log stand at these addresses -/
structure Parts (H : Hp) (i j e : Addr) (g : Lg) : Prop where
  it : H i = some (.lst (g.items.map V.str))
  ju : ∃ js, H j = some (.lst js) ∧ Refs H jv g.judges js
  ev : ∃ es, H e = some (.lst es) ∧ Refs H Ev.tv g.events es
theorem Parts.lk {H H' : Hp} {i j e : Addr} {g : Lg} (p : Parts H i j e g) (s : Lk H H') : Parts H' i j e g := by
  obtain ⟨h1, ⟨js, h2, h3⟩, ⟨es, h4, h5⟩⟩ := p
  exact ⟨s.lst h1, ⟨js, s.lst h2, h3.lk s⟩, ⟨es, s.lst h4, h5.lk s⟩⟩
/-- the law's log: a tuple of four -/
def LogT (H : Hp) (t : Addr) (g : Lg) : Prop := ∃ i j e, H t = some (.tup [.ref i, .int g.grades, .ref j, .ref e]) ∧ Parts H i j e g
theorem LogT.lk {H H' : Hp} {t : Addr} {g : Lg} (p : LogT H t g) (s : Lk H H') : LogT H' t g := by
  obtain ⟨i, j, e, h, q⟩ := p
  exact ⟨i, j, e, s.tup h, q.lk s⟩
theorem LogT.same {H H' : Hp} {t : Addr} {g : Lg} (p : LogT H t g) (s : Same H H') : LogT H' t g := p.lk (.of s)
/-- a Log's attributes -/
def logF (i : Addr) (g : Int) (j e : Addr) : List (Str × V) := putF "_events" (.ref e) (putF "_judges" (.ref j) (putF "_grades" (.int g) (putF "_items" (.ref i) [])))
section
variable {i j e : Addr} {g : Int}
theorem n1 : ¬ (("_items" : Str) = "_events") := by decide +kernel
theorem n2 : ¬ (("_items" : Str) = "_judges") := by decide +kernel
theorem n3 : ¬ (("_items" : Str) = "_grades") := by decide +kernel
theorem n4 : ¬ (("_grades" : Str) = "_events") := by decide +kernel
theorem n5 : ¬ (("_grades" : Str) = "_judges") := by decide +kernel
theorem n6 : ¬ (("_judges" : Str) = "_events") := by decide +kernel
theorem logF_i : (logF i g j e).lookup ("_items" : Str) = some (.ref i) := by
  unfold logF
  rw [lookup_putF, if_neg n1, lookup_putF, if_neg n2, lookup_putF, if_neg n3, lookup_putF, if_pos rfl]
theorem logF_g : (logF i g j e).lookup ("_grades" : Str) = some (.int g) := by
  unfold logF
  rw [lookup_putF, if_neg n4, lookup_putF, if_neg n5, lookup_putF, if_pos rfl]
theorem logF_j : (logF i g j e).lookup ("_judges" : Str) = some (.ref j) := by
  unfold logF
  rw [lookup_putF, if_neg n6, lookup_putF, if_pos rfl]
theorem logF_e : (logF i g j e).lookup ("_events" : Str) = some (.ref e) := by
  unfold logF
  rw [lookup_putF, if_pos rfl]
theorem logF_no {m : Str} (h1 : ¬ m = "_events") (h2 : ¬ m = "_judges") (h3 : ¬ m = "_grades") (h4 : ¬ m = "_items") : (logF i g j e).lookup m = none := by
  unfold logF
  rw [lookup_putF, if_neg h1, lookup_putF, if_neg h2, lookup_putF, if_neg h3, lookup_putF, if_neg h4]
  rfl
end
/-- a Log object stands at p -/
def LogAt (K : PySem.W.Frag) (H : Hp) (p : Addr) (g : Lg) : Prop := ∃ dx i j e, H p = some (.ins (CL K) dx (logF i g.grades j e)) ∧ Parts H i j e g
theorem LogAt.lk {K : PySem.W.Frag} {H H' : Hp} {p : Addr} {g : Lg} (l : LogAt K H p g) (s : Lk H H') : LogAt K H' p g := by
  obtain ⟨dx, i, j, e, h, q⟩ := l
  exact ⟨dx, i, j, e, s.ins h, q.lk s⟩
theorem LogAt.same {K : PySem.W.Frag} {H H' : Hp} {p : Addr} {g : Lg} (l : LogAt K H p g) (s : Same H H') : LogAt K H' p g := l.lk (.of s)
/-- the event at a place -/
def Lg.at_ (g : Lg) (p : Int) : Option Ev := if 0 ≤ p then g.events[p.toNat]? else none
def Lg.IsAns (g : Lg) (p : Int) : Prop := ∃ j i k, g.at_ p = some (.ans j i k)
/-! ### comprehensions over what a list tells -/
theorem pair_range {α : Type} {R : α → V → Prop} {R' : Nat → V → Prop} {sel : α → Bool} {sel' : Nat → Bool} : ∀ (l : List α) (ys : List V), (∀ i a, l[i]? = some a → sel' i = sel a) → (∀ i a y, l[i]? = some a → R' i y → R a y) →
    Paired R' ((List.range l.length).filter sel') ys → Paired R (l.filter sel) ys := by
  intro l
  -- from the back
  have key : ∀ n, n ≤ l.length → ∀ ys : List V, (∀ i a, l[i]? = some a → sel' i = sel a) → (∀ i a y, l[i]? = some a → R' i y → R a y) → Paired R' ((List.range n).filter sel') ys → Paired R ((l.take n).filter sel) ys := by
    intro n
    induction n with
    | zero =>
      intro _ ys _ _ h
      cases h
      exact .nil
    | succ n ih =>
      intro hn ys h1 h2 h
      have hx : l[n]? = some l[n] := List.getElem?_eq_getElem (by omega)
      have ht : l.take (n + 1) = l.take n ++ [l[n]] := by rw [List.take_succ, hx]; rfl
      rw [range_succ_filter] at h
      rw [ht, List.filter_append]
      have hs := h1 n _ hx
      cases c : sel l[n] with
      | true =>
        rw [c] at hs
        rw [if_pos hs] at h
        have e : [l[n]].filter sel = [l[n]] := by simp [c]
        rw [e]
        -- the last of ys
        have split : ∀ (a : List Nat) (b : Nat) (ys : List V), Paired R' (a ++ [b]) ys → ∃ zs y, ys = zs ++ [y] ∧ Paired R' a zs ∧ R' b y := by
          intro a b
          induction a with
          | nil =>
            intro ys h
            cases h with
            | cons r t =>
              cases t
              exact ⟨[], _, rfl, .nil, r⟩
          | cons x a iha =>
            intro ys h
            cases h with
            | cons r t =>
              obtain ⟨zs, y, e, p, q⟩ := iha _ t
              exact ⟨_ :: zs, y, by rw [e]; rfl, .cons r p, q⟩
        obtain ⟨zs, y, rfl, p, q⟩ := split _ _ _ h
        exact pair_snoc (ih (by omega) zs h1 h2 p) (h2 n _ y hx q)
      | false =>
        rw [c] at hs
        rw [if_neg (by rw [hs]; decide), List.append_nil] at h
        have e : [l[n]].filter sel = [] := by simp [c]
        rw [e, List.append_nil]
        exact ih (by omega) ys h1 h2 h
  intro ys h1 h2 h
  have := key l.length (Nat.le_refl _) ys h1 h2 h
  rwa [List.take_length] at this
section
variable {α : Type} {J : It} {l : List α} {G : Hp → Prop} {Y : Nat → Hp → V → Hp → Prop}
theorem lc_lrel (w : Walk J l.length G Y) {g : TG} {tt : TT} {te : TE} {vs : List Nat} {σ : L2.St} {H1 : Hp} {D : Addr} {Qd : Hp → Prop} (hD : H1 D = none) (hz : l.length ≤ 16000000) (sel : α → Bool) (R : α → V → Hp → Prop)
    (stays : ∀ i y H H', R i y H → (∃ l, H D = some (.lst l)) → SameBut D H H' → R i y H') (hG : ∀ H, Same H1 H → G H)
    (hs : ∀ i x H H' a, l[i]? = some a → Same H1 H → (∃ l, H D = some (.lst l)) → Y i H x H' → ∀ (N : V → Hp → Prop) (Z : Hp → Prop), (sel a = true → ∀ y H4, Same H H4 → R a y H4 → N y H4) → (sel a = false → ∀ H3, Same H H3 → Z H3) →
      g x (wipe σ vs) H' fun σ2 H2 => wipe σ2 vs = wipe σ vs ∧ tt σ2 H2 fun b H3 => if b = true then te σ2 H3 fun y H4 => N y H4 else Z H3)
    (hd : ∀ H ys, Same H1 H → H D = some (.lst ys) → Paired (fun a y => R a y H) (l.filter sel) ys → Qd H) :
    ∃ W : Nat → Nat → Hp → Prop, (∃ m, W 0 m (upd H1 D (.lst []))) ∧ ∀ i m H, W i m H →
      (J.stop i H ∧ Qd H) ∨ (J.go i H ∧ ∃ Nx : Hp → Prop, (∀ H', Nx H' → ∃ m', m' < m ∧ W (i + 1) m' H') ∧ ∀ x H', J.yld i H x H' → g x (wipe σ vs) H' fun σ2 H2 => wipe σ2 vs = wipe σ vs ∧ tt σ2 H2 fun b H3 =>
        if b = true then te σ2 H3 fun y H4 => ∃ acc, H4 D = some (.lst acc) ∧ acc.length < sizeLine ∧ Nx (upd H4 D (.lst (acc ++ [y]))) else Nx H3) := by
  refine lc_rel w hD (small hz) (fun i => match l[i]? with | some a => sel a | none => false) (fun i y H => ∃ a, l[i]? = some a ∧ R a y H) (fun i y H H' ⟨a, e, r⟩ hl sb => ⟨a, e, stays a y H H' r hl sb⟩) hG (fun i x H H' hi s hl hY N Z h1 h2 => ?_) fun H ys s e p => hd H ys s e (pair_range l ys (fun i a h => by show (match l[i]? with | some a => sel a | none => false) = sel a; rw [h]) (fun i a y h ⟨b, e, r⟩ => by
    rw [h] at e
    cases e
    exact r) p)
  have e : l[i]? = some l[i] := List.getElem?_eq_getElem hi
  simp only [e] at h1 h2
  exact hs i x H H' l[i] e s hl hY N Z (fun c y H4 s4 r4 => h1 c y H4 s4 ⟨_, rfl, r4⟩) h2
theorem lc_lst (w : Walk J l.length G Y) {g : TG} {tt : TT} {te : TE} {vs : List Nat} {σ : L2.St} {H1 : Hp} {D : Addr} {Qd : Hp → Prop} (hD : H1 D = none) (hz : l.length ≤ 16000000) (sel : α → Bool) (f : α → V) (hG : ∀ H, Same H1 H → G H)
    (hs : ∀ i x H H' a, l[i]? = some a → Same H1 H → Y i H x H' → ∀ (N : V → Hp → Prop) (Z : Hp → Prop), (sel a = true → ∀ H4, Same H H4 → N (f a) H4) → (sel a = false → ∀ H3, Same H H3 → Z H3) →
      g x (wipe σ vs) H' fun σ2 H2 => wipe σ2 vs = wipe σ vs ∧ tt σ2 H2 fun b H3 => if b = true then te σ2 H3 fun y H4 => N y H4 else Z H3)
    (hd : ∀ H, Same H1 H → H D = some (.lst ((l.filter sel).map f)) → Qd H) :
    ∃ W : Nat → Nat → Hp → Prop, (∃ m, W 0 m (upd H1 D (.lst []))) ∧ ∀ i m H, W i m H →
      (J.stop i H ∧ Qd H) ∨ (J.go i H ∧ ∃ Nx : Hp → Prop, (∀ H', Nx H' → ∃ m', m' < m ∧ W (i + 1) m' H') ∧ ∀ x H', J.yld i H x H' → g x (wipe σ vs) H' fun σ2 H2 => wipe σ2 vs = wipe σ vs ∧ tt σ2 H2 fun b H3 =>
        if b = true then te σ2 H3 fun y H4 => ∃ acc, H4 D = some (.lst acc) ∧ acc.length < sizeLine ∧ Nx (upd H4 D (.lst (acc ++ [y]))) else Nx H3) :=
  lc_lrel w hD hz sel (fun a y _ => y = f a) (fun _ _ _ _ r _ _ => r) hG (fun i x H H' a e s _ hY N Z h1 h2 => hs i x H H' a e s hY N Z (fun c H4 s4 => h1 c _ H4 s4 rfl) h2) fun H ys s e p => hd H s (by rw [e, pair_map p])
end
theorem filter_yes {α : Type} (l : List α) : l.filter (fun _ => true) = l := List.filter_eq_self.mpr fun _ _ => rfl
theorem all_yes (n : Nat) : (List.replicate n true).all id = true := by simp [List.all_replicate]
theorem map_yes {α : Type} (l : List α) : (l.filter fun _ => true).map (fun _ => V.bl true) = (List.replicate l.length true).map V.bl := by
  rw [filter_yes]
  simp [List.map_const']
end RB
end

section
set_option maxRecDepth 100000
set_option maxHeartbeats 4000000
/-! the terms of rules with the written part K told -/
namespace RB
open PySem PySem.Spec PyProof.Rows L2
section
variable (K : PySem.W.Frag) {X : Cx} {a b : Expr} {ta tb : TE} {p pos : Pos}
/-- t[i] -/
theorem pe_it (ha : PE X a ta) (hb : PE X b tb) (hK : X.K = K := by rfl) (hs : PlainIx b := by exact fun _ _ => rfl) : PE X (.Subscript a b pos) (tOp (rIxT K) ta tb) := by
  subst hK
  exact pe_ix ix_tup ha hb hs
/-- xs[i] -/
theorem pe_il (ha : PE X a ta) (hb : PE X b tb) (hK : X.K = K := by rfl) (hs : PlainIx b := by exact fun _ _ => rfl) : PE X (.Subscript a b pos) (tOp (rIxL K) ta tb) := by
  subst hK
  exact pe_ix ix_list ha hb hs
/-- x in xs -/
theorem pe_in (ha : PE X a ta) (hb : PE X b tb) (hK : X.K = K := by rfl) (hm : behindInMarks .In b = false := by rfl) : PE X (.Compare a [.In] [b] pos) (tOp (rIn K false) ta tb) := by
  subst hK
  exact pe_cmpR op_in_seq ha hb hm
theorem pt_in (ha : PE X a ta) (hb : PE X b tb) (hK : X.K = K := by rfl) (hm : behindInMarks .In b = false := by rfl) : PT X (.Compare a [.In] [b] pos) (tTest (tOp (rIn K false) ta tb)) := by
  subst hK
  exact pt_cmpR op_in_seq ha hb hm
theorem pt_notin (ha : PE X a ta) (hb : PE X b tb) (hK : X.K = K := by rfl) (hm : behindInMarks .NotIn b = false := by rfl) : PT X (.Compare a [.NotIn] [b] pos) (tTest (tOp (rIn K true) ta tb)) := by
  subst hK
  exact pt_cmpR op_notIn_seq ha hb hm
def rLenS : List V → Hp → VK → Prop := fun xs H Q => ∃ p ys, xs = [.ref p] ∧ (SqL K H p ys ∨ SqT K H p ys) ∧ Q (.int ys.length) H
/-- len(xs) -/
theorem pe_len (hm : X.mg "len" = none) (ha : PE X a ta) (hK : X.K = K := by rfl) (hg : Gl X "len" := by rfl) (he : starEach [a] X.env = (false, eval a X.env) :: starEach [] X.env := by rfl)
    (hpl : (backTo pos (starEach [] X.env)).any (·.1) = false := by rfl) : PE X (.Call (.Name "len" p) [a] [] pos) (tCB (rLenS K) (tCons ta tNil)) := by
  subst hK
  exact pe_callB call_len_seq hg hm boot_len (pa_cons ha pa_nil he) (he := he) (hpl := hpl)
/-- all(xs), any(xs) -/
theorem pe_all (hm : X.mg "all" = none) (ha : PE X a ta) (hK : X.K = K := by rfl) (hc : X.calm = true := by rfl) (hg : Gl X "all" := by rfl) (he : starEach [a] X.env = (false, eval a X.env) :: starEach [] X.env := by rfl)
    (hpl : (backTo pos (starEach [] X.env)).any (·.1) = false := by rfl) : PE X (.Call (.Name "all" p) [a] [] pos) (tCB (rAll K) (tCons ta tNil)) := by
  subst hK
  exact pe_callB (cr_all hc) hg hm (by decide +kernel) (pa_cons ha pa_nil he) (he := he) (hpl := hpl)
theorem pe_any (hm : X.mg "any" = none) (ha : PE X a ta) (hK : X.K = K := by rfl) (hc : X.calm = true := by rfl) (hg : Gl X "any" := by rfl) (he : starEach [a] X.env = (false, eval a X.env) :: starEach [] X.env := by rfl)
    (hpl : (backTo pos (starEach [] X.env)).any (·.1) = false := by rfl) : PE X (.Call (.Name "any" p) [a] [] pos) (tCB (rAny K) (tCons ta tNil)) := by
  subst hK
  exact pe_callB (cr_any hc) hg hm (by decide +kernel) (pa_cons ha pa_nil he) (he := he) (hpl := hpl)
def rListOf : List V → Hp → VK → Prop := fun xs H Q => ∃ p ys, xs = [.ref p] ∧ (SqL K H p ys ∨ SqT K H p ys) ∧ ∀ l, H l = none → Q (.ref l) (upd H l (.lst ys))
/-- list(xs) -/
theorem pe_listOf (hm : X.mg "list" = none) (ha : PE X a ta) (hK : X.K = K := by rfl) (hg : Gl X "list" := by rfl) (he : starEach [a] X.env = (false, eval a X.env) :: starEach [] X.env := by rfl)
    (hpl : (backTo pos (starEach [] X.env)).any (·.1) = false := by rfl) : PE X (.Call (.Name "list" p) [a] [] pos) (tCB (rListOf K) (tCons ta tNil)) := by
  subst hK
  exact pe_callTy call_list_of hg hm (by decide +kernel) (pa_cons ha pa_nil he) (he := he) (hpl := hpl)
/-- o.f -/
theorem pe_at {f : Str} (ha : PE X a ta) (hK : X.K = K := by rfl) (hb : attributeBase a f X.env (eval a X.env) = eval a X.env := by rfl) : PE X (.Attribute a f pos) (tFld K ta f) := by
  subst hK
  exact pe_fld ha hb
/-- int(x), abs(x), max(x, y) -/
theorem pe_int_ (hm : X.mg "int" = none) (ha : PE X a ta) (hg : Gl X "int" := by rfl) (he : starEach [a] X.env = (false, eval a X.env) :: starEach [] X.env := by rfl)
    (hpl : (backTo pos (starEach [] X.env)).any (·.1) = false := by rfl) : PE X (.Call (.Name "int" p) [a] [] pos) (tCB (fun xs H Q => (∃ i, xs = [.int i] ∧ Q (.int i) H) ∨ ∃ k, xs = [.bl k] ∧ Q (.int (if k then 1 else 0)) H) (tCons ta tNil)) :=
  pe_callTy call_int1 hg hm (by decide +kernel) (pa_cons ha pa_nil he) (he := he) (hpl := hpl)
theorem pe_max2 (hm : X.mg "max" = none) (ha : PE X a ta) (hb : PE X b tb) (hc : X.calm = true := by rfl) (hg : Gl X "max" := by rfl) (he : starEach [a, b] X.env = (false, eval a X.env) :: starEach [b] X.env := by rfl) (he2 : starEach [b] X.env = (false, eval b X.env) :: starEach [] X.env := by rfl)
    (hpl : (backTo pos (starEach [b] X.env)).any (·.1) = false := by rfl) : PE X (.Call (.Name "max" p) [a, b] [] pos) (tCB (fun xs H Q => ∃ i j, xs = [.int i, .int j] ∧ Q (.int (if j > i then j else i)) H) (tCons ta (tCons tb tNil))) :=
  pe_callB (call_max2 hc) hg hm (by decide +kernel) (pa_cons ha (pa_cons hb pa_nil he2) he) (he := he) (hpl := hpl)
end
section
variable {K : PySem.W.Frag} {H : Hp} {Q : VK} {a : Addr} {xs : List V} {v : V}
theorem r_it (h : H a = some (.tup xs)) {i : Int} (e : atI xs i = some v) (q : Q v H) : rIxT K (.ref a) (.int i) H Q := ⟨_, _, _, _, rfl, rfl, SqT.of h, e, q⟩
theorem r_il (h : SqL K H a xs) {i : Nat} (e : xs[i]? = some v) (q : Q v H) : rIxL K (.ref a) (.int i) H Q := ⟨_, _, _, _, rfl, rfl, h, atI_nat e, q⟩
theorem r_lenL (h : SqL K H a xs) (q : Q (.int xs.length) H) : rLenS K [.ref a] H Q := ⟨_, _, rfl, .inl h, q⟩
theorem r_lenT (h : H a = some (.tup xs)) (q : Q (.int xs.length) H) : rLenS K [.ref a] H Q := ⟨_, _, rfl, .inr (SqT.of h), q⟩
end
theorem walkN {K : PySem.W.Frag} {a : Addr} {xs : List V} {n : Nat} (h : xs.length = n) : Walk (Itl K a) n (fun H => SqL K H a xs) (YAt xs) := by
  subst h
  exact walk_list
end RB
end

section
set_option maxRecDepth 100000
set_option maxHeartbeats 4000000
/-! names, drifts, events -/
namespace RB
open PySem PySem.Spec PyProof.Rows L2
variable {P : Program} {w : World} {K : PySem.W.Frag} {mg : Str → Option Value} {base : Heap}
theorem ni {i j : Int} (h : i ≠ j) : ¬ V.int i = V.int j := fun e => h (V.int.inj e)
theorem ns {i j : Str} (h : i ≠ j) : ¬ V.str i = V.str j := fun e => h (V.str.inj e)
def letters : Str := "abcdefghijklmnopqrstuvwxyz0123456789"
def NameOk (z : Str) : Prop := 1 ≤ z.length ∧ z.length ≤ 12 ∧ ∀ c ∈ z.cps.toList, c ∈ letters.cps.toList
theorem nameOk_item : ∀ i ∈ itemNames, NameOk i := by
  unfold NameOk
  decide +kernel
theorem nameOk_judge : ∀ i ∈ judgeNames, NameOk i := by
  unfold NameOk
  decide +kernel
/-- is_name(z): True for what is a name -/
def spName : Sp := fun vs H Q _ => ∃ z : Str, vs = [.str z] ∧ NameOk z ∧ ∀ H', Same H H' → Q (.bl true) H'
theorem sc_is_name : FnScope ["text", "sign"] ["text"] d_is_name.scope := ⟨rfl, rfl, rfl, by decide +kernel, rfl, by decide +kernel, by decide +kernel⟩
theorem ok_is_name (T : Txt K mg) : Kept P w K mg base 1 (He.ga K "is_name") ["text"] spName := by
  refine keep_of (d := d_is_name) T.d_is_name sc_is_name (fun _ _ _ _ _ _ us hl => match us, hl with | [_], _ => rfl) (fun vs H Q E h => ?_) (fun cd A outer s H vs Q E hr h => ?_)
  · obtain ⟨z, rfl, _⟩ := h
    rfl
  · obtain ⟨z, rfl, ⟨h1, h2, h3⟩, k⟩ := h
    refine ⟨_, pss_one (ps_ret (pe_and (pe_chain op_le op_le pe_int (pe_callB call_len_str rfl T.f_len boot_len (pa_cons (pv 0) pa_nil)) pe_int)
      (pe_one (pe_callB (cr_all rfl) rfl T.f_all (by decide +kernel) (pa_cons (pe_lc (own := [("sign", 1)]) (g := gName 1) (tt := tYes) rfl sc_is_name.nd (pi_str (pv 0)) (blkOk_by (own := [("sign", 1)]) (N := ["text", "sign"]) (sc := d_is_name.scope) (by decide +kernel))
        (fun _ _ _ _ _ => pg_name (i := 1) sc_is_name.nd rfl (Or.inl rfl)) (fun _ _ _ _ _ => pts_nil) (fun _ _ _ _ _ => pe_cmpR op_inS (pv 1) (pe_gs T.s_LETTERS rfl) rfl)) pa_nil))))), ?_⟩
    have hz : z.length ≤ sizeLine := small (by omega)
    refine ⟨_, rfl, z, rfl, hz, _, _, rfl, rfl, _, rfl, iteY (by omega) ⟨_, _, rfl, rfl, _, rfl, iteY (by omega) ?_⟩⟩
    refine ⟨_, rfl, z, rfl, fun D hD => lc_val walk_str hD (by show z.length ≤ _; exact hz) (fun _ => true) (fun _ => V.bl true) (fun _ _ => trivial) (fun i x H1 H2 hi s1 hY N Z a _ => ?_) fun H1 s1 e => ?_⟩
    · obtain ⟨rfl, c, hc, rfl⟩ := hY
      refine ⟨rfl, yesT ⟨_, rfl, c, _, rfl, rfl, ?_⟩⟩
      have hm : c ∈ (letters).cps.toList := h3 c (by simpa using Array.mem_of_getElem? hc)
      rw [decide_eq_true (show c ∈ ("abcdefghijklmnopqrstuvwxyz0123456789" : Str).cps.toList from hm)]
      exact a rfl _ (Same.refl _)
    · refine ⟨D, List.replicate z.cps.size true, rfl, SqL.of ?_, ?_⟩
      · rw [e, filter_all]
        simp [List.map_const']
      · have : (List.replicate z.cps.size true).all id = true := by simp [List.all_replicate]
        rw [this]
        exact k _ s1
/-- is_drift(z) -/
def spDrift : Sp := fun vs H Q _ => ∃ z : Str, vs = [.str z] ∧ z ∈ driftNames ∧ ∀ H', Same H H' → Q (.bl true) H'
theorem sc_is_drift : FnScope ["text"] ["text"] d_is_drift.scope := ⟨rfl, rfl, rfl, by decide +kernel, rfl, by decide +kernel, by decide +kernel⟩
theorem ok_is_drift (T : Txt K mg) : Kept P w K mg base 1 (He.ga K "is_drift") ["text"] spDrift := by
  refine keep_of (d := d_is_drift) T.d_is_drift sc_is_drift (fun _ _ _ _ _ _ us hl => match us, hl with | [_], _ => rfl) (fun vs H Q E h => ?_) (fun cd A outer s H vs Q E hr h => ?_)
  · obtain ⟨z, rfl, _⟩ := h
    rfl
  · obtain ⟨z, rfl, h1, k⟩ := h
    refine ⟨_, pss_one (ps_ret (pe_cmpR op_in_seq (pv 0) (pe_tup (pa_cons (pe_gs T.s_RISES rfl) (pa_cons (pe_gs T.s_FALLS rfl) (pa_cons (pe_gs T.s_STAYS rfl) pa_nil)))) rfl)), ?_⟩
    refine ⟨_, rfl, by show 3 ≤ sizeLine; exact small (by omega), fun p hp => ⟨p, driftNames.map V.str, rfl, .inr (SqT.of upd_same), rfl, flat_str _, ?_⟩⟩
    show Q (.bl (inV (.str z) (driftNames.map V.str))) _
    rw [inV_str, decide_eq_true h1]
    exact k _ (same_new hp)
/-- are_names(texts, most) -/
def spNames (K : PySem.W.Frag) : Sp := fun vs H Q _ => ∃ (a : Addr) (xs : List Str) (m : Int), vs = [.ref a, .int m] ∧ SqL K H a (xs.map V.str) ∧ 1 ≤ xs.length ∧ (xs.length : Int) ≤ m ∧ xs.length ≤ 60 ∧ xs.Nodup ∧ (∀ x ∈ xs, NameOk x) ∧ ∀ H', Same H H' → Q (.bl true) H'
theorem sc_are_names : FnScope ["texts", "most", "text"] ["texts", "most"] d_are_names.scope := ⟨rfl, rfl, rfl, by decide +kernel, rfl, by decide +kernel, by decide +kernel⟩
theorem ok_are_names (T : Txt K mg) : Kept P w K mg base 2 (He.ga K "are_names") ["texts", "most"] (spNames K) := by
  refine keep_of (d := d_are_names) T.d_are_names sc_are_names (fun _ _ _ _ _ _ us hl => match us, hl with | [_, _], _ => rfl) (fun vs H Q E h => ?_) (fun cd A outer s H vs Q E hr h => ?_)
  · obtain ⟨a, xs, m, rfl, _⟩ := h
    rfl
  · obtain ⟨a, xs, m, rfl, hS, h1, h2, h60, nd, nm, k⟩ := h
    refine ⟨_, pss_one (ps_ret (pe_and (pe_chain op_le op_le pe_int (pe_callB call_len_seq rfl T.f_len boot_len (pa_cons (pv 0) pa_nil)) (pv 1))
      (pe_and (pe_callB (cr_all rfl) rfl T.f_all (by decide +kernel) (pa_cons (pe_lc (own := [("text", 2)]) (g := gName 2) (tt := tYes) rfl sc_are_names.nd (pi_list (pv 0)) (blkOk_by (own := [("text", 2)]) (N := ["texts", "most", "text"]) (sc := d_are_names.scope) (by decide +kernel))
        (fun _ _ _ _ _ => pg_name (i := 2) sc_are_names.nd rfl (Or.inl rfl)) (fun _ _ _ _ _ => pts_nil) (fun _ _ _ _ _ => pe_f (ok_is_name T) hr (Nat.le_refl _) rfl T.g_is_name (pa_cons (pv 2) pa_nil))) pa_nil))
      (pe_one (pe_cmpR op_eq (pe_lenTexts rfl rfl T.f_len rfl T.f_set (pv 0)) (pe_callB call_len_seq rfl T.f_len boot_len (pa_cons (pv 0) pa_nil)) (nomark _)))))), ?_⟩
    have el : ((xs.map V.str).length : Int) = xs.length := by rw [List.length_map]
    refine ⟨_, rfl, a, _, rfl, .inl hS, _, _, rfl, rfl, _, rfl, iteY (by omega) ⟨_, rfl, _, _, rfl, rfl, _, rfl, iteY (by omega) ?_⟩⟩
    refine ⟨_, rfl, a, rfl, ⟨_, hS⟩, fun D hD => lc_val walk_list hD (by rw [List.length_map]; exact small (by omega)) (fun _ => true) (fun _ => V.bl true) (fun H1 s1 => s1.seq hS) (fun i x H1 H2 hi s1 hY N Z b _ => ?_) fun H1 s1 e => ?_⟩
    · obtain ⟨rfl, hx⟩ := hY
      rw [List.getElem?_map] at hx
      obtain ⟨z, hz, rfl⟩ := Option.map_eq_some_iff.mp hx
      exact ⟨rfl, yesT ⟨_, rfl, z, rfl, nm z (List.mem_of_getElem? hz), fun H' s' => b rfl _ s'⟩⟩
    · refine ⟨D, List.replicate xs.length true, rfl, SqL.of ?_, ?_⟩
      · rw [e, filter_all]
        simp [List.map_const']
      · have : (List.replicate xs.length true).all id = true := by simp [List.all_replicate]
        rw [this]
        refine ⟨_, rfl, iteT ⟨_, rfl, a, xs, rfl, s1.seq hS, nd, h60, _, rfl, a, _, rfl, .inl (s1.seq hS), rfl, ?_⟩⟩
        rw [el, decide_eq_true rfl]
        exact k _ s1
/-- is_event(event, items, grades, judges) -/
def spEvent (K : PySem.W.Frag) : Sp := fun vs H Q _ => ∃ (t i j : Addr) (g : Lg) (e : Ev), vs = [.ref t, .ref i, .int g.grades, .ref j] ∧ H t = some (.tup e.tv) ∧ SqL K H i (g.items.map V.str) ∧ SqL K H j (g.names.map V.str) ∧ g.EvOk e ∧ Q (.bl true) H
theorem sc_is_event : FnScope ["event", "items", "grades", "judges"] ["event", "items", "grades", "judges"] d_is_event.scope := ⟨rfl, rfl, rfl, by decide +kernel, rfl, by decide +kernel, by decide +kernel⟩
theorem ok_is_event (T : Txt K mg) : Kept P w K mg base 1 (He.ga K "is_event") ["event", "items", "grades", "judges"] (spEvent K) := by
  refine keep_of (d := d_is_event) T.d_is_event sc_is_event (fun _ _ _ _ _ _ us hl => match us, hl with | [_, _, _, _], _ => rfl) (fun vs H Q E h => ?_) (fun cd A outer s H vs Q E hr h => ?_)
  · obtain ⟨t, i, j, g, e, rfl, _⟩ := h
    rfl
  · obtain ⟨t, i, j, g, e, rfl, ht, hi, hj, ho, k⟩ := h
    refine ⟨_, pss_cons (ps_if (PW.pt (pw_and (pt_cmpR op_eq (pe_callB call_len_seq rfl T.f_len boot_len (pa_cons (pv 0) pa_nil)) pe_int (nomark _)) (pw_and1 (pt_cmpR op_eq (pe_ix ix_tup (pv 0) pe_int (fun _ _ => rfl)) (pe_gs T.s_RESET rfl) (nomark _)))))
        (pss_one (ps_ret (pe_cmpR op_in_seq (pe_ix ix_tup (pv 0) pe_int (fun _ _ => rfl)) (pv 3) rfl))) pss_nil)
      (pss_cons (ps_if (PW.pt (pw_or (pt_cmpR op_ne (pe_callB call_len_seq rfl T.f_len boot_len (pa_cons (pv 0) pa_nil)) pe_int (nomark _)) (pw_or1 (pt_cmpR op_ne (pe_ix ix_tup (pv 0) pe_int (fun _ _ => rfl)) (pe_gs T.s_ANSWER rfl) (nomark _)))))
        (pss_one (ps_ret pe_bl)) pss_nil)
      (pss_one (ps_ret (pe_and (pe_cmpR op_in_seq (pe_ix ix_tup (pv 0) pe_int (fun _ _ => rfl)) (pv 3) rfl) (pe_and (pe_cmpR op_in_seq (pe_ix ix_tup (pv 0) pe_int (fun _ _ => rfl)) (pv 1) rfl)
        (pe_one (pe_chain op_le op_le pe_int (pe_ix ix_tup (pv 0) pe_int (fun _ _ => rfl)) (pv 2)))))))), ?_⟩
    cases e with
    | rst jn =>
      refine ⟨_, rfl, t, _, rfl, .inr (SqT.of ht), rfl, _, rfl, iteY rfl ⟨_, rfl, t, _, _, _, rfl, rfl, SqT.of ht, rfl, rfl, _, rfl, ?_⟩⟩
      rw [decide_eq_true rfl]
      refine iteT ⟨_, rfl, t, _, _, _, rfl, rfl, SqT.of ht, rfl, _, rfl, j, _, rfl, .inl hj, rfl, flat_str _, ?_⟩
      show Q (.bl (inV (.str jn) (g.names.map V.str))) H
      rw [inV_str, decide_eq_true (show jn ∈ g.names from ho)]
      exact k
    | ans jn im gr =>
      obtain ⟨o1, o2, o3, o4⟩ := ho
      refine ⟨_, rfl, t, _, rfl, .inr (SqT.of ht), rfl, _, rfl, iteN (ni (show (4 : Int) ≠ 2 by decide)) (iteF ?_)⟩
      refine ⟨_, rfl, t, _, rfl, .inr (SqT.of ht), rfl, _, rfl, ?_⟩
      rw [decide_eq_true (show V.int ((Ev.ans jn im gr).tv.length : Int) = V.int 4 from rfl)]
      refine iteF ⟨_, rfl, t, _, _, _, rfl, rfl, SqT.of ht, rfl, rfl, _, rfl, ?_⟩
      rw [decide_eq_true rfl]
      refine iteF ⟨_, rfl, t, _, _, _, rfl, rfl, SqT.of ht, rfl, _, rfl, j, _, rfl, .inl hj, rfl, flat_str _, ?_⟩
      refine ⟨_, rfl, ?_⟩
      rw [if_neg Bool.false_ne_true, inV_str, decide_eq_true o1]
      refine iteT ⟨_, rfl, t, _, _, _, rfl, rfl, SqT.of ht, rfl, _, rfl, i, _, rfl, .inl hi, rfl, flat_str _, ?_⟩
      refine ⟨_, rfl, ?_⟩
      rw [if_neg Bool.false_ne_true, inV_str, decide_eq_true o2]
      refine iteT ⟨_, rfl, t, _, _, _, rfl, rfl, SqT.of ht, rfl, _, _, rfl, rfl, _, rfl, iteY o3 ⟨_, rfl, _, _, rfl, rfl, ?_⟩⟩
      show Q (.bl (decide (gr ≤ g.grades))) H
      rw [decide_eq_true o4]
      exact k
/-- the drifts' names -/
def drS : Dr → Str
  | .rises => "rises"
  | .falls => "falls"
  | .stays => "stays"
/-- is_first(drift, one, other) -/
def spFirst : Sp := fun vs H Q _ => ∃ (d : Dr) (a b : Int), vs = [.str (drS d), .int a, .int b] ∧ Q (.bl (goesD d a b)) H
theorem sc_is_first : FnScope ["drift", "one", "other"] ["drift", "one", "other"] d_is_first.scope := ⟨rfl, rfl, rfl, by decide +kernel, rfl, by decide +kernel, by decide +kernel⟩
theorem s_rs : ¬ V.str ("rises" : Str) = V.str "stays" := ns (by decide +kernel)
theorem s_fs : ¬ V.str ("falls" : Str) = V.str "stays" := ns (by decide +kernel)
theorem s_fr : ¬ V.str ("falls" : Str) = V.str "rises" := ns (by decide +kernel)
theorem ok_is_first (T : Txt K mg) : Kept P w K mg base 1 (He.ga K "is_first") ["drift", "one", "other"] spFirst := by
  refine keep_of (d := d_is_first) T.d_is_first sc_is_first (fun _ _ _ _ _ _ us hl => match us, hl with | [_, _, _], _ => rfl) (fun vs H Q E h => ?_) (fun cd A outer s H vs Q E hr h => ?_)
  · obtain ⟨d, a, b, rfl, _⟩ := h
    rfl
  · obtain ⟨d, a, b, rfl, k⟩ := h
    refine ⟨_, pss_one (ps_ret (pe_or (pe_cmpR op_eq (pv 0) (pe_gs T.s_STAYS rfl) (nomark _)) (pe_one (pe_ifExp (pt_cmpR op_eq (pv 0) (pe_gs T.s_RISES rfl) (nomark _)) (pe_cmpR op_le (pv 1) (pv 2) (nomark _)) (pe_cmpR op_ge (pv 1) (pv 2) (nomark _)))))), ?_⟩
    cases d with
    | stays => exact ⟨_, rfl, rfl, _, rfl, iteY rfl k⟩
    | rises => exact ⟨_, rfl, rfl, _, rfl, iteN s_rs ⟨_, rfl, rfl, _, rfl, iteY rfl ⟨_, rfl, _, rfl, _, _, rfl, rfl, k⟩⟩⟩
    | falls => exact ⟨_, rfl, rfl, _, rfl, iteN s_fs ⟨_, rfl, rfl, _, rfl, iteN s_fr ⟨_, rfl, _, rfl, _, _, rfl, rfl, k⟩⟩⟩
end RB
end

section
set_option maxRecDepth 100000
set_option maxHeartbeats 4000000
/-! the class Log -/
namespace RB
open PySem PySem.Spec PyProof.Rows L2
variable {P : Program} {w : World} {K : PySem.W.Frag} {mg : Str → Option Value} {base : Heap}
theorem kp_new {H H' : Hp} {p q : Addr} {o' : HO} (k : ∀ b o, H b = some o → b ≠ p → H' b = some o) (n : H' q = none) : ∀ b o, H b = some o → b ≠ p → upd H' q o' b = some o := fun b o e hb => by
  rw [upd_ne (ne_of_none (k b o e hb) n)]
  exact k b o e hb
theorem kp_set {H H' : Hp} {p : Addr} {o' : HO} (k : ∀ b o, H b = some o → b ≠ p → H' b = some o) : ∀ b o, H b = some o → b ≠ p → upd H' p o' b = some o := fun b o e hb => by
  rw [upd_ne hb]
  exact k b o e hb
/-- Log(..): the new object's attributes -/
def spLogInit (K : PySem.W.Frag) : Sp := fun vs H Q _ => ∃ (p dx i j e : Addr) (g : Lg), vs = [.ref p, .ref i, .int g.grades, .ref j, .ref e] ∧ H p = some (.ins (CL K) dx []) ∧ Parts H i j e g ∧ g.Ok ∧
  ∀ H', (∀ b o, H b = some o → b ≠ p → H' b = some o) → LogAt K H' p g → Q .non H'
theorem sc_log_init : FnScope ["self", "items", "grades", "judges", "events", "names", "judge", "event"] ["self", "items", "grades", "judges", "events"] d_log_init.scope := ⟨rfl, rfl, rfl, by decide +kernel, rfl, by decide +kernel, by decide +kernel⟩
theorem ok_log_init (T : Txt K mg) : Kept P w K mg base 3 (He.ma K (CL K) "__init__") ["self", "items", "grades", "judges", "events"] (spLogInit K) := by
  refine keep_of (d := d_log_init) T.d_log_init sc_log_init (fun _ _ _ _ _ _ us hl => match us, hl with | [_, _, _, _, _], _ => rfl) (fun vs H Q E h => ?_) (fun cd A outer s H vs Q E hr h => ?_)
  · obtain ⟨p, dx, i, j, e, g, rfl, _⟩ := h
    rfl
  · obtain ⟨p, dx, i, j, e, g, rfl, hp, pa, ok, k⟩ := h
    have hr1 := hr.mono (show 1 ≤ 2 by decide)
    have nd := sc_log_init.nd
    refine ⟨_, pss_cons (ps_if (pt_not (pt_val (pe_all K T.f_all (pe_lc (own := [("judge", 6)]) (g := gName 6) (tt := tYes) rfl nd (pi_list (pv 3))
          (blkOk_by (own := [("judge", 6)]) (N := ["self", "items", "grades", "judges", "events", "names", "judge", "event"]) (sc := d_log_init.scope) (by decide +kernel)) (fun _ _ _ _ _ => pg_name (i := 6) nd rfl (Or.inl rfl)) (fun _ _ _ _ _ => pts_nil)
          (fun _ _ _ _ _ => pe_and (pe_cmpR op_eq (pe_len K T.f_len (pv 6)) pe_int (nomark _)) (pe_one (pe_f (ok_is_drift T) hr1 (Nat.le_refl _) rfl T.g_is_drift (pa_cons (pe_it K (pv 6) pe_int) pa_nil))))))))
        pss_never pss_nil)
      (pss_cons (ps_set (i := 5) nd rfl (Or.inr rfl) (pe_lc (own := [("judge", 6)]) (g := gName 6) (tt := tYes) rfl nd (pi_list (pv 3))
          (blkOk_by (own := [("judge", 6)]) (N := ["self", "items", "grades", "judges", "events", "names", "judge", "event"]) (sc := d_log_init.scope) (by decide +kernel)) (fun _ _ _ _ _ => pg_name (i := 6) nd rfl (Or.inl rfl)) (fun _ _ _ _ _ => pts_nil)
          (fun _ _ _ _ _ => pe_it K (pv 6) pe_int)))
      (pss_cons (ps_if (PW.pt (pw_or (pt_not (pt_val (pe_f (ok_are_names T) hr (Nat.le_refl _) rfl T.g_are_names (pa_cons (pv 1) (pa_cons (pe_gi T.i_MOST_ITEMS rfl) pa_nil)))))
          (pw_or (pt_not (pt_val (pe_f (ok_are_names T) hr (Nat.le_refl _) rfl T.g_are_names (pa_cons (pv 5) (pa_cons (pe_gi T.i_MOST_JUDGES rfl) pa_nil)))))
          (pw_or1 (pt_not (pt_chain op_le op_le pe_int (pv 2) (pe_gi T.i_MOST_GRADE rfl)))))))
        pss_never pss_nil)
      (pss_cons (ps_if (PW.pt (pw_or (pt_cmpR op_gt (pe_len K T.f_len (pv 4)) (pe_gi T.i_MOST_EVENTS rfl) (nomark _))
          (pw_or1 (pt_not (pt_val (pe_all K T.f_all (pe_lc (own := [("event", 7)]) (g := gName 7) (tt := tYes) rfl nd (pi_list (pv 4))
            (blkOk_by (own := [("event", 7)]) (N := ["self", "items", "grades", "judges", "events", "names", "judge", "event"]) (sc := d_log_init.scope) (by decide +kernel)) (fun _ _ _ _ _ => pg_name (i := 7) nd rfl (Or.inl rfl)) (fun _ _ _ _ _ => pts_nil)
            (fun _ _ _ _ _ => pe_f (ok_is_event T) hr1 (Nat.le_refl _) rfl T.g_is_event (pa_cons (pv 7) (pa_cons (pv 1) (pa_cons (pv 2) (pa_cons (pv 5) pa_nil))))))))))))
        pss_never pss_nil)
      (pss_cons (ps_fld (pv 0) (pe_listOf K T.f_list (pv 1)) rfl)
      (pss_cons (ps_fld (pv 0) (pv 2) rfl)
      (pss_cons (ps_fld (pv 0) (pe_listOf K T.f_list (pv 3)) rfl)
      (pss_one (ps_fld (pv 0) (pe_listOf K T.f_list (pv 4)) rfl)))))))), ?_⟩
    obtain ⟨hi, ⟨js, hj, rj⟩, ⟨es, he, re⟩⟩ := pa
    have lj : js.length = g.judges.length := rj.len.symm
    have le : es.length = g.events.length := re.len.symm
    have j2 := ok.j2
    have e9 := ok.e9
    -- all judges are pairs with a drift
    refine ⟨_, rfl, j, rfl, ⟨_, SqL.of hj⟩, fun D1 n1 => lc_lst (l := g.judges) (walkN lj) n1 (by omega) (fun _ => true) (fun _ => V.bl true) (fun H1 s1 => SqL.of (s1 _ _ hj)) (fun i x H1 H2 a ha s1 hY N Z b _ => ?_) fun H1 s1 e1 => ?_⟩
    · obtain ⟨rfl, hx⟩ := hY
      obtain ⟨t, et, ht⟩ := (rj.same s1).get ha
      rw [et] at hx
      cases hx
      refine ⟨rfl, yesT ⟨_, rfl, t, _, rfl, .inr (SqT.of ht), rfl, _, rfl, iteY rfl ⟨_, rfl, t, _, _, _, rfl, rfl, SqT.of ht, rfl, a.2, rfl, ok.jd a (List.mem_of_getElem? ha), fun H' s' => b rfl _ s'⟩⟩⟩
    refine ⟨D1, _, rfl, SqL.of (by rw [e1, map_yes]), _, rfl, ?_⟩
    rw [all_yes]
    refine iteF ?_
    -- the names
    refine ⟨_, rfl, j, rfl, ⟨_, SqL.of (s1 _ _ hj)⟩, fun D2 n2 => lc_lst (l := g.judges) (walkN lj) n2 (by omega) (fun _ => true) (fun p => V.str p.1) (fun H2 s2 => SqL.of (s2 _ _ (s1 _ _ hj))) (fun i x H2 H3 a ha s2 hY N Z b _ => ?_) fun H2 s2 e2 => ?_⟩
    · obtain ⟨rfl, hx⟩ := hY
      obtain ⟨t, et, ht⟩ := (rj.same (Same.trans s1 s2)).get ha
      rw [et] at hx
      cases hx
      exact ⟨rfl, yesT ⟨_, rfl, t, _, _, _, rfl, rfl, SqT.of ht, rfl, b rfl _ (Same.refl _)⟩⟩
    have s02 : Same H H2 := Same.trans s1 s2
    have hn : H2 D2 = some (.lst (g.names.map V.str)) := by
      rw [e2, filter_yes]
      unfold Lg.names
      rw [List.map_map]
      rfl
    have hlen : g.names.length = g.judges.length := List.length_map ..
    -- the sizes, the names, the grades
    have i4 := ok.i4
    have j0 := ok.j0
    have g1 := ok.g1
    have g2 := ok.g2
    refine ⟨_, rfl, i, g.items, 20, rfl, SqL.of (s02 _ _ hi), ok.i0, by omega, by omega, ok.ind, fun x hx => nameOk_item x (ok.inm x hx), fun H3 s3 => ?_⟩
    refine ⟨_, rfl, iteF ⟨_, rfl, D2, g.names, 8, rfl, SqL.of (s3 _ _ hn), by omega, by omega, by omega, ok.jnd, fun x hx => nameOk_judge x (ok.jnm x hx), fun H4 s4 => ?_⟩⟩
    refine ⟨_, rfl, iteF ⟨_, rfl, _, _, rfl, rfl, _, rfl, iteY g1 ⟨_, _, rfl, rfl, _, rfl, ?_⟩⟩⟩
    rw [decide_eq_true (show g.grades ≤ 9 by omega)]
    refine iteF ?_
    have s04 : Same H H4 := Same.trans s02 (Same.trans s3 s4)
    -- the events
    refine ⟨_, rfl, e, _, rfl, .inl (SqL.of (s04 _ _ he)), _, _, rfl, rfl, _, rfl, iteN (by omega) ?_⟩
    refine ⟨_, rfl, e, rfl, ⟨_, SqL.of (s04 _ _ he)⟩, fun D5 n5 => lc_lst (l := g.events) (walkN le) n5 (by omega) (fun _ => true) (fun _ => V.bl true) (fun H5 s5 => SqL.of (s5 _ _ (s04 _ _ he))) (fun i' x H5 H6 a ha s5 hY N Z b _ => ?_) fun H5 s5 e5 => ?_⟩
    · obtain ⟨rfl, hx⟩ := hY
      have s05 := Same.trans s04 s5
      obtain ⟨t, et, ht⟩ := (re.same s05).get ha
      rw [et] at hx
      cases hx
      exact ⟨rfl, yesT ⟨_, rfl, _, rfl, _, rfl, _, rfl, t, i, D2, g, a, rfl, ht, SqL.of (s05 _ _ hi), SqL.of (s5 _ _ (s4 _ _ (s3 _ _ hn))), ok.ev a (List.mem_of_getElem? ha), b rfl _ (Same.refl _)⟩⟩
    refine ⟨D5, _, rfl, SqL.of (by rw [e5, map_yes]), _, rfl, ?_⟩
    rw [all_yes]
    refine iteF ?_
    have s05 : Same H H5 := Same.trans s04 s5
    -- the four attributes
    have ij : j ≠ p := fun z => by
      rw [z, hp] at hj
      cases hj
    have ep : e ≠ p := fun z => by
      rw [z, hp] at he
      cases he
    refine ⟨_, rfl, i, _, rfl, .inl (SqL.of (s05 _ _ hi)), fun i' ni => ⟨_, rfl, p, CL K, dx, [], rfl, ?_⟩⟩
    have pi' : p ≠ i' := ne_of_none (s05 _ _ hp) ni
    refine ⟨by rw [upd_ne pi']; exact s05 _ _ hp, T.c_Log, T.n_Log_items, (by show 0 < 1000; decide), ?_⟩
    refine ⟨_, rfl, _, rfl, p, CL K, dx, _, rfl, upd_same, T.c_Log, T.n_Log_grades, (by show 1 < 1000; decide), ?_⟩
    have k5 : ∀ b o, H b = some o → b ≠ p → H5 b = some o := fun b o q _ => s05 b o q
    have k7 := kp_set (o' := .ins (CL K) dx (putF "_grades" (.int g.grades) (putF "_items" (.ref i') []))) (kp_set (o' := .ins (CL K) dx (putF "_items" (.ref i') [])) (kp_new (o' := .lst (g.items.map V.str)) k5 ni))
    refine ⟨_, rfl, j, _, rfl, .inl (SqL.of (k7 _ _ hj ij)), fun j' nj => ⟨_, rfl, p, CL K, dx, putF "_grades" (.int g.grades) (putF "_items" (.ref i') []), rfl, ?_⟩⟩
    have pj' : p ≠ j' := fun z => by
      rw [← z, upd_same] at nj
      cases nj
    refine ⟨by rw [upd_ne pj']; exact upd_same, T.c_Log, T.n_Log_judges, (by show (putF _ _ _).length < 1000; exact Nat.lt_of_le_of_lt (length_putF _ _ _) (by show 1 + 1 < 1000; decide)), ?_⟩
    have k9 := kp_set (o' := .ins (CL K) dx (putF "_judges" (.ref j') (putF "_grades" (.int g.grades) (putF "_items" (.ref i') [])))) (kp_new (o' := .lst js) k7 nj)
    refine ⟨_, rfl, e, _, rfl, .inl (SqL.of (k9 _ _ he ep)), fun e' ne => ⟨_, rfl, p, CL K, dx, putF "_judges" (.ref j') (putF "_grades" (.int g.grades) (putF "_items" (.ref i') [])), rfl, ?_⟩⟩
    have pe' : p ≠ e' := fun z => by
      rw [← z, upd_same] at ne
      cases ne
    refine ⟨by rw [upd_ne pe']; exact upd_same, T.c_Log, T.n_Log_events, (by show (putF _ _ _).length < 1000; exact Nat.lt_of_le_of_lt (length_putF _ _ _) (Nat.lt_of_le_of_lt (Nat.add_le_add_right (length_putF _ _ _) 1) (by show 1 + 1 + 1 < 1000; decide))), ?_⟩
    have k11 := kp_set (o' := .ins (CL K) dx (logF i' g.grades j' e')) (kp_new (o' := .lst es) k9 ne)
    have tp : ∀ {b : Addr} {xs : List V}, H b = some (.tup xs) → b ≠ p := fun {b xs} q z => by
      rw [z, hp] at q
      cases q
    have q7 : ∀ o1 o2 o3, upd (upd (upd H5 i' o1) p o2) p o3 i' = some o1 := fun o1 o2 o3 => by rw [upd_ne pi'.symm, upd_ne pi'.symm, upd_same]
    have nij : i' ≠ j' := ne_of_none (q7 _ _ _) nj
    have q9 : ∀ o1 o2 o3 o4 o5, upd (upd (upd (upd (upd H5 i' o1) p o2) p o3) j' o4) p o5 i' = some o1 := fun o1 o2 o3 o4 o5 => by rw [upd_ne pi'.symm, upd_ne nij, q7]
    have nie : i' ≠ e' := ne_of_none (q9 _ _ _ _ _) ne
    have nje : j' ≠ e' := fun z => by
      rw [← z, upd_ne pj'.symm, upd_same] at ne
      cases ne
    refine k _ k11 ⟨dx, i', j', e', upd_same, ⟨?_, ⟨js, ?_, Paired.mapP rj fun x v ⟨a, ea, q⟩ => ⟨a, ea, k11 _ _ q (tp q)⟩⟩, ⟨es, ?_, Paired.mapP re fun x v ⟨a, ea, q⟩ => ⟨a, ea, k11 _ _ q (tp q)⟩⟩⟩⟩
    · rw [upd_ne pi'.symm, upd_ne nie, q9]
    · rw [upd_ne pj'.symm, upd_ne nje, upd_ne pj'.symm, upd_same]
    · rw [upd_ne pe'.symm, upd_same]
end RB
end

section
set_option maxRecDepth 100000
set_option maxHeartbeats 4000000
/-! a log's properties and methods; the checks -/
namespace RB
open PySem PySem.Spec PyProof.Rows L2
variable {P : Program} {w : World} {K : PySem.W.Frag} {mg : Str → Option Value} {base : Heap}
/-! ### properties -/
abbrev Bp (P : Program) (w : World) (K : PySem.W.Frag) (mg : Str → Option Value) (base : Heap) (f qual : Str) (st : Stmt) (cd : Value) (A : Around) (outer : List Env) (s : Shared) (H : Hp) (E : XK) : Cx :=
  (cxOf CX0 P w K mg base ["self"] qual (defScope st) (gAd K f) cd A outer s H E).nox
theorem keep_prop (T : Txt K mg) (i : Nat) {f qual : Str} {st : Stmt} {k : Nat} {sp : Sp} (h : props[i]? = some (f, qual, st)) (S : FnScope ["self"] ["self"] (defScope st))
    (pl : ∀ (kV doc pm : Value) (an : Option Addr) (cd ct : Value) (us : List Value), us.length = 1 → bindArgs (PySem.W.fnOf f qual (defArgs st) (defBody st) (defScope st) .none kV doc pm an cd ct) ⟨us, []⟩ = pure ((["self"] : List Str).zip us))
    (len : ∀ vs H Q E, sp vs H Q E → vs.length = 1)
    (hb : ∀ (cd : Value) (A : Around) (outer : List Env) (s : Shared) (H : Hp) (vs : List V) (Q : VK) (E : XK), Room k (Bp P w K mg base f qual st cd A outer s H E).A → sp vs H Q E →
      ∃ t, PSs (Bp P w K mg base f qual st cd A outer s H E) (defBody st) t ∧ t { nx := fun _ H' => Q .non H', rt := Q } (start ["self"] vs) H) : Kept P w K mg base (k + 1) (gAd K f) ["self"] sp := by
  obtain ⟨_, kp, oc, od, kV, doc, pm, an, cd, ct, osl, lk, hcd⟩ := T.prop i h
  refine ⟨_, fn_of lk hcd S len fun A outer s H vs Q E hr h => ?_, Binds.all fun us hl => pl kV doc pm an cd ct us hl, kp⟩
  obtain ⟨t, h1, h2⟩ := hb cd A outer s H vs Q E hr h
  exact ⟨t, PSs.nox h1, h2⟩
/-- o.f, f a property of Log -/
theorem pe_p {X : Cx} {k j : Nat} {e : Expr} {f qual : Str} {st : Stmt} {pos : Pos} {ta : TE} {sp : Sp} (T : Txt X.K X.mg) (i : Nat) (h : props[i]? = some (f, qual, st)) (G : Kept X.prog X.w X.K X.mg X.base k (gAd X.K f) ["self"] sp) (he : PE X e ta) (hr : Room j X.A) (hj : k + 1 ≤ j)
    (hab : attributeBase e f X.env (eval e X.env) = eval e X.env := by rfl) : PE X (.Attribute e f pos) (tProp (CL X.K) sp [] E0 ta) := by
  obtain ⟨fd, F, b, kp⟩ := G.ex
  exact pe_prop he T.c_Log (T.prop i h).1 F (hr.mono hj) b .nil pass0 hab
theorem scp1 : FnScope ["self"] ["self"] (defScope log_s_item_names) := ⟨rfl, rfl, rfl, by decide +kernel, rfl, by decide +kernel, by decide +kernel⟩
theorem scp2 : FnScope ["self"] ["self"] (defScope log_s_grades) := ⟨rfl, rfl, rfl, by decide +kernel, rfl, by decide +kernel, by decide +kernel⟩
theorem scp3 : FnScope ["self"] ["self"] (defScope log_s_judges) := ⟨rfl, rfl, rfl, by decide +kernel, rfl, by decide +kernel, by decide +kernel⟩
theorem scp4 : FnScope ["self"] ["self"] (defScope log_s_events) := ⟨rfl, rfl, rfl, by decide +kernel, rfl, by decide +kernel, by decide +kernel⟩
def spItems (K : PySem.W.Frag) : Sp := fun vs H Q _ => ∃ (p : Addr) (g : Lg), vs = [.ref p] ∧ LogAt K H p g ∧ ∀ a H', Same H H' → H' a = some (.lst (g.items.map V.str)) → Q (.ref a) H'
def spGrades (K : PySem.W.Frag) : Sp := fun vs H Q _ => ∃ (p : Addr) (g : Lg), vs = [.ref p] ∧ LogAt K H p g ∧ Q (.int g.grades) H
def spJudges (K : PySem.W.Frag) : Sp := fun vs H Q _ => ∃ (p : Addr) (g : Lg), vs = [.ref p] ∧ LogAt K H p g ∧ ∀ a H' js, Same H H' → H' a = some (.lst js) → Refs H' jv g.judges js → Q (.ref a) H'
def spEvents (K : PySem.W.Frag) : Sp := fun vs H Q _ => ∃ (p : Addr) (g : Lg), vs = [.ref p] ∧ LogAt K H p g ∧ ∀ a H' es, Same H H' → H' a = some (.lst es) → Refs H' Ev.tv g.events es → Q (.ref a) H'
theorem ok_items (T : Txt K mg) : Kept P w K mg base 1 (gAd K "item_names") ["self"] (spItems K) := by
  refine keep_prop T 0 rfl scp1 (fun _ _ _ _ _ _ us hl => match us, hl with | [_], _ => rfl) (fun vs H Q E h => ?_) (fun cd A outer s H vs Q E hr h => ?_)
  · obtain ⟨p, g, rfl, _⟩ := h
    rfl
  · obtain ⟨p, g, rfl, ⟨dx, i, j, e, hp, pa⟩, k⟩ := h
    refine ⟨_, pss_one (ps_ret (pe_listOf K T.f_list (pe_at K (pv 0)))), ?_⟩
    exact ⟨_, rfl, p, CL K, dx, _, _, rfl, hp, T.c_Log, T.n_Log_items, logF_i, i, _, rfl, .inl (SqL.of pa.it), fun a na => k a _ (same_new na) upd_same⟩
theorem ok_grades (T : Txt K mg) : Kept P w K mg base 1 (gAd K "grades") ["self"] (spGrades K) := by
  refine keep_prop T 1 rfl scp2 (fun _ _ _ _ _ _ us hl => match us, hl with | [_], _ => rfl) (fun vs H Q E h => ?_) (fun cd A outer s H vs Q E hr h => ?_)
  · obtain ⟨p, g, rfl, _⟩ := h
    rfl
  · obtain ⟨p, g, rfl, ⟨dx, i, j, e, hp, pa⟩, k⟩ := h
    refine ⟨_, pss_one (ps_ret (pe_at K (pv 0))), ?_⟩
    exact ⟨_, rfl, p, CL K, dx, _, _, rfl, hp, T.c_Log, T.n_Log_grades, logF_g, k⟩
theorem ok_judges (T : Txt K mg) : Kept P w K mg base 1 (gAd K "judges") ["self"] (spJudges K) := by
  refine keep_prop T 2 rfl scp3 (fun _ _ _ _ _ _ us hl => match us, hl with | [_], _ => rfl) (fun vs H Q E h => ?_) (fun cd A outer s H vs Q E hr h => ?_)
  · obtain ⟨p, g, rfl, _⟩ := h
    rfl
  · obtain ⟨p, g, rfl, ⟨dx, i, j, e, hp, pa⟩, k⟩ := h
    obtain ⟨js, hj, rj⟩ := pa.ju
    refine ⟨_, pss_one (ps_ret (pe_listOf K T.f_list (pe_at K (pv 0)))), ?_⟩
    exact ⟨_, rfl, p, CL K, dx, _, _, rfl, hp, T.c_Log, T.n_Log_judges, logF_j, j, _, rfl, .inl (SqL.of hj), fun a na => k a _ js (same_new na) upd_same (rj.same (same_new na))⟩
theorem ok_events (T : Txt K mg) : Kept P w K mg base 1 (gAd K "events") ["self"] (spEvents K) := by
  refine keep_prop T 3 rfl scp4 (fun _ _ _ _ _ _ us hl => match us, hl with | [_], _ => rfl) (fun vs H Q E h => ?_) (fun cd A outer s H vs Q E hr h => ?_)
  · obtain ⟨p, g, rfl, _⟩ := h
    rfl
  · obtain ⟨p, g, rfl, ⟨dx, i, j, e, hp, pa⟩, k⟩ := h
    obtain ⟨es, he, re⟩ := pa.ev
    refine ⟨_, pss_one (ps_ret (pe_listOf K T.f_list (pe_at K (pv 0)))), ?_⟩
    exact ⟨_, rfl, p, CL K, dx, _, _, rfl, hp, T.c_Log, T.n_Log_events, logF_e, e, _, rfl, .inl (SqL.of he), fun a na => k a _ es (same_new na) upd_same (re.same (same_new na))⟩
/-! ### drift_of, is_answer -/
def spDriftOf (K : PySem.W.Frag) : Sp := fun vs H Q _ => ∃ (p : Addr) (g : Lg) (j : Str), vs = [.ref p, .str j] ∧ LogAt K H p g ∧ j ∈ g.names ∧ ∀ d, Q (.str d) H
theorem sc_drift_of : FnScope ["self", "judge", "name", "drift"] ["self", "judge"] d_log_drift_of.scope := ⟨rfl, rfl, rfl, by decide +kernel, rfl, by decide +kernel, by decide +kernel⟩
theorem ok_drift_of (T : Txt K mg) : Kept P w K mg base 1 (He.ma K (CL K) "drift_of") ["self", "judge"] (spDriftOf K) := by
  refine keep_of (d := d_log_drift_of) T.d_log_drift_of sc_drift_of (fun _ _ _ _ _ _ us hl => match us, hl with | [_, _], _ => rfl) (fun vs H Q E h => ?_) (fun cd A outer s H vs Q E hr h => ?_)
  · obtain ⟨p, g, j, rfl, _⟩ := h
    rfl
  · obtain ⟨p, g, jn, rfl, ⟨dx, i, j, e, hp, pa⟩, hm, k⟩ := h
    obtain ⟨js, hj, rj⟩ := pa.ju
    have nd := sc_drift_of.nd
    refine ⟨_, pss_cons (ps_for PassesOwn.never rfl (pi_list (pe_at K (pv 0))) (pg_tup rfl (pgs_cons (pg_name (i := 2) nd rfl (.inl rfl)) (pgs_cons (pg_name (i := 3) nd rfl (.inl rfl)) pgs_nil)))
        (pss_one (ps_if (pt_cmpR op_eq (pv 2) (pv 1) (nomark _)) (pss_one (ps_ret (pv 3))) pss_nil)))
      pss_never, ?_⟩
    refine ⟨_, rfl, p, CL K, dx, _, _, rfl, hp, T.c_Log, T.n_Log_judges, logF_j, j, rfl, ⟨_, SqL.of hj⟩, ?_⟩
    refine for_list (K := K) (a := j) (xs := js) (fun n σ H' => H' = H ∧ (∃ v2 v3, σ = [some (.ref p), some (.str jn), v2, v3]) ∧ jn ∉ g.names.take n) ⟨rfl, ⟨_, _, rfl⟩, by simp⟩ (fun n σ H' _ h => h.1 ▸ SqL.of hj) ?_ ?_
    · rintro n x σ H' hx ⟨rfl, ⟨v2, v3, rfl⟩, hn⟩
      obtain ⟨q, a, hq, rfl, ha⟩ := rj.back hx
      refine ⟨a, _, rfl, SqT.of ha, rfl, _, _, rfl, _, _, rfl, rfl, _, rfl, _, rfl, rfl, _, rfl, ?_⟩
      have hq2 : g.names[n]? = some q.1 := by
        unfold Lg.names
        rw [List.getElem?_map, hq]
        rfl
      refine iteD (fun c => ?_) (fun c => ?_)
      · exact ⟨_, rfl, k _⟩
      · refine ⟨rfl, ⟨_, _, rfl⟩, ?_⟩
        rw [List.take_succ, hq2]
        intro hm2
        rcases List.mem_append.mp hm2 with h | h
        · exact hn h
        · have e : jn = q.1 := by simpa using h
          exact c (by rw [e])
    · rintro σ H' ⟨rfl, ⟨v2, v3, rfl⟩, hn⟩
      rw [← rj.len, show g.judges.length = g.names.length from (List.length_map ..).symm, List.take_length] at hn
      exact hn hm
def spIsAns (K : PySem.W.Frag) : Sp := fun vs H Q _ => ∃ (p : Addr) (g : Lg) (n : Int), vs = [.ref p, .int n] ∧ LogAt K H p g ∧ g.IsAns n ∧ Q (.bl true) H
theorem sc_is_answer : FnScope ["self", "place"] ["self", "place"] d_log_is_answer.scope := ⟨rfl, rfl, rfl, by decide +kernel, rfl, by decide +kernel, by decide +kernel⟩
theorem ok_is_answer (T : Txt K mg) : Kept P w K mg base 1 (He.ma K (CL K) "is_answer") ["self", "place"] (spIsAns K) := by
  refine keep_of (d := d_log_is_answer) T.d_log_is_answer sc_is_answer (fun _ _ _ _ _ _ us hl => match us, hl with | [_, _], _ => rfl) (fun vs H Q E h => ?_) (fun cd A outer s H vs Q E hr h => ?_)
  · obtain ⟨p, g, j, rfl, _⟩ := h
    rfl
  · obtain ⟨p, g, n, rfl, ⟨dx, i, j, e, hp, pa⟩, ⟨jn, im, kn, hn⟩, k⟩ := h
    obtain ⟨es, he, re⟩ := pa.ev
    refine ⟨_, pss_one (ps_ret (pe_and (pe_chain op_le op_lt pe_int (pv 1) (pe_len K T.f_len (pe_at K (pv 0)))) (pe_one (pe_cmpR op_eq (pe_it K (pe_il K (pe_at K (pv 0)) (pv 1)) pe_int) (pe_gs T.s_ANSWER rfl) (nomark _))))), ?_⟩
    unfold Lg.at_ at hn
    split at hn
    · rename_i h0
      obtain ⟨a, ea, ha⟩ := re.get hn
      have hlt : n.toNat < es.length := (List.getElem?_eq_some_iff.mp ea).1
      have en : n = (n.toNat : Int) := by omega
      refine ⟨_, rfl, _, _, rfl, rfl, _, rfl, iteY h0 ⟨_, rfl, p, CL K, dx, _, _, rfl, hp, T.c_Log, T.n_Log_events, logF_e, e, _, rfl, .inl (SqL.of he), _, _, rfl, rfl, _, rfl, iteY (by omega) ?_⟩⟩
      refine ⟨_, rfl, p, CL K, dx, _, _, rfl, hp, T.c_Log, T.n_Log_events, logF_e, _, rfl, ?_⟩
      rw [en]
      refine ⟨_, _, _, _, rfl, rfl, SqL.of he, atI_nat ea, _, _, _, _, rfl, rfl, SqT.of ha, rfl, rfl, ?_⟩
      rw [decide_eq_true rfl]
      exact k
    · cases hn
/-! ### the checks -/
/-- check_drifts(log, drifts) -/
def spChkD (K : PySem.W.Frag) : Sp := fun vs H Q _ => ∃ (p d : Addr) (g : Lg) (ks : List Str) (f : Str → Str), vs = [.ref p, .ref d] ∧ LogAt K H p g ∧ H d = some (.dK (dS ks fun k => .str (f k))) ∧ (∀ k ∈ ks, k ∈ g.names ∧ f k ∈ driftNames) ∧ ks.length ≤ 60 ∧ ∀ H', Same H H' → Q .non H'
theorem sc_check_drifts : FnScope ["log", "drifts", "judge", "drift"] ["log", "drifts"] d_check_drifts.scope := ⟨rfl, rfl, rfl, by decide +kernel, rfl, by decide +kernel, by decide +kernel⟩
theorem ok_check_drifts (T : Txt K mg) : Kept P w K mg base 2 (He.ga K "check_drifts") ["log", "drifts"] (spChkD K) := by
  refine keep_of (d := d_check_drifts) T.d_check_drifts sc_check_drifts (fun _ _ _ _ _ _ us hl => match us, hl with | [_, _], _ => rfl) (fun vs H Q E h => ?_) (fun cd A outer s H vs Q E hr h => ?_)
  · obtain ⟨p, d, g, ks, f, rfl, _⟩ := h
    rfl
  · obtain ⟨p, d, g, ks, f, rfl, hp, hd, hk, hz, k⟩ := h
    have nd := sc_check_drifts.nd
    refine ⟨_, pss_cons (ps_for PassesOwn.never rfl (pi_list (pe_callB (call_sortedD rfl) rfl T.f_sorted (by decide +kernel) (pa_cons (pv 1) pa_nil))) (pg_name (i := 2) nd rfl (.inl rfl))
        (pss_one (ps_expr (pe_m (pv 0) T.c_Log T.m_Log_drift_of (ok_drift_of T) hr (Nat.le_refl _) (pa_cons (pv 2) pa_nil)))))
      (pss_one (ps_if (pt_not (pt_val (pe_all K T.f_all (pe_lock (pe_lc (own := [("drift", 3)]) (g := gName 3) (tt := tYes) rfl nd (pi_values (pv 1))
          (blkOk_by (own := [("drift", 3)]) (N := ["log", "drifts", "judge", "drift"]) (sc := d_check_drifts.scope) (by decide +kernel)) (fun _ _ _ _ _ => pg_name (i := 3) nd rfl (.inl rfl)) (fun _ _ _ _ _ => pts_nil)
          (fun _ _ _ _ _ => pe_f (ok_is_drift T) hr (Nat.le_refl _) rfl T.g_is_drift (pa_cons (pv 3) pa_nil)))))))
        pss_never pss_nil)), ?_⟩
    refine ⟨_, rfl, d, _, ks, rfl, .inl hd, dG_keys _ _ _, by omega, fun ys a hperm _ na => ⟨a, rfl, ⟨_, SqL.of upd_same⟩, ?_⟩⟩
    refine for_list (K := K) (a := a) (xs := ys.map V.str) (fun n σ H' => Same (upd H a (.lst (ys.map V.str))) H' ∧ ∃ v2, σ = [some (.ref p), some (.ref d), v2, none]) ⟨Same.refl _, _, rfl⟩ (fun n σ H' _ h => SqL.of (h.1 _ _ upd_same)) ?_ ?_
    · rintro n x σ H' hx ⟨s1, v2, rfl⟩
      rw [List.getElem?_map] at hx
      obtain ⟨y, hy, rfl⟩ := Option.map_eq_some_iff.mp hx
      have hlog := hp.same (Same.trans (same_new na) s1)
      have hy2 := (hk y (hperm.mem_iff.mp (List.mem_of_getElem? hy))).1
      obtain ⟨dx, i, j, e, hp1, pa⟩ := id hlog
      exact ⟨_, rfl, p, dx, _, rfl, hp1, logF_no (by decide +kernel) (by decide +kernel) (by decide +kernel) (by decide +kernel), _, rfl, p, g, y, rfl, hlog, hy2, fun d' => ⟨s1, _, rfl⟩⟩
    · rintro σ H' ⟨s1, v2, rfl⟩
      have s2 : Same H H' := Same.trans (same_new na) s1
      have hd' := s2 _ _ hd
      refine ⟨d, _, hd', trivial, fun od => ⟨_, rfl, d, od, _, rfl, upd_same, fun D nD => ?_⟩⟩
      refine lc_lst (l := ks) (Walk.mono (by rw [show ks.length = (dS ks fun k => V.str (f k)).length from (dG_length ..).symm]; exact walk_values) (fun _ h => h) fun _ _ _ _ _ _ h => h) nD (by omega) (fun _ => true) (fun _ => V.bl true) (fun H1 s3 => s3 _ _ upd_same) (fun i x H1 H2 a ha s3 hY N Z b _ => ?_) fun H1 s3 e1 => ?_
      · obtain ⟨rfl, k', hx⟩ := hY
        rw [dG_get?, ha] at hx
        cases hx
        exact ⟨rfl, yesT ⟨_, rfl, f a, rfl, (hk a (List.mem_of_getElem? ha)).2, fun H' s' => b rfl _ s'⟩⟩
      · obtain ⟨u1, u2⟩ := unlock hd' s3
        have nDd : D ≠ d := fun z => by
          rw [z, upd_same] at nD
          cases nD
        refine ⟨u1, D, _, rfl, SqL.of (by rw [upd_ne nDd, e1, map_yes]), _, rfl, ?_⟩
        rw [all_yes]
        exact iteF (k _ (Same.trans s2 u2))
/-- check_answers(log, places) -/
def spChkA (K : PySem.W.Frag) : Sp := fun vs H Q _ => ∃ (p a : Addr) (g : Lg) (ns : List Int), vs = [.ref p, .ref a] ∧ LogAt K H p g ∧ H a = some (.lst (ns.map V.int)) ∧ (∀ n ∈ ns, g.IsAns n) ∧ ∀ H', Same H H' → Q .non H'
theorem sc_check_answers : FnScope ["log", "places", "place"] ["log", "places"] d_check_answers.scope := ⟨rfl, rfl, rfl, by decide +kernel, rfl, by decide +kernel, by decide +kernel⟩
theorem ok_check_answers (T : Txt K mg) : Kept P w K mg base 2 (He.ga K "check_answers") ["log", "places"] (spChkA K) := by
  refine keep_of (d := d_check_answers) T.d_check_answers sc_check_answers (fun _ _ _ _ _ _ us hl => match us, hl with | [_, _], _ => rfl) (fun vs H Q E h => ?_) (fun cd A outer s H vs Q E hr h => ?_)
  · obtain ⟨p, d, g, ks, rfl, _⟩ := h
    rfl
  · obtain ⟨p, a, g, ns, rfl, hp, ha, hn, k⟩ := h
    have nd := sc_check_answers.nd
    refine ⟨_, pss_one (ps_for PassesOwn.never rfl (pi_list (pv 1)) (pg_name (i := 2) nd rfl (.inl rfl))
        (pss_one (ps_if (pt_not (pt_val (pe_m (pv 0) T.c_Log T.m_Log_is_answer (ok_is_answer T) hr (Nat.le_refl _) (pa_cons (pv 2) pa_nil)))) pss_never pss_nil))), ?_⟩
    refine ⟨_, rfl, a, rfl, ⟨_, SqL.of ha⟩, ?_⟩
    refine for_list (K := K) (a := a) (xs := ns.map V.int) (fun n σ H' => H' = H ∧ ∃ v2, σ = [some (.ref p), some (.ref a), v2]) ⟨rfl, _, rfl⟩ (fun n σ H' _ h => h.1 ▸ SqL.of ha) ?_ ?_
    · rintro n x σ H' hx ⟨rfl, v2, rfl⟩
      rw [List.getElem?_map] at hx
      obtain ⟨y, hy, rfl⟩ := Option.map_eq_some_iff.mp hx
      obtain ⟨dx, i, j, e, hp1, pa⟩ := id hp
      exact ⟨_, rfl, p, dx, _, rfl, hp1, logF_no (by decide +kernel) (by decide +kernel) (by decide +kernel) (by decide +kernel), _, rfl, p, g, y, rfl, hp, hn y (List.mem_of_getElem? hy), _, rfl, iteF ⟨rfl, _, rfl⟩⟩
    · rintro σ H' ⟨rfl, v2, rfl⟩
      exact k _ (Same.refl _)
end RB
end

section
set_option maxRecDepth 100000
set_option maxHeartbeats 4000000
/-! the edges; nearest -/
namespace RB
open PySem PySem.Spec PyProof.Rows L2
variable {P : Program} {w : World} {K : PySem.W.Frag} {mg : Str → Option Value} {base : Heap}
/-- xs.append(e), the written part told -/
theorem ps_app (K : PySem.W.Frag) {X : Cx} {o e : Expr} {to te : TE} {apos cpos spos : Pos} (ho : PE X o to) (he : PE X e te) (hK : X.K = K := by rfl) (hbase : attributeBase o "append" X.env (eval o X.env) = eval o X.env := by rfl)
    (hfew : ((backTo cpos (starEach [e] X.env)).all (fun x => !x.1) && (backToKw cpos (keywordEach [] X.env)).all (fun x => x.1.isSome)
      && decide (([e] : List Expr).length + ([] : List Keyword).length + (if ([] : List Keyword).isEmpty then 0 else 1) < 30)) = true := by rfl)
    (hline : (apos.endLine == cpos.line) = true := by rfl) (hs : starEach [e] X.env = (false, eval e X.env) :: starEach [] X.env := by rfl) (hplain : (backTo cpos (starEach [] X.env)).any (·.1) = false := by rfl)
    (hsw : swapsWith (.Call (.Attribute o "append" apos) [e] [] cpos) none spos.line X.env = pure false := by rfl) :
    PS X (.Expr (.Call (.Attribute o "append" apos) [e] [] cpos) spos) (tDrop (tBM K "list" rAppend to (tCons te tNil))) := by
  subst hK
  exact ps_expr (pe_bm PySem.F.plainAttrs_list PySem.F.slot_list_append PySem.F.type_list_append mt_append ho (pa_cons he pa_nil hs) hbase hfew hline hs hplain) hsw
theorem tyL {K : PySem.W.Frag} {H : Hp} {l : Addr} {xs : List V} (h : H l = some (.lst xs)) : tyV K "list" (.ref l) H := .inl ⟨rfl, _, SqL.of h⟩
theorem nodup_le {α : Type} [DecidableEq α] : ∀ {l m : List α}, l.Nodup → (∀ x ∈ l, x ∈ m) → l.length ≤ m.length
  | [], _, _, _ => Nat.zero_le _
  | a :: l, m, nd, h => by
    have ha : a ∈ m := h a List.mem_cons_self
    have h1 := List.nodup_cons.mp nd
    have h2 : l.length ≤ (m.erase a).length := nodup_le h1.2 fun x hx => (List.mem_erase_of_ne (fun e => h1.1 (by rw [← e]; exact hx))).mpr (h x (List.mem_cons_of_mem _ hx))
    rw [List.length_erase_of_mem ha] at h2
    have : 0 < m.length := List.length_pos_of_mem ha
    show l.length + 1 ≤ _
    omega
/-- the edges of a case -/
structure Ed where
  items : List Str
  outs : Str → List Str
  fst : Str → Str → Int
  snd : Str → Str → Int
def Ed.A (E : Ed) (i o : Str) : Prop := i ∈ E.items ∧ o ∈ E.outs i
structure Ed.Ok (E : Ed) : Prop where
  nd : E.items.Nodup
  len : E.items.length ≤ 4
  ond : ∀ i ∈ E.items, (E.outs i).Nodup
  sub : ∀ i ∈ E.items, ∀ o ∈ E.outs i, o ∈ E.items
theorem Ed.Ok.olen {E : Ed} (k : E.Ok) {i : Str} (h : i ∈ E.items) : (E.outs i).length ≤ 4 := Nat.le_trans (nodup_le (k.ond i h) (k.sub i h)) k.len
theorem Ed.Ok.both {E : Ed} (k : E.Ok) {i o : Str} (h : E.A i o) : i ∈ E.items ∧ o ∈ E.items := ⟨h.1, k.sub i h.1 o h.2⟩
structure EdIn (H : Hp) (E : Ed) (ed : Str → Addr) (lk : Str → Str → Addr) : Prop where
  i : ∀ i ∈ E.items, H (ed i) = some (.dK (dS (E.outs i) fun o => .ref (lk i o)))
  l : ∀ i ∈ E.items, ∀ o ∈ E.outs i, H (lk i o) = some (.tup [.int (E.fst i o), .int (E.snd i o)])
def EdAt (H : Hp) (e : Addr) (E : Ed) : Prop := ∃ (ed : Str → Addr) (lk : Str → Str → Addr), H e = some (.dK (dS E.items fun i => .ref (ed i))) ∧ (∀ i ∈ E.items, ed i ≠ e) ∧ EdIn H E ed lk
theorem EdIn.same {H H' : Hp} {E : Ed} {ed : Str → Addr} {lk : Str → Str → Addr} (h : EdIn H E ed lk) (s : Same H H') : EdIn H' E ed lk := ⟨fun i a => s _ _ (h.i i a), fun i a o b => s _ _ (h.l i a o b)⟩
theorem EdAt.same {H H' : Hp} {e : Addr} {E : Ed} (h : EdAt H e E) (s : Same H H') : EdAt H' e E := by
  obtain ⟨ed, lk, h1, h2, h3⟩ := h
  exact ⟨ed, lk, s _ _ h1, h2, h3.same s⟩
theorem EdIn.lock {H : Hp} {E : Ed} {ed : Str → Addr} {lk : Str → Str → Addr} {e : Addr} {o : HO} {kvs : List (Key × V)} (h : EdIn H E ed lk) (he : H e = some (.dK kvs)) (ne : ∀ i ∈ E.items, ed i ≠ e) : EdIn (upd H e o) E ed lk :=
  ⟨fun i a => by rw [upd_ne (ne i a)]; exact h.i i a, fun i a o b => by rw [upd_ne (fun z => by have := h.l i a o b; rw [z, he] at this; cases this)]; exact h.l i a o b⟩
/-- what nearest gives -/
structure Far (E : Ed) (goal : Str) (fs : List Str) (fd : Str → Int) : Prop where
  g : goal ∈ fs
  sub : ∀ k ∈ fs, k ∈ E.items
  reach : ∀ k ∈ fs, k = goal ∨ Way E.A k goal
  clo : ∀ i o, E.A i o → o ∈ fs → i ∈ fs
  pos : ∀ k ∈ fs, 0 ≤ fd k
  near : ∀ k ∈ fs, 0 < fd k → ∃ o ∈ E.outs k, o ∈ fs ∧ fd o < fd k
  bd : ∀ k ∈ fs, fd k ≤ 4
structure FI (E : Ed) (goal : Str) (fs : List Str) (fd : Str → Int) (ws : List Str) (D : Str → Str → Prop) : Prop where
  g : goal ∈ fs
  sub : ∀ k ∈ fs, k ∈ E.items
  reach : ∀ k ∈ fs, k = goal ∨ Way E.A k goal
  pos : ∀ k ∈ fs, 0 ≤ fd k
  near : ∀ k ∈ fs, 0 < fd k → ∃ o ∈ E.outs k, o ∈ fs ∧ fd o < fd k
  bd : ∀ k ∈ fs, fd k ≤ fs.length
  nd : fs.Nodup
  wsb : ∀ k ∈ ws, k ∈ fs
  clo : ∀ k ∈ fs, k ∉ ws → ∀ i, E.A i k → ¬ D i k → i ∈ fs
theorem FI.done {E : Ed} {goal : Str} {fs : List Str} {fd : Str → Int} (ok : E.Ok) (h : FI E goal fs fd [] fun _ _ => False) : Far E goal fs fd :=
  ⟨h.g, h.sub, h.reach, fun i o a ho => h.clo o ho (by simp) i a id, h.pos, h.near, fun k hk => by
    have h1 := h.bd k hk
    have h2 := nodup_le h.nd h.sub
    have h3 := ok.len
    omega⟩
theorem FI.pop {E : Ed} {goal here : Str} {fs t : List Str} {fd : Str → Int} (h : FI E goal fs fd (here :: t) fun _ _ => False) : FI E goal fs fd t fun i k => k = here ∧ i ∉ E.items.take 0 :=
  ⟨h.g, h.sub, h.reach, h.pos, h.near, h.bd, h.nd, fun k hk => h.wsb k (List.mem_cons_of_mem _ hk), fun k hk hn i a d => h.clo k hk (fun m => (List.mem_cons.mp m).elim (fun e => d ⟨e, by simp⟩) hn) i a id⟩
theorem FI.all {E : Ed} {goal here : Str} {fs t : List Str} {fd : Str → Int} (h : FI E goal fs fd t fun i k => k = here ∧ i ∉ E.items.take E.items.length) : FI E goal fs fd t fun _ _ => False :=
  ⟨h.g, h.sub, h.reach, h.pos, h.near, h.bd, h.nd, h.wsb, fun k hk hn i a _ => h.clo k hk hn i a fun ⟨_, z⟩ => z (by rw [List.take_length]; exact a.1)⟩
theorem take_mem {α : Type} {l : List α} {n : Nat} {x y : α} (hx : l[n]? = some x) : y ∈ l.take (n + 1) ↔ y ∈ l.take n ∨ y = x := by
  rw [List.take_succ, hx]
  simp
theorem FI.skip {E : Ed} {goal here x : Str} {fs t : List Str} {fd : Str → Int} {n : Nat} (hx : E.items[n]? = some x) (h : FI E goal fs fd t fun i k => k = here ∧ i ∉ E.items.take n) (c : x ∈ fs ∨ here ∉ E.outs x) : FI E goal fs fd t fun i k => k = here ∧ i ∉ E.items.take (n + 1) :=
  ⟨h.g, h.sub, h.reach, h.pos, h.near, h.bd, h.nd, h.wsb, fun k hk hn i a d => by
    by_cases e : i = x
    · subst e
      rcases c with c | c
      · exact c
      · exact h.clo k hk hn i a fun z => c (z.1 ▸ a.2)
    · exact h.clo k hk hn i a fun z => d ⟨z.1, fun m => ((take_mem hx).mp m).elim z.2 e⟩⟩
theorem FI.add {E : Ed} {goal here x : Str} {fs t : List Str} {fd : Str → Int} {n : Nat} (hx : E.items[n]? = some x) (h : FI E goal fs fd t fun i k => k = here ∧ i ∉ E.items.take n) (hf : here ∈ fs) (c : x ∉ fs) (c2 : here ∈ E.outs x) :
    FI E goal (fs ++ [x]) (fun y => if y = x then fd here + 1 else fd y) (t ++ [x]) fun i k => k = here ∧ i ∉ E.items.take (n + 1) := by
  have xi : x ∈ E.items := List.mem_of_getElem? hx
  have ne : ∀ {k}, k ∈ fs → k ≠ x := fun hk e => c (e ▸ hk)
  refine ⟨List.mem_append_left _ h.g, fun k hk => ?_, fun k hk => ?_, fun k hk => ?_, fun k hk => ?_, fun k hk => ?_, ?_, fun k hk => ?_, fun k hk hn i a d => ?_⟩
  · rcases List.mem_append.mp hk with m | m
    · exact h.sub k m
    · rw [List.mem_singleton.mp m]; exact xi
  · rcases List.mem_append.mp hk with m | m
    · exact h.reach k m
    · rw [List.mem_singleton.mp m]
      rcases h.reach here hf with e | w
      · rw [← e]; exact .inr (.one ⟨xi, c2⟩)
      · exact .inr (.cons ⟨xi, c2⟩ w)
  · rcases List.mem_append.mp hk with m | m
    · rw [if_neg (ne m)]; exact h.pos k m
    · rw [if_pos (List.mem_singleton.mp m)]
      have := h.pos here hf
      omega
  · rcases List.mem_append.mp hk with m | m
    · rw [if_neg (ne m)]
      intro hp
      obtain ⟨o, o1, o2, o3⟩ := h.near k m hp
      exact ⟨o, o1, List.mem_append_left _ o2, by rw [if_neg (ne o2)]; exact o3⟩
    · have e := List.mem_singleton.mp m
      subst e
      rw [if_pos rfl]
      intro _
      exact ⟨here, c2, List.mem_append_left _ hf, by rw [if_neg (ne hf)]; omega⟩
  · rw [List.length_append]
    simp only [List.length_singleton]
    rcases List.mem_append.mp hk with m | m
    · rw [if_neg (ne m)]
      have := h.bd k m
      omega
    · rw [if_pos (List.mem_singleton.mp m)]
      have := h.bd here hf
      omega
  · rw [List.nodup_append]
    exact ⟨h.nd, by simp, fun a ha b hb => by rw [List.mem_singleton.mp hb]; exact ne ha⟩
  · rcases List.mem_append.mp hk with m | m
    · exact List.mem_append_left _ (h.wsb k m)
    · exact List.mem_append_right _ m
  · have hk2 : k ∈ fs := by
      rcases List.mem_append.mp hk with m | m
      · exact m
      · exact absurd (List.mem_append_right _ m) hn
    by_cases e : i = x
    · rw [e]; exact List.mem_append_right _ (List.mem_singleton.mpr rfl)
    · exact List.mem_append_left _ (h.clo k hk2 (fun m => hn (List.mem_append_left _ m)) i a fun z => d ⟨z.1, fun m => ((take_mem hx).mp m).elim z.2 e⟩)
def spNear : Sp := fun vs H Q _ => ∃ (e : Addr) (E : Ed) (goal : Str), vs = [.ref e, .str goal] ∧ EdAt H e E ∧ E.Ok ∧ goal ∈ E.items ∧ ∀ a H' fs fd, Same H H' → H' a = some (.dK (dS fs fun k => .int (fd k))) → Far E goal fs fd → Q (.ref a) H'
theorem sc_nearest : FnScope ["edges", "goal", "far", "waiting", "here", "item"] ["edges", "goal"] d_nearest.scope := ⟨rfl, rfl, rfl, by decide +kernel, rfl, by decide +kernel, by decide +kernel⟩
theorem cut1 (x : V) (xs : List V) : cutV (x :: xs) (some 1) none = xs := by
  unfold cutV
  rw [HT.sIx_none, show HT.sIx (x :: xs).length 0 (some 1) = 1 from by rw [show (1 : Int) = ((1 : Nat) : Int) from rfl, HT.sIx_nat]; exact Nat.min_eq_left (by simp)]
  simp
theorem Same.free {H H' : Hp} {p : Addr} (s : Same H H') (n : H' p = none) : H p = none := (Lk.of s).free n
theorem free_upd {H : Hp} {p q : Addr} {o : HO} (n : upd H q o p = none) : H p = none ∧ p ≠ q := by
  have h : p ≠ q := fun e => by rw [e, upd_same] at n; cases n
  rw [upd_ne h] at n
  exact ⟨n, h⟩
theorem same_set {H H' : Hp} {d : Addr} {o : HO} (s : Same H H') : Same (upd H d o) (upd H' d o) := fun b u q => by
  by_cases c : b = d
  · subst c
    rw [upd_same] at q ⊢
    exact q
  · rw [upd_ne c] at q ⊢
    exact s b u q
theorem ok_nearest (T : Txt K mg) : Kept P w K mg base 1 (He.ga K "nearest") ["edges", "goal"] spNear := by
  refine keep_of (d := d_nearest) T.d_nearest sc_nearest (fun _ _ _ _ _ _ us hl => match us, hl with | [_, _], _ => rfl) (fun vs H Q E h => ?_) (fun cd A outer s H vs Q E hr h => ?_)
  · obtain ⟨e, E, goal, rfl, _⟩ := h
    rfl
  · obtain ⟨e, E, goal, rfl, ⟨ed, lk, he, hne, hin⟩, ok, hg, k⟩ := h
    have nd := sc_nearest.nd
    have hu := hu_of hr
    refine ⟨_, pss_cons (ps_set (i := 2) nd rfl (Or.inl rfl) (pe_disp (pps_cons (pv 1) pe_int pps_nil) rfl rfl (by simp) (by decide)))
      (pss_cons (ps_set (i := 3) nd rfl (Or.inl rfl) (pe_lst (pa_cons (pv 1) pa_nil)))
      (pss_cons (ps_while PassesOwn.never (pt_truth (pv 3) fun _ => rfl)
        (pss_cons (ps_par (i := 4) (j := 3) rfl nd rfl rfl (by decide) rfl rfl (pa_cons (pe_il K (pv 3) pe_int) (pa_cons (pe_slice sl_list (pv 3) (po_some pe_int) po_none) pa_nil)) rfl)
        (pss_one (ps_lock (ps_for PassesOwn.never rfl (pi_keys (pv 0)) (pg_name (i := 5) nd rfl (Or.inl rfl))
          (pss_one (ps_if (PW.pt (pw_and (pt_cmp (pc_dnotin hu (pv 5) (pv 2))) (pw_and1 (pt_cmp (pc_din hu (pv 4) (pe_dget hu (pv 0) (pv 5) (fun _ _ => rfl)))))))
            (pss_cons (ps_dput hu (pv 2) (pv 5) (pe_op op_add (pe_dget hu (pv 2) (pv 4) (fun _ _ => rfl)) pe_int) rfl)
            (pss_one (ps_app K (pv 3) (pv 5)))) pss_nil)))))))
      (pss_one (ps_ret (pv 2))))), ?_⟩
    intro fa nfa
    refine ⟨_, rfl, ⟨upd_same, [(Sum.inr goal, .int 0)], rfl, by show 1 ≤ 15; decide, ?_⟩⟩
    refine ⟨_, rfl, by show 1 ≤ sizeLine; exact small (by omega), fun wa nwa => ?_⟩
    refine ⟨fun m σ H' => ∃ fs fd ws wa v4 v5, m = 2 * (E.items.length - fs.length) + ws.length ∧ σ = [some (.ref e), some (.str goal), some (.ref fa), some (.ref wa), v4, v5] ∧ Same H H' ∧ H wa = none ∧
      H' fa = some (.dK (dS fs fun k => .int (fd k))) ∧ H' wa = some (.lst (ws.map V.str)) ∧ (FI E goal fs fd ws fun _ _ => False) ∧ ws.length ≤ fs.length, ?_, ?_⟩
    · have nw := (free_upd (free_upd nwa).1).1
      refine ⟨_, [goal], fun _ => 0, [goal], wa, none, none, rfl, rfl, same_upd (same_upd (same_upd (Same.refl H) nfa) nfa) nw, nw, ?_, upd_same, ?_, Nat.le_refl _⟩
      · rw [upd_ne (free_upd nwa).2.symm]
        exact upd_same
      · refine ⟨List.mem_singleton.mpr rfl, fun k hk => ?_, fun k hk => .inl (List.mem_singleton.mp hk), fun _ _ => Int.le_refl _, fun _ _ h => absurd h (Int.lt_irrefl _), fun _ _ => by simp, by simp, fun _ h => h, fun k hk hn => absurd hk hn⟩
        rw [List.mem_singleton.mp hk]; exact hg
    · rintro m σ H' ⟨fs, fd, ws, wa, v4, v5, rfl, rfl, s1, nwa, hfa, hwa, fi, hlt⟩
      refine ⟨_, rfl, !(ws.map V.str).isEmpty, .inl ⟨_, SqL.of hwa, rfl⟩, ?_⟩
      cases ws with
      | nil => exact iteF ⟨_, rfl, k _ _ fs fd s1 hfa (fi.done ok)⟩
      | cons hd t =>
        refine iteT ⟨fun σ' H' => ∃ m', m' < 2 * (E.items.length - fs.length) + (t.length + 1) ∧ _, fun _ _ h => h, ?_⟩
        have hf : hd ∈ fs := fi.wsb hd List.mem_cons_self
        replace hlt : t.length ≤ fs.length := by simp only [List.length_cons] at hlt; omega
        refine ⟨_, rfl, _, _, _, _, rfl, rfl, SqL.of hwa, atI_nat (j := 0) (List.getElem?_cons_zero ..), _, rfl, _, rfl, wa, _, rfl, SqL.of hwa, fun wb nwb => ?_⟩
        rw [show cutV ((hd :: t).map V.str) (some 1) none = t.map V.str from cut1 _ _]
        refine ⟨_, _, rfl, ?_⟩
        have nb : H wb = none := Same.free s1 nwb
        have s2 : Same H (upd H' wb (.lst (t.map V.str))) := same_upd s1 nb
        have ne1 : fa ≠ wb := ne_of_none hfa nwb
        refine ⟨e, _, s2 _ _ he, trivial, fun od => ⟨_, rfl, e, od, rfl, .inl ⟨_, upd_same, ?_⟩⟩⟩
        have nfe : fa ≠ e := (ne_of_none he nfa).symm
        have nbe : wb ≠ e := (ne_of_none he nb).symm
        have nfx : upd H e (.frz od (.dK (dS E.items fun i => .ref (ed i)))) fa = none := by rw [upd_ne nfe]; exact nfa
        have nbx : upd H e (.frz od (.dK (dS E.items fun i => .ref (ed i)))) wb = none := by rw [upd_ne nbe]; exact nb
        refine for_it walk_keys (fun n σ H1 => ∃ fs1 fd1 t1 v5, σ = [some (.ref e), some (.str goal), some (.ref fa), some (.ref wb), some (.str hd), v5] ∧ Same (upd H e (.frz od (.dK (dS E.items fun i => .ref (ed i))))) H1 ∧
          H1 fa = some (.dK (dS fs1 fun k => .int (fd1 k))) ∧ H1 wb = some (.lst (t1.map V.str)) ∧ (FI E goal fs1 fd1 t1 fun i k => k = hd ∧ i ∉ E.items.take n) ∧ hd ∈ fs1 ∧ t1.length ≤ fs1.length ∧ 2 * (E.items.length - fs1.length) + t1.length ≤ 2 * (E.items.length - fs.length) + t.length) ?_ ?_ ?_ ?_
        · refine ⟨fs, fd, t, _, rfl, same_set s2, ?_, ?_, fi.pop, hf, ?_, Nat.le_refl _⟩
          · rw [upd_ne nfe, upd_ne ne1]
            exact hfa
          · rw [upd_ne nbe]
            exact upd_same
          · exact hlt
        · rintro i σ H1 _ ⟨fs1, fd1, t1, v5, rfl, s3, _⟩
          exact s3 _ _ upd_same
        · rintro n x σ H1 H2 hn ⟨fs1, fd1, t1, v5, rfl, s3, hfa1, hwb1, fi1, hf1, hl1, hm1⟩ ⟨rfl, k', v', hx, rfl⟩
          rw [dG_get?] at hx
          obtain ⟨x, hx1, hxe⟩ := Option.map_eq_some_iff.mp hx
          cases hxe
          have xi : x ∈ E.items := List.mem_of_getElem? hx1
          have hin1 : EdIn H2 E ed lk := (hin.lock he hne).same s3
          refine ⟨_, rfl, _, rfl, fa, _, rfl, dS_ask x (.inl hfa1), _, rfl, ?_⟩
          have hlen1 : fs1.length ≤ E.items.length := nodup_le fi1.nd fi1.sub
          have l4 := ok.len
          by_cases c : x ∈ fs1
          · rw [if_pos c]
            exact iteF (iteF ⟨fs1, fd1, t1, _, rfl, s3, hfa1, hwb1, fi1.skip hx1 (.inl c), hf1, hl1, hm1⟩)
          · rw [if_neg c]
            refine iteT ⟨_, rfl, _, rfl, _, rfl, e, _, rfl, dS_get (.inr ⟨od, s3 _ _ upd_same⟩) xi, _, _, rfl, dS_ask hd (.inl (hin1.i x xi)), _, rfl, ?_⟩
            by_cases c2 : hd ∈ E.outs x
            · rw [if_pos c2]
              have fi2 := fi1.add hx1 hf1 c c2
              have hlen2 := nodup_le fi2.nd fi2.sub
              rw [List.length_append] at hlen2
              simp only [List.length_singleton] at hlen2
              refine iteT ⟨_, rfl, _, rfl, fa, _, rfl, dS_get (.inl hfa1) hf1, _, _, rfl, rfl, _, rfl, _, rfl, fa, _, rfl, dS_putNew _ hfa1 c (smaller (by omega)), ?_⟩
              have e1 : upd H2 fa (.dK (dS (fs1 ++ [x]) fun y => if y = x then V.int (fd1 hd + 1) else V.int (fd1 y))) wb = some (.lst (t1.map V.str)) := by rw [upd_ne ne1.symm]; exact hwb1
              refine ⟨_, rfl, tyL e1, _, rfl, wb, _, _, rfl, rfl, e1, ?_, ?_⟩
              · rw [List.length_map]; exact smaller (by omega)
              · refine ⟨fs1 ++ [x], fun y => if y = x then fd1 hd + 1 else fd1 y, t1 ++ [x], _, rfl, same_upd (same_upd s3 nfx) nbx, ?_, ?_, fi2, List.mem_append_left _ hf1, ?_, ?_⟩
                · rw [upd_ne ne1, upd_same]
                  congr 3
                  funext y
                  by_cases c3 : y = x
                  · show (if y = x then V.int (fd1 hd + 1) else V.int (fd1 y)) = V.int (if y = x then fd1 hd + 1 else fd1 y)
                    rw [if_pos c3, if_pos c3]
                  · show (if y = x then V.int (fd1 hd + 1) else V.int (fd1 y)) = V.int (if y = x then fd1 hd + 1 else fd1 y)
                    rw [if_neg c3, if_neg c3]
                · rw [upd_same, List.map_append]; rfl
                · simp only [List.length_append, List.length_singleton]; omega
                · simp only [List.length_append, List.length_singleton]; omega
            · rw [if_neg c2]
              exact iteF ⟨fs1, fd1, t1, _, rfl, s3, hfa1, hwb1, fi1.skip hx1 (.inr c2), hf1, hl1, hm1⟩
        · rintro σ H1 ⟨fs1, fd1, t1, v5, rfl, s3, hfa1, hwb1, fi1, hf1, hl1, hm1⟩
          rw [dG_length] at fi1
          obtain ⟨u1, u2⟩ := unlock he s3
          refine ⟨u1, _, ?_, fs1, fd1, t1, wb, _, v5, rfl, rfl, u2, nb, ?_, ?_, fi1.all, ?_⟩
          · omega
          · rw [upd_ne nfe]; exact hfa1
          · rw [upd_ne nbe]; exact hwb1
          · exact hl1
end RB
end

section
set_option maxRecDepth 100000
set_option maxHeartbeats 4000000
/-! what a case holds; its small methods -/
namespace RB
open PySem PySem.Spec PyProof.Rows L2
variable {P : Program} {w : World} {K : PySem.W.Frag} {mg : Str → Option Value} {base : Heap}
structure Cs where
  items : List Str
  grades : Int
  names : List Str
  dr : Str → Dr
  ps : List Int
  rw : Int → Row Str
  lots : List (List Int)
def Cs.T (c : Cs) : List (Int × Row Str) := c.ps.map fun p => (p, c.rw p)
theorem Cs.mem {c : Cs} {r : Int × Row Str} : r ∈ c.T ↔ r.1 ∈ c.ps ∧ r.2 = c.rw r.1 := by
  unfold Cs.T
  rw [List.mem_map]
  constructor
  · rintro ⟨p, h, rfl⟩; exact ⟨h, rfl⟩
  · rintro ⟨h, e⟩
    exact ⟨r.1, h, by rw [← e]⟩
/-- one stands ahead of two, both in a lot -/
def Cs.ah (c : Cs) (a b : Int) : Bool := goesD (c.dr (c.rw a).judge) a b || decide ((c.rw a).part = (c.rw b).part)
def Cs.one (c : Cs) (a b : Int) : Bool := decide ((c.rw a).judge = (c.rw b).judge) && decide ((c.rw a).lot = (c.rw b).lot)
theorem Cs.ahead_eq (c : Cs) (a b : Int) : ahead c.dr (a, c.rw a) (b, c.rw b) = (c.one a b && c.ah a b) := rfl
structure Cs.Ok (c : Cs) : Prop where
  i0 : 1 ≤ c.items.length
  i4 : c.items.length ≤ 4
  ind : c.items.Nodup
  inm : ∀ i ∈ c.items, i ∈ itemNames
  g1 : 1 ≤ c.grades
  g2 : c.grades ≤ 2
  p9 : c.ps.length ≤ 9
  pnd : c.ps.Nodup
  pj : ∀ p ∈ c.ps, (c.rw p).judge ∈ c.names
  pi : ∀ p ∈ c.ps, (c.rw p).item ∈ c.items
  pg : ∀ p ∈ c.ps, 0 ≤ (c.rw p).grade ∧ (c.rw p).grade ≤ c.grades
  mono : Mono c.T
  l9 : c.lots.length ≤ 9
  ll : ∀ l ∈ c.lots, l.length ≤ 9
  lsub : ∀ l ∈ c.lots, ∀ p ∈ l, p ∈ c.ps
  lcov : ∀ p ∈ c.ps, ∃ l ∈ c.lots, p ∈ l
  lone : ∀ l ∈ c.lots, ∀ p ∈ l, ∀ q ∈ c.ps, (q ∈ l ↔ c.one p q = true)
/-- a place's tuple: cr tells the fourth -/
def RowIn (H : Hp) (ps : List Int) (rw : Int → Row Str) (ad : Int → Addr) (cr : Int → V → Prop) : Prop := ∀ p ∈ ps, ∃ v, cr p v ∧ H (ad p) = some (.tup [.str (rw p).judge, .str (rw p).item, .int (rw p).grade, v, .int (rw p).part])
theorem RowIn.lk {H H' : Hp} {ps : List Int} {rw : Int → Row Str} {ad : Int → Addr} {cr : Int → V → Prop} (h : RowIn H ps rw ad cr) (s : Lk H H') : RowIn H' ps rw ad cr := fun p hp => by
  obtain ⟨v, h1, h2⟩ := h p hp
  exact ⟨v, h1, s.tup h2⟩
/-- a dict by places of such tuples -/
def Told (H : Hp) (t : Addr) (ps : List Int) (rw : Int → Row Str) (cr : Int → V → Prop) : Prop := ∃ ad : Int → Addr, Rd H t (.dK (dI ps fun p => .ref (ad p))) ∧ RowIn H ps rw ad cr
theorem Told.lk {H H' : Hp} {t : Addr} {ps : List Int} {rw : Int → Row Str} {cr : Int → V → Prop} (h : Told H t ps rw cr) (s : Lk H H') : Told H' t ps rw cr := by
  obtain ⟨ad, h1, h2⟩ := h
  exact ⟨ad, s.rd h1, h2.lk s⟩
theorem Told.get {H : Hp} {t : Addr} {ps : List Int} {rw : Int → Row Str} {cr : Int → V → Prop} (h : Told H t ps rw cr) {p : Int} (hp : p ∈ ps) : ∃ a v, DGet H t (.int p) (some (.ref a)) ∧ cr p v ∧ H a = some (.tup [.str (rw p).judge, .str (rw p).item, .int (rw p).grade, v, .int (rw p).part]) := by
  obtain ⟨ad, h1, h2⟩ := h
  obtain ⟨v, h3, h4⟩ := h2 p hp
  exact ⟨_, v, dI_get h1 hp, h3, h4⟩
/-- a list of lists of places -/
def Lots (H : Hp) (l : Addr) (lots : List (List Int)) : Prop := ∃ ls, H l = some (.lst ls) ∧ Paired (fun lot v => ∃ a, v = V.ref a ∧ H a = some (.lst (lot.map V.int))) lots ls
theorem Lots.lk {H H' : Hp} {l : Addr} {lots : List (List Int)} (h : Lots H l lots) (s : Lk H H') : Lots H' l lots := by
  obtain ⟨ls, h1, h2⟩ := h
  exact ⟨ls, s.lst h1, Paired.mapP h2 fun x v ⟨a, e, q⟩ => ⟨a, e, s.lst q⟩⟩
structure CsIn (H : Hp) (i d t l : Addr) (c : Cs) : Prop where
  it : H i = some (.lst (c.items.map V.str))
  dr : Rd H d (.dK (dS c.names fun j => .str (drS (c.dr j))))
  to : Told H t c.ps c.rw fun _ _ => True
  lo : Lots H l c.lots
theorem CsIn.lk {H H' : Hp} {i d t l : Addr} {c : Cs} (h : CsIn H i d t l c) (s : Lk H H') : CsIn H' i d t l c := ⟨s.lst h.it, s.rd h.dr, h.to.lk s, h.lo.lk s⟩
structure CsF (fs : List (Str × V)) (i : Addr) (g : Int) (d t l : Addr) : Prop where
  it : fs.lookup ("_items" : Str) = some (.ref i)
  gr : fs.lookup ("_grades" : Str) = some (.int g)
  dr : fs.lookup ("_drifts" : Str) = some (.ref d)
  to : fs.lookup ("_told" : Str) = some (.ref t)
  lo : fs.lookup ("_lots" : Str) = some (.ref l)
  no : ∀ m : Str, ¬ m = "_items" → ¬ m = "_grades" → ¬ m = "_drifts" → ¬ m = "_told" → ¬ m = "_lots" → fs.lookup m = none
/-- a Case object -/
structure CsAt (K : PySem.W.Frag) (H : Hp) (p : Addr) (c : Cs) : Prop where
  ex : ∃ dx fs i d t l, H p = some (.ins (CC K) dx fs) ∧ CsF fs i c.grades d t l ∧ CsIn H i d t l c
theorem CsAt.lk {H H' : Hp} {p : Addr} {c : Cs} (h : CsAt K H p c) (s : Lk H H') : CsAt K H' p c := by
  obtain ⟨dx, fs, i, d, t, l, h1, h2, h3⟩ := h.ex
  exact ⟨dx, fs, i, d, t, l, s.ins h1, h2, h3.lk s⟩
theorem CsAt.same {H H' : Hp} {p : Addr} {c : Cs} (h : CsAt K H p c) (s : Same H H') : CsAt K H' p c := h.lk (.of s)
/-- a method's name is no attribute -/
theorem CsAt.me {H : Hp} {p : Addr} {c : Cs} (h : CsAt K H p c) (m : Str) (h1 : ¬ m = "_items" := by decide +kernel) (h2 : ¬ m = "_grades" := by decide +kernel) (h3 : ¬ m = "_drifts" := by decide +kernel) (h4 : ¬ m = "_told" := by decide +kernel) (h5 : ¬ m = "_lots" := by decide +kernel) :
    ∃ dx fs, H p = some (.ins (CC K) dx fs) ∧ fs.lookup m = none := by
  obtain ⟨dx, fs, i, d, t, l, q1, q2, q3⟩ := h.ex
  exact ⟨dx, fs, q1, q2.no m h1 h2 h3 h4 h5⟩
/-! ### the small methods -/
theorem dec_i {i j : Int} : decide (V.int i = V.int j) = decide (i = j) := by
  by_cases h : i = j
  · subst h; simp
  · simp [h]
theorem dec_s {i j : Str} : decide (V.str i = V.str j) = decide (i = j) := by
  by_cases h : i = j
  · subst h; simp
  · simp [h]
def spAnswers (K : PySem.W.Frag) : Sp := fun vs H Q _ => ∃ (p : Addr) (c : Cs), vs = [.ref p] ∧ CsAt K H p c ∧ c.ps.length ≤ 9 ∧ ∀ (ys : List Int) a, ys.Perm c.ps → ys.Pairwise (· ≤ ·) → H a = none → Q (.ref a) (upd H a (.lst (ys.map V.int)))
theorem sc_answers : FnScope ["self"] ["self"] d_case_answers.scope := ⟨rfl, rfl, rfl, by decide +kernel, rfl, by decide +kernel, by decide +kernel⟩
theorem ok_answers (T : Txt K mg) : Kept P w K mg base 1 (He.ma K (CC K) "answers") ["self"] (spAnswers K) := by
  refine keep_of (d := d_case_answers) T.d_case_answers sc_answers (fun _ _ _ _ _ _ us hl => match us, hl with | [_], _ => rfl) (fun vs H Q E h => ?_) (fun cd A outer s H vs Q E hr h => ?_)
  · obtain ⟨p, c, rfl, _⟩ := h
    rfl
  · obtain ⟨p, c, rfl, hp, h9, k⟩ := h
    obtain ⟨dx, fs, i, d, t, l, h1, h2, h3⟩ := hp.ex
    obtain ⟨ad, h4, h5⟩ := h3.to
    refine ⟨_, pss_one (ps_ret (pe_callB (call_sortedDI rfl) rfl T.f_sorted (by decide +kernel) (pa_cons (pe_at K (pv 0)) pa_nil))), ?_⟩
    exact ⟨_, rfl, p, CC K, dx, fs, _, rfl, h1, T.c_Case, T.n_Case_told, h2.to, t, _, c.ps, rfl, h4, dG_keys _ _ _, by omega, fun ys a e1 e2 na => k ys a e1 e2 na⟩
def spTog (K : PySem.W.Frag) : Sp := fun vs H Q _ => ∃ (p : Addr) (c : Cs) (a b : Int), vs = [.ref p, .int a, .int b] ∧ CsAt K H p c ∧ a ∈ c.ps ∧ b ∈ c.ps ∧ Q (.bl (decide ((c.rw a).part = (c.rw b).part))) H
theorem sc_are_together : FnScope ["self", "one", "other"] ["self", "one", "other"] d_case_are_together.scope := ⟨rfl, rfl, rfl, by decide +kernel, rfl, by decide +kernel, by decide +kernel⟩
theorem ok_are_together (T : Txt K mg) : Kept P w K mg base 1 (He.ma K (CC K) "_are_together") ["self", "one", "other"] (spTog K) := by
  refine keep_of (d := d_case_are_together) T.d_case_are_together sc_are_together (fun _ _ _ _ _ _ us hl => match us, hl with | [_, _, _], _ => rfl) (fun vs H Q E h => ?_) (fun cd A outer s H vs Q E hr h => ?_)
  · obtain ⟨p, c, a, b, rfl, _⟩ := h
    rfl
  · obtain ⟨p, c, a, b, rfl, hp, ha, hb, k⟩ := h
    have hu := hu_of hr
    obtain ⟨dx, fs, i, d, t, l, h1, h2, h3⟩ := hp.ex
    obtain ⟨aa, va, ga, -, ta⟩ := h3.to.get ha
    obtain ⟨ab, vb, gb, -, tb⟩ := h3.to.get hb
    refine ⟨_, pss_one (ps_ret (pe_cmpR op_eq (pe_it K (pe_dget hu (pe_at K (pv 0)) (pv 1) (fun _ _ => rfl)) pe_int) (pe_it K (pe_dget hu (pe_at K (pv 0)) (pv 2) (fun _ _ => rfl)) pe_int) (nomark _))), ?_⟩
    refine ⟨_, rfl, p, CC K, dx, fs, _, rfl, h1, T.c_Case, T.n_Case_told, h2.to, _, rfl, t, _, rfl, ga, _, _, _, _, rfl, rfl, SqT.of ta, rfl, ?_⟩
    refine ⟨_, rfl, p, CC K, dx, fs, _, rfl, h1, T.c_Case, T.n_Case_told, h2.to, _, rfl, t, _, rfl, gb, _, _, _, _, rfl, rfl, SqT.of tb, rfl, rfl, ?_⟩
    rw [dec_i]
    exact k
def spOrd (K : PySem.W.Frag) : Sp := fun vs H Q _ => ∃ (p : Addr) (c : Cs) (a b : Int), vs = [.ref p, .int a, .int b] ∧ CsAt K H p c ∧ a ∈ c.ps ∧ (c.rw a).judge ∈ c.names ∧ Q (.bl (goesD (c.dr (c.rw a).judge) a b)) H
theorem sc_are_in_order : FnScope ["self", "one", "other"] ["self", "one", "other"] d_case_are_in_order.scope := ⟨rfl, rfl, rfl, by decide +kernel, rfl, by decide +kernel, by decide +kernel⟩
theorem ok_are_in_order (T : Txt K mg) : Kept P w K mg base 2 (He.ma K (CC K) "_are_in_order") ["self", "one", "other"] (spOrd K) := by
  refine keep_of (d := d_case_are_in_order) T.d_case_are_in_order sc_are_in_order (fun _ _ _ _ _ _ us hl => match us, hl with | [_, _, _], _ => rfl) (fun vs H Q E h => ?_) (fun cd A outer s H vs Q E hr h => ?_)
  · obtain ⟨p, c, a, b, rfl, _⟩ := h
    rfl
  · obtain ⟨p, c, a, b, rfl, hp, ha, hj, k⟩ := h
    have hu := hu_of hr
    obtain ⟨dx, fs, i, d, t, l, h1, h2, h3⟩ := hp.ex
    obtain ⟨aa, va, ga, -, ta⟩ := h3.to.get ha
    refine ⟨_, pss_one (ps_ret (pe_f (ok_is_first T) hr (Nat.le_refl _) rfl T.g_is_first (pa_cons (pe_dget hu (pe_at K (pv 0)) (pe_it K (pe_dget hu (pe_at K (pv 0)) (pv 1) (fun _ _ => rfl)) pe_int) (fun _ _ => rfl)) (pa_cons (pv 1) (pa_cons (pv 2) pa_nil))))), ?_⟩
    refine ⟨_, rfl, p, CC K, dx, fs, _, rfl, h1, T.c_Case, T.n_Case_drifts, h2.dr, _, rfl, p, CC K, dx, fs, _, rfl, h1, T.c_Case, T.n_Case_told, h2.to, _, rfl, t, _, rfl, ga, _, _, _, _, rfl, rfl, SqT.of ta, rfl, d, _, rfl, dS_get h3.dr hj, ?_⟩
    exact ⟨_, rfl, _, rfl, c.dr (c.rw a).judge, a, b, rfl, k⟩
def spAhead (K : PySem.W.Frag) : Sp := fun vs H Q _ => ∃ (p : Addr) (c : Cs) (la : Addr) (lot : List Int) (b : Int), vs = [.ref p, .ref la, .int b] ∧ CsAt K H p c ∧ H la = some (.lst (lot.map V.int)) ∧ lot.length ≤ 9 ∧ (∀ x ∈ lot, x ∈ c.ps ∧ (c.rw x).judge ∈ c.names) ∧ b ∈ c.ps ∧
  ∀ a H', Same H H' → H' a = some (.lst ((lot.filter fun x => c.ah x b).map V.int)) → Q (.ref a) H'
theorem sc_ahead : FnScope ["self", "lot", "place", "one"] ["self", "lot", "place"] d_case_ahead.scope := ⟨rfl, rfl, rfl, by decide +kernel, rfl, by decide +kernel, by decide +kernel⟩
theorem ok_ahead (T : Txt K mg) : Kept P w K mg base 3 (He.ma K (CC K) "_ahead") ["self", "lot", "place"] (spAhead K) := by
  refine keep_of (d := d_case_ahead) T.d_case_ahead sc_ahead (fun _ _ _ _ _ _ us hl => match us, hl with | [_, _, _], _ => rfl) (fun vs H Q E h => ?_) (fun cd A outer s H vs Q E hr h => ?_)
  · obtain ⟨p, c, la, lot, b, rfl, _⟩ := h
    rfl
  · obtain ⟨p, c, la, lot, b, rfl, hp, hl, hz, hx, hb, k⟩ := h
    have nd := sc_ahead.nd
    have hr1 := hr.mono (show 1 ≤ 2 by decide)
    refine ⟨_, pss_one (ps_ret (pe_lc (own := [("one", 3)]) (g := gName 3) rfl nd (pi_list (pv 1)) (blkOk_by (own := [("one", 3)]) (N := ["self", "lot", "place", "one"]) (sc := d_case_ahead.scope) (by decide +kernel)) (fun _ _ _ _ _ => pg_name (i := 3) nd rfl (Or.inl rfl))
      (fun _ _ _ _ _ => pts_one (PW.pt (pw_or (pt_val (pe_m (pv 0) T.c_Case T.m_Case_are_in_order (ok_are_in_order T) hr (Nat.le_refl _) (pa_cons (pv 3) (pa_cons (pv 2) pa_nil)))) (pw_or1 (pt_val (pe_m (pv 0) T.c_Case T.m_Case_are_together (ok_are_together T) hr1 (Nat.le_refl _) (pa_cons (pv 3) (pa_cons (pv 2) pa_nil))))))))
      (fun _ _ _ _ _ => pv 3))), ?_⟩
    refine ⟨_, rfl, la, rfl, ⟨_, SqL.of hl⟩, fun D nD => lc_lst (l := lot) (walkN (List.length_map ..)) nD (by omega) (fun x => c.ah x b) V.int (fun H1 s1 => SqL.of (s1 _ _ hl)) (fun i y H1 H2 x hxi s1 hY N Z b1 b2 => ?_) fun H1 s1 e1 => k D H1 s1 e1⟩
    obtain ⟨rfl, hx1⟩ := hY
    rw [List.getElem?_map, hxi] at hx1
    cases hx1
    have hp1 := hp.same s1
    obtain ⟨dx, fs, h1, h2⟩ := hp1.me "_are_in_order"
    obtain ⟨dx', fs', h1', h2'⟩ := hp1.me "_are_together"
    have hxm := hx x (List.mem_of_getElem? hxi)
    refine ⟨rfl, _, rfl, p, dx, fs, rfl, h1, h2, _, rfl, _, rfl, p, c, x, b, rfl, hp1, hxm.1, hxm.2, ?_⟩
    cases e : goesD (c.dr (c.rw x).judge) x b with
    | true => exact ⟨_, rfl, iteT ⟨_, rfl, b1 (by simp [Cs.ah, e]) _ (Same.refl _)⟩⟩
    | false =>
      refine ⟨_, rfl, iteF ⟨_, rfl, p, dx', fs', rfl, h1', h2', _, rfl, _, rfl, p, c, x, b, rfl, hp1, hxm.1, hb, ?_⟩⟩
      cases e2 : decide ((c.rw x).part = (c.rw b).part) with
      | true => exact ⟨_, rfl, iteT ⟨_, rfl, b1 (by simp [Cs.ah, e, e2]) _ (Same.refl _)⟩⟩
      | false => exact ⟨_, rfl, iteF (b2 (by simp [Cs.ah, e, e2]) _ (Same.refl _))⟩
end RB
end

section
set_option maxRecDepth 100000
set_option maxHeartbeats 4000000
/-! links, edges -/
namespace RB
open PySem PySem.Spec PyProof.Rows L2
variable {P : Program} {w : World} {K : PySem.W.Frag} {mg : Str → Option Value} {base : Heap}
theorem ip_ext {X : Cx} : PIp X .Add rExt2 := fun pins s σ H x y v u Q I rx ry h => iop_ext pins s σ H x y v u Q I rx ry h
theorem pair_perm {α β : Type} {R : α → β → Prop} {m m' : List β} (h : m'.Perm m) : ∀ {l : List α}, Paired R l m → ∃ l', l'.Perm l ∧ Paired R l' m' := by
  induction h with
  | nil => intro l r; exact ⟨l, .refl _, r⟩
  | cons x _ ih =>
    intro l r
    cases r with
    | cons h t =>
      obtain ⟨l', p, r'⟩ := ih t
      exact ⟨_, p.cons _, .cons h r'⟩
  | swap x y t =>
    intro l r
    cases r with
    | cons h r =>
      cases r with
      | cons h' r => exact ⟨_, .swap _ _ _, .cons h' (.cons h r)⟩
  | trans _ _ ih1 ih2 =>
    intro l r
    obtain ⟨l1, p1, r1⟩ := ih2 r
    obtain ⟨l2, p2, r2⟩ := ih1 r1
    exact ⟨l2, p2.trans p1, r2⟩
theorem pair_app {α β : Type} {R : α → β → Prop} : ∀ {l l' : List α} {m m' : List β}, Paired R l m → Paired R l' m' → Paired R (l ++ l') (m ++ m')
  | _, _, _, _, .nil, h => h
  | _, _, _, _, .cons g t, h => .cons g (pair_app t h)
theorem pair_mapL {α β γ : Type} {R : β → γ → Prop} {f : α → β} : ∀ {l : List α} {m : List γ}, Paired (fun x v => R (f x) v) l m → Paired R (l.map f) m
  | _, _, .nil => .nil
  | _, _, .cons h t => .cons h (pair_mapL t)
/-- a link: from the one place to the other -/
structure Cs.Lk (c : Cs) (q : Int × Int) : Prop where
  a : q.1 ∈ c.ps
  b : q.2 ∈ c.ps
  one : c.one q.1 q.2 = true
  ah : c.ah q.1 q.2 = true
  lt : (c.rw q.1).grade < (c.rw q.2).grade
def pv2 (q : Int × Int) : List V := [.int q.1, .int q.2]
theorem Cs.one_symm (c : Cs) (a b : Int) : c.one a b = c.one b a := by
  unfold Cs.one
  rw [decide_eq_decide.mpr (eq_comm (a := (c.rw a).judge)), decide_eq_decide.mpr (eq_comm (a := (c.rw a).lot))]
def spLinks (K : PySem.W.Frag) : Sp := fun vs H Q _ => ∃ (p : Addr) (c : Cs), vs = [.ref p] ∧ CsAt K H p c ∧ c.Ok ∧ ∀ a H' prs ys, Same H H' → H' a = some (.lst ys) → Refs H' pv2 prs ys → (∀ q, q ∈ prs ↔ c.Lk q) → Q (.ref a) H'
theorem sc_links : FnScope ["self", "found", "lot", "place", "grade", "one"] ["self"] d_case_links.scope := ⟨rfl, rfl, rfl, by decide +kernel, rfl, by decide +kernel, by decide +kernel⟩
theorem ok_links (T : Txt K mg) : Kept P w K mg base 4 (He.ma K (CC K) "links") ["self"] (spLinks K) := by
  refine keep_of (d := d_case_links) T.d_case_links sc_links (fun _ _ _ _ _ _ us hl => match us, hl with | [_], _ => rfl) (fun vs H Q E h => ?_) (fun cd A outer s H vs Q E hr h => ?_)
  · obtain ⟨p, c, rfl, _⟩ := h
    rfl
  · obtain ⟨p, c, rfl, hp, ok, k⟩ := h
    have nd := sc_links.nd
    have hu := hu_of hr
    refine ⟨_, pss_cons (ps_set (i := 1) nd rfl (Or.inl rfl) (pe_lst pa_nil))
      (pss_cons (ps_for PassesOwn.never rfl (pi_list (pe_at K (pv 0))) (pg_name (i := 2) nd rfl (Or.inl rfl))
        (pss_one (ps_for PassesOwn.never rfl (pi_list (pv 2)) (pg_name (i := 3) nd rfl (Or.inr rfl))
          (pss_cons (ps_set (i := 4) nd rfl (Or.inr rfl) (pe_it K (pe_dget hu (pe_at K (pv 0)) (pv 3) (fun _ _ => rfl)) pe_int))
          (pss_one (ps_aug (i := 1) nd rfl (Or.inl rfl) (pe_lc (own := [("one", 5)]) (g := gName 5) rfl nd (pi_list (pe_m (pv 0) T.c_Case T.m_Case_ahead (ok_ahead T) hr (Nat.le_refl _) (pa_cons (pv 2) (pa_cons (pv 3) pa_nil))))
            (blkOk_by (own := [("one", 5)]) (N := ["self", "found", "lot", "place", "grade", "one"]) (sc := d_case_links.scope) (by decide +kernel)) (fun _ _ _ _ _ => pg_name (i := 5) nd rfl (Or.inl rfl))
            (fun _ _ _ _ _ => pts_one (pt_cmpR op_lt (pe_it K (pe_dget hu (pe_at K (pv 0)) (pv 5) (fun _ _ => rfl)) pe_int) (pv 4) (nomark _)))
            (fun _ _ _ _ _ => pe_tup (pa_cons (pv 5) (pa_cons (pv 3) pa_nil)))) ip_ext))))))
      (pss_one (ps_ret (pe_callB cr_sortedP rfl T.f_sorted (by decide +kernel) (pa_cons (pv 1) pa_nil))))), ?_⟩
    obtain ⟨dx, fs, i, d, t, l, h1, h2, h3⟩ := hp.ex
    obtain ⟨ls, hl, rl⟩ := h3.lo
    refine ⟨Nat.zero_le _, fun f nf => ?_⟩
    have s0 : Same H (upd H f (.lst [])) := same_new nf
    refine ⟨_, rfl, p, CC K, dx, fs, _, rfl, s0 _ _ h1, T.c_Case, T.n_Case_lots, h2.lo, l, rfl, ⟨_, SqL.of (s0 _ _ hl)⟩, ?_⟩
    refine for_list (K := K) (a := l) (xs := ls) (fun n σ H' => Same H H' ∧ (∃ v2 v3 v4 v5, σ = [some (.ref p), some (.ref f), v2, v3, v4, v5]) ∧ ∃ prs ys, H' f = some (.lst ys) ∧ Refs H' pv2 prs ys ∧ ys.length ≤ n * 81 ∧
      ∀ q, q ∈ prs ↔ c.Lk q ∧ ∃ lot ∈ c.lots.take n, q.2 ∈ lot) ⟨s0, ⟨_, _, _, _, rfl⟩, [], [], upd_same, .nil, Nat.zero_le _, fun q => by simp⟩ (fun n σ H' _ h => SqL.of (h.1 _ _ hl)) ?_ ?_
    · rintro n x σ H' hx ⟨s1, ⟨v2, v3, v4, v5, rfl⟩, prs, ys, hf, rf, len, mem⟩
      have hn : n < c.lots.length := by rw [Paired.length rl]; exact (List.getElem?_eq_some_iff.mp hx).1
      have hlot : c.lots[n]? = some c.lots[n] := List.getElem?_eq_getElem hn
      obtain ⟨x', ex', la, rfl, hla⟩ := pair_get rl hlot
      rw [hx] at ex'
      cases ex'
      generalize c.lots[n] = lot at hlot hla
      have lotm := List.mem_of_getElem? hlot
      have hla1 := s1 _ _ hla
      refine ⟨_, rfl, la, rfl, ⟨_, SqL.of hla1⟩, ?_⟩
      refine for_list (K := K) (a := la) (xs := lot.map V.int) (fun m σ H' => Same H H' ∧ (∃ v3 v4 v5, σ = [some (.ref p), some (.ref f), some (.ref la), v3, v4, v5]) ∧ ∃ prs ys, H' f = some (.lst ys) ∧ Refs H' pv2 prs ys ∧ ys.length ≤ n * 81 + m * 9 ∧
        ∀ q, q ∈ prs ↔ c.Lk q ∧ ((∃ lot ∈ c.lots.take n, q.2 ∈ lot) ∨ q.2 ∈ lot.take m)) ⟨s1, ⟨_, _, _, rfl⟩, prs, ys, hf, rf, len, fun q => by rw [mem]; simp⟩ (fun n σ H' _ h => SqL.of (h.1 _ _ hla)) ?_ ?_
      · rintro m y σ H2 hy ⟨s2, ⟨v3, v4, v5, rfl⟩, prs, ys, hf, rf, len, mem⟩
        rw [List.getElem?_map] at hy
        obtain ⟨b, hb, rfl⟩ := Option.map_eq_some_iff.mp hy
        have bl : b ∈ lot := List.mem_of_getElem? hb
        have bp : b ∈ c.ps := ok.lsub lot lotm b bl
        have h32 := h3.lk (.of s2)
        obtain ⟨ab, vb, gb, -, tb⟩ := h32.to.get bp
        have hp2 := hp.same s2
        obtain ⟨dx', fs', h1', h2'⟩ := hp2.me "_ahead"
        refine ⟨_, rfl, p, CC K, dx, fs, _, rfl, s2 _ _ h1, T.c_Case, T.n_Case_told, h2.to, _, rfl, t, _, rfl, gb, _, _, _, _, rfl, rfl, SqT.of tb, rfl, ?_⟩
        refine ⟨_, rfl, _, rfl, p, dx', fs', rfl, h1', h2', _, rfl, _, rfl, p, c, la, lot, b, rfl, hp2, s2 _ _ hla, ok.ll lot lotm, fun x hx => ⟨ok.lsub lot lotm x hx, ok.pj x (ok.lsub lot lotm x hx)⟩, bp, fun aa H3 s3 ha => ?_⟩
        have s23 := Same.trans s2 s3
        refine ⟨aa, rfl, ⟨_, SqL.of ha⟩, fun D nD => lc_lrel (l := lot.filter fun x => c.ah x b) (walkN (List.length_map ..)) nD (Nat.le_trans (List.length_filter_le _ _) (Nat.le_trans (ok.ll lot lotm) (by decide))) (fun x => decide ((c.rw x).grade < (c.rw b).grade))
          (fun x v H => ∃ t, v = .ref t ∧ H t = some (.tup (pv2 (x, b)))) (fun x v H H' ⟨t, e, q⟩ ⟨z, hz⟩ sb => ⟨t, e, sb _ _ (fun e2 => by rw [e2, hz] at q; cases q) q⟩) (fun H1 s1 => SqL.of (s1 _ _ ha)) (fun i y H4 H5 x hxi s4 hD hY N Z b1 b2 => ?_) fun H4 zs' s4 e4 r4 => ?_⟩
        · obtain ⟨rfl, hx1⟩ := hY
          rw [List.getElem?_map, hxi] at hx1
          cases hx1
          have s04 := Same.trans s23 s4
          have xm := List.mem_filter.mp (List.mem_of_getElem? hxi)
          have xp := ok.lsub lot lotm x xm.1
          obtain ⟨ax, vx, gx, -, tx⟩ := (h3.lk (.of s04)).to.get xp
          refine ⟨rfl, _, rfl, p, CC K, dx, fs, _, rfl, s04 _ _ h1, T.c_Case, T.n_Case_told, h2.to, _, rfl, t, _, rfl, gx, _, _, _, _, rfl, rfl, SqT.of tx, rfl, _, rfl, _, _, rfl, rfl, _, rfl, ?_⟩
          refine iteD (fun hlt => ⟨_, rfl, _, rfl, by show 2 ≤ sizeLine; exact small (by omega), fun tq ntq => b1 (decide_eq_true hlt) _ _ (same_new ntq) ⟨tq, rfl, upd_same⟩⟩) (fun hlt => b2 (decide_eq_false hlt) _ (Same.refl _))
        · have s24 := Same.trans s3 s4
          have hf4 := s24 _ _ hf
          have zl : zs'.length ≤ 9 := by
            rw [← Paired.length r4]
            exact Nat.le_trans (List.length_filter_le _ _) (Nat.le_trans (List.length_filter_le _ _) (ok.ll lot lotm))
          refine ⟨f, D, ys, zs', rfl, rfl, hf4, e4, small ?_, ?_⟩
          · have := ok.l9
            have := ok.ll lot lotm
            have : m < lot.length := (List.getElem?_eq_some_iff.mp hb).1
            omega
          have sel : ∀ x, x ∈ (lot.filter fun x => c.ah x b).filter (fun x => decide ((c.rw x).grade < (c.rw b).grade)) ↔ c.Lk (x, b) := fun x => by
            simp only [List.mem_filter, decide_eq_true_eq]
            constructor
            · rintro ⟨⟨h1, h2⟩, h3⟩
              exact ⟨ok.lsub lot lotm x h1, bp, (ok.lone lot lotm x h1 b bp).mp bl, h2, h3⟩
            · rintro ⟨h1, _, h2, h3, h4⟩
              refine ⟨⟨(ok.lone lot lotm b bl x h1).mpr (by rw [c.one_symm]; exact h2), h3⟩, h4⟩
          have kf : ∀ {b : Addr} {zs : List V}, H4 b = some (.tup zs) → upd H4 f (.lst (ys ++ zs')) b = some (.tup zs) := fun {b zs} q => by
            rw [upd_ne (fun z => by rw [z, hf4] at q; cases q)]
            exact q
          refine ⟨same_upd (Same.trans s23 s4) nf, ⟨_, _, _, rfl⟩, prs ++ ((lot.filter fun x => c.ah x b).filter fun x => decide ((c.rw x).grade < (c.rw b).grade)).map (fun x => (x, b)), ys ++ zs', upd_same, ?_, ?_, fun q => ?_⟩
          · refine pair_app (Paired.mapP rf fun x v ⟨a, e, q⟩ => ⟨a, e, kf (s24 _ _ q)⟩) ?_
            exact pair_mapL (Paired.mapP r4 fun x v ⟨a, e, q⟩ => ⟨a, e, kf q⟩)
          · rw [List.length_append]
            omega
          · rw [List.mem_append, mem, take_mem hb, List.mem_map]
            constructor
            · rintro (⟨h1, h2⟩ | ⟨x, h1, rfl⟩)
              · exact ⟨h1, h2.imp_right .inl⟩
              · exact ⟨(sel x).mp h1, .inr (.inr rfl)⟩
            · rintro ⟨h1, h2 | h2 | h2⟩
              · exact .inl ⟨h1, .inl h2⟩
              · exact .inl ⟨h1, .inr h2⟩
              · refine .inr ⟨q.1, (sel q.1).mpr ?_, ?_⟩
                · rw [← h2]; exact h1
                · rw [← h2]
      · rintro σ H2 ⟨s2, ⟨v3, v4, v5, rfl⟩, prs, ys, hf, rf, len, mem⟩
        refine ⟨s2, ⟨_, _, _, _, rfl⟩, prs, ys, hf, rf, ?_, fun q => ?_⟩
        · have := ok.ll lot lotm
          rw [List.length_map] at len
          omega
        · rw [mem, List.length_map, List.take_length]
          constructor
          · rintro ⟨h1, ⟨l', h2, h3⟩ | h2⟩
            · exact ⟨h1, l', (take_mem hlot).mpr (.inl h2), h3⟩
            · exact ⟨h1, lot, (take_mem hlot).mpr (.inr rfl), h2⟩
          · rintro ⟨h1, l', h2, h3⟩
            rcases (take_mem hlot).mp h2 with h | rfl
            · exact ⟨h1, .inl ⟨l', h, h3⟩⟩
            · exact ⟨h1, .inr h3⟩
    · rintro σ H2 ⟨s2, ⟨v2, v3, v4, v5, rfl⟩, prs, ys, hf, rf, len, mem⟩
      refine ⟨_, rfl, f, ys, rfl, SqL.of hf, fun x hx => ?_, fun zs a pm na => ?_⟩
      · obtain ⟨n, hn⟩ := List.getElem?_of_mem hx
        obtain ⟨q, t, e1, e2, e3⟩ := rf.back hn
        exact ⟨t, q.1, q.2, e2, e3⟩
      · obtain ⟨prs', pp, rp⟩ := pair_perm pm rf
        refine k a _ prs' zs (same_upd s2 (Same.free s2 na)) upd_same (Refs.same rp (same_new na)) fun q => ?_
        rw [pp.mem_iff, mem]
        constructor
        · exact fun h => h.1
        · intro h
          obtain ⟨l', h1, h2⟩ := ok.lcov q.2 h.b
          refine ⟨h, l', ?_, h2⟩
          rw [← Paired.length rl, List.take_length]
          exact h1
end RB
end

section
set_option maxRecDepth 100000
set_option maxHeartbeats 4000000
/-! edges -/
namespace RB
open PySem PySem.Spec PyProof.Rows L2
variable {P : Program} {w : World} {K : PySem.W.Frag} {mg : Str → Option Value} {base : Heap}
/-- the edges of a case -/
structure EdC (c : Cs) (E : Ed) : Prop where
  ok : E.Ok
  items : E.items = c.items
  adj : ∀ i o, E.A i o ↔ Adj c.T c.dr i o
  snd : ∀ i o, E.A i o → E.snd i o ∈ c.ps ∧ (c.rw (E.snd i o)).item = o
theorem Cs.Ok.adj {c : Cs} {i o : Str} : Adj c.T c.dr i o ↔ ∃ q, c.Lk q ∧ (c.rw q.1).item = i ∧ (c.rw q.2).item = o := by
  constructor
  · rintro ⟨p, hp, q, hq, ha, hl, rfl, rfl⟩
    obtain ⟨p1, p2⟩ := Cs.mem.mp hp
    obtain ⟨q1, q2⟩ := Cs.mem.mp hq
    obtain ⟨p, pr⟩ := p
    obtain ⟨q, qr⟩ := q
    simp only at p1 p2 q1 q2 hl
    subst p2 q2
    rw [Cs.ahead_eq, Bool.and_eq_true] at ha
    exact ⟨(p, q), ⟨p1, q1, ha.1, ha.2, hl⟩, rfl, rfl⟩
  · rintro ⟨⟨a, b⟩, l, rfl, rfl⟩
    exact ⟨(a, c.rw a), Cs.mem.mpr ⟨l.a, rfl⟩, (b, c.rw b), Cs.mem.mpr ⟨l.b, rfl⟩, by rw [Cs.ahead_eq, Bool.and_eq_true]; exact ⟨l.one, l.ah⟩, l.lt, rfl, rfl⟩
/-- the edges of some links -/
structure EdP (c : Cs) (prs : List (Int × Int)) (E : Ed) : Prop where
  items : E.items = c.items
  ond : ∀ i ∈ E.items, (E.outs i).Nodup
  mem : ∀ i ∈ E.items, ∀ o, o ∈ E.outs i ↔ ∃ q ∈ prs, (c.rw q.1).item = i ∧ (c.rw q.2).item = o
  snd : ∀ i ∈ E.items, ∀ o ∈ E.outs i, E.snd i o ∈ c.ps ∧ (c.rw (E.snd i o)).item = o
theorem EdP.all {c : Cs} (ok : c.Ok) {prs : List (Int × Int)} {E : Ed} (h : EdP c prs E) (m : ∀ q, q ∈ prs ↔ c.Lk q) : EdC c E := by
  refine ⟨⟨by rw [h.items]; exact ok.ind, by rw [h.items]; exact ok.i4, h.ond, fun i hi o ho => ?_⟩, h.items, fun i o => ?_, fun i o a => h.snd i a.1 o a.2⟩
  · obtain ⟨q, hq, _, rfl⟩ := (h.mem i hi o).mp ho
    rw [h.items]
    exact ok.pi _ ((m q).mp hq).b
  · rw [Cs.Ok.adj]
    constructor
    · rintro ⟨a, b⟩
      obtain ⟨q, hq, h1, h2⟩ := (h.mem i a o).mp b
      exact ⟨q, (m q).mp hq, h1, h2⟩
    · rintro ⟨q, hq, h1, h2⟩
      have hi : i ∈ E.items := by rw [h.items, ← h1]; exact ok.pi _ hq.a
      exact ⟨hi, (h.mem i hi o).mpr ⟨q, (m q).mpr hq, h1, h2⟩⟩
theorem EdP.skip {c : Cs} {prs : List (Int × Int)} {E : Ed} (h : EdP c prs E) {q : Int × Int} (ho : (c.rw q.2).item ∈ E.outs (c.rw q.1).item) (hi : (c.rw q.1).item ∈ E.items) : EdP c (prs ++ [q]) E := by
  refine ⟨h.items, h.ond, fun i hi' o => ?_, h.snd⟩
  rw [h.mem i hi' o]
  constructor
  · rintro ⟨q, a, b⟩; exact ⟨q, List.mem_append_left _ a, b⟩
  · rintro ⟨q', a, b, d⟩
    rcases List.mem_append.mp a with m | m
    · exact ⟨q', m, b, d⟩
    · rw [List.mem_singleton.mp m] at b d
      subst b d
      exact (h.mem _ hi' _).mp ho
def Ed.put (E : Ed) (i o : Str) (q : Int × Int) : Ed := ⟨E.items, fun j => if j = i then E.outs i ++ [o] else E.outs j, fun j y => if j = i ∧ y = o then q.1 else E.fst j y, fun j y => if j = i ∧ y = o then q.2 else E.snd j y⟩
theorem EdP.add {c : Cs} {prs : List (Int × Int)} {E : Ed} (h : EdP c prs E) {q : Int × Int} (ho : (c.rw q.2).item ∉ E.outs (c.rw q.1).item) (hi : (c.rw q.1).item ∈ E.items) (hb : q.2 ∈ c.ps) : EdP c (prs ++ [q]) (E.put (c.rw q.1).item (c.rw q.2).item q) := by
  refine ⟨h.items, fun j hj => ?_, fun j hj o => ?_, fun j hj o => ?_⟩
  · show (if j = (c.rw q.1).item then E.outs (c.rw q.1).item ++ [(c.rw q.2).item] else E.outs j).Nodup
    split
    · rw [List.nodup_append]
      exact ⟨h.ond _ hi, by simp, fun a ha b hb e => ho (by rw [List.mem_singleton.mp hb] at e; rw [← e]; exact ha)⟩
    · exact h.ond j hj
  · show o ∈ (if j = (c.rw q.1).item then E.outs (c.rw q.1).item ++ [(c.rw q.2).item] else E.outs j) ↔ _
    by_cases e : j = (c.rw q.1).item
    · subst e
      rw [if_pos rfl, List.mem_append, h.mem _ hj o]
      constructor
      · rintro (⟨q', a, b⟩ | m)
        · exact ⟨q', List.mem_append_left _ a, b⟩
        · exact ⟨q, List.mem_append_right _ (List.mem_singleton.mpr rfl), rfl, (List.mem_singleton.mp m).symm⟩
      · rintro ⟨q', a, b, d⟩
        rcases List.mem_append.mp a with m | m
        · exact .inl ⟨q', m, b, d⟩
        · rw [List.mem_singleton.mp m] at d
          exact .inr (List.mem_singleton.mpr d.symm)
    · rw [if_neg e, h.mem j hj o]
      constructor
      · rintro ⟨q', a, b⟩; exact ⟨q', List.mem_append_left _ a, b⟩
      · rintro ⟨q', a, b, d⟩
        rcases List.mem_append.mp a with m | m
        · exact ⟨q', m, b, d⟩
        · rw [List.mem_singleton.mp m] at b
          exact absurd b.symm e
  · show o ∈ (if j = (c.rw q.1).item then E.outs (c.rw q.1).item ++ [(c.rw q.2).item] else E.outs j) → (if j = (c.rw q.1).item ∧ o = (c.rw q.2).item then q.2 else E.snd j o) ∈ c.ps ∧ (c.rw (if j = (c.rw q.1).item ∧ o = (c.rw q.2).item then q.2 else E.snd j o)).item = o
    intro m
    by_cases e : j = (c.rw q.1).item ∧ o = (c.rw q.2).item
    · rw [if_pos e]
      exact ⟨hb, e.2.symm⟩
    · rw [if_neg e]
      refine h.snd j hj o ?_
      by_cases e2 : j = (c.rw q.1).item
      · rw [if_pos e2] at m
        rcases List.mem_append.mp m with m | m
        · rw [e2]; exact m
        · exact absurd ⟨e2, List.mem_singleton.mp m⟩ e
      · rw [if_neg e2] at m
        exact m
def spEdges (K : PySem.W.Frag) : Sp := fun vs H Q _ => ∃ (p : Addr) (c : Cs), vs = [.ref p] ∧ CsAt K H p c ∧ c.Ok ∧ ∀ a H' E, Same H H' → EdAt H' a E → EdC c E → Q (.ref a) H'
theorem sc_edges : FnScope ["self", "edges", "first", "second", "item"] ["self"] d_case_edges.scope := ⟨rfl, rfl, rfl, by decide +kernel, rfl, by decide +kernel, by decide +kernel⟩
theorem ok_edges (T : Txt K mg) : Kept P w K mg base 5 (He.ma K (CC K) "_edges") ["self"] (spEdges K) := by
  refine keep_of (d := d_case_edges) T.d_case_edges sc_edges (fun _ _ _ _ _ _ us hl => match us, hl with | [_], _ => rfl) (fun vs H Q E h => ?_) (fun cd A outer s H vs Q E hr h => ?_)
  · obtain ⟨p, c, rfl, _⟩ := h
    rfl
  · obtain ⟨p, c, rfl, hp, ok, k⟩ := h
    have nd := sc_edges.nd
    have hu := hu_of hr
    refine ⟨_, pss_cons (ps_setDc (i := 1) (own := [("item", 4)]) (g := gName 4) (tt := tYes) rfl nd rfl rfl (swap_dc rfl rfl rfl (by decide +kernel)) (pi_list (pe_at K (pv 0)))
          (blkOk_by (own := [("item", 4)]) (N := ["self", "edges", "first", "second", "item"]) (sc := d_case_edges.scope) (by decide +kernel)) (fun _ _ _ _ _ => pg_name (i := 4) nd rfl (Or.inl rfl)) (fun _ _ _ _ _ => pts_nil)
          (fun _ _ _ _ _ => pv 4) (fun _ _ _ _ _ => pe_dnewK))
      (pss_cons (ps_for PassesOwn.never rfl (pi_list (pe_m0 (pv 0) T.c_Case T.m_Case_links (ok_links T) hr (Nat.le_refl _))) (pg_tup rfl (pgs_cons (pg_name (i := 2) nd rfl (Or.inl rfl)) (pgs_cons (pg_name (i := 3) nd rfl (Or.inl rfl)) pgs_nil)))
        (pss_one (ps_expr (pe_dsetd (pe_dget hu (pv 1) (pe_it K (pe_dget hu (pe_at K (pv 0)) (pv 2) (fun _ _ => rfl)) pe_int) (fun _ _ => rfl)) (pe_it K (pe_dget hu (pe_at K (pv 0)) (pv 3) (fun _ _ => rfl)) pe_int) (pe_tup (pa_cons (pv 2) (pa_cons (pv 3) pa_nil))) ⟨rfl, rfl, rfl, rfl⟩))))
      (pss_one (ps_ret (pv 1)))), ?_⟩
    obtain ⟨dx, fs, i, d, t, l, h1, h2, h3⟩ := hp.ex
    refine ⟨_, rfl, p, CC K, dx, fs, _, rfl, h1, T.c_Case, T.n_Case_items, h2.it, i, rfl, ⟨_, SqL.of h3.it⟩, fun e ne => ?_⟩
    refine dc_inv (ks := c.items) (walkN (n := c.items.length) (List.length_map ..)) rfl ok.ind ne (small (Nat.le_trans ok.i4 (by decide))) (fun n f H' => ∃ ed : Str → Addr, ∀ k ∈ c.items.take n, f k = .ref (ed k) ∧ H' (ed k) = some (.dK []) ∧ H (ed k) = none ∧ ed k ≠ e ∧ ∀ j ∈ c.items.take n, ed k = ed j → k = j)
      ⟨fun _ => 0, fun k hk => by simp at hk⟩ (fun H1 s1 => SqL.of (s1 _ _ h3.it)) (fun n x H1 H2 kx f hkx hnot s1 hD hR hY N Z b => ?_) fun H1 f s1 e1 hR => ?_
    · obtain ⟨rfl, hx⟩ := hY
      obtain ⟨ed, hR⟩ := hR
      rw [List.getElem?_map, hkx] at hx
      cases hx
      refine ⟨rfl, yesT ⟨_, rfl, fun q nq => b (.ref q) _ (same_new nq) fun H5 sb => ⟨fun j => if j = kx then q else ed j, fun k hk => ?_⟩⟩⟩
      have qe : q ≠ e := (ne_of_none hD nq).symm
      have q5 : H5 q = some (.dK []) := sb _ _ qe upd_same
      show (if k = kx then V.ref q else f k) = V.ref (if k = kx then q else ed k) ∧ H5 (if k = kx then q else ed k) = some (.dK []) ∧ H (if k = kx then q else ed k) = none ∧ (if k = kx then q else ed k) ≠ e ∧ ∀ j ∈ c.items.take (n + 1), (if k = kx then q else ed k) = (if j = kx then q else ed j) → k = j
      have old : ∀ k ∈ c.items.take n, ¬ k = kx ∧ ed k ≠ q := fun k hk => ⟨fun z => hnot (z ▸ hk), ne_of_none (hR k hk).2.1 nq⟩
      rcases (take_mem hkx).mp hk with m | rfl
      · obtain ⟨o1, o2⟩ := old k m
        obtain ⟨r1, r2, r3, r4, r5⟩ := hR k m
        rw [if_neg o1, if_neg o1]
        refine ⟨r1, sb _ _ r4 (by rw [upd_ne o2]; exact r2), r3, r4, fun j hj => ?_⟩
        rcases (take_mem hkx).mp hj with mj | rfl
        · rw [if_neg (old j mj).1]
          exact r5 j mj
        · rw [if_pos rfl]
          exact fun z => absurd z o2
      · rw [if_pos rfl, if_pos rfl]
        refine ⟨rfl, q5, Same.free s1 nq, qe, fun j hj => ?_⟩
        rcases (take_mem hkx).mp hj with mj | rfl
        · rw [if_neg (old j mj).1]
          exact fun z => absurd z.symm (old j mj).2
        · exact fun _ => rfl
    · obtain ⟨ed, hR⟩ := hR
      rw [List.take_length] at hR
      have hp1 := hp.same s1
      obtain ⟨dx', fs', h1', h2'⟩ := hp1.me "links"
      refine ⟨_, rfl, p, dx', fs', rfl, h1', h2', p, c, rfl, hp1, ok, fun a H2 prs ys s2 ha rp mem => ?_⟩
      have s12 := Same.trans s1 s2
      have he1 : H2 e = some (.dK (dS c.items fun i => .ref (ed i))) := by
        rw [s2 _ _ e1]
        exact congrArg (fun z => some (HO.dK z)) (dG_congr fun k hk => (hR k hk).1)
      refine ⟨a, rfl, ⟨_, SqL.of ha⟩, ?_⟩
      refine for_list (K := K) (a := a) (xs := ys) (fun n σ H' => (∃ v2 v3, σ = [some (.ref p), some (.ref e), v2, v3, none]) ∧ Same H H' ∧ H' e = some (.dK (dS c.items fun i => .ref (ed i))) ∧ H' a = some (.lst ys) ∧ Refs H' pv2 prs ys ∧
        ∃ E lk, EdP c (prs.take n) E ∧ EdIn H' E ed lk) ⟨⟨_, _, rfl⟩, s12, he1, ha, rp, ⟨c.items, fun _ => [], fun _ _ => 0, fun _ _ => 0⟩, fun _ _ => 0, ⟨rfl, fun _ _ => by simp, fun i hi o => by simp, fun i hi o ho => by simp at ho⟩, ⟨fun i hi => s2 _ _ (hR i hi).2.1, fun i hi o ho => by simp at ho⟩⟩
        (fun n σ H' _ h => SqL.of h.2.2.2.1) ?_ ?_
      · rintro n x σ H3 hx ⟨⟨v2, v3, rfl⟩, s3, he, ha3, rp3, E, lk, ep, ein⟩
        obtain ⟨q, tq, hq, rfl, htq⟩ := rp3.back hx
        have lk1 := (mem q).mp (List.mem_of_getElem? hq)
        obtain ⟨a1, w1, g1, -, t1⟩ := (h3.lk (.of s3)).to.get lk1.a
        obtain ⟨a2, w2, g2, -, t2⟩ := (h3.lk (.of s3)).to.get lk1.b
        have hi : (c.rw q.1).item ∈ c.items := ok.pi _ lk1.a
        have hiE : (c.rw q.1).item ∈ E.items := by rw [ep.items]; exact hi
        refine ⟨tq, _, rfl, SqT.of htq, rfl, _, _, rfl, _, _, rfl, rfl, ?_⟩
        refine ⟨_, rfl, _, rfl, p, CC K, dx, fs, _, rfl, s3 _ _ h1, T.c_Case, T.n_Case_told, h2.to, _, rfl, t, _, rfl, g1, _, _, _, _, rfl, rfl, SqT.of t1, rfl, e, _, rfl, dS_get (.inl he) hi, ?_⟩
        refine ⟨_, rfl, .inl ⟨_, .inl (ein.i _ hiE)⟩, ?_⟩
        refine ⟨_, rfl, p, CC K, dx, fs, _, rfl, s3 _ _ h1, T.c_Case, T.n_Case_told, h2.to, _, rfl, t, _, rfl, g2, _, _, _, _, rfl, rfl, SqT.of t2, rfl, ?_⟩
        refine ⟨_, rfl, _, rfl, by show 2 ≤ sizeLine; exact small (by omega), fun nt nnt => ?_⟩
        have s4 : Same H3 (upd H3 nt (.tup [.int q.1, .int q.2])) := same_new nnt
        have htk : prs.take (n + 1) = prs.take n ++ [q] := by rw [List.take_succ, hq]; rfl
        refine ⟨_, Sum.inr (c.rw q.2).item, s4 _ _ (ein.i _ hiE), rfl, ?_, fun v hv => ?_, fun hv => ?_⟩
        · rw [dG_length]
          have l1 : (E.outs (c.rw q.1).item).length ≤ c.items.length := nodup_le (ep.ond _ hiE) fun o ho => by
            obtain ⟨q', m, _, rfl⟩ := (ep.mem _ hiE o).mp ho
            exact ok.pi _ ((mem q').mp (List.mem_of_mem_take m)).b
          have l2 := ok.i4
          exact smaller (by omega)
        · have ho : (c.rw q.2).item ∈ E.outs (c.rw q.1).item := by
            apply Classical.byContradiction
            intro z
            rw [dG_no injS z] at hv
            cases hv
          refine ⟨⟨_, _, rfl⟩, Same.trans s3 s4, s4 _ _ he, s4 _ _ ha3, rp3.same s4, E, lk, ?_, ein.same s4⟩
          rw [htk]
          exact ep.skip ho hiE
        · have ho : (c.rw q.2).item ∉ E.outs (c.rw q.1).item := by
            intro z
            rw [dG_at injS z] at hv
            cases hv
          rw [dG_putNew injS _ ho]
          have nH : H (ed (c.rw q.1).item) = none := (hR _ hi).2.2.1
          have ee : ed (c.rw q.1).item ≠ e := (hR _ hi).2.2.2.1
          have hei := s4 _ _ (ein.i _ hiE)
          have kp : ∀ {b : Addr} {xs : List V}, H3 b = some (.tup xs) → ∀ o, upd (upd H3 nt (.tup [.int q.1, .int q.2])) (ed (c.rw q.1).item) o b = some (.tup xs) := fun {b xs} z o => by
            rw [upd_ne (fun y => by have := s4 _ _ z; rw [y, hei] at this; cases this)]
            exact s4 _ _ z
          refine ⟨⟨_, _, rfl⟩, same_upd (Same.trans s3 s4) nH, ?_, ?_, Paired.mapP rp3 fun x v ⟨a, e1, z⟩ => ⟨a, e1, kp z _⟩, E.put (c.rw q.1).item (c.rw q.2).item q, fun j y => if j = (c.rw q.1).item ∧ y = (c.rw q.2).item then nt else lk j y, ?_, ?_, ?_⟩
          · rw [upd_ne ee.symm]; exact s4 _ _ he
          · rw [upd_ne (fun z => by have := s4 _ _ ha3; rw [z, hei] at this; cases this)]; exact s4 _ _ ha3
          · rw [htk]
            exact ep.add ho hiE lk1.b
          · intro j hj
            show _ = some (HO.dK (dS (if j = (c.rw q.1).item then E.outs (c.rw q.1).item ++ [(c.rw q.2).item] else E.outs j) fun y => .ref (if j = (c.rw q.1).item ∧ y = (c.rw q.2).item then nt else lk j y)))
            by_cases ej : j = (c.rw q.1).item
            · subst ej
              rw [upd_same, if_pos rfl]
              refine congrArg (fun z => some (HO.dK z)) (dG_congr fun y hy => ?_)
              by_cases ey : y = (c.rw q.2).item
              · rw [if_pos ey, if_pos ⟨rfl, ey⟩]
              · rw [if_neg ey, if_neg (fun z => ey z.2)]
            · rw [if_neg ej, upd_ne (fun z => ej ((hR j (by rw [← ep.items]; exact hj)).2.2.2.2 _ hi z)), s4 _ _ (ein.i j hj)]
              refine congrArg (fun z => some (HO.dK z)) (dG_congr fun y hy => ?_)
              rw [if_neg (fun z => ej z.1)]
          · intro j hj o ho'
            show upd _ _ _ (if j = (c.rw q.1).item ∧ o = (c.rw q.2).item then nt else lk j o) = some (.tup [.int (if j = (c.rw q.1).item ∧ o = (c.rw q.2).item then q.1 else E.fst j o), .int (if j = (c.rw q.1).item ∧ o = (c.rw q.2).item then q.2 else E.snd j o)])
            by_cases ej : j = (c.rw q.1).item ∧ o = (c.rw q.2).item
            · rw [if_pos ej, if_pos ej, if_pos ej, upd_ne (fun z => by rw [← z, upd_same] at hei; cases hei), upd_same]
            · rw [if_neg ej, if_neg ej, if_neg ej]
              refine kp (ein.l j hj o ?_) _
              have ho2 : o ∈ (if j = (c.rw q.1).item then E.outs (c.rw q.1).item ++ [(c.rw q.2).item] else E.outs j) := ho'
              by_cases e2 : j = (c.rw q.1).item
              · rw [if_pos e2] at ho2
                rcases List.mem_append.mp ho2 with m | m
                · rw [e2]; exact m
                · exact absurd ⟨e2, List.mem_singleton.mp m⟩ ej
              · rw [if_neg e2] at ho2
                exact ho2
      · rintro σ H3 ⟨⟨v2, v3, rfl⟩, s3, he, ha3, rp3, E, lk, ep, ein⟩
        rw [← rp3.len, List.take_length] at ep
        refine ⟨_, rfl, k e H3 E s3 ⟨ed, lk, ?_, fun i hi => (hR i (by rw [← ep.items]; exact hi)).2.2.2.1, ein⟩ (ep.all ok mem)⟩
        rw [ep.items]
        exact he
end RB
end

section
set_option maxRecDepth 100000
set_option maxHeartbeats 4000000
/-! ways -/
namespace RB
open PySem PySem.Spec PyProof.Rows L2
variable {P : Program} {w : World} {K : PySem.W.Frag} {mg : Str → Option Value} {base : Heap}
/-! ### links as data -/
def dpP (q : Int × Int) : PyData := .tuple [.int q.1, .int q.2]
theorem dp_pair {H : Hp} {a : Addr} {q : Int × Int} (h : H a = some (.tup (pv2 q))) : Dp K H (.ref a) (dpP q) := .tup (SqT.of h) (.cons (.int _) (.cons (.int _) .nil))
theorem dp_refs {H : Hp} : ∀ {prs : List (Int × Int)} {xs : List V}, Refs H pv2 prs xs → DpAll K H xs (prs.map dpP)
  | _, _, .nil => .nil
  | _, _, .cons ⟨a, e, h⟩ t => by
    subst e
    exact .cons (dp_pair h) (dp_refs t)
theorem lay_pair (q : Int × Int) : (dpP q).canLay0 = true ∧ (dpP q).depth = 1 := ⟨rfl, rfl⟩
theorem lay_pairs : ∀ (l : List (Int × Int)), PyData.canLayAll0 (l.map dpP) = true ∧ PyData.depthAll (l.map dpP) ≤ 1
  | [] => ⟨rfl, Nat.zero_le _⟩
  | q :: l => by
    obtain ⟨h1, h2⟩ := lay_pairs l
    obtain ⟨h3, h4⟩ := lay_pair q
    refine ⟨by simp [PyData.canLayAll0, h1, h3], ?_⟩
    simp only [List.map_cons, PyData.depthAll, h4]
    omega
theorem ord_pair (a b : Int × Int) : OrdP (dpP a) (dpP b) := .tup fun k d e h1 h2 => by
  match k with
  | 0 => cases h1; cases h2; exact .int _ _
  | 1 => cases h1; cases h2; exact .int _ _
  | k + 2 => cases h1
theorem ord_pairs (l m : List (Int × Int)) : OrdP (.list (l.map dpP)) (.list (m.map dpP)) := .lst fun k d e h1 h2 => by
  rw [List.getElem?_map] at h1 h2
  obtain ⟨a, _, rfl⟩ := Option.map_eq_some_iff.mp h1
  obtain ⟨b, _, rfl⟩ := Option.map_eq_some_iff.mp h2
  exact ord_pair a b
theorem refs_map {H : Hp} {α : Type} {g : α → Int × Int} {lk : α → Addr} : ∀ {l : List α}, (∀ o ∈ l, H (lk o) = some (.tup (pv2 (g o)))) → Refs H pv2 (l.map g) (l.map fun o => .ref (lk o))
  | [], _ => .nil
  | o :: l, h => .cons ⟨_, rfl, h o List.mem_cons_self⟩ (refs_map fun x hx => h x (List.mem_cons_of_mem _ hx))
def spWayOn (K : PySem.W.Frag) : Sp := fun vs H Q _ => ∃ (p e fa : Addr) (item : Str) (c : Cs) (E : Ed) (goal : Str) (fs : List Str) (fd : Str → Int), vs = [.ref p, .ref e, .ref fa, .str item] ∧ CsAt K H p c ∧ EdAt H e E ∧ EdC c E ∧ H fa = some (.dK (dS fs fun k => .int (fd k))) ∧ Far E goal fs fd ∧ item ∈ fs ∧
  ∀ a H' prs ys, Same H H' → H' a = some (.lst ys) → Refs H' pv2 prs ys → prs.length ≤ 4 → Q (.ref a) H'
theorem sc_way_on : FnScope ["self", "edges", "far", "item", "way", "near", "link", "other"] ["self", "edges", "far", "item"] d_case_way_on.scope := ⟨rfl, rfl, rfl, by decide +kernel, rfl, by decide +kernel, by decide +kernel⟩
theorem ok_way_on (T : Txt K mg) : Kept P w K mg base 1 (He.ma K (CC K) "_way_on") ["self", "edges", "far", "item"] (spWayOn K) := by
  refine keep_of (d := d_case_way_on) T.d_case_way_on sc_way_on (fun _ _ _ _ _ _ us hl => match us, hl with | [_, _, _, _], _ => rfl) (fun vs H Q E h => ?_) (fun cd A outer s H vs Q E hr h => ?_)
  · obtain ⟨p, e, fa, item, c, E, goal, fs, fd, rfl, _⟩ := h
    rfl
  · obtain ⟨p, e, fa, item, c, E, goal, fs, fd, rfl, hp, ⟨ed, lk, he, hne, hin⟩, ec, hfa, far, hi, k⟩ := h
    have nd := sc_way_on.nd
    have hu := hu_of hr
    refine ⟨_, pss_cons (ps_set (i := 4) nd rfl (Or.inl rfl) (pe_lst pa_nil))
      (pss_cons (ps_while PassesOwn.never (pt_cmpR op_gt (pe_dget hu (pv 2) (pv 3) (fun _ _ => rfl)) pe_int (nomark _))
        (pss_cons (ps_lock (ps_setLc (i := 5) (own := [("other", 7)]) (g := gName 7) rfl nd rfl rfl (sw_true rfl rfl rfl (by decide +kernel)) (pi_keys (pe_dget hu (pv 1) (pv 3) (fun _ _ => rfl)))
            (blkOk_by (own := [("other", 7)]) (N := ["self", "edges", "far", "item", "way", "near", "link", "other"]) (sc := d_case_way_on.scope) (by decide +kernel)) (fun _ _ _ _ _ => pg_name (i := 7) nd rfl (Or.inl rfl))
            (fun _ _ _ _ _ => pts_one (pt_cmpR op_lt (pe_dget2 hu (pv 2) (pv 7) (pe_dget hu (pv 2) (pv 3) (fun _ _ => rfl)) ⟨rfl, rfl, rfl, rfl⟩) (pe_dget hu (pv 2) (pv 3) (fun _ _ => rfl)) (nomark _)))
            (fun _ _ _ _ _ => pv 7)))
        (pss_cons (ps_set (i := 6) nd rfl (Or.inl rfl) (pe_callB (cr_minD rfl hr.units) rfl T.f_min (by decide +kernel) (pa_cons (pe_lc (own := [("other", 7)]) (g := gName 7) (tt := tYes) rfl nd (pi_list (pv 5))
            (blkOk_by (own := [("other", 7)]) (N := ["self", "edges", "far", "item", "way", "near", "link", "other"]) (sc := d_case_way_on.scope) (by decide +kernel)) (fun _ _ _ _ _ => pg_name (i := 7) nd rfl (Or.inl rfl)) (fun _ _ _ _ _ => pts_nil)
            (fun _ _ _ _ _ => pe_dget hu (pe_dget hu (pv 1) (pv 3) (fun _ _ => rfl)) (pv 7) (fun _ _ => rfl))) pa_nil)))
        (pss_cons (ps_app K (pv 4) (pv 6))
        (pss_one (ps_set (i := 3) nd rfl (Or.inr rfl) (pe_it K (pe_dget hu (pe_at K (pv 0)) (pe_it K (pv 6) pe_int) (fun _ _ => rfl)) pe_int)))))))
      (pss_one (ps_ret (pv 4)))), ?_⟩
    refine ⟨Nat.zero_le _, fun wa nwa => ?_⟩
    refine ⟨fun m σ H' => ∃ it v5 v6 prs ys, σ = [some (.ref p), some (.ref e), some (.ref fa), some (.str it), some (.ref wa), v5, v6, none] ∧ Same H H' ∧ H' wa = some (.lst ys) ∧ Refs H' pv2 prs ys ∧ it ∈ fs ∧ (m : Int) = fd it ∧ prs.length + m ≤ 4, ?_, ?_⟩
    · have h0 := far.pos item hi
      have h4 := far.bd item hi
      exact ⟨(fd item).toNat, item, none, none, [], [], rfl, same_new nwa, upd_same, .nil, hi, by omega, by simp; omega⟩
    · rintro m σ H1 ⟨it, v5, v6, prs, ys, rfl, s1, hwa, rp, hit, hm, hlen⟩
      have hitE := far.sub it hit
      have hfa1 := s1 _ _ hfa
      refine ⟨_, rfl, _, rfl, fa, _, rfl, dS_get (.inl hfa1) hit, _, _, rfl, rfl, _, rfl, iteD (fun hpos => ?_) (fun hpos => ?_)⟩
      · refine ⟨fun σ' H' => ∃ m', m' < m ∧ _, fun _ _ h => h, ?_⟩
        have hin1 := hin.same s1
        have hed := hin1.i it hitE
        have he1 := s1 _ _ he
        refine ⟨ed it, _, hed, trivial, fun od => ⟨_, rfl, _, rfl, e, _, rfl, dS_get (.inl (by rw [upd_ne (hne it hitE).symm]; exact he1)) hitE, ed it, od, rfl, .inl ⟨_, upd_same, fun D nD => ?_⟩⟩⟩
        have nDe : D ≠ ed it := fun z => by rw [z, upd_same] at nD; cases nD
        have hfal : upd H1 (ed it) (.frz od (.dK (dS (E.outs it) fun o => .ref (lk it o)))) fa = some (.dK (dS fs fun k => .int (fd k))) ∨ ∃ o, upd H1 (ed it) (.frz od (.dK (dS (E.outs it) fun o => .ref (lk it o)))) fa = some (.frz o (.dK (dS fs fun k => .int (fd k)))) := (Lk.lock (od := od) hed).rd (.inl hfa1)
        refine lc_lst (l := E.outs it) (by rw [show (E.outs it).length = (dS (E.outs it) fun o => V.ref (lk it o)).length from (dG_length ..).symm]; exact walk_keys) nD (Nat.le_trans (ec.ok.olen hitE) (by decide)) (fun o => decide (o ∈ fs ∧ fd o < fd it)) V.str (fun H2 s2 => s2 _ _ upd_same) (fun i x H2 H3 o ho s2 hY N Z b1 b2 => ?_) fun H2 s2 e2 => ?_
        · obtain ⟨rfl, k', v', hx, rfl⟩ := hY
          rw [dG_get?, ho] at hx
          cases hx
          have hfa2 := Same.rd s2 hfal
          refine ⟨rfl, _, rfl, fa, rfl, .inl ⟨_, hfa2⟩, _, rfl, _, rfl, _, rfl, fa, _, rfl, dS_get hfa2 hit, _, dS_ask o hfa2, _, rfl, _, rfl, fa, _, rfl, dS_get hfa2 hit, ?_⟩
          by_cases c1 : o ∈ fs
          · rw [if_pos c1]
            refine ⟨_, _, rfl, rfl, _, rfl, iteD (fun c2 => ?_) (fun c2 => ?_)⟩
            · exact ⟨_, rfl, b1 (decide_eq_true ⟨c1, c2⟩) _ (Same.refl _)⟩
            · exact b2 (decide_eq_false fun z => c2 z.2) _ (Same.refl _)
          · rw [if_neg c1]
            refine ⟨_, _, rfl, rfl, _, rfl, iteN (Int.lt_irrefl _) ?_⟩
            exact b2 (decide_eq_false fun z => c1 z.1) _ (Same.refl _)
        · obtain ⟨u1, u2⟩ := unlock hed s2
          have e3 : upd H2 (ed it) (.dK (dS (E.outs it) fun o => .ref (lk it o))) D = some (.lst (((E.outs it).filter fun o => decide (o ∈ fs ∧ fd o < fd it)).map V.str)) := by rw [upd_ne nDe]; exact e2
          refine ⟨u1, ?_⟩
          generalize upd H2 (ed it) (.dK (dS (E.outs it) fun o => .ref (lk it o))) = H3 at u2 e3
          clear e2 u1 s2
          generalize hnl : (E.outs it).filter (fun o => decide (o ∈ fs ∧ fd o < fd it)) = nl at e3
          have hnm : ∀ o, o ∈ nl ↔ o ∈ E.outs it ∧ o ∈ fs ∧ fd o < fd it := fun o => by rw [← hnl, List.mem_filter, decide_eq_true_eq]
          have s3 := Same.trans s1 u2
          have hin3 := hin.same s3
          refine ⟨_, rfl, D, rfl, ⟨_, SqL.of e3⟩, fun D2 n2 => lc_lst (l := nl) (walkN (List.length_map ..)) n2 ?_ (fun _ => true) (fun o => .ref (lk it o)) (fun H4 s4 => SqL.of (s4 _ _ e3)) (fun i x H4 H5 o ho s4 hY N Z b _ => ?_) fun H4 s4 e4 => ?_⟩
          · rw [← hnl]
            exact Nat.le_trans (List.length_filter_le _ _) (Nat.le_trans (ec.ok.olen hitE) (by decide))
          · obtain ⟨rfl, hx⟩ := hY
            rw [List.getElem?_map, ho] at hx
            cases hx
            have s5 := Same.trans s3 s4
            exact ⟨rfl, yesT ⟨_, rfl, _, rfl, e, _, rfl, dS_get (.inl (s5 _ _ he)) hitE, _, rfl, _, _, rfl, dS_get (.inl ((hin.same s5).i it hitE)) ((hnm o).mp (List.mem_of_getElem? ho)).1, b rfl _ (Same.refl _)⟩⟩
          · have s5 := Same.trans s3 s4
            have hin5 := hin.same s5
            rw [filter_yes] at e4
            have rf : Refs H4 pv2 (nl.map fun o => (E.fst it o, E.snd it o)) (nl.map fun o => .ref (lk it o)) := refs_map fun o ho => hin5.l it hitE o ((hnm o).mp ho).1
            have lay := lay_pairs (nl.map fun o => (E.fst it o, E.snd it o))
            refine ⟨D2, _, _, rfl, SqL.of e4, ?_, dp_refs rf, fun d hd => ?_, fun d hd d' hd' => ?_, fun x hx => ?_⟩
            · obtain ⟨o, o1, o2, o3⟩ := far.near it hit hpos
              intro z
              have : o ∈ nl := (hnm o).mpr ⟨o1, o2, o3⟩
              rw [List.map_eq_nil_iff.mp z] at this
              cases this
            · obtain ⟨q, _, rfl⟩ := List.mem_map.mp hd
              exact ⟨(lay_pair q).1, by rw [(lay_pair q).2]; decide⟩
            · obtain ⟨q, _, rfl⟩ := List.mem_map.mp hd
              obtain ⟨q', _, rfl⟩ := List.mem_map.mp hd'
              exact ord_pair _ _
            · obtain ⟨o, ho, rfl⟩ := List.mem_map.mp hx
              obtain ⟨o1, o2, o3⟩ := (hnm o).mp ho
              have ht := hin5.l it hitE o o1
              have s15 := Same.trans u2 s4
              have hwa5 := s15 _ _ hwa
              have le : prs.length = ys.length := rp.len
              refine ⟨_, rfl, tyL hwa5, _, rfl, wa, _, _, rfl, rfl, hwa5, smaller (by omega), ?_⟩
              have s6 : Same H (upd H4 wa (.lst (ys ++ [.ref (lk it o)]))) := same_upd s5 nwa
              have kp : ∀ {b : Addr} {xs : List V}, H4 b = some (.tup xs) → upd H4 wa (.lst (ys ++ [.ref (lk it o)])) b = some (.tup xs) := fun {b xs} z => by
                rw [upd_ne (fun y => by rw [y, hwa5] at z; cases z)]
                exact z
              have sd := ec.snd it o ⟨hitE, o1⟩
              obtain ⟨dx, fs', i', d', t', l', h1, h2, h3⟩ := (hp.same s6).ex
              obtain ⟨a1, w1, g1, -, t1⟩ := h3.to.get sd.1
              refine ⟨_, rfl, p, CC K, dx, fs', _, rfl, h1, T.c_Case, T.n_Case_told, h2.to, _, rfl, _, _, _, _, rfl, rfl, SqT.of (kp ht), rfl, t', _, rfl, g1, _, _, _, _, rfl, rfl, SqT.of t1, rfl, ?_⟩
              have h0 := far.pos o o2
              refine ⟨(fd o).toNat, by omega, o, some (.ref D), some (.ref (lk it o)), prs ++ [(E.fst it o, E.snd it o)], ys ++ [.ref (lk it o)], ?_, s6, upd_same, ?_, o2, by omega, ?_⟩
              · rw [sd.2]
                rfl
              · exact Refs.snoc (Paired.mapP rp fun x v ⟨a, e, q⟩ => ⟨a, e, kp (s15 _ _ q)⟩) (kp ht)
              · rw [List.length_append]
                simp only [List.length_singleton]
                omega
      · exact ⟨_, rfl, k wa H1 prs ys s1 hwa rp (by omega)⟩
end RB
end

section
set_option maxRecDepth 100000
set_option maxHeartbeats 4000000
/-! the first way -/
namespace RB
open PySem PySem.Spec PyProof.Rows L2
variable {P : Program} {w : World} {K : PySem.W.Frag} {mg : Str → Option Value} {base : Heap}
def dpT (x : Int × (Int × Int) × Str) : PyData := .tuple [.int x.1, dpP x.2.1, .str x.2.2]
theorem ord_T (a b : Int × (Int × Int) × Str) : OrdP (dpT a) (dpT b) := .tup fun k d e h1 h2 => by
  match k with
  | 0 => cases h1; cases h2; exact .int _ _
  | 1 => cases h1; cases h2; exact ord_pair _ _
  | 2 => cases h1; cases h2; exact .str _ _
  | k + 3 => cases h1
theorem strOk_item : ∀ i ∈ itemNames, PyData.strOk i = true := by decide +kernel
theorem lay_T (a : Int × (Int × Int) × Str) (h : a.2.2 ∈ itemNames) : (dpT a).canLay0 = true ∧ (dpT a).depth ≤ 30 := ⟨by
  have h1 := strOk_item _ h
  simp [dpT, dpP, PyData.canLay0, PyData.canLayAll0, h1], by show _ ≤ _; exact (by decide : 2 ≤ 30)⟩
theorem pair_mapM {α β : Type} {F G : α → β → Prop} : ∀ {l : List α} {m : List β}, Paired F l m → (∀ a ∈ l, ∀ b, F a b → G a b) → Paired G l m
  | _, _, .nil, _ => .nil
  | _, _, .cons g t, h => .cons (h _ List.mem_cons_self _ g) (pair_mapM t fun a m => h a (List.mem_cons_of_mem _ m))
theorem dp_T {H : Hp} {α : Type} {g : α → Int × (Int × Int) × Str} {lk : α → Addr} : ∀ {l : List α} {xs : List V}, Paired (fun o v => ∃ t, v = V.ref t ∧ H t = some (.tup [.int (g o).1, .ref (lk o), .str (g o).2.2]) ∧ H (lk o) = some (.tup (pv2 (g o).2.1))) l xs → DpAll K H xs ((l.map g).map dpT)
  | _, _, .nil => .nil
  | _, _, .cons ⟨t, e, h, h2⟩ r => by
    subst e
    exact .cons (.tup (SqT.of h) (.cons (.int _) (.cons (dp_pair h2) (.cons (.str _) .nil)))) (dp_T r)
theorem pair_mem {α β : Type} {F : α → β → Prop} : ∀ {l : List α} {m : List β}, Paired F l m → ∀ {b : β}, b ∈ m → ∃ a ∈ l, F a b
  | _, _, .nil, b, h => by cases h
  | _, _, .cons g t, b, h => by
    rcases List.mem_cons.mp h with rfl | h
    · exact ⟨_, List.mem_cons_self, g⟩
    · obtain ⟨a, h1, h2⟩ := pair_mem t h
      exact ⟨a, List.mem_cons_of_mem _ h1, h2⟩
def spFirstWay (K : PySem.W.Frag) : Sp := fun vs H Q _ => ∃ (p e : Addr) (c : Cs) (E : Ed) (a b : Str), vs = [.ref p, .ref e, .str a, .str b] ∧ CsAt K H p c ∧ EdAt H e E ∧ EdC c E ∧ (∀ i ∈ c.items, i ∈ itemNames) ∧ a ∈ E.items ∧ b ∈ E.items ∧
  (¬ Way E.A a b → ∀ H', Same H H' → Q .non H') ∧ (Way E.A a b → ∀ r H' prs ys, H r = none → Same H H' → H' r = some (.lst ys) → Refs H' pv2 prs ys → prs.length ≤ 5 → Q (.ref r) H')
theorem sc_first_way : FnScope ["self", "edges", "worse", "better", "far", "steps", "_", "link", "item"] ["self", "edges", "worse", "better"] d_case_first_way.scope := ⟨rfl, rfl, rfl, by decide +kernel, rfl, by decide +kernel, by decide +kernel⟩
theorem ok_first_way (T : Txt K mg) : Kept P w K mg base 2 (He.ma K (CC K) "_first_way") ["self", "edges", "worse", "better"] (spFirstWay K) := by
  refine keep_of (d := d_case_first_way) T.d_case_first_way sc_first_way (fun _ _ _ _ _ _ us hl => match us, hl with | [_, _, _, _], _ => rfl) (fun vs H Q E h => ?_) (fun cd A outer s H vs Q E hr h => ?_)
  · obtain ⟨p, e, c, E, a, b, rfl, _⟩ := h
    rfl
  · obtain ⟨p, e, c, E, wo, be, rfl, hp, hE, ec, inm, ha, hb, k1, k2⟩ := h
    have nd := sc_first_way.nd
    have hu := hu_of hr
    refine ⟨_, pss_cons (ps_set (i := 4) nd rfl (Or.inr rfl) (pe_f (ok_nearest T) hr (Nat.le_refl _) rfl T.g_nearest (pa_cons (pv 1) (pa_cons (pv 3) pa_nil))))
      (pss_cons (ps_lock (ps_setLc (i := 5) (own := [("item", 8)]) (g := gName 8) rfl nd rfl rfl (sw_true rfl rfl rfl (by decide +kernel)) (pi_keys (pe_dget hu (pv 1) (pv 2) (fun _ _ => rfl)))
            (blkOk_by (own := [("item", 8)]) (N := ["self", "edges", "worse", "better", "far", "steps", "_", "link", "item"]) (sc := d_case_first_way.scope) (by decide +kernel)) (fun _ _ _ _ _ => pg_name (i := 8) nd rfl (Or.inl rfl))
            (fun _ _ _ _ _ => pts_one (pt_cmp (pc_din hu (pv 8) (pv 4))))
            (fun _ _ _ _ _ => pe_tup (pa_cons (pe_dget hu (pv 4) (pv 8) (fun _ _ => rfl)) (pa_cons (pe_dget hu (pe_dget hu (pv 1) (pv 2) (fun _ _ => rfl)) (pv 8) (fun _ _ => rfl)) (pa_cons (pv 8) pa_nil))))))
      (pss_cons (ps_if (pt_not (pt_truth (pv 5) (fun _ => rfl))) (pss_one (ps_ret pe_non)) pss_nil)
      (pss_cons (ps_asg (pe_callB (cr_minD rfl hr.units) rfl T.f_min (by decide +kernel) (pa_cons (pv 5) pa_nil)) (pg_tup rfl (pgs_cons (pg_name (i := 6) nd rfl (Or.inl rfl)) (pgs_cons (pg_name (i := 7) nd rfl (Or.inl rfl)) (pgs_cons (pg_name (i := 8) nd rfl (Or.inl rfl)) pgs_nil)))))
      (pss_one (ps_ret (pe_op op_cat (pe_lst (pa_cons (pv 7) pa_nil)) (pe_m (pv 0) T.c_Case T.m_Case_way_on (ok_way_on T) hr (Nat.le_refl _) (pa_cons (pv 1) (pa_cons (pv 4) (pa_cons (pv 8) pa_nil)))))))))), ?_⟩
    refine ⟨_, rfl, _, rfl, e, E, be, rfl, hE, ec.ok, hb, fun fa H1 fs fd s1 hfa far => ?_⟩
    have hE1 := hE.same s1
    have hE1' := hE1
    obtain ⟨ed, lk, he, hne, hin⟩ := hE1
    have hed := hin.i wo ha
    refine ⟨ed wo, _, hed, trivial, fun od => ⟨_, rfl, _, rfl, e, _, rfl, dS_get (.inl (by rw [upd_ne (hne wo ha).symm]; exact he)) ha, ed wo, od, rfl, .inl ⟨_, upd_same, fun D nD => ?_⟩⟩⟩
    have nDe : D ≠ ed wo := fun z => by rw [z, upd_same] at nD; cases nD
    have l1 := Lk.lock (od := od) hed
    refine lc_lrel (l := E.outs wo) (by rw [show (E.outs wo).length = (dS (E.outs wo) fun o => V.ref (lk wo o)).length from (dG_length ..).symm]; exact walk_keys) nD (Nat.le_trans (ec.ok.olen ha) (by decide)) (fun o => decide (o ∈ fs))
      (fun o v H => ∃ t, v = .ref t ∧ H t = some (.tup [.int (fd o), .ref (lk wo o), .str o])) (fun o v H H' ⟨t, e, q⟩ ⟨z, hz⟩ sb => ⟨t, e, sb _ _ (fun e2 => by rw [e2, hz] at q; cases q) q⟩) (fun H2 s2 => s2 _ _ upd_same) (fun i x H2 H3 o ho s2 hD hY N Z b1 b2 => ?_) fun H2 zs s2 e2 r2 => ?_
    · obtain ⟨rfl, k', v', hx, rfl⟩ := hY
      rw [dG_get?, ho] at hx
      cases hx
      have l2 := l1.trans (.of s2)
      have hfa2 := l2.rd (.inl hfa)
      refine ⟨rfl, _, rfl, _, rfl, fa, _, rfl, dS_ask o hfa2, _, rfl, ?_⟩
      by_cases c1 : o ∈ fs
      · rw [if_pos c1]
        refine iteT ⟨_, rfl, _, rfl, fa, _, rfl, dS_get hfa2 c1, _, rfl, _, rfl, e, _, rfl, dS_get (l2.rd (.inl he)) ha, _, rfl, ed wo, _, rfl, dS_get (l2.rd (.inl hed)) (List.mem_of_getElem? ho), _, rfl, by show 3 ≤ sizeLine; exact small (by omega), fun t nt => ?_⟩
        exact b1 (decide_eq_true c1) _ _ (same_new nt) ⟨t, rfl, upd_same⟩
      · rw [if_neg c1]
        exact iteF (b2 (decide_eq_false c1) _ (Same.refl _))
    · obtain ⟨u1, u2⟩ := unlock hed s2
      refine ⟨u1, ?_⟩
      have e3 : upd H2 (ed wo) (.dK (dS (E.outs wo) fun o => .ref (lk wo o))) D = some (.lst zs) := by rw [upd_ne nDe]; exact e2
      have r3 : Paired (fun o v => ∃ t, v = V.ref t ∧ upd H2 (ed wo) (.dK (dS (E.outs wo) fun o => .ref (lk wo o))) t = some (.tup [.int (fd o), .ref (lk wo o), .str o])) ((E.outs wo).filter fun o => decide (o ∈ fs)) zs := Paired.mapP r2 fun o v ⟨t, e, q⟩ => ⟨t, e, by
        rw [upd_ne (fun y => by rw [y, u1] at q; cases q)]
        exact q⟩
      generalize upd H2 (ed wo) (.dK (dS (E.outs wo) fun o => .ref (lk wo o))) = H3 at u2 e3 r3
      clear e2 u1 s2 r2
      generalize hnl : (E.outs wo).filter (fun o => decide (o ∈ fs)) = nl at r3
      have hnm : ∀ o, o ∈ nl ↔ o ∈ E.outs wo ∧ o ∈ fs := fun o => by rw [← hnl, List.mem_filter, decide_eq_true_eq]
      have s3 := Same.trans s1 u2
      have way : Way E.A wo be ↔ ∃ o, o ∈ nl := by
        rw [← reach_iff (F := fun k => k ∈ fs) far.g far.clo far.reach]
        constructor
        · rintro ⟨o, h1, h2⟩; exact ⟨o, (hnm o).mpr ⟨h1.2, h2⟩⟩
        · rintro ⟨o, h⟩; exact ⟨o, ⟨ha, ((hnm o).mp h).1⟩, ((hnm o).mp h).2⟩
      have ln := Paired.length r3
      refine ⟨_, rfl, !zs.isEmpty, .inl ⟨_, SqL.of e3, rfl⟩, ?_⟩
      cases zs with
      | nil => exact iteT (k1 (fun z => by
          obtain ⟨o, ho⟩ := way.mp z
          rw [List.length_eq_zero_iff.mp ln] at ho
          cases ho) _ s3)
      | cons z zr =>
        refine iteF ?_
        have hw : Way E.A wo be := way.mpr (by
          cases nl with
          | nil => cases ln
          | cons o _ => exact ⟨o, List.mem_cons_self⟩)
        have hin3 := hin.same u2
        refine ⟨_, rfl, D, _, (nl.map fun o => (fd o, (E.fst wo o, E.snd wo o), o)).map dpT, rfl, SqL.of e3, by simp, dp_T (lk := fun o => lk wo o) (pair_mapM r3 fun o ho v ⟨t, e, q⟩ => ⟨t, e, q, hin3.l wo ha o ((hnm o).mp ho).1⟩), fun d hd => ?_, fun d hd d' hd' => ?_, fun x hx => ?_⟩
        · obtain ⟨q, hq, rfl⟩ := List.mem_map.mp hd
          obtain ⟨o, ho, rfl⟩ := List.mem_map.mp hq
          exact lay_T _ (inm o (by rw [← ec.items]; exact ec.ok.sub wo ha o ((hnm o).mp ho).1))
        · obtain ⟨q, _, rfl⟩ := List.mem_map.mp hd
          obtain ⟨q', _, rfl⟩ := List.mem_map.mp hd'
          exact ord_T _ _
        · obtain ⟨o, ho, t, rfl, ht⟩ := pair_mem r3 hx
          obtain ⟨o1, o2⟩ := (hnm o).mp ho
          have hp3 := hp.same s3
          refine ⟨t, _, rfl, SqT.of ht, rfl, _, _, rfl, _, _, rfl, _, _, rfl, rfl, ?_⟩
          refine ⟨_, rfl, by show 1 ≤ sizeLine; exact small (by omega), fun la nla => ?_⟩
          have s4 : Same H (upd H3 la (.lst [.ref (lk wo o)])) := same_upd s3 (Same.free s3 nla)
          have s34 : Same H3 (upd H3 la (.lst [.ref (lk wo o)])) := same_new nla
          have hp4 := hp.same s4
          obtain ⟨dx, fs', h1, h2⟩ := hp4.me "_way_on"
          refine ⟨_, rfl, p, dx, fs', rfl, h1, h2, _, rfl, _, rfl, _, rfl, p, e, fa, o, c, E, be, fs, fd, rfl, hp4, ⟨ed, lk, s34 _ _ (u2 _ _ he), hne, hin3.same s34⟩, ec, s34 _ _ (u2 _ _ hfa), far, o2, fun r H5 prs ys s5 hr5 rp5 l5 => ?_⟩
          have := rp5.len
          refine ⟨la, r, _, ys, rfl, rfl, s5 _ _ upd_same, hr5, small (by simp only [List.length_singleton]; omega), fun rr nrr => ?_⟩
          refine k2 hw rr _ ((E.fst wo o, E.snd wo o) :: prs) _ (Same.free (Same.trans s4 s5) nrr) (same_upd (Same.trans s4 s5) (Same.free (Same.trans s4 s5) nrr)) upd_same ?_ (by simp only [List.length_cons]; omega)
          exact .cons ⟨_, rfl, same_new nrr _ _ (s5 _ _ (s34 _ _ (hin3.l wo ha o o1)))⟩ (rp5.same (same_new nrr))
end RB
end

section
set_option maxRecDepth 100000
set_option maxHeartbeats 4000000
/-! depths, ring, way_between -/
namespace RB
open PySem PySem.Spec PyProof.Rows L2
variable {P : Program} {w : World} {K : PySem.W.Frag} {mg : Str → Option Value} {base : Heap}
structure GI (E : Ed) (d g : Str → Int) (D : Str → Str → Prop) : Prop where
  up : ∀ o, d o ≤ g o
  got : ∀ i o, E.A i o → D i o → d i + 1 ≤ g o
  why : ∀ o, g o = d o ∨ ∃ i, E.A i o ∧ g o = d i + 1
theorem GI.mono {E : Ed} {d g : Str → Int} {D D' : Str → Str → Prop} (h : GI E d g D) (m : ∀ i o, E.A i o → D' i o → D i o) : GI E d g D' := ⟨h.up, fun i o a z => h.got i o a (m i o a z), h.why⟩
theorem GI.put {E : Ed} {d g : Str → Int} {D D' : Str → Str → Prop} {i o : Str} (h : GI E d g D) (a : E.A i o) (m : ∀ i' o', D' i' o' → D i' o' ∨ (i' = i ∧ o' = o)) : GI E d (fun y => if y = o then (if d i + 1 > g o then d i + 1 else g o) else g y) D' := by
  refine ⟨fun y => ?_, fun i' y b z => ?_, fun y => ?_⟩
  · have := h.up y
    by_cases e : y = o
    · subst e
      show d y ≤ (if y = y then (if d i + 1 > g y then d i + 1 else g y) else g y)
      rw [if_pos rfl]
      split <;> omega
    · show d y ≤ (if y = o then (if d i + 1 > g o then d i + 1 else g o) else g y)
      rw [if_neg e]; exact this
  · show d i' + 1 ≤ (if y = o then (if d i + 1 > g o then d i + 1 else g o) else g y)
    by_cases e : y = o
    · subst e
      rw [if_pos rfl]
      rcases m i' y z with z | ⟨rfl, _⟩
      · have := h.got i' y b z
        split <;> omega
      · split <;> omega
    · rw [if_neg e]
      rcases m i' y z with z | ⟨_, z⟩
      · exact h.got i' y b z
      · exact absurd z e
  · show (if y = o then (if d i + 1 > g o then d i + 1 else g o) else g y) = d y ∨ ∃ i', E.A i' y ∧ (if y = o then (if d i + 1 > g o then d i + 1 else g o) else g y) = d i' + 1
    by_cases e : y = o
    · subst e
      rw [if_pos rfl]
      by_cases c : d i + 1 > g y
      · rw [if_pos c]; exact .inr ⟨i, a, rfl⟩
      · rw [if_neg c]; exact h.why y
    · rw [if_neg e]; exact h.why y
theorem GI.step {E : Ed} {d g : Str → Int} (h : GI E d g fun _ _ => True) : Step E.A d g := ⟨h.up, fun i o a => h.got i o a trivial, h.why⟩
/-- _depths(edges) -/
def spDepths (K : PySem.W.Frag) : Sp := fun vs H Q _ => ∃ (p e : Addr) (c : Cs) (E : Ed), vs = [.ref p, .ref e] ∧ CsAt K H p c ∧ EdAt H e E ∧ EdC c E ∧
  (∀ a H' r d, Same H H' → H' a = some (.dK (dS E.items fun k => .int (d k))) → r < E.items.length → Good E.A d → (∀ o, 0 ≤ d o ∧ d o ≤ (r : Nat)) → Q (.ref a) H') ∧ (∀ H' d, Same H H' → Rnd E.A E.items.length d → Q .non H')
theorem sc_depths : FnScope ["self", "edges", "depths", "_", "grown", "item", "other"] ["self", "edges"] d_case_depths.scope := ⟨rfl, rfl, rfl, by decide +kernel, rfl, by decide +kernel, by decide +kernel⟩
theorem ok_depths (T : Txt K mg) : Kept P w K mg base 1 (He.ma K (CC K) "_depths") ["self", "edges"] (spDepths K) := by
  refine keep_of (d := d_case_depths) T.d_case_depths sc_depths (fun _ _ _ _ _ _ us hl => match us, hl with | [_, _], _ => rfl) (fun vs H Q E h => ?_) (fun cd A outer s H vs Q E hr h => ?_)
  · obtain ⟨p, e, c, E, rfl, _⟩ := h
    rfl
  · obtain ⟨p, e, c, E, rfl, hp, ⟨ed, lk, he, hne, hin⟩, ec, k1, k2⟩ := h
    have nd := sc_depths.nd
    have hu := hu_of hr
    refine ⟨_, pss_cons (ps_setDc (i := 2) (own := [("item", 5)]) (g := gName 5) (tt := tYes) rfl nd rfl rfl (swap_dc rfl rfl rfl (by decide +kernel)) (pi_list (pe_at K (pv 0)))
          (blkOk_by (own := [("item", 5)]) (N := ["self", "edges", "depths", "_", "grown", "item", "other"]) (sc := d_case_depths.scope) (by decide +kernel)) (fun _ _ _ _ _ => pg_name (i := 5) nd rfl (Or.inl rfl)) (fun _ _ _ _ _ => pts_nil)
          (fun _ _ _ _ _ => pv 5) (fun _ _ _ _ _ => pe_int))
      (pss_cons (ps_for PassesOwn.never rfl (pi_range1 rfl T.f_range (pa_cons (pe_len K T.f_len (pe_at K (pv 0))) pa_nil)) (pg_name (i := 3) nd rfl (Or.inl rfl))
        (pss_cons (ps_set (i := 4) nd rfl (Or.inl rfl) (pe_callTy call_dictD rfl T.f_dict (by decide +kernel) (pa_cons (pv 2) pa_nil)))
        (pss_cons (ps_lock (ps_for PassesOwn.never rfl (pi_keys (pv 1)) (pg_name (i := 5) nd rfl (Or.inl rfl))
          (pss_one (ps_lock (ps_for PassesOwn.never rfl (pi_keys (pe_dget hu (pv 1) (pv 5) (fun _ _ => rfl))) (pg_name (i := 6) nd rfl (Or.inl rfl))
            (pss_one (ps_dput hu (pv 4) (pv 6) (pe_max2 T.f_max (pe_dget hu (pv 4) (pv 6) (fun _ _ => rfl)) (pe_op op_add (pe_dget hu (pv 2) (pv 5) (fun _ _ => rfl)) pe_int)) rfl)))))))
        (pss_cons (ps_if (pt_cmpR (op_eqI (Nat.lt_of_le_of_lt (Nat.le_add_right _ 1) hu)) (pv 4) (pv 2) (nomark _)) (pss_one (ps_ret (pv 2))) pss_nil)
        (pss_one (ps_set (i := 2) nd rfl (Or.inl rfl) (pv 4)))))))
      (pss_one (ps_ret pe_non))), ?_⟩
    obtain ⟨dx, fs, i, d, t, l, h1, h2, h3⟩ := hp.ex
    have l4 := ec.ok.len
    refine ⟨_, rfl, p, CC K, dx, fs, _, rfl, h1, T.c_Case, T.n_Case_items, h2.it, i, rfl, ⟨_, SqL.of h3.it⟩, fun da nda => ?_⟩
    refine dc_inv (ks := c.items) (walkN (n := c.items.length) (List.length_map ..)) rfl (by rw [← ec.items]; exact ec.ok.nd) nda (small (by rw [← ec.items]; omega)) (fun n f H' => ∀ k ∈ c.items.take n, f k = .int 0)
      (fun k hk => by simp at hk) (fun H1 s1 => SqL.of (s1 _ _ h3.it)) (fun n x H1 H2 kx f hkx hnot s1 hD hR hY N Z b => ?_) fun H1 f s1 e1 hR => ?_
    · obtain ⟨rfl, hx⟩ := hY
      rw [List.getElem?_map, hkx] at hx
      cases hx
      refine ⟨rfl, yesT ⟨_, rfl, b (.int 0) _ (Same.refl _) fun H5 sb k hk => ?_⟩⟩
      show (if k = kx then V.int 0 else f k) = _
      rcases (take_mem hkx).mp hk with m | rfl
      · have hk0 : ¬ k = kx := fun z => hnot (by rw [← z]; exact m)
        rw [if_neg hk0]; exact hR k m
      · rw [if_pos rfl]
    · rw [List.take_length] at hR
      have e2 : H1 da = some (.dK (dS E.items fun k => .int ((fun _ => 0 : Str → Int) k))) := by
        rw [e1, ec.items]
        exact congrArg (fun z => some (HO.dK z)) (dG_congr hR)
      refine ⟨_, rfl, p, CC K, dx, fs, _, rfl, s1 _ _ h1, T.c_Case, T.n_Case_items, h2.it, i, _, rfl, .inl (SqL.of (s1 _ _ h3.it)), _, rfl, by omega, by rw [List.length_map, ← ec.items]; omega, ?_⟩
      refine for_range (n := (c.items.map V.str).length) (fun n σ H' => ∃ da v3 v4 v5 v6 d, σ = [some (.ref p), some (.ref e), some (.ref da), v3, v4, v5, v6] ∧ Same H H' ∧ H da = none ∧ H' da = some (.dK (dS E.items fun k => .int (d k))) ∧ Rnd E.A n d)
        ⟨da, _, _, _, _, _, rfl, s1, nda, e2, .zero⟩ ?_ ?_
      · rintro n σ H2 hn ⟨da, v3, v4, v5, v6, d, rfl, s2, nda, hda, rnd⟩
        refine ⟨_, rfl, da, _, rfl, .inl hda, fun ga nga => ?_⟩
        have nH : H ga = none := Same.free s2 nga
        have hdg : da ≠ ga := ne_of_none hda nga
        have hde : da ≠ e := (ne_of_none he nda).symm
        have hge : ga ≠ e := (ne_of_none he nH).symm
        have s3 : Same H (upd H2 ga (.dK (dS E.items fun k => .int (d k)))) := same_upd s2 nH
        refine ⟨e, _, s3 _ _ he, trivial, fun od => ⟨_, rfl, e, od, rfl, .inl ⟨_, upd_same, ?_⟩⟩⟩
        have fx : ∀ {q : Addr}, q ≠ e → H q = none → upd H e (.frz od (.dK (dS E.items fun i => .ref (ed i)))) q = none := fun a b => by rw [upd_ne a]; exact b
        refine for_it walk_keys (fun m σ H3 => ∃ v3 v5 v6 g, σ = [some (.ref p), some (.ref e), some (.ref da), v3, some (.ref ga), v5, v6] ∧ Same (upd H e (.frz od (.dK (dS E.items fun i => .ref (ed i))))) H3 ∧
          H3 da = some (.dK (dS E.items fun k => .int (d k))) ∧ H3 ga = some (.dK (dS E.items fun k => .int (g k))) ∧ GI E d g fun i _ => i ∈ E.items.take m) ?_ ?_ ?_ ?_
        · exact ⟨_, _, _, d, rfl, same_set s3, by rw [upd_ne hde, upd_ne hdg]; exact hda, by rw [upd_ne hge, upd_same], fun o => Int.le_refl _, fun i o _ z => by simp at z, fun o => .inl rfl⟩
        · rintro m σ H3 _ ⟨v3, v5, v6, g, rfl, s4, _⟩
          exact s4 _ _ upd_same
        · rintro m x σ H3 H4 hm ⟨v3, v5, v6, g, rfl, s4, hda3, hga3, gi⟩ ⟨rfl, k', v', hx, rfl⟩
          rw [dG_get?] at hx
          obtain ⟨it, hit, hxe⟩ := Option.map_eq_some_iff.mp hx
          cases hxe
          have itm := List.mem_of_getElem? hit
          have hinL := hin.lock (o := .frz od (.dK (dS E.items fun i => .ref (ed i)))) he hne
          have hed := (hinL.same s4).i it itm
          have hedL := hinL.i it itm
          have hei := hne it itm
          have hdi : da ≠ ed it := fun z => by have := fx hde nda; rw [z, hedL] at this; cases this
          have hgi : ga ≠ ed it := fun z => by have := fx hge nH; rw [z, hedL] at this; cases this
          refine ⟨ed it, _, hed, trivial, fun od2 => ⟨_, rfl, _, rfl, e, _, rfl, dS_get (.inr ⟨od, by rw [upd_ne hei.symm]; exact s4 _ _ upd_same⟩) itm, ed it, od2, rfl, .inl ⟨_, upd_same, ?_⟩⟩⟩
          refine for_it walk_keys (fun q σ H5 => ∃ v3 v6 g, σ = [some (.ref p), some (.ref e), some (.ref da), v3, some (.ref ga), some (.str it), v6] ∧ Same (upd (upd H e (.frz od (.dK (dS E.items fun i => .ref (ed i))))) (ed it) (.frz od2 (.dK (dS (E.outs it) fun o => .ref (lk it o))))) H5 ∧
            H5 da = some (.dK (dS E.items fun k => .int (d k))) ∧ H5 ga = some (.dK (dS E.items fun k => .int (g k))) ∧ GI E d g fun i o => i ∈ E.items.take m ∨ (i = it ∧ o ∈ (E.outs it).take q)) ?_ ?_ ?_ ?_
          · exact ⟨_, _, g, rfl, same_set s4, by rw [upd_ne hdi]; exact hda3, by rw [upd_ne hgi]; exact hga3, gi.mono fun i o _ z => z.elim id (fun z => by simp at z)⟩
          · rintro q σ H5 _ ⟨v3, v6, g, rfl, s5, _⟩
            exact s5 _ _ upd_same
          · rintro q x σ H5 H6 hq ⟨v3, v6, g, rfl, s5, hda5, hga5, gi⟩ ⟨rfl, k'', v'', hx, rfl⟩
            rw [dG_get?] at hx
            obtain ⟨o, ho, hxe⟩ := Option.map_eq_some_iff.mp hx
            cases hxe
            have oo := List.mem_of_getElem? ho
            have oi := ec.ok.sub it itm o oo
            refine ⟨_, rfl, _, rfl, ga, _, rfl, dS_get (.inl hga5) oi, _, rfl, _, rfl, da, _, rfl, dS_get (.inl hda5) itm, _, _, rfl, rfl, _, _, rfl, _, rfl, _, rfl, ga, _, rfl, dS_putOld _ hga5 oi (smaller (by omega)), ?_⟩
            refine ⟨_, _, fun y => if y = o then (if d it + 1 > g o then d it + 1 else g o) else g y, rfl, same_upd s5 (by rw [upd_ne hgi]; exact fx hge nH), ?_, ?_, gi.put ⟨itm, oo⟩ fun i' o' z => ?_⟩
            · rw [upd_ne hdg]; exact hda5
            · rw [upd_same]
              refine congrArg (fun z => some (HO.dK z)) (dG_congr fun y hy => ?_)
              by_cases e : y = o
              · rw [if_pos e]
                exact congrArg V.int (if_pos e).symm
              · rw [if_neg e]
                exact congrArg V.int (if_neg e).symm
            · rcases z with z | ⟨z1, z2⟩
              · exact .inl (.inl z)
              · rcases (take_mem ho).mp z2 with m | m
                · exact .inl (.inr ⟨z1, m⟩)
                · exact .inr ⟨z1, m⟩
          · rintro σ H5 ⟨v3, v6, g, rfl, s5, hda5, hga5, gi⟩
            obtain ⟨u1, u2⟩ := unlock hedL s5
            refine ⟨u1, _, _, _, g, rfl, u2, by rw [upd_ne hdi]; exact hda5, by rw [upd_ne hgi]; exact hga5, gi.mono fun i o a z => ?_⟩
            rcases (take_mem hit).mp z with z | rfl
            · exact .inl z
            · refine .inr ⟨rfl, ?_⟩
              rw [dG_length, List.take_length]
              exact a.2
        · rintro σ H3 ⟨v3, v5, v6, g, rfl, s4, hda3, hga3, gi⟩
          obtain ⟨u1, u2⟩ := unlock he s4
          refine ⟨u1, ?_⟩
          have hda4 : upd H3 e (.dK (dS E.items fun i => .ref (ed i))) da = some (.dK (dS E.items fun k => .int (d k))) := by rw [upd_ne hde]; exact hda3
          have hga4 : upd H3 e (.dK (dS E.items fun i => .ref (ed i))) ga = some (.dK (dS E.items fun k => .int (g k))) := by rw [upd_ne hge]; exact hga3
          have st : Step E.A d g := (gi.mono fun i o a _ => by rw [dG_length, List.take_length]; exact a.1).step
          refine ⟨_, rfl, _, rfl, ga, da, E.items, g, d, rfl, rfl, hga4, hda4, _, rfl, iteB (fun c1 => ?_) (fun c1 => ?_)⟩
          · have hn' : n < E.items.length := by rw [ec.items]; rw [List.length_map] at hn; exact hn
            have f := rnd.fix st fun o => by
              rcases st.2.2 o with q | ⟨i, a, q⟩
              · exact q
              · have := List.all_eq_true.mp c1 o (ec.ok.both a).2
                exact of_decide_eq_true this
            exact ⟨_, rfl, k1 da _ n d u2 hda4 hn' f.1 f.2⟩
          · refine ⟨_, rfl, ga, _, _, _, _, g, rfl, u2, nH, hga4, rnd.succ st ?_⟩
            obtain ⟨o, h1, h2⟩ := List.all_eq_false.mp c1
            exact ⟨o, fun z => h2 (decide_eq_true z)⟩
      · rintro σ H2 ⟨da, v3, v4, v5, v6, d, rfl, s2, nda, hda, rnd⟩
        rw [List.length_map, ← ec.items] at rnd
        exact k2 H2 d s2 rnd
end RB
end

section
set_option maxRecDepth 100000
set_option maxHeartbeats 4000000
/-! way_between, ring -/
namespace RB
open PySem PySem.Spec PyProof.Rows L2
variable {P : Program} {w : World} {K : PySem.W.Frag} {mg : Str → Option Value} {base : Heap}
theorem EdC.eqA {c : Cs} {E : Ed} (h : EdC c E) : E.A = Adj c.T c.dr := by
  funext i o
  exact propext (h.adj i o)
theorem oneRef {x : V} {a : Addr} (h : x = .ref a) : decide (x = .non) = false := by subst h; rfl
def spWayB (K : PySem.W.Frag) : Sp := fun vs H Q _ => ∃ (p : Addr) (c : Cs) (a b : Str), vs = [.ref p, .str a, .str b] ∧ CsAt K H p c ∧ c.Ok ∧ a ∈ c.items ∧ b ∈ c.items ∧
  (¬ Way (Adj c.T c.dr) a b → ∀ H', Same H H' → Q .non H') ∧ (Way (Adj c.T c.dr) a b → ∀ r H', Same H H' → Q (.ref r) H')
theorem sc_way_between : FnScope ["self", "worse", "better", "item"] ["self", "worse", "better"] d_case_way_between.scope := ⟨rfl, rfl, rfl, by decide +kernel, rfl, by decide +kernel, by decide +kernel⟩
theorem ok_way_between (T : Txt K mg) : Kept P w K mg base 6 (He.ma K (CC K) "way_between") ["self", "worse", "better"] (spWayB K) := by
  refine keep_of (d := d_case_way_between) T.d_case_way_between sc_way_between (fun _ _ _ _ _ _ us hl => match us, hl with | [_, _, _], _ => rfl) (fun vs H Q E h => ?_) (fun cd A outer s H vs Q E hr h => ?_)
  · obtain ⟨p, c, a, b, rfl, _⟩ := h
    rfl
  · obtain ⟨p, c, a, b, rfl, hp, ok, ha, hb, k1, k2⟩ := h
    have nd := sc_way_between.nd
    have hr2 := hr.mono (show 2 ≤ 5 by decide)
    refine ⟨_, pss_cons (ps_for PassesOwn.never rfl (pi_tup (pe_tup (pa_cons (pv 1) (pa_cons (pv 2) pa_nil)))) (pg_name (i := 3) nd rfl (Or.inl rfl))
        (pss_one (ps_if (pt_notin K (pv 3) (pe_at K (pv 0))) pss_never pss_nil)))
      (pss_one (ps_ret (pe_m (pv 0) T.c_Case T.m_Case_first_way (ok_first_way T) hr2 (Nat.le_refl _) (pa_cons (pe_m0 (pv 0) T.c_Case T.m_Case_edges (ok_edges T) hr (Nat.le_refl _)) (pa_cons (pv 1) (pa_cons (pv 2) pa_nil)))))), ?_⟩
    refine ⟨_, rfl, _, rfl, by show 2 ≤ sizeLine; exact small (by omega), fun ta nta => ⟨ta, rfl, ⟨_, SqT.of upd_same⟩, ?_⟩⟩
    have s1 : Same H (upd H ta (.tup [.str a, .str b])) := same_new nta
    obtain ⟨dx, fs, i, d, t, l, h1, h2, h3⟩ := hp.ex
    refine for_it (walk_tup (xs := [V.str a, V.str b])) (fun n σ H' => H' = upd H ta (.tup [.str a, .str b]) ∧ ∃ v3, σ = [some (.ref p), some (.str a), some (.str b), v3]) ⟨rfl, _, rfl⟩ ?_ ?_ ?_
    · rintro n σ H' _ ⟨rfl, _⟩
      exact SqT.of upd_same
    · rintro n x σ H' H2 hn ⟨rfl, v3, rfl⟩ ⟨rfl, hx⟩
      have hx2 : ∃ y, x = .str y ∧ y ∈ c.items := by
        match n, hx with
        | 0, hx => cases hx; exact ⟨a, rfl, ha⟩
        | 1, hx => cases hx; exact ⟨b, rfl, hb⟩
        | n + 2, hx => cases hx
      obtain ⟨y, rfl, hy⟩ := hx2
      refine ⟨_, rfl, _, rfl, p, CC K, dx, fs, _, rfl, s1 _ _ h1, T.c_Case, T.n_Case_items, h2.it, i, _, rfl, .inl (SqL.of (s1 _ _ h3.it)), rfl, flat_str _, _, rfl, ?_⟩
      rw [inV_str, decide_eq_true hy]
      exact iteF ⟨rfl, _, rfl⟩
    · rintro σ H' ⟨rfl, v3, rfl⟩
      have hp1 := hp.same s1
      obtain ⟨dx', fs', g1, g2⟩ := hp1.me "_first_way"
      obtain ⟨dx2, fs2, g3, g4⟩ := hp1.me "_edges"
      refine ⟨_, rfl, p, dx', fs', rfl, g1, g2, _, rfl, p, dx2, fs2, rfl, g3, g4, p, c, rfl, hp1, ok, fun e H2 E s2 hE ec => ?_⟩
      refine ⟨_, rfl, _, rfl, p, e, c, E, a, b, rfl, hp1.same s2, hE, ec, ok.inm, by rw [ec.items]; exact ha, by rw [ec.items]; exact hb, fun nw H3 s3 => ?_, fun hw r H3 prs ys nr s3 _ _ _ => ?_⟩
      · rw [ec.eqA] at nw
        exact k1 nw H3 (Same.trans s1 (Same.trans s2 s3))
      · rw [ec.eqA] at hw
        exact k2 hw r H3 (Same.trans s1 (Same.trans s2 s3))
/-! ### ring -/
def dpW (x : Int × List (Int × Int)) : PyData := .tuple [.int x.1, .list (x.2.map dpP)]
theorem ord_W (a b : Int × List (Int × Int)) : OrdP (dpW a) (dpW b) := .tup fun k d e h1 h2 => by
  match k with
  | 0 => cases h1; cases h2; exact .int _ _
  | 1 => cases h1; cases h2; exact ord_pairs _ _
  | k + 2 => cases h1
theorem lay_W (a : Int × List (Int × Int)) : (dpW a).canLay0 = true ∧ (dpW a).depth ≤ 30 := by
  obtain ⟨h1, h2⟩ := lay_pairs a.2
  refine ⟨by simp [dpW, PyData.canLay0, PyData.canLayAll0, h1], ?_⟩
  simp only [dpW, PyData.depth, PyData.depthAll]
  omega
theorem dp_W {H : Hp} {α : Type} : ∀ {l : List α} {xs : List V}, Paired (fun _ v => ∃ t r n prs ys, v = V.ref t ∧ H t = some (.tup [.int n, .ref r]) ∧ H r = some (.lst ys) ∧ Refs H pv2 prs ys) l xs → ∃ ds : List (Int × List (Int × Int)), DpAll K H xs (ds.map dpW)
  | _, _, .nil => ⟨[], .nil⟩
  | _, _, .cons ⟨t, r, n, prs, ys, e, h, h2, h3⟩ q => by
    subst e
    obtain ⟨ds, d⟩ := dp_W q
    exact ⟨(n, prs) :: ds, .cons (.tup (SqT.of h) (.cons (.int _) (.cons (.lst (SqL.of h2) (dp_refs h3)) .nil))) d⟩
def spRing (K : PySem.W.Frag) : Sp := fun vs H Q _ => ∃ (p : Addr) (c : Cs), vs = [.ref p] ∧ CsAt K H p c ∧ c.Ok ∧
  (∀ H' d, Same H H' → Good (Adj c.T c.dr) d → Q .non H') ∧ (∀ r H' i, Same H H' → Way (Adj c.T c.dr) i i → Q (.ref r) H')
theorem sc_ring : FnScope ["self", "edges", "ways", "item", "way"] ["self"] d_case_ring.scope := ⟨rfl, rfl, rfl, by decide +kernel, rfl, by decide +kernel, by decide +kernel⟩
open Classical in
theorem ok_ring (T : Txt K mg) : Kept P w K mg base 6 (He.ma K (CC K) "ring") ["self"] (spRing K) := by
  refine keep_of (d := d_case_ring) T.d_case_ring sc_ring (fun _ _ _ _ _ _ us hl => match us, hl with | [_], _ => rfl) (fun vs H Q E h => ?_) (fun cd A outer s H vs Q E hr h => ?_)
  · obtain ⟨p, c, rfl, _⟩ := h
    rfl
  · obtain ⟨p, c, rfl, hp, ok, k1, k2⟩ := h
    have nd := sc_ring.nd
    have hr1 := hr.mono (show 1 ≤ 5 by decide)
    have hr2 := hr.mono (show 2 ≤ 5 by decide)
    refine ⟨_, pss_cons (ps_set (i := 1) nd rfl (Or.inr rfl) (pe_m0 (pv 0) T.c_Case T.m_Case_edges (ok_edges T) hr (Nat.le_refl _)))
      (pss_cons (ps_if (pt_cmpR op_notN (pe_m (pv 0) T.c_Case T.m_Case_depths (ok_depths T) hr1 (Nat.le_refl _) (pa_cons (pv 1) pa_nil)) pe_non (nomark _)) (pss_one (ps_ret pe_non)) pss_nil)
      (pss_cons (ps_setLc (i := 2) (own := [("item", 3)]) (g := gName 3) (tt := tYes) rfl nd rfl rfl (sw_true rfl rfl rfl (by decide +kernel)) (pi_list (pe_at K (pv 0)))
            (blkOk_by (own := [("item", 3)]) (N := ["self", "edges", "ways", "item", "way"]) (sc := d_case_ring.scope) (by decide +kernel)) (fun _ _ _ _ _ => pg_name (i := 3) nd rfl (Or.inl rfl)) (fun _ _ _ _ _ => pts_nil)
            (fun _ _ _ _ _ => pe_m (pv 0) T.c_Case T.m_Case_first_way (ok_first_way T) hr2 (Nat.le_refl _) (pa_cons (pv 1) (pa_cons (pv 3) (pa_cons (pv 3) pa_nil)))))
      (pss_one (ps_ret (pe_it K (pe_callB (cr_minD rfl hr.units) rfl T.f_min (by decide +kernel) (pa_cons (pe_lc (own := [("way", 4)]) (g := gName 4) rfl nd (pi_list (pv 2))
            (blkOk_by (own := [("way", 4)]) (N := ["self", "edges", "ways", "item", "way"]) (sc := d_case_ring.scope) (by decide +kernel)) (fun _ _ _ _ _ => pg_name (i := 4) nd rfl (Or.inl rfl))
            (fun _ _ _ _ _ => pts_one (pt_cmpR op_notN (pv 4) pe_non (nomark _)))
            (fun _ _ _ _ _ => pe_tup (pa_cons (pe_len K T.f_len (pv 4)) (pa_cons (pv 4) pa_nil)))) pa_nil)) pe_int))))), ?_⟩
    obtain ⟨dx, fs, i, d, t, l, h1, h2, h3⟩ := hp.ex
    obtain ⟨dx2, fs2, g3, g4⟩ := hp.me "_edges"
    refine ⟨_, rfl, p, dx2, fs2, rfl, g3, g4, p, c, rfl, hp, ok, fun e H1 E s1 hE ec => ?_⟩
    have hp1 := hp.same s1
    obtain ⟨dx3, fs3, g5, g6⟩ := hp1.me "_depths"
    refine ⟨_, rfl, p, dx3, fs3, rfl, g5, g6, _, rfl, p, e, c, E, rfl, hp1, hE, ec, fun a H2 r d s2 _ _ gd _ => ?_, fun H2 d s2 rnd => ?_⟩
    · refine ⟨rfl, _, rfl, ?_⟩
      rw [oneRef rfl]
      rw [ec.eqA] at gd
      exact iteT (k1 H2 d (Same.trans s1 s2) gd)
    · refine ⟨rfl, _, rfl, iteF ?_⟩
      have s02 := Same.trans s1 s2
      have l4 := ec.ok.len
      have l1 := ok.i0
      rw [← ec.items] at l1
      obtain ⟨ci, hci, hcw⟩ : ∃ i ∈ E.items, Way E.A i i := by
        obtain ⟨n, hn⟩ : ∃ n, E.items.length = n + 1 := ⟨E.items.length - 1, by omega⟩
        rw [hn] at rnd
        exact rnd.cycle hn fun i o a => ec.ok.both a
      refine ⟨_, rfl, p, CC K, dx, fs, _, rfl, s02 _ _ h1, T.c_Case, T.n_Case_items, h2.it, i, rfl, ⟨_, SqL.of (s02 _ _ h3.it)⟩, fun D nD => ?_⟩
      refine lc_lrel (l := E.items) (walkN (by rw [List.length_map, ← ec.items])) nD (by omega) (fun _ => true)
        (fun o v H => (v = .non ∧ ¬ Way E.A o o) ∨ ∃ r prs ys, v = .ref r ∧ Way E.A o o ∧ H r = some (.lst ys) ∧ Refs H pv2 prs ys ∧ prs.length ≤ 5 ∧ r ≠ D) (fun o v H H' q ⟨z, hz⟩ sb => ?_) (fun H3 s3 => SqL.of (s3 _ _ (s02 _ _ h3.it))) (fun j x H3 H4 o ho s3 hD hY N Z b1 b2 => ?_) fun H3 vs s3 e3 r3 => ?_
      · rcases q with q | ⟨r, prs, ys, q1, q2, q3, q4, q5, q6⟩
        · exact .inl q
        · exact .inr ⟨r, prs, ys, q1, q2, sb _ _ q6 q3, Paired.mapP q4 fun x v ⟨a, e, y⟩ => ⟨a, e, sb _ _ (fun e2 => by rw [e2, hz] at y; cases y) y⟩, q5, q6⟩
      · obtain ⟨rfl, hx⟩ := hY
        rw [List.getElem?_map, ← ec.items, ho] at hx
        cases hx
        obtain ⟨zz, hz⟩ := hD
        have s23 := Same.trans s02 s3
        have hp3 := hp.same s23
        obtain ⟨dx4, fs4, g7, g8⟩ := hp3.me "_first_way"
        refine ⟨rfl, yesT ⟨_, rfl, p, dx4, fs4, rfl, g7, g8, _, rfl, _, rfl, _, rfl, p, e, c, E, o, o, rfl, hp3, hE.same (Same.trans s2 s3), ec, ok.inm, List.mem_of_getElem? ho, List.mem_of_getElem? ho, fun nw H5 s5 => b1 rfl _ _ s5 (.inl ⟨rfl, nw⟩), fun hw r H5 prs ys nr s5 hr5 rp5 l5 => b1 rfl _ _ s5 (.inr ⟨r, prs, ys, rfl, hw, hr5, rp5, l5, (ne_of_none hz nr).symm⟩)⟩⟩
      · rw [filter_yes] at r3
        have lv := Paired.length r3
        have s23 := Same.trans s02 s3
        refine ⟨_, rfl, D, rfl, ⟨_, SqL.of e3⟩, fun D2 nD2 => ?_⟩
        refine lc_lrel (l := E.items) (walkN lv.symm) nD2 (by omega) (fun o => decide (Way E.A o o))
          (fun o v H => ∃ t r n prs ys, v = V.ref t ∧ H t = some (.tup [.int n, .ref r]) ∧ H r = some (.lst ys) ∧ Refs H pv2 prs ys ∧ r ≠ D2) (fun o v H H' ⟨t, r, n, prs, ys, q1, q2, q3, q4, q5⟩ ⟨z, hz⟩ sb => ?_) (fun H4 s4 => SqL.of (s4 _ _ e3)) (fun j x H4 H5 o ho s4 hD hY N Z b1 b2 => ?_) fun H4 zs s4 e4 r4 => ?_
        · have kt : ∀ {b : Addr} {xs : List V}, H b = some (.tup xs) → H' b = some (.tup xs) := fun {b xs} y => sb _ _ (fun e2 => by rw [e2, hz] at y; cases y) y
          exact ⟨t, r, n, prs, ys, q1, kt q2, sb _ _ q5 q3, Paired.mapP q4 fun x v ⟨a, e, y⟩ => ⟨a, e, kt y⟩, q5⟩
        · obtain ⟨rfl, hx⟩ := hY
          obtain ⟨v, hv, hR⟩ := pair_get r3 ho
          rw [hx] at hv
          cases hv
          rcases hR with ⟨rfl, nw⟩ | ⟨r, prs, ys, rfl, hw, hr3, rp3, l5, _⟩
          · exact ⟨rfl, _, rfl, rfl, _, rfl, iteF (b2 (decide_eq_false nw) _ (Same.refl _))⟩
          · refine ⟨rfl, _, rfl, rfl, _, rfl, ?_⟩
            rw [oneRef rfl]
            have hr4 := s4 _ _ hr3
            refine iteT ⟨_, rfl, r, ys, rfl, .inl (SqL.of hr4), _, rfl, by show 2 ≤ sizeLine; exact small (by omega), fun tt nt => b1 (decide_eq_true hw) _ _ (same_new nt) ⟨tt, r, _, prs, ys, rfl, upd_same, (same_new nt) _ _ hr4, (rp3.same s4).same (same_new nt), ?_⟩⟩
            exact ne_of_none hr3 nD2
        · obtain ⟨ds, hds⟩ := dp_W (K := K) (Paired.mapP r4 fun o v ⟨t, r, n, prs, ys, q1, q2, q3, q4, _⟩ => ⟨t, r, n, prs, ys, q1, q2, q3, q4⟩)
          refine ⟨D2, zs, _, rfl, SqL.of e4, ?_, hds, fun d hd => ?_, fun d hd d' hd' => ?_, fun x hx => ?_⟩
          · intro z
            have := Paired.length r4
            rw [z] at this
            have m : ci ∈ E.items.filter fun o => decide (Way E.A o o) := List.mem_filter.mpr ⟨hci, decide_eq_true hcw⟩
            rw [List.length_eq_zero_iff.mp this] at m
            cases m
          · obtain ⟨q, _, rfl⟩ := List.mem_map.mp hd
            exact lay_W q
          · obtain ⟨q, _, rfl⟩ := List.mem_map.mp hd
            obtain ⟨q', _, rfl⟩ := List.mem_map.mp hd'
            exact ord_W _ _
          · obtain ⟨o, ho, tt, r, n, prs, ys, rfl, q2, q3, q4, _⟩ := pair_mem r4 hx
            refine ⟨_, _, _, _, rfl, rfl, SqT.of q2, rfl, k2 r H4 o (Same.trans s23 s4) ?_⟩
            have := of_decide_eq_true (List.mem_filter.mp ho).2
            rw [ec.eqA] at this
            exact this
end RB
end

section
set_option maxRecDepth 100000
set_option maxHeartbeats 4000000
/-! explanation -/
namespace RB
open PySem PySem.Spec PyProof.Rows L2
variable {P : Program} {w : World} {K : PySem.W.Frag} {mg : Str → Option Value} {base : Heap}
/-- a bar: the greatest of what it must reach -/
def BarOk (c : Cs) (z : Int) (d : Str → Int) (p : Int) (k : Nat) (v : Int) : Prop :=
  (∀ q ∈ c.ps, c.one q p = true → c.ah q p = true → RB.base z d (c.rw q) k ≤ v) ∧ ∃ q ∈ c.ps, c.one q p = true ∧ c.ah q p = true ∧ v = RB.base z d (c.rw q) k
/-- bars: a dict by places of lists of ints -/
def BarsIn (H : Hp) (bs : List Int) (bl : Int → List Int) (bad : Int → Addr) : Prop := ∀ p ∈ bs, H (bad p) = some (.lst ((bl p).map V.int))
def BarsAt (H : Hp) (b : Addr) (bs : List Int) (bl : Int → List Int) : Prop := ∃ bad : Int → Addr, Rd H b (.dK (dI bs fun p => .ref (bad p))) ∧ BarsIn H bs bl bad
theorem BarsIn.lk {H H' : Hp} {bs : List Int} {bl : Int → List Int} {bad : Int → Addr} (h : BarsIn H bs bl bad) (s : Lk H H') : BarsIn H' bs bl bad := fun p hp => s.lst (h p hp)
theorem BarsAt.lk {H H' : Hp} {b : Addr} {bs : List Int} {bl : Int → List Int} (h : BarsAt H b bs bl) (s : Lk H H') : BarsAt H' b bs bl := by
  obtain ⟨bad, h1, h2⟩ := h
  exact ⟨bad, s.rd h1, h2.lk s⟩
theorem BarsAt.get {H : Hp} {b : Addr} {bs : List Int} {bl : Int → List Int} (h : BarsAt H b bs bl) {p : Int} (hp : p ∈ bs) : ∃ a, DGet H b (.int p) (some (.ref a)) ∧ H a = some (.lst ((bl p).map V.int)) := by
  obtain ⟨bad, h1, h2⟩ := h
  exact ⟨_, dI_get h1 hp, h2 p hp⟩
theorem dI_put {H : Hp} {a : Addr} {ks : List Int} {f : Int → V} (k : Int) (v : V) (h : H a = some (.dK (dI ks f))) (hz : ks.length < sizeLine) : DPut H a (.int k) v (upd H a (.dK (dI (if k ∈ ks then ks else ks ++ [k]) fun x => if x = k then v else f x))) := by
  by_cases c : k ∈ ks
  · rw [if_pos c]; exact dI_putOld v h c hz
  · rw [if_neg c]; exact dI_putNew v h c hz
theorem dS_put {H : Hp} {a : Addr} {ks : List Str} {f : Str → V} (k : Str) (v : V) (h : H a = some (.dK (dS ks f))) (hz : ks.length < sizeLine) : DPut H a (.str k) v (upd H a (.dK (dS (if k ∈ ks then ks else ks ++ [k]) fun x => if x = k then v else f x))) := by
  by_cases c : k ∈ ks
  · rw [if_pos c]; exact dS_putOld v h c hz
  · rw [if_neg c]; exact dS_putNew v h c hz
theorem put_mem {α : Type} [DecidableEq α] {ks : List α} {k x : α} : x ∈ (if k ∈ ks then ks else ks ++ [k]) ↔ x ∈ ks ∨ x = k := by
  by_cases c : k ∈ ks
  · rw [if_pos c]
    exact ⟨.inl, fun h => h.elim id fun e => e ▸ c⟩
  · rw [if_neg c, List.mem_append, List.mem_singleton]
theorem put_nodup {α : Type} [DecidableEq α] {ks : List α} {k : α} (h : ks.Nodup) : (if k ∈ ks then ks else ks ++ [k]).Nodup := by
  by_cases c : k ∈ ks
  · rw [if_pos c]; exact h
  · rw [if_neg c, List.nodup_append]
    exact ⟨h, by simp, fun a ha b hb e => c (by rw [List.mem_singleton.mp hb] at e; rw [← e]; exact ha)⟩
theorem Cs.ah_refl (c : Cs) (p : Int) : c.ah p p = true := by simp [Cs.ah, goesD_refl]
theorem Cs.one_refl (c : Cs) (p : Int) : c.one p p = true := by simp [Cs.one]
/-- the list whose greatest is asked -/
def lows (c : Cs) (d : Str → Int) (lot : List Int) (p : Int) (k : Nat) : List Int := ((lot.filter fun x => c.ah x p).filter fun x => decide ((c.rw x).grade < 1 + (k : Int))).map fun x => d (c.rw x).item
theorem low_mem {c : Cs} (ok : c.Ok) {lot : List Int} (hl : lot ∈ c.lots) {p : Int} (hp : p ∈ lot) (q : Int) : (q ∈ lot.filter fun x => c.ah x p) ↔ q ∈ c.ps ∧ c.one q p = true ∧ c.ah q p = true := by
  rw [List.mem_filter]
  have pp := ok.lsub lot hl p hp
  constructor
  · rintro ⟨h1, h2⟩
    have := ok.lsub lot hl q h1
    exact ⟨this, by rw [c.one_symm]; exact (ok.lone lot hl p hp q this).mp h1, h2⟩
  · rintro ⟨h1, h2, h3⟩
    exact ⟨(ok.lone lot hl p hp q h1).mpr (by rw [c.one_symm]; exact h2), h3⟩
theorem bar_of {c : Cs} (ok : c.Ok) {d : Str → Int} (hd : ∀ o, 0 ≤ d o) {lot : List Int} (hl : lot ∈ c.lots) {p : Int} (hp : p ∈ lot) (k : Nat) :
    (lows c d lot p k = [] → BarOk c 0 d p k (-1 + 1)) ∧ ∀ m, m ∈ lows c d lot p k → (∀ y ∈ lows c d lot p k, y ≤ m) → BarOk c 0 d p k (m + 1) := by
  have pp := ok.lsub lot hl p hp
  have mem : ∀ q, q ∈ c.ps → c.one q p = true → c.ah q p = true → (c.rw q).grade ≤ (k : Int) → d (c.rw q).item ∈ lows c d lot p k := fun q h1 h2 h3 h4 =>
    List.mem_map.mpr ⟨q, List.mem_filter.mpr ⟨(low_mem ok hl hp q).mpr ⟨h1, h2, h3⟩, decide_eq_true (by omega)⟩, rfl⟩
  constructor
  · intro e
    have no : ∀ q, q ∈ c.ps → c.one q p = true → c.ah q p = true → ¬ (c.rw q).grade ≤ (k : Int) := fun q h1 h2 h3 h4 => by
      have := mem q h1 h2 h3 h4
      rw [e] at this
      cases this
    refine ⟨fun q h1 h2 h3 => ?_, p, pp, c.one_refl p, c.ah_refl p, ?_⟩
    · unfold RB.base
      rw [if_neg (no q h1 h2 h3)]
      decide
    · unfold RB.base
      rw [if_neg (no p pp (c.one_refl p) (c.ah_refl p))]
      rfl
  · intro m hm hmax
    refine ⟨fun q h1 h2 h3 => ?_, ?_⟩
    · unfold RB.base
      split
      · rename_i h4
        have := hmax _ (mem q h1 h2 h3 h4)
        omega
      · obtain ⟨x, _, rfl⟩ := List.mem_map.mp hm
        have := hd (c.rw x).item
        omega
    · obtain ⟨x, hx, rfl⟩ := List.mem_map.mp hm
      obtain ⟨x1, x2⟩ := List.mem_filter.mp hx
      have x2 := of_decide_eq_true x2
      obtain ⟨y1, y2, y3⟩ := (low_mem ok hl hp x).mp x1
      refine ⟨x, y1, y2, y3, ?_⟩
      unfold RB.base
      rw [if_pos (by omega)]
theorem getD_app1 {xs : List Int} {v : Int} {j : Nat} (h : j < xs.length) : (xs ++ [v]).getD j 0 = xs.getD j 0 := by
  simp [List.getD_eq_getElem?_getD, List.getElem?_append_left h]
theorem getD_app2 {xs : List Int} {v : Int} : (xs ++ [v]).getD xs.length 0 = v := by
  simp [List.getD_eq_getElem?_getD]
/-- the bars so far -/
def BSt (c : Cs) (d : Str → Int) (H : Hp) (ba : Addr) (M : Int → Prop) : Prop := ∃ (bs : List Int) (bl : Int → List Int) (bad : Int → Addr), H ba = some (.dK (dI bs fun p => .ref (bad p))) ∧ BarsIn H bs bl bad ∧ bs.Nodup ∧
  (∀ q, q ∈ bs ↔ M q) ∧ (∀ q ∈ bs, q ∈ c.ps) ∧ (∀ q ∈ bs, ((bl q).length : Int) = c.grades) ∧ ∀ q ∈ bs, ∀ k, k < (bl q).length → BarOk c 0 d q k ((bl q).getD k 0)
theorem BSt.init {c : Cs} {d : Str → Int} {H : Hp} {ba : Addr} {M : Int → Prop} (h : H ba = some (.dK [])) (m : ∀ q, ¬ M q) : BSt c d H ba M := by
  refine ⟨[], fun _ => [], fun _ => 0, h, ?_, List.nodup_nil, fun q => ?_, ?_, ?_, ?_⟩
  · intro _ h; cases h
  · simp [m q]
  · intro _ h; cases h
  · intro _ h; cases h
  · intro _ h; cases h
theorem BSt.congr {c : Cs} {d : Str → Int} {H : Hp} {ba : Addr} {M M' : Int → Prop} (h : BSt c d H ba M) (m : ∀ q, M q ↔ M' q) : BSt c d H ba M' := by
  obtain ⟨bs, bl, bad, h1, h2, h3, h4, h5⟩ := h
  exact ⟨bs, bl, bad, h1, h2, h3, fun q => (h4 q).trans (m q), h5⟩
theorem BSt.put {c : Cs} (ok : c.Ok) {d : Str → Int} {H H' : Hp} {ba ra : Addr} {M : Int → Prop} {b : Int} {vals : List Int} (h : BSt c d H ba M) (s : Same H H') (hra : H' ra = some (.lst (vals.map V.int))) (hb : b ∈ c.ps) (hlen : (vals.length : Int) = c.grades) (hok : ∀ j, j < vals.length → BarOk c 0 d b j (vals.getD j 0)) :
    ∃ H2, DPut H' ba (.int b) (.ref ra) H2 ∧ (∀ q o, q ≠ ba → H' q = some o → H2 q = some o) ∧ BSt c d H2 ba fun q => M q ∨ q = b := by
  obtain ⟨bs, bl, bad, h1, h2, h3, h4, h5, h6, h7⟩ := h
  have l9 : bs.length ≤ 9 := Nat.le_trans (nodup_le h3 h5) ok.p9
  have hba := s _ _ h1
  refine ⟨_, dI_put b _ hba (smaller (by omega)), fun q o hq e => by rw [upd_ne hq]; exact e, _, fun x => if x = b then vals else bl x, fun x => if x = b then ra else bad x, ?_, fun q hq => ?_, put_nodup h3, fun q => by rw [put_mem, h4], fun q hq => ?_, fun q hq => ?_, fun q hq => ?_⟩
  · rw [upd_same]
    refine congrArg (fun z => some (HO.dK z)) (dG_congr fun y _ => ?_)
    by_cases e : y = b
    · rw [if_pos e]
      exact congrArg V.ref (if_pos e).symm
    · rw [if_neg e]
      exact congrArg V.ref (if_neg e).symm
  · show upd _ _ _ (if q = b then ra else bad q) = some (.lst ((if q = b then vals else bl q).map V.int))
    by_cases e : q = b
    · rw [if_pos e, if_pos e, upd_ne (fun z => by rw [z, hba] at hra; cases hra)]
      exact hra
    · rw [if_neg e, if_neg e]
      have := s _ _ (h2 q ((put_mem.mp hq).resolve_right e))
      rw [upd_ne (fun z => by rw [z, hba] at this; cases this)]
      exact this
  · rcases put_mem.mp hq with m | rfl
    · exact h5 q m
    · exact hb
  · show (((if q = b then vals else bl q).length : Nat) : Int) = c.grades
    by_cases e : q = b
    · rw [if_pos e]; exact hlen
    · rw [if_neg e]; exact h6 q ((put_mem.mp hq).resolve_right e)
  · show ∀ k, k < (if q = b then vals else bl q).length → BarOk c 0 d q k ((if q = b then vals else bl q).getD k 0)
    by_cases e : q = b
    · rw [if_pos e, e]; exact hok
    · rw [if_neg e]; exact h7 q ((put_mem.mp hq).resolve_right e)
/-- explanation() -/
structure ExpOk (c : Cs) (z : Int) (d : Str → Int) (bs : List Int) (bl : Int → List Int) : Prop where
  mem : ∀ p, p ∈ bs ↔ p ∈ c.ps
  nd : bs.Nodup
  len : ∀ p ∈ bs, ((bl p).length : Int) = c.grades
  bar : ∀ p ∈ bs, ∀ k, k < (bl p).length → BarOk c z d p k ((bl p).getD k 0)
def spExpl (K : PySem.W.Frag) : Sp := fun vs H Q _ => ∃ (p : Addr) (c : Cs), vs = [.ref p] ∧ CsAt K H p c ∧ c.Ok ∧ (∀ H' d, Same H H' → Rnd (Adj c.T c.dr) c.items.length d → Q .non H') ∧
  ∀ a H' da ba d bs bl bad, Same H H' → H' a = some (.tup [.ref da, .ref ba]) → H' da = some (.dK (dS c.items fun k => .int (d k))) → H' ba = some (.dK (dI bs fun p => .ref (bad p))) → BarsIn H' bs bl bad → ExpOk c 0 d bs bl →
    Good (Adj c.T c.dr) d → (∀ o, 0 ≤ d o) → Q (.ref a) H'
theorem sc_explanation : FnScope ["self", "depths", "bars", "lot", "place", "ahead", "row", "grade", "lows", "one"] ["self"] d_case_explanation.scope := ⟨rfl, rfl, rfl, by decide +kernel, rfl, by decide +kernel, by decide +kernel⟩
theorem ok_explanation (T : Txt K mg) : Kept P w K mg base 6 (He.ma K (CC K) "explanation") ["self"] (spExpl K) := by
  refine keep_of (d := d_case_explanation) T.d_case_explanation sc_explanation (fun _ _ _ _ _ _ us hl => match us, hl with | [_], _ => rfl) (fun vs H Q E h => ?_) (fun cd A outer s H vs Q E hr h => ?_)
  · obtain ⟨p, c, rfl, _⟩ := h
    rfl
  · obtain ⟨p, c, rfl, hp, ok, k1, k2⟩ := h
    have nd := sc_explanation.nd
    have hu := hu_of hr
    have hr1 := hr.mono (show 1 ≤ 5 by decide)
    have hr3 := hr.mono (show 3 ≤ 5 by decide)
    refine ⟨_, pss_cons (ps_set (i := 1) nd rfl (Or.inr rfl) (pe_m (pv 0) T.c_Case T.m_Case_depths (ok_depths T) hr1 (Nat.le_refl _) (pa_cons (pe_m0 (pv 0) T.c_Case T.m_Case_edges (ok_edges T) hr (Nat.le_refl _)) pa_nil)))
      (pss_cons (ps_if (pt_cmpR op_isN (pv 1) pe_non (nomark _)) (pss_one (ps_ret pe_non)) pss_nil)
      (pss_cons (ps_set (i := 2) nd rfl (Or.inl rfl) pe_dnewK)
      (pss_cons (ps_for PassesOwn.never rfl (pi_list (pe_at K (pv 0))) (pg_name (i := 3) nd rfl (Or.inl rfl))
        (pss_one (ps_for PassesOwn.never rfl (pi_list (pv 3)) (pg_name (i := 4) nd rfl (Or.inl rfl))
          (pss_cons (ps_set (i := 5) nd rfl (Or.inl rfl) (pe_m (pv 0) T.c_Case T.m_Case_ahead (ok_ahead T) hr3 (Nat.le_refl _) (pa_cons (pv 3) (pa_cons (pv 4) pa_nil))))
          (pss_cons (ps_set (i := 6) nd rfl (Or.inl rfl) (pe_lst pa_nil))
          (pss_cons (ps_for PassesOwn.never rfl (pi_range2 rfl T.f_range (pa_cons pe_int (pa_cons (pe_op op_add (pe_at K (pv 0)) pe_int) pa_nil))) (pg_name (i := 7) nd rfl (Or.inr rfl))
            (pss_cons (ps_setLc (i := 8) (own := [("one", 9)]) (g := gName 9) rfl nd rfl rfl (sw_true rfl rfl rfl (by decide +kernel)) (pi_list (pv 5))
                (blkOk_by (own := [("one", 9)]) (N := ["self", "depths", "bars", "lot", "place", "ahead", "row", "grade", "lows", "one"]) (sc := d_case_explanation.scope) (by decide +kernel)) (fun _ _ _ _ _ => pg_name (i := 9) nd rfl (Or.inl rfl))
                (fun _ _ _ _ _ => pts_one (pt_cmpR op_lt (pe_it K (pe_dget hu (pe_at K (pv 0)) (pv 9) (fun _ _ => rfl)) pe_int) (pv 7) (nomark _)))
                (fun _ _ _ _ _ => pe_dget hu (pv 1) (pe_it K (pe_dget hu (pe_at K (pv 0)) (pv 9) (fun _ _ => rfl)) pe_int) (fun _ _ => rfl)))
            (pss_one (ps_app K (pv 6) (pe_op op_add (pe_callBK (cr_maxD rfl) rfl T.f_max (by decide +kernel) (pa_cons (pv 8) pa_nil) (pk_cons (pe_un un_neg pe_int) pk_nil)) pe_int)))))
          (pss_one (ps_dput hu (pv 2) (pv 4) (pv 6) rfl))))))))
      (pss_one (ps_ret (pe_tup (pa_cons (pv 1) (pa_cons (pv 2) pa_nil)))))))), ?_⟩
    obtain ⟨dx, fs, i, dd, t, l, h1, h2, h3⟩ := hp.ex
    obtain ⟨ls, hl, rl⟩ := h3.lo
    obtain ⟨dx2, fs2, g3, g4⟩ := hp.me "_edges"
    obtain ⟨dx3, fs3, g5, g6⟩ := hp.me "_depths"
    refine ⟨_, rfl, p, dx3, fs3, rfl, g5, g6, _, rfl, p, dx2, fs2, rfl, g3, g4, p, c, rfl, hp, ok, fun e H1 E s1 hE ec => ?_⟩
    refine ⟨p, e, c, E, rfl, hp.same s1, hE, ec, fun da H2 r d s2 hda hr' gd bd => ?_, fun H2 d s2 rnd => ?_⟩
    · rw [ec.eqA] at gd
      rw [ec.items] at hda
      have s12 := Same.trans s1 s2
      have hd0 : ∀ o, 0 ≤ d o := fun o => (bd o).1
      refine ⟨_, rfl, rfl, _, rfl, ?_⟩
      rw [oneRef rfl]
      refine iteF fun ba nba => ?_
      have nb := Same.free s12 nba
      have s3 : Same H2 (upd H2 ba (.dK [])) := same_new nba
      have kd : ∀ {H' : Hp}, Same H2 H' → Same H H' := fun s => Same.trans s12 s
      have l9 := ok.p9
      have g1 := ok.g1
      have g2 := ok.g2
      refine ⟨_, rfl, p, CC K, dx, fs, _, rfl, (kd s3) _ _ h1, T.c_Case, T.n_Case_lots, h2.lo, l, rfl, ⟨_, SqL.of ((kd s3) _ _ hl)⟩, ?_⟩
      refine for_list (K := K) (a := l) (xs := ls) (fun n σ H' => Same H2 H' ∧ (∃ v3 v4 v5 v6 v7 v8, σ = [some (.ref p), some (.ref da), some (.ref ba), v3, v4, v5, v6, v7, v8, none]) ∧ BSt c d H' ba fun q => ∃ lot ∈ c.lots.take n, q ∈ lot)
        ⟨s3, ⟨_, _, _, _, _, _, rfl⟩, BSt.init upd_same fun q => by simp⟩ (fun n σ H' _ h => SqL.of (kd h.1 _ _ hl)) ?_ ?_
      · rintro n x σ H3 hx ⟨s3, ⟨v3, v4, v5, v6, v7, v8, rfl⟩, bst⟩
        have hn : n < c.lots.length := by rw [Paired.length rl]; exact (List.getElem?_eq_some_iff.mp hx).1
        have hlot : c.lots[n]? = some c.lots[n] := List.getElem?_eq_getElem hn
        obtain ⟨x', ex', la, rfl, hla⟩ := pair_get rl hlot
        rw [hx] at ex'
        cases ex'
        generalize c.lots[n] = lot at hlot hla
        have lotm := List.mem_of_getElem? hlot
        refine ⟨_, rfl, la, rfl, ⟨_, SqL.of (kd s3 _ _ hla)⟩, ?_⟩
        refine for_list (K := K) (a := la) (xs := lot.map V.int) (fun m σ H' => Same H2 H' ∧ (∃ v4 v5 v6 v7 v8, σ = [some (.ref p), some (.ref da), some (.ref ba), some (.ref la), v4, v5, v6, v7, v8, none]) ∧ BSt c d H' ba fun q => (∃ lot ∈ c.lots.take n, q ∈ lot) ∨ q ∈ lot.take m)
          ⟨s3, ⟨_, _, _, _, _, rfl⟩, bst.congr fun q => by simp⟩ (fun n σ H' _ h => SqL.of (kd h.1 _ _ hla)) ?_ ?_
        · rintro m y σ H4 hy ⟨s4, ⟨v4, v5, v6, v7, v8, rfl⟩, bst⟩
          rw [List.getElem?_map] at hy
          obtain ⟨b, hbm, rfl⟩ := Option.map_eq_some_iff.mp hy
          have bl' : b ∈ lot := List.mem_of_getElem? hbm
          have bps : b ∈ c.ps := ok.lsub lot lotm b bl'
          have hp4 := hp.same (kd s4)
          obtain ⟨dx', fs', h1', h2'⟩ := hp4.me "_ahead"
          refine ⟨_, rfl, p, dx', fs', rfl, h1', h2', _, rfl, _, rfl, p, c, la, lot, b, rfl, hp4, kd s4 _ _ hla, ok.ll lot lotm, fun x hx => ⟨ok.lsub lot lotm x hx, ok.pj x (ok.lsub lot lotm x hx)⟩, bps, fun aa H5 s5 ha => ?_⟩
          refine ⟨Nat.zero_le _, fun ra nra => ?_⟩
          have s45 := Same.trans s4 s5
          have nr2 : H2 ra = none := Same.free s45 nra
          have s6 : Same H5 (upd H5 ra (.lst [])) := same_new nra
          refine ⟨_, rfl, p, CC K, dx, fs, _, rfl, s6 _ _ (kd s45 _ _ h1), T.c_Case, T.n_Case_grades, h2.gr, _, _, rfl, rfl, _, _, rfl, by omega, ?_⟩
          refine for_range (fun k σ H' => Same H5 H' ∧ (∃ v7 v8, σ = [some (.ref p), some (.ref da), some (.ref ba), some (.ref la), some (.int b), some (.ref aa), some (.ref ra), v7, v8, none]) ∧ ∃ vals : List Int, H' ra = some (.lst (vals.map V.int)) ∧ vals.length = k ∧
            ∀ j, j < k → BarOk c 0 d b j (vals.getD j 0)) ⟨s6, ⟨_, _, rfl⟩, [], upd_same, rfl, fun j hj => absurd hj (Nat.not_lt_zero _)⟩ ?_ ?_
          · rintro k σ H6 hk ⟨s6, ⟨v7, v8, rfl⟩, vals, hra, hlen, hok⟩
            have s56 := Same.trans s45 s6
            refine ⟨_, rfl, aa, rfl, ⟨_, SqL.of (s6 _ _ ha)⟩, fun D nD => ?_⟩
            refine lc_lst (l := lot.filter fun x => c.ah x b) (walkN (List.length_map ..)) nD (Nat.le_trans (List.length_filter_le _ _) (Nat.le_trans (ok.ll lot lotm) (by decide))) (fun x => decide ((c.rw x).grade < 1 + (k : Int))) (fun x => .int (d (c.rw x).item)) (fun H7 s7 => SqL.of (s7 _ _ (s6 _ _ ha))) (fun j y H7 H8 x hxj s7 hY N Z b1 b2 => ?_) fun H7 s7 e7 => ?_
            · obtain ⟨rfl, hx1⟩ := hY
              rw [List.getElem?_map, hxj] at hx1
              cases hx1
              have s27 := Same.trans s56 s7
              have xp := ((low_mem ok lotm bl' x).mp (List.mem_of_getElem? hxj)).1
              obtain ⟨ax, vx, gx, -, tx⟩ := (h3.lk (.of (kd s27))).to.get xp
              refine ⟨rfl, _, rfl, p, CC K, dx, fs, _, rfl, kd s27 _ _ h1, T.c_Case, T.n_Case_told, h2.to, _, rfl, t, _, rfl, gx, _, _, _, _, rfl, rfl, SqT.of tx, rfl, _, rfl, _, _, rfl, rfl, _, rfl, iteD (fun hlt => ?_) (fun hlt => b2 (decide_eq_false hlt) _ (Same.refl _))⟩
              refine ⟨_, rfl, _, rfl, p, CC K, dx, fs, _, rfl, kd s27 _ _ h1, T.c_Case, T.n_Case_told, h2.to, _, rfl, t, _, rfl, gx, _, _, _, _, rfl, rfl, SqT.of tx, rfl, da, _, rfl, dS_get (.inl (s27 _ _ hda)) (ok.pi x xp), b1 (decide_eq_true hlt) _ (Same.refl _)⟩
            · have hra7 := s7 _ _ hra
              have hbar := bar_of ok hd0 lotm bl' k
              have e8 : H7 D = some (.lst ((lows c d lot b k).map V.int)) := by
                rw [e7]
                unfold lows
                rw [List.map_map]
                rfl
              have fin : ∀ v, BarOk c 0 d b k v → Same H5 (upd H7 ra (.lst (vals.map V.int ++ [.int v]))) ∧ (∃ v7 v8, (([some (.ref p), some (.ref da), some (.ref ba), some (.ref la), some (.int b), some (.ref aa), some (.ref ra), v7, v8, none] : L2.St).set 7 (some (.int (1 + (k : Int))))).set 8 (some (.ref D)) = [some (.ref p), some (.ref da), some (.ref ba), some (.ref la), some (.int b), some (.ref aa), some (.ref ra), v7, v8, none]) ∧
                  ∃ vals' : List Int, upd H7 ra (.lst (vals.map V.int ++ [.int v])) ra = some (.lst (vals'.map V.int)) ∧ vals'.length = k + 1 ∧ ∀ j, j < k + 1 → BarOk c 0 d b j (vals'.getD j 0) := fun v hv => by
                refine ⟨same_upd (Same.trans s6 s7) nra, ⟨_, _, rfl⟩, vals ++ [v], ?_, ?_, fun j hj => ?_⟩
                · rw [upd_same, List.map_append]; rfl
                · rw [List.length_append, hlen]; rfl
                · by_cases e : j < k
                  · rw [getD_app1 (by omega)]
                    exact hok j e
                  · have : j = vals.length := by omega
                    rw [this, getD_app2, hlen]
                    exact hv
              refine ⟨_, rfl, tyL hra7, _, rfl, _, rfl, D, _, _, rfl, rfl, SqL.of e8, fun e0 => ?_, fun mx hm hmax => ?_⟩
              · exact ⟨_, _, rfl, rfl, ra, _, _, rfl, rfl, hra7, smaller (by rw [List.length_map]; omega), fin _ (hbar.1 e0)⟩
              · exact ⟨_, _, rfl, rfl, ra, _, _, rfl, rfl, hra7, smaller (by rw [List.length_map]; omega), fin _ (hbar.2 mx hm hmax)⟩
          · rintro σ H6 ⟨s6, ⟨v7, v8, rfl⟩, vals, hra, hlen, hok⟩
            have s56 := Same.trans s45 s6
            obtain ⟨H7, dp, kp, bst'⟩ := bst.put ok (Same.trans s5 s6) hra bps (by rw [hlen]; omega) (by rw [hlen]; exact hok)
            refine ⟨_, rfl, _, rfl, _, rfl, ba, H7, rfl, dp, fun q o e => kp q o (ne_of_none e nba) (s56 _ _ e), ⟨_, _, _, _, _, rfl⟩, bst'.congr fun q => ?_⟩
            rw [take_mem hbm, or_assoc]
        · rintro σ H4 ⟨s4, ⟨v4, v5, v6, v7, v8, rfl⟩, bst⟩
          refine ⟨s4, ⟨_, _, _, _, _, _, rfl⟩, bst.congr fun q => ?_⟩
          rw [List.length_map, List.take_length]
          constructor
          · rintro (⟨l', h2, h3⟩ | h2)
            · exact ⟨l', (take_mem hlot).mpr (.inl h2), h3⟩
            · exact ⟨lot, (take_mem hlot).mpr (.inr rfl), h2⟩
          · rintro ⟨l', h2, h3⟩
            rcases (take_mem hlot).mp h2 with h | rfl
            · exact .inl ⟨l', h, h3⟩
            · exact .inr h3
      · rintro σ H3 ⟨s3, ⟨v3, v4, v5, v6, v7, v8, rfl⟩, bs, bl, bad, hb, hbi, bnd, bm, bp, blen, bok⟩
        refine ⟨_, rfl, _, rfl, by show 2 ≤ sizeLine; exact small (by omega), fun a na => ?_⟩
        have s4 : Same H3 (upd H3 a (.tup [.ref da, .ref ba])) := same_new na
        refine k2 a _ da ba d bs bl bad (Same.trans (kd s3) s4) upd_same (s4 _ _ (s3 _ _ hda)) (s4 _ _ hb) (hbi.lk (.of s4)) ⟨fun q => ?_, bnd, blen, bok⟩ gd hd0
        rw [bm, ← Paired.length rl, List.take_length]
        exact ⟨fun ⟨l', h1, h2⟩ => ok.lsub l' h1 q h2, ok.lcov q⟩
    · rw [ec.eqA, ec.items] at rnd
      exact ⟨_, rfl, rfl, _, rfl, iteT (k1 H2 d (Same.trans s1 s2) rnd)⟩
end RB
end

section
set_option maxRecDepth 100000
set_option maxHeartbeats 4000000
/-! explains -/
namespace RB
open PySem PySem.Spec PyProof.Rows L2
variable {P : Program} {w : World} {K : PySem.W.Frag} {mg : Str → Option Value} {base : Heap}
/-- two names of a pair -/
abbrev g2 (K : PySem.W.Frag) (i j : Nat) : TG := gTup K 2 (gCons (gName i) (gCons (gName j) gNil))
theorem pg_two (K : PySem.W.Frag) {X : Cx} {i j : Nat} {x y : Str} {px py pos : Pos} {k : Nat} (hc : X.calm = true) (hN : X.N.Nodup) (hi : X.N[i]? = some x) (hj : X.N[j]? = some y) (hx : Loc X.env.scope x) (hy : Loc X.env.scope y) (hK : X.K = K := by rfl)
    (hf : X.fn x = true ∨ X.env.scope.names.lookup x = some .local := by first | exact .inl rfl | exact .inr rfl | assumption) (hf2 : X.fn y = true ∨ X.env.scope.names.lookup y = some .local := by first | exact .inl rfl | exact .inr rfl | assumption)
    (hs : (assignEach [.Name x px, .Name y py] X.env).map (·.2) = assign (.Name x px) X.env :: (assignEach [.Name y py] X.env).map (·.2) := by rfl) (hs2 : (assignEach [.Name y py] X.env).map (·.2) = assign (.Name y py) X.env :: (assignEach [] X.env).map (·.2) := by rfl)
    (hn : (assignEach [.Name x px, .Name y py] X.env).length = 2 := by rfl) (hst : (assignEach [.Name x px, .Name y py] X.env).findIdx? (·.1) = none := by rfl) : PG X (.Tuple [.Name x px, .Name y py] k pos) (g2 K i j) := by
  subst hK
  exact pg_tup hc (pgs_cons (pg_name hN hi hx hf) (pgs_cons (pg_name hN hj hy hf2) pgs_nil hs2) hs) hn hst
theorem any_no (n : Nat) : (List.replicate n false).any id = false := by simp
theorem map_no {α : Type} (l : List α) : (l.filter fun _ => true).map (fun _ => V.bl false) = (List.replicate l.length false).map V.bl := by
  rw [filter_yes]
  simp [List.map_const']
theorem map_noN (n : Nat) : ((List.range n).filter fun _ => true).map (fun _ => V.bl false) = (List.replicate n false).map V.bl := by
  rw [filter_yes]
  simp [List.map_const']
theorem getD_at {xs : List Int} {i : Nat} {v : Int} (h : xs[i]? = some v) : xs.getD i 0 = v := by simp [List.getD_eq_getElem?_getD, h]
theorem map_getD {xs : List Int} {i : Nat} (h : i < xs.length) : (xs.map V.int)[i]? = some (.int (xs.getD i 0)) := by
  rw [List.getElem?_map, List.getElem?_eq_getElem h, getD_at (List.getElem?_eq_getElem h)]
  rfl
/-! ### _fits -/
def spFits (K : PySem.W.Frag) : Sp := fun vs H Q _ => ∃ (p : Addr) (c : Cs) (b q : Int) (ra : Addr) (vals : List Int), vs = [.ref p, .int b, .int q, .ref ra] ∧ CsAt K H p c ∧ b ∈ c.ps ∧ H ra = some (.lst (vals.map V.int)) ∧ (vals.length : Int) = c.grades ∧ 1 ≤ vals.length ∧ vals.length ≤ 9 ∧
  (∀ k, k + 1 < vals.length → vals.getD k 0 ≤ vals.getD (k + 1) 0) ∧ (∀ k, k < vals.length → (vals.getD k 0 ≤ q ↔ (k : Int) + 1 ≤ (c.rw b).grade)) ∧ ∀ H', Same H H' → Q (.bl true) H'
theorem sc_fits : FnScope ["self", "place", "quality", "row", "k", "at", "bar"] ["self", "place", "quality", "row"] d_case_fits.scope := ⟨rfl, rfl, rfl, by decide +kernel, rfl, by decide +kernel, by decide +kernel⟩
theorem ok_fits (T : Txt K mg) : Kept P w K mg base 1 (He.ma K (CC K) "_fits") ["self", "place", "quality", "row"] (spFits K) := by
  refine keep_of (d := d_case_fits) T.d_case_fits sc_fits (fun _ _ _ _ _ _ us hl => match us, hl with | [_, _, _, _], _ => rfl) (fun vs H Q E h => ?_) (fun cd A outer s H vs Q E hr h => ?_)
  · obtain ⟨p, c, b, q, ra, vals, rfl, _⟩ := h
    rfl
  · obtain ⟨p, c, b, q, ra, vals, rfl, hp, hb, hra, hlen, h0, h9, hmono, hfit, k⟩ := h
    have nd := sc_fits.nd
    have hu := hu_of hr
    refine ⟨_, pss_cons (ps_if (PW.pt (pw_or (pt_cmpR op_ne (pe_len K T.f_len (pv 3)) (pe_at K (pv 0)) (nomark _)) (pw_or1 (pt_val (pe_any K T.f_any (pe_lc (own := [("k", 4)]) (g := gName 4) (tt := tYes) rfl nd (pi_range1 rfl T.f_range (pa_cons (pe_op op_sub (pe_len K T.f_len (pv 3)) pe_int) pa_nil))
          (blkOk_by (own := [("k", 4)]) (N := ["self", "place", "quality", "row", "k", "at", "bar"]) (sc := d_case_fits.scope) (by decide +kernel)) (fun _ _ _ _ _ => pg_name (i := 4) nd rfl (Or.inl rfl)) (fun _ _ _ _ _ => pts_nil)
          (fun _ _ _ _ _ => pe_cmpR op_gt (pe_il K (pv 3) (pv 4)) (pe_il K (pv 3) (pe_op op_add (pv 4) pe_int)) (nomark _))))))))
        (pss_one (ps_ret pe_bl)) pss_nil)
      (pss_one (ps_ret (pe_all K T.f_all (pe_lc (own := [("at", 5), ("bar", 6)]) (g := g2 K 5 6) (tt := tYes) rfl nd (pi_enum rfl T.f_enumerate (pa_cons (pv 3) pa_nil))
          (blkOk_by (own := [("at", 5), ("bar", 6)]) (N := ["self", "place", "quality", "row", "k", "at", "bar"]) (sc := d_case_fits.scope) (by decide +kernel)) (fun _ _ _ _ _ => pg_two K (i := 5) (j := 6) rfl nd rfl rfl (Or.inl rfl) (Or.inl rfl)) (fun _ _ _ _ _ => pts_nil)
          (fun _ _ _ _ _ => pe_cmpR op_eq (pe_cmpR op_le (pv 6) (pv 2) (nomark _)) (pe_cmpR op_gt (pe_it K (pe_dget hu (pe_at K (pv 0)) (pv 1) (fun _ _ => rfl)) pe_int) (pv 5) (nomark _)) (nomark _)))))), ?_⟩
    obtain ⟨dx, fs, i, dd, t, l, h1, h2, h3⟩ := hp.ex
    have hl2 : (vals.map V.int).length = vals.length := List.length_map ..
    refine ⟨_, rfl, ra, _, rfl, .inl (SqL.of hra), _, rfl, p, CC K, dx, fs, _, rfl, h1, T.c_Case, T.n_Case_grades, h2.gr, rfl, _, rfl, ?_⟩
    rw [decide_eq_true (show V.int ((vals.map V.int).length : Int) = V.int c.grades by rw [hl2, hlen])]
    refine iteF ⟨_, rfl, ra, _, rfl, .inl (SqL.of hra), _, _, rfl, rfl, _, rfl, by rw [hl2]; omega, by rw [hl2]; omega, fun D nD => ?_⟩
    have hn : (((vals.map V.int).length : Int) - 1).toNat = vals.length - 1 := by rw [hl2]; omega
    refine lc_val (n := vals.length - 1) (by rw [← hn]; exact walk_range) nD (small (by omega)) (fun _ => true) (fun _ => V.bl false) (fun _ _ => trivial) (fun j x H1 H2 hj s1 hY N Z b1 _ => ?_) fun H1 s1 e1 => ?_
    · obtain ⟨rfl, rfl⟩ := hY
      have hr1 := s1 _ _ hra
      have hm := hmono j (by omega)
      refine ⟨rfl, yesT ⟨_, rfl, _, rfl, _, _, _, _, rfl, rfl, SqL.of hr1, (by rw [Int.zero_add]; exact atI_nat (map_getD (by omega))), _, rfl, _, rfl, _, _, rfl, rfl, _, _, _, _, rfl, rfl, SqL.of hr1, (show atI (vals.map V.int) (0 + (j : Int) + 1) = some (.int (vals.getD (j + 1) 0)) by rw [show (0 + (j : Int) + 1) = ((j + 1 : Nat) : Int) by omega]; exact atI_nat (map_getD (by omega))), _, _, rfl, rfl, ?_⟩⟩
      show N (.bl (decide (vals.getD (j + 1) 0 < vals.getD j 0))) H2
      rw [decide_eq_false (show ¬ vals.getD (j + 1) 0 < vals.getD j 0 by omega)]
      exact b1 rfl _ (Same.refl _)
    refine ⟨D, _, rfl, SqL.of (by rw [e1, map_noN]), _, rfl, ?_⟩
    rw [any_no]
    refine iteF ?_
    have hra1 := s1 _ _ hra
    refine ⟨_, rfl, ra, _, rfl, SqL.of hra1, fun D2 n2 => ?_⟩
    refine lc_lst (l := vals) (by rw [← hl2]; exact walk_enum) n2 (by omega) (fun _ => true) (fun _ => V.bl true) (fun H2 s2 => SqL.of (s2 _ _ hra1)) (fun j x H2 H3 v hv s2 hY N Z b1 _ => ?_) fun H2 s2 e2 => ?_
    · obtain ⟨Tt, x1, x2, rfl, nT, rfl, e1, e2⟩ := hY
      cases e1
      replace e2 : (vals.map V.int)[j]? = some x2 := e2
      rw [List.getElem?_map, hv] at e2
      cases e2
      have s3 := Same.trans s1 (Same.trans s2 (same_new (o := .tup [.int (j : Nat), .int v]) nT))
      obtain ⟨ab, vb, gb, -, tb⟩ := (h3.lk (.of s3)).to.get hb
      refine ⟨Tt, _, rfl, SqT.of upd_same, rfl, _, _, rfl, _, _, rfl, rfl, rfl, yesT ⟨_, rfl, _, rfl, _, _, rfl, rfl, _, rfl, p, CC K, dx, fs, _, rfl, s3 _ _ h1, T.c_Case, T.n_Case_told, h2.to, _, rfl, t, _, rfl, gb, _, _, _, _, rfl, rfl, SqT.of tb, rfl, _, rfl, _, _, rfl, rfl, rfl, ?_⟩⟩
      have hj : j < vals.length := (List.getElem?_eq_some_iff.mp hv).1
      have hf := hfit j hj
      rw [getD_at hv] at hf
      have : (V.bl (decide (v ≤ q))) = V.bl (decide ((j : Int) < (c.rw b).grade)) := by
        congr 1
        rw [decide_eq_decide]
        rw [hf]
        omega
      show N (.bl (decide (V.bl (decide (v ≤ q)) = V.bl (decide ((j : Int) < (c.rw b).grade))))) _
      rw [decide_eq_true this]
      exact b1 rfl _ (same_new nT)
    · refine ⟨D2, _, rfl, SqL.of (by rw [e2, map_yes]), ?_⟩
      rw [all_yes]
      exact k _ (Same.trans s1 s2)
end RB
end

section
set_option maxRecDepth 100000
set_option maxHeartbeats 4000000
/-! explains -/
namespace RB
open PySem PySem.Spec PyProof.Rows L2
variable {P : Program} {w : World} {K : PySem.W.Frag} {mg : Str → Option Value} {base : Heap}
/-! ### two sorted lists of the same items -/
theorem rise_pair : ∀ (r : List Str) (p : Str), risingS p r = true → (p :: r).Pairwise fun a b => a.cps.toList ≤ b.cps.toList
  | [], p, _ => List.pairwise_singleton _ _
  | x :: r, p, h => by
    simp only [risingS, Bool.and_eq_true, Bool.not_eq_true'] at h
    have ih := rise_pair r x h.2
    rw [ltCps_eq, decide_eq_false_iff_not] at h
    have h1 : p.cps.toList ≤ x.cps.toList := List.not_lt.mp h.1
    refine .cons (fun c hc => ?_) ih
    rcases List.mem_cons.mp hc with rfl | hc
    · exact h1
    · exact List.le_trans h1 ((List.pairwise_cons.mp ih).1 c hc)
theorem sorted_pair (l : List Str) (h : sortedS l = true) : l.Pairwise fun a b => a.cps.toList ≤ b.cps.toList := by
  cases l with
  | nil => exact .nil
  | cons p r => exact rise_pair r p h
theorem str_eq {a b : Str} (h : a.cps.toList = b.cps.toList) : a = b := by
  cases a; cases b
  congr 1
  exact Array.toList_inj.mp h
theorem sortS_eq {l m : List Str} (h1 : sortedS l = true) (h2 : sortedS m = true) (p : l.Perm m) : l = m :=
  List.Perm.eq_of_pairwise (fun a b _ _ x y => str_eq (List.le_antisymm x y)) (sorted_pair l h1) (sorted_pair m h2) p
theorem sortI_eq {l m : List Int} (h1 : l.Pairwise (· ≤ ·)) (h2 : m.Pairwise (· ≤ ·)) (p : l.Perm m) : l = m :=
  List.Perm.eq_of_pairwise (fun _ _ _ _ a b => Int.le_antisymm a b) h1 h2 p
theorem dp_strs {H : Hp} : ∀ (xs : List Str), DpAll K H (xs.map V.str) (xs.map PyData.str)
  | [] => .nil
  | x :: xs => .cons (.str x) (dp_strs xs)
theorem dp_ints {H : Hp} : ∀ (xs : List Int), DpAll K H (xs.map V.int) (xs.map PyData.int)
  | [] => .nil
  | x :: xs => .cons (.int x) (dp_ints xs)
theorem shaped_strs {xs : List Str} (h : ∀ x ∈ xs, x ∈ itemNames) : SeqAt.shaped (.list (xs.map PyData.str)) = true := by
  have h1 : ∀ ys : List Str, (∀ x ∈ ys, x ∈ itemNames) → PyData.canLayAll0 (ys.map PyData.str) = true ∧ PyData.depthAll (ys.map PyData.str) = 0 := by
    intro ys
    induction ys with
    | nil => intro _; exact ⟨rfl, rfl⟩
    | cons y r ih =>
      intro hy
      obtain ⟨a, b⟩ := ih fun x hx => hy x (List.mem_cons_of_mem _ hx)
      refine ⟨by simp [PyData.canLayAll0, PyData.canLay0, a, strOk_item y (hy y List.mem_cons_self)], ?_⟩
      simp [PyData.depthAll, PyData.depth, b]
  obtain ⟨a, b⟩ := h1 xs h
  unfold SeqAt.shaped
  simp [PyData.canLay0, PyData.depth, a, b]
theorem eqv_self {d : PyData} (h : SeqAt.shaped d = true) : PyData.eqv d d = true := by
  refine PySem.SeqAt.eqv_refl d ?_
  unfold SeqAt.shaped at h
  exact (Bool.and_eq_true_iff.mp h).1
def spExplains (K : PySem.W.Frag) : Sp := fun vs H Q _ => ∃ (p qa ba : Addr) (c : Cs) (qs : List Str) (d : Str → Int) (bs : List Int) (bl : Int → List Int) (bad : Int → Addr), vs = [.ref p, .ref qa, .ref ba] ∧ CsAt K H p c ∧ c.Ok ∧ H qa = some (.dK (dS qs fun k => .int (d k))) ∧ qs.Perm c.items ∧
  H ba = some (.dK (dI bs fun p => .ref (bad p))) ∧ BarsIn H bs bl bad ∧ (∀ q, q ∈ bs ↔ q ∈ c.ps) ∧ bs.Nodup ∧ (∀ q ∈ bs, ((bl q).length : Int) = c.grades) ∧
  (∀ q ∈ c.ps, ∀ k, k + 1 < (bl q).length → (bl q).getD k 0 ≤ (bl q).getD (k + 1) 0) ∧ (∀ q ∈ c.ps, ∀ k, k < (bl q).length → ((bl q).getD k 0 ≤ d (c.rw q).item ↔ (k : Int) + 1 ≤ (c.rw q).grade)) ∧
  (∀ q ∈ c.ps, ∀ x ∈ c.ps, c.one x q = true → c.ah x q = true → ∀ k, k < (bl q).length → (bl x).getD k 0 ≤ (bl q).getD k 0) ∧ ∀ H', Same H H' → Q (.bl true) H'
theorem sc_explains : FnScope ["self", "qualities", "bars", "lot", "place", "one", "low", "high"] ["self", "qualities", "bars"] d_case_explains.scope := ⟨rfl, rfl, rfl, by decide +kernel, rfl, by decide +kernel, by decide +kernel⟩
theorem ok_explains (T : Txt K mg) : Kept P w K mg base 4 (He.ma K (CC K) "explains") ["self", "qualities", "bars"] (spExplains K) := by
  refine keep_of (d := d_case_explains) T.d_case_explains sc_explains (fun _ _ _ _ _ _ us hl => match us, hl with | [_, _, _], _ => rfl) (fun vs H Q E h => ?_) (fun cd A outer s H vs Q E hr h => ?_)
  · obtain ⟨p, qa, ba, c, qs, d, bs, bl, bad, rfl, _⟩ := h
    rfl
  · obtain ⟨p, qa, ba, c, qs, d, bs, bl, bad, rfl, hp, ok, hqa, hperm, hba, hbi, bm, bnd, blen, hmono, hfit, hah, k⟩ := h
    have nd := sc_explains.nd
    have hu := hu_of hr
    have hr1 := hr.mono (show 1 ≤ 3 by decide)
    refine ⟨_, pss_cons (ps_if (PW.pt (pw_or (pt_cmpR (op_neD hr.units) (pe_callB (call_sortedD rfl) rfl T.f_sorted (by decide +kernel) (pa_cons (pv 1) pa_nil)) (pe_callB cr_sortedS rfl T.f_sorted (by decide +kernel) (pa_cons (pe_at K (pv 0)) pa_nil)) (nomark _))
          (pw_or1 (pt_cmpR (op_neD hr.units) (pe_callB (call_sortedDI rfl) rfl T.f_sorted (by decide +kernel) (pa_cons (pv 2) pa_nil)) (pe_m0 (pv 0) T.c_Case T.m_Case_answers (ok_answers T) hr1 (Nat.le_refl _)) (nomark _)))))
        (pss_one (ps_ret pe_bl)) pss_nil)
      (pss_cons (ps_if (pt_not (pt_val (pe_all K T.f_all (pe_lock (pe_lc (own := [("place", 4)]) (g := gName 4) (tt := tYes) rfl nd (pi_keys (pv 2))
            (blkOk_by (own := [("place", 4)]) (N := ["self", "qualities", "bars", "lot", "place", "one", "low", "high"]) (sc := d_case_explains.scope) (by decide +kernel)) (fun _ _ _ _ _ => pg_name (i := 4) nd rfl (Or.inl rfl)) (fun _ _ _ _ _ => pts_nil)
            (fun _ _ _ _ _ => pe_m (pv 0) T.c_Case T.m_Case_fits (ok_fits T) hr1 (Nat.le_refl _) (pa_cons (pv 4) (pa_cons (pe_dget hu (pv 1) (pe_it K (pe_dget hu (pe_at K (pv 0)) (pv 4) (fun _ _ => rfl)) pe_int) (fun _ _ => rfl)) (pa_cons (pe_dget hu (pv 2) (pv 4) (fun _ _ => rfl)) pa_nil)))))))))
        (pss_one (ps_ret pe_bl)) pss_nil)
      (pss_cons (ps_for PassesOwn.never rfl (pi_list (pe_at K (pv 0))) (pg_name (i := 3) nd rfl (Or.inl rfl))
        (pss_one (ps_for PassesOwn.never rfl (pi_list (pv 3)) (pg_name (i := 4) nd rfl (Or.inl rfl))
          (pss_one (ps_for PassesOwn.never rfl (pi_list (pe_m (pv 0) T.c_Case T.m_Case_ahead (ok_ahead T) hr (Nat.le_refl _) (pa_cons (pv 3) (pa_cons (pv 4) pa_nil)))) (pg_name (i := 5) nd rfl (Or.inl rfl))
            (pss_one (ps_if (pt_val (pe_any K T.f_any (pe_lc (own := [("low", 6), ("high", 7)]) (g := g2 K 6 7) (tt := tYes) rfl nd (pi_zip rfl T.f_zip (pa_cons (pe_dget hu (pv 2) (pv 5) (fun _ _ => rfl)) (pa_cons (pe_dget hu (pv 2) (pv 4) (fun _ _ => rfl)) pa_nil)))
                (blkOk_by (own := [("low", 6), ("high", 7)]) (N := ["self", "qualities", "bars", "lot", "place", "one", "low", "high"]) (sc := d_case_explains.scope) (by decide +kernel)) (fun _ _ _ _ _ => pg_two K (i := 6) (j := 7) rfl nd rfl rfl (Or.inl rfl) (Or.inl rfl)) (fun _ _ _ _ _ => pts_nil)
                (fun _ _ _ _ _ => pe_cmpR op_gt (pv 6) (pv 7) (nomark _))))) (pss_one (ps_ret pe_bl)) pss_nil)))))))
      (pss_one (ps_ret pe_bl)))), ?_⟩
    obtain ⟨dx, fs, i, dd, t, l, h1, h2, h3⟩ := hp.ex
    obtain ⟨ls, hl, rl⟩ := h3.lo
    have i4 := ok.i4
    have p9 := ok.p9
    have g1 := ok.g1
    have g2' := ok.g2
    have bs9 : bs.length ≤ 9 := Nat.le_trans (nodup_le bnd fun q hq => (bm q).mp hq) p9
    refine ⟨_, rfl, qa, _, qs, rfl, .inl hqa, dG_keys _ _ _, by rw [hperm.length_eq]; omega, fun y1 a1 e1 e2 n1 => ?_⟩
    have s1 : Same H (upd H a1 (.lst (y1.map V.str))) := same_new n1
    refine ⟨_, rfl, p, CC K, dx, fs, _, rfl, s1 _ _ h1, T.c_Case, T.n_Case_items, h2.it, i, c.items, rfl, SqL.of (s1 _ _ h3.it), by omega, fun y2 a2 e3 e4 n2 => ?_⟩
    have ey : y2 = y1 := sortS_eq e4 e2 (e3.trans (hperm.symm.trans e1.symm))
    subst ey
    have s2 : Same (upd H a1 (.lst (y2.map V.str))) (upd (upd H a1 (.lst (y2.map V.str))) a2 (.lst (y2.map V.str))) := same_new n2
    have sh1 := shaped_strs (xs := y2) fun x hx => ok.inm x (e3.mem_iff.mp hx)
    refine ⟨_, _, .lst (SqL.of (s2 _ _ upd_same)) (dp_strs _), .lst (SqL.of upd_same) (dp_strs _), sh1, sh1, _, rfl, ?_⟩
    rw [eqv_self sh1]
    refine iteF ?_
    have s3 := Same.trans s1 s2
    refine ⟨_, rfl, ba, _, bs, rfl, .inl (s3 _ _ hba), dG_keys _ _ _, by omega, fun z1 b1 f1 f2 n3 => ?_⟩
    have s4 := Same.trans s3 (same_new (o := .lst (z1.map V.int)) n3)
    have hp4 := hp.same s4
    obtain ⟨dx5, fs5, g5, g6⟩ := hp4.me "answers"
    refine ⟨_, rfl, p, dx5, fs5, rfl, g5, g6, p, c, rfl, hp4, p9, fun z2 b2 f3 f4 n4 => ?_⟩
    have pb : bs.Perm c.ps := (List.perm_ext_iff_of_nodup bnd ok.pnd).mpr bm
    have ez : z2 = z1 := sortI_eq f4 f2 (f3.trans (pb.symm.trans f1.symm))
    subst ez
    have s5 := Same.trans s4 (same_new (o := .lst (z2.map V.int)) n4)
    have sh2 := PySem.W.ke_shaped_ints z2
    refine ⟨_, _, .lst (SqL.of (same_new n4 _ _ upd_same)) (dp_ints _), .lst (SqL.of upd_same) (dp_ints _), sh2, sh2, _, rfl, ?_⟩
    rw [eqv_self sh2]
    refine iteF ?_
    have hp5 := hp.same s5
    have hba5 := s5 _ _ hba
    refine ⟨ba, _, hba5, trivial, fun od => ⟨_, rfl, ba, od, rfl, .inl ⟨_, upd_same, fun D nD => ?_⟩⟩⟩
    have lk5 := (Lk.of s5).trans (Lk.lock (od := od) hba5)
    have nDb : D ≠ ba := fun z => by rw [z, upd_same] at nD; cases nD
    refine lc_lst (l := bs) (by rw [show bs.length = (dI bs fun p => V.ref (bad p)).length from (dG_length ..).symm]; exact walk_keys) nD (by omega) (fun _ => true) (fun _ => V.bl true) (fun H2 s2 => s2 _ _ upd_same) (fun j x H2 H3 b hb s6 hY N Z b1 _ => ?_) fun H2 s6 e6 => ?_
    · obtain ⟨rfl, k', v', hx, rfl⟩ := hY
      rw [dG_get?, hb] at hx
      cases hx
      have bmem := List.mem_of_getElem? hb
      have bp := (bm b).mp bmem
      have lk6 := lk5.trans (.of s6)
      have hp6 := hp.lk lk6
      obtain ⟨dx7, fs7, g7, g8⟩ := hp6.me "_fits"
      obtain ⟨ab, vb, gb, -, tb⟩ := (h3.lk lk6).to.get bp
      have len := blen b bmem
      refine ⟨rfl, yesT ⟨_, rfl, p, dx7, fs7, rfl, g7, g8, _, rfl, _, rfl, _, rfl, p, CC K, dx, fs, _, rfl, lk6.ins h1, T.c_Case, T.n_Case_told, h2.to, _, rfl, t, _, rfl, gb, _, _, _, _, rfl, rfl, SqT.of tb, rfl, qa, _, rfl, dS_get (lk6.rd (.inl hqa)) (hperm.mem_iff.mpr (ok.pi b bp)), _, rfl, _, rfl, ba, _, rfl, dI_get (lk6.rd (.inl hba)) bmem, ?_⟩⟩
      exact ⟨p, c, b, d (c.rw b).item, bad b, bl b, rfl, hp6, bp, lk6.lst (hbi b bmem), len, by omega, by omega, hmono b bp, hfit b bp, fun H' s' => b1 rfl _ s'⟩
    obtain ⟨u1, u2⟩ := unlock hba5 s6
    refine ⟨u1, D, _, rfl, SqL.of (by rw [upd_ne nDb, e6, map_yes]), _, rfl, ?_⟩
    rw [all_yes]
    refine iteF ?_
    have s7 := Same.trans s5 u2
    generalize upd H2 ba (.dK (dI bs fun p => V.ref (bad p))) = H7 at u2 s7
    refine ⟨_, rfl, p, CC K, dx, fs, _, rfl, s7 _ _ h1, T.c_Case, T.n_Case_lots, h2.lo, l, rfl, ⟨_, SqL.of (s7 _ _ hl)⟩, ?_⟩
    refine for_list (K := K) (a := l) (xs := ls) (fun n σ H' => Same H H' ∧ ∃ v3 v4 v5, σ = [some (.ref p), some (.ref qa), some (.ref ba), v3, v4, v5, none, none]) ⟨s7, _, _, _, rfl⟩ (fun n σ H' _ h => SqL.of (h.1 _ _ hl)) ?_ ?_
    · rintro n x σ H3 hx ⟨s8, v3, v4, v5, rfl⟩
      have hn : n < c.lots.length := by rw [Paired.length rl]; exact (List.getElem?_eq_some_iff.mp hx).1
      have hlot : c.lots[n]? = some c.lots[n] := List.getElem?_eq_getElem hn
      obtain ⟨x', ex', la, rfl, hla⟩ := pair_get rl hlot
      rw [hx] at ex'
      cases ex'
      generalize c.lots[n] = lot at hlot hla
      have lotm := List.mem_of_getElem? hlot
      refine ⟨_, rfl, la, rfl, ⟨_, SqL.of (s8 _ _ hla)⟩, ?_⟩
      refine for_list (K := K) (a := la) (xs := lot.map V.int) (fun m σ H' => Same H H' ∧ ∃ v4 v5, σ = [some (.ref p), some (.ref qa), some (.ref ba), some (.ref la), v4, v5, none, none]) ⟨s8, _, _, rfl⟩ (fun n σ H' _ h => SqL.of (h.1 _ _ hla)) ?_ ?_
      · rintro m y σ H4 hy ⟨s9, v4, v5, rfl⟩
        rw [List.getElem?_map] at hy
        obtain ⟨b, hbm, rfl⟩ := Option.map_eq_some_iff.mp hy
        have bl' : b ∈ lot := List.mem_of_getElem? hbm
        have bps : b ∈ c.ps := ok.lsub lot lotm b bl'
        have bmem := (bm b).mpr bps
        have hp9 := hp.same s9
        obtain ⟨dx', fs', h1', h2'⟩ := hp9.me "_ahead"
        refine ⟨_, rfl, p, dx', fs', rfl, h1', h2', _, rfl, _, rfl, p, c, la, lot, b, rfl, hp9, s9 _ _ hla, ok.ll lot lotm, fun x hx => ⟨ok.lsub lot lotm x hx, ok.pj x (ok.lsub lot lotm x hx)⟩, bps, fun aa H5 s10 ha => ?_⟩
        have s11 := Same.trans s9 s10
        refine ⟨aa, rfl, ⟨_, SqL.of ha⟩, ?_⟩
        refine for_list (K := K) (a := aa) (xs := (lot.filter fun x => c.ah x b).map V.int) (fun m σ H' => Same H5 H' ∧ ∃ v5, σ = [some (.ref p), some (.ref qa), some (.ref ba), some (.ref la), some (.int b), v5, none, none]) ⟨Same.refl _, _, rfl⟩ (fun n σ H' _ h => SqL.of (h.1 _ _ ha)) ?_ ?_
        · rintro q y σ H6 hy ⟨s12, v5, rfl⟩
          rw [List.getElem?_map] at hy
          obtain ⟨x, hxm, rfl⟩ := Option.map_eq_some_iff.mp hy
          obtain ⟨xp, x1, x2⟩ := (low_mem ok lotm bl' x).mp (List.mem_of_getElem? hxm)
          have xmem := (bm x).mpr xp
          have s13 := Same.trans s11 s12
          have lx := blen x xmem
          have lb := blen b bmem
          refine ⟨_, rfl, _, rfl, ba, _, rfl, dI_get (.inl (s13 _ _ hba)) xmem, _, rfl, _, rfl, ba, _, rfl, dI_get (.inl (s13 _ _ hba)) bmem, _, _, _, _, rfl, SqL.of (s13 _ _ (hbi x xmem)), SqL.of (s13 _ _ (hbi b bmem)), fun D nD => ?_⟩
          refine lc_val (n := (bl b).length) (walk_zip (by rw [List.length_map, List.length_map]; omega)) nD (small (by omega)) (fun _ => true) (fun _ => V.bl false) (fun H7 s7 => ⟨SqL.of (s7 _ _ (s13 _ _ (hbi x xmem))), SqL.of (s7 _ _ (s13 _ _ (hbi b bmem)))⟩) (fun j v H7 H8 hj s14 hY N Z b1 _ => ?_) fun H7 s14 e7 => ?_
          · obtain ⟨Tt, x1', x2', rfl, nT, rfl, e1, e2⟩ := hY
            replace e1 : ((bl x).map V.int)[j]? = some x1' := e1
            replace e2 : ((bl b).map V.int)[j]? = some x2' := e2
            rw [map_getD (by omega)] at e1
            rw [map_getD hj] at e2
            cases e1
            cases e2
            have hle := hah b bps x xp x1 x2 j hj
            refine ⟨Tt, _, rfl, SqT.of upd_same, rfl, _, _, rfl, _, _, rfl, rfl, rfl, yesT ⟨_, rfl, _, rfl, _, _, rfl, rfl, ?_⟩⟩
            show N (.bl (decide ((bl b).getD j 0 < (bl x).getD j 0))) _
            rw [decide_eq_false (show ¬ (bl b).getD j 0 < (bl x).getD j 0 by omega)]
            exact b1 rfl _ (same_new nT)
          · refine ⟨D, _, rfl, SqL.of (by rw [e7, map_noN]), _, rfl, ?_⟩
            rw [any_no]
            exact iteF ⟨Same.trans s12 s14, _, rfl⟩
        · rintro σ H6 ⟨s12, v5, rfl⟩
          exact ⟨Same.trans s11 s12, _, _, rfl⟩
      · rintro σ H4 ⟨s9, v4, v5, rfl⟩
        exact ⟨s9, _, _, _, rfl⟩
    · rintro σ H3 ⟨s8, v3, v4, v5, rfl⟩
      exact k _ s8
end RB
end

section
set_option maxRecDepth 100000
set_option maxHeartbeats 4000000
/-! counters: what lot, what part -/
namespace RB
open PySem PySem.Spec PyProof.Rows L2
def Ev.isRst : Ev → Bool
  | .rst _ => true
  | _ => false
/-- a change: struck, resets, moves -/
structure Ch where
  st : List Int
  rs : List Int
  mv : Option (List Int)
def cntN (g : Lg) (hit : Nat → Bool) : Nat → Str → Int
  | 0, _ => 0
  | n + 1, j => cntN g hit n j + (match g.events[n]? with | some e => if e.judge = j ∧ hit n = true then 1 else 0 | none => 0)
def lotHit (g : Lg) (ch : Ch) (n : Nat) : Bool := (match g.events[n]? with | some e => e.isRst | none => false) || decide ((n : Int) ∈ ch.rs)
def parHit (ch : Ch) (n : Nat) : Bool := match ch.mv with | none => true | some m => decide ((n : Int) ∈ m)
def lotN (g : Lg) (ch : Ch) : Nat → Str → Int := cntN g (lotHit g ch)
def parN (g : Lg) (ch : Ch) : Nat → Str → Int := cntN g (parHit ch)
def rowN (g : Lg) (ch : Ch) (n : Nat) : Row Str := match g.events[n]? with
  | some (.ans j i k) => ⟨j, i, k, lotN g ch (n + 1) j, parN g ch (n + 1) j⟩
  | _ => ⟨"", "", 0, 0, 0⟩
def keptN (g : Lg) (ch : Ch) (n : Nat) : Bool := match g.events[n]? with
  | some (.ans _ _ _) => decide ((n : Int) ∉ ch.st)
  | _ => false
def psN (g : Lg) (ch : Ch) (n : Nat) : List Int := ((List.range n).filter (keptN g ch)).map fun (m : Nat) => (m : Int)
def csRw (g : Lg) (ch : Ch) (p : Int) : Row Str := rowN g ch p.toNat
def keyN (g : Lg) (ch : Ch) (p : Int) : Str × Int := ((csRw g ch p).judge, (csRw g ch p).lot)
variable {g : Lg} {ch : Ch}
theorem cnt_hit {hit : Nat → Bool} {n : Nat} {e : Ev} (he : g.events[n]? = some e) (h : hit n = true) (j : Str) : cntN g hit (n + 1) j = if j = e.judge then cntN g hit n j + 1 else cntN g hit n j := by
  show cntN g hit n j + (match g.events[n]? with | some e => if e.judge = j ∧ hit n = true then 1 else 0 | none => 0) = _
  rw [he]
  show cntN g hit n j + (if e.judge = j ∧ hit n = true then 1 else 0) = _
  by_cases c : j = e.judge
  · rw [if_pos ⟨c.symm, h⟩, if_pos c]
  · rw [if_neg (fun z => c z.1.symm), if_neg c]; omega
theorem cnt_no {hit : Nat → Bool} {n : Nat} (h : hit n = false) (j : Str) : cntN g hit (n + 1) j = cntN g hit n j := by
  show cntN g hit n j + (match g.events[n]? with | some e => if e.judge = j ∧ hit n = true then 1 else 0 | none => 0) = _
  split
  · rw [if_neg (fun z => by rw [h] at z; exact absurd z.2 (by decide))]; omega
  · omega
theorem cnt_mono {hit : Nat → Bool} (j : Str) (n : Nat) : cntN g hit n j ≤ cntN g hit (n + 1) j := by
  show cntN g hit n j ≤ cntN g hit n j + (match g.events[n]? with | some e => if e.judge = j ∧ hit n = true then 1 else 0 | none => 0)
  split
  · split <;> omega
  · omega
theorem cnt_le {hit : Nat → Bool} (j : Str) {n m : Nat} (h : n ≤ m) : cntN g hit n j ≤ cntN g hit m j := by
  induction h with
  | refl => exact Int.le_refl _
  | step _ ih => exact Int.le_trans ih (cnt_mono j _)
theorem psN_succ (n : Nat) : psN g ch (n + 1) = psN g ch n ++ (if keptN g ch n = true then [(n : Int)] else []) := by
  unfold psN
  rw [range_succ_filter, List.map_append]
  congr 1
  split <;> rfl
theorem psN_mem {n : Nat} {p : Int} : p ∈ psN g ch n ↔ ∃ m, m < n ∧ keptN g ch m = true ∧ p = (m : Int) := by
  unfold psN
  rw [List.mem_map]
  constructor
  · rintro ⟨m, h, rfl⟩
    obtain ⟨h1, h2⟩ := List.mem_filter.mp h
    exact ⟨m, List.mem_range.mp h1, h2, rfl⟩
  · rintro ⟨m, h1, h2, rfl⟩
    exact ⟨m, List.mem_filter.mpr ⟨List.mem_range.mpr h1, h2⟩, rfl⟩
theorem psN_nodup : ∀ n, (psN g ch n).Nodup
  | 0 => List.nodup_nil
  | n + 1 => by
    rw [psN_succ]
    split
    · rw [List.nodup_append]
      refine ⟨psN_nodup n, by simp, fun a ha b hb e => ?_⟩
      obtain ⟨m, h1, _, rfl⟩ := psN_mem.mp ha
      rw [List.mem_singleton.mp hb] at e
      omega
    · rw [List.append_nil]; exact psN_nodup n
theorem psN_len (n : Nat) : (psN g ch n).length ≤ n := by
  unfold psN
  rw [List.length_map]
  exact Nat.le_trans (List.length_filter_le _ _) (Nat.le_of_eq List.length_range)
theorem psN_new (n : Nat) : (n : Int) ∉ psN g ch n := fun h => by
  obtain ⟨m, h1, _, e⟩ := psN_mem.mp h
  omega
theorem kept_ans {n : Nat} (h : keptN g ch n = true) : ∃ j i k, g.events[n]? = some (.ans j i k) ∧ csRw g ch (n : Int) = ⟨j, i, k, lotN g ch (n + 1) j, parN g ch (n + 1) j⟩ := by
  unfold keptN at h
  split at h
  · rename_i j i k e
    refine ⟨j, i, k, e, ?_⟩
    unfold csRw rowN
    rw [Int.toNat_natCast, e]
  · cases h
/-! ### the case's rows -/
def csOf (g : Lg) (ch : Ch) (dr : Str → Dr) (lots : List (List Int)) : Cs := ⟨g.items, g.grades, g.names, dr, psN g ch g.events.length, csRw g ch, lots⟩
theorem csOf_mono {dr : Str → Dr} {lots : List (List Int)} : Mono (csOf g ch dr lots).T := by
  intro p hp q hq hj hle
  obtain ⟨p1, p2⟩ := Cs.mem.mp hp
  obtain ⟨q1, q2⟩ := Cs.mem.mp hq
  obtain ⟨m, _, hm, e1⟩ := psN_mem (n := g.events.length).mp p1
  obtain ⟨n, _, hn, e2⟩ := psN_mem (n := g.events.length).mp q1
  obtain ⟨j, i, k, a1, a2⟩ := kept_ans hm
  obtain ⟨j', i', k', b1, b2⟩ := kept_ans hn
  rw [e1] at p2
  rw [e2] at q2
  replace p2 : p.2 = csRw g ch (m : Int) := p2
  replace q2 : q.2 = csRw g ch (n : Int) := q2
  rw [p2, a2, q2, b2] at hj ⊢
  replace hj : j = j' := hj
  subst hj
  exact cnt_le j (by omega)
theorem csOf_ok (ok : g.Ok) {dr : Str → Dr} {lots : List (List Int)} (l9 : lots.length ≤ 9) (ll : ∀ l ∈ lots, l.length ≤ 9) (lsub : ∀ l ∈ lots, ∀ p ∈ l, p ∈ psN g ch g.events.length) (lcov : ∀ p ∈ psN g ch g.events.length, ∃ l ∈ lots, p ∈ l)
    (lone : ∀ l ∈ lots, ∀ p ∈ l, ∀ q ∈ psN g ch g.events.length, (q ∈ l ↔ keyN g ch p = keyN g ch q)) : (csOf g ch dr lots).Ok := by
  have row : ∀ p ∈ psN g ch g.events.length, ∃ j i k n, csRw g ch p = ⟨j, i, k, lotN g ch (n + 1) j, parN g ch (n + 1) j⟩ ∧ j ∈ g.names ∧ i ∈ g.items ∧ 0 ≤ k ∧ k ≤ g.grades := fun p hp => by
    obtain ⟨m, _, hm, rfl⟩ := psN_mem.mp hp
    obtain ⟨j, i, k, a1, a2⟩ := kept_ans hm
    have e := ok.ev _ (List.mem_of_getElem? a1)
    exact ⟨j, i, k, m, a2, e.1, e.2.1, e.2.2.1, e.2.2.2⟩
  refine ⟨ok.i0, ok.i4, ok.ind, ok.inm, ok.g1, ok.g2, Nat.le_trans (psN_len _) ok.e9, psN_nodup _, fun p hp => ?_, fun p hp => ?_, fun p hp => ?_, csOf_mono, l9, ll, lsub, lcov, fun l hl p hp q hq => ?_⟩
  · obtain ⟨j, i, k, n, e, h1, h2, h3, h4⟩ := row p hp
    show (csRw g ch p).judge ∈ g.names
    rw [e]; exact h1
  · obtain ⟨j, i, k, n, e, h1, h2, h3, h4⟩ := row p hp
    show (csRw g ch p).item ∈ g.items
    rw [e]; exact h2
  · obtain ⟨j, i, k, n, e, h1, h2, h3, h4⟩ := row p hp
    show 0 ≤ (csRw g ch p).grade ∧ (csRw g ch p).grade ≤ g.grades
    rw [e]; exact ⟨h3, h4⟩
  · rw [lone l hl p hp q hq]
    unfold keyN Cs.one
    rw [Bool.and_eq_true, decide_eq_true_eq, decide_eq_true_eq, Prod.mk.injEq]
    exact Iff.rfl
end RB
end

section
set_option maxRecDepth 100000
set_option maxHeartbeats 4000000
/-! _gather -/
namespace RB
open PySem PySem.Spec PyProof.Rows L2
variable {P : Program} {w : World} {K : PySem.W.Frag} {mg : Str → Option Value} {base : Heap}
def eK (k : Str × Int) : List Key := [.inr k.1, .inl k.2]
theorem eK_inj : ∀ a b, eK a = eK b → a = b := by
  rintro ⟨a1, a2⟩ ⟨b1, b2⟩ h
  simp [eK] at h
  rw [h.1, h.2]
/-- the rows by key, at a place -/
def RSt (g : Lg) (ch : Ch) (H1 H : Hp) (ra : Addr) (n : Nat) : Prop := ∃ (ks : List (Str × Int)) (la : Str × Int → Addr) (lt : Str × Int → List Int), H ra = some (.dT (dG eK ks fun k => .ref (la k))) ∧ ks.Nodup ∧ ks.length ≤ n ∧ (∀ p ∈ psN g ch n, keyN g ch p ∈ ks) ∧
  ∀ k ∈ ks, H (la k) = some (.lst ((lt k).map V.int)) ∧ H1 (la k) = none ∧ (∀ k' ∈ ks, la k = la k' → k = k') ∧ (lt k).length ≤ n ∧ ∀ p, p ∈ lt k ↔ p ∈ psN g ch n ∧ keyN g ch p = k
/-- what a turn keeps -/
structure GKp (H H1 H' : Hp) (t : Addr) : Prop where
  kb : ∀ b o, H b = some o → b ≠ t → H' b = some o
  kd : ∀ b o, H1 b = some o → (∀ q, o ≠ .dK q) → (∀ q, o ≠ .dT q) → H' b = some o
  fr : ∀ b, H' b = none → H1 b = none
theorem GKp.new {H H1 H' : Hp} {t q : Addr} {o : HO} (h : GKp H H1 H' t) (n : H' q = none) (hn : H t ≠ none) (hq : q ≠ t) : GKp H H1 (upd H' q o) t :=
  ⟨fun b u e ne => by rw [upd_ne (ne_of_none (h.kb b u e ne) n)]; exact h.kb b u e ne, fun b u e a c => by rw [upd_ne (ne_of_none (h.kd b u e a c) n)]; exact h.kd b u e a c, fun b z => h.fr b (free_upd z).1⟩
theorem GKp.dk {H H1 H' : Hp} {t q : Addr} {o : HO} {kvs : List (Key × V)} (h : GKp H H1 H' t) (e1 : H' q = some (.dK kvs)) (n : q = t ∨ H q = none) : GKp H H1 (upd H' q o) t :=
  ⟨fun b u e ne => by rw [upd_ne (fun z => by rcases n with n | n; exact ne (z.trans n); rw [z, n] at e; cases e)]; exact h.kb b u e ne, fun b u e a c => by
    have := h.kd b u e a c
    rw [upd_ne (fun z => by rw [z, e1] at this; exact a _ (Option.some.inj this).symm)]
    exact this, fun b z => h.fr b (free_upd z).1⟩
theorem GKp.dt {H H1 H' : Hp} {t q : Addr} {o : HO} {kvs : List (List Key × V)} (h : GKp H H1 H' t) (e1 : H' q = some (.dT kvs)) (n : H q = none) : GKp H H1 (upd H' q o) t :=
  ⟨fun b u e ne => by rw [upd_ne (fun z => by rw [z, n] at e; cases e)]; exact h.kb b u e ne, fun b u e a c => by
    have := h.kd b u e a c
    rw [upd_ne (fun z => by rw [z, e1] at this; exact c _ (Option.some.inj this).symm)]
    exact this, fun b z => h.fr b (free_upd z).1⟩
theorem GKp.ls {H H1 H' : Hp} {t q : Addr} {o : HO} (h : GKp H H1 H' t) (n : H q = none) (n1 : H1 q = none) : GKp H H1 (upd H' q o) t :=
  ⟨fun b u e ne => by rw [upd_ne (fun z => by rw [z, n] at e; cases e)]; exact h.kb b u e ne, fun b u e a c => by
    rw [upd_ne (fun z => by rw [z, n1] at e; cases e)]
    exact h.kd b u e a c, fun b z => h.fr b (free_upd z).1⟩
def MvAt (H : Hp) (v : V) : Option (List Int) → Prop
  | none => v = .non
  | some m => ∃ a, v = .ref a ∧ H a = some (.lst (m.map V.int))
/-- one more place in the rows -/
theorem RSt.skip {g : Lg} {ch : Ch} {H1 H : Hp} {ra : Addr} {n : Nat} (h : RSt g ch H1 H ra n) (hk : keptN g ch n = false) : RSt g ch H1 H ra (n + 1) := by
  obtain ⟨ks, la, lt, h1, h2, h3, h4, h5⟩ := h
  have e : psN g ch (n + 1) = psN g ch n := by rw [psN_succ, if_neg (by rw [hk]; decide), List.append_nil]
  refine ⟨ks, la, lt, h1, h2, by omega, by rw [e]; exact h4, fun k hk' => ?_⟩
  obtain ⟨a1, a2, a3, a4, a5⟩ := h5 k hk'
  exact ⟨a1, a2, a3, by omega, by rw [e]; exact a5⟩
theorem RSt.keep {g : Lg} {ch : Ch} {H1 H H' : Hp} {ra : Addr} {n : Nat} (h : RSt g ch H1 H ra n) (hr : H' ra = H ra) (hl : ∀ b q, H1 b = none → H b = some (.lst q) → H' b = some (.lst q)) : RSt g ch H1 H' ra n := by
  obtain ⟨ks, la, lt, h1, h2, h3, h4, h5⟩ := h
  refine ⟨ks, la, lt, by rw [hr]; exact h1, h2, h3, h4, fun k hk => ?_⟩
  obtain ⟨a1, a2, a3⟩ := h5 k hk
  exact ⟨hl _ _ a2 a1, a2, a3⟩
/-- a turn's state -/
structure GC (H : Hp) (t lo pa ro : Addr) : Prop where
  lp : lo ≠ pa
  nlo : H lo = none
  npa : H pa = none
  nro : H ro = none
  ht : ∃ kvs : List (Key × V), H t = some (.dK kvs)
structure GS (g : Lg) (ch : Ch) (H H1 H' : Hp) (t lo pa ro : Addr) (f1 f2 : Str → Int) (m n : Nat) : Prop where
  kp : GKp H H1 H' t
  lo : H' lo = some (.dK (dS g.names fun j => .int (f1 j)))
  pa : H' pa = some (.dK (dS g.names fun j => .int (f2 j)))
  to : ∃ ad : Int → Addr, H' t = some (.dK (dI (psN g ch m) fun p => .ref (ad p))) ∧ RowIn H' (psN g ch m) (csRw g ch) ad fun _ _ => True
  ro : RSt g ch H1 H' ro n
section
variable {g : Lg} {ch : Ch} {H H1 H' : Hp} {t lo pa ro q : Addr} {f1 f2 : Str → Int} {m n : Nat} {o : HO}
theorem GC.tl (c : GC H t lo pa ro) : t ≠ lo := by obtain ⟨k, h⟩ := c.ht; exact ne_of_none h c.nlo
theorem GC.tp (c : GC H t lo pa ro) : t ≠ pa := by obtain ⟨k, h⟩ := c.ht; exact ne_of_none h c.npa
theorem GC.tn (c : GC H t lo pa ro) : H t ≠ none := by obtain ⟨k, h⟩ := c.ht; rw [h]; simp
theorem RSt.dT (h : RSt g ch H1 H' ro n) : ∃ kvs, H' ro = some (.dT kvs) := by
  obtain ⟨ks, la, lt, h1, _⟩ := h
  exact ⟨_, h1⟩
theorem GS.new (s : GS g ch H H1 H' t lo pa ro f1 f2 m n) (c : GC H t lo pa ro) (nq : H' q = none) : GS g ch H H1 (upd H' q o) t lo pa ro f1 f2 m n := by
  obtain ⟨ad, t1, t2⟩ := s.to
  obtain ⟨kv, r1⟩ := s.ro.dT
  refine ⟨s.kp.new nq c.tn (ne_of_none t1 nq).symm, by rw [upd_ne (ne_of_none s.lo nq)]; exact s.lo, by rw [upd_ne (ne_of_none s.pa nq)]; exact s.pa, ⟨ad, by rw [upd_ne (ne_of_none t1 nq)]; exact t1, t2.lk (.of (same_new nq))⟩, s.ro.keep (upd_ne (ne_of_none r1 nq)) fun b w _ e => by rw [upd_ne (ne_of_none e nq)]; exact e⟩
theorem row_dk {kvs : List (Key × V)} (e1 : H' q = some (.dK kvs)) {ps : List Int} {rw : Int → Row Str} {ad : Int → Addr} {cr : Int → V → Prop} (r : RowIn H' ps rw ad cr) : RowIn (upd H' q o) ps rw ad cr := fun p hp => by
  obtain ⟨v, h1, h2⟩ := r p hp
  exact ⟨v, h1, by rw [upd_ne (fun z => by rw [z, e1] at h2; cases h2)]; exact h2⟩
theorem RSt.dk {kvs : List (Key × V)} (e1 : H' q = some (.dK kvs)) (h : RSt g ch H1 H' ro n) : RSt g ch H1 (upd H' q o) ro n := by
  obtain ⟨kv, r1⟩ := h.dT
  exact h.keep (upd_ne fun z => by rw [z, e1] at r1; cases r1) fun b w _ e => by rw [upd_ne (fun z => by rw [z, e1] at e; cases e)]; exact e
theorem GS.putLo (s : GS g ch H H1 H' t lo pa ro f1 f2 m n) (c : GC H t lo pa ro) (f1' : Str → Int) : GS g ch H H1 (upd H' lo (.dK (dS g.names fun j => .int (f1' j)))) t lo pa ro f1' f2 m n := by
  obtain ⟨ad, t1, t2⟩ := s.to
  exact ⟨s.kp.dk s.lo (.inr c.nlo), upd_same, by rw [upd_ne c.lp.symm]; exact s.pa, ⟨ad, by rw [upd_ne c.tl]; exact t1, row_dk s.lo t2⟩, s.ro.dk s.lo⟩
theorem GS.putPa (s : GS g ch H H1 H' t lo pa ro f1 f2 m n) (c : GC H t lo pa ro) (f2' : Str → Int) : GS g ch H H1 (upd H' pa (.dK (dS g.names fun j => .int (f2' j)))) t lo pa ro f1 f2' m n := by
  obtain ⟨ad, t1, t2⟩ := s.to
  exact ⟨s.kp.dk s.pa (.inr c.npa), by rw [upd_ne c.lp]; exact s.lo, upd_same, ⟨ad, by rw [upd_ne c.tp]; exact t1, row_dk s.pa t2⟩, s.ro.dk s.pa⟩
theorem GS.congr (s : GS g ch H H1 H' t lo pa ro f1 f2 m n) {f1' f2' : Str → Int} (h1 : ∀ j, f1 j = f1' j) (h2 : ∀ j, f2 j = f2' j) : GS g ch H H1 H' t lo pa ro f1' f2' m n := by
  rw [show f1' = f1 from funext fun j => (h1 j).symm, show f2' = f2 from funext fun j => (h2 j).symm]
  exact s
/-- no row for this place -/
theorem GS.skip (s : GS g ch H H1 H' t lo pa ro f1 f2 n n) (hk : keptN g ch n = false) : GS g ch H H1 H' t lo pa ro f1 f2 (n + 1) (n + 1) := by
  have e : psN g ch (n + 1) = psN g ch n := by rw [psN_succ, if_neg (by rw [hk]; decide), List.append_nil]
  exact ⟨s.kp, s.lo, s.pa, by rw [e]; exact s.to, s.ro.skip hk⟩
/-- a place told -/
theorem GS.putTo (s : GS g ch H H1 H' t lo pa ro f1 f2 n n) (c : GC H t lo pa ro) (hk : keptN g ch n = true) {tq : Addr} {v : V} (ht : H' tq = some (.tup [.str (csRw g ch n).judge, .str (csRw g ch n).item, .int (csRw g ch n).grade, v, .int (csRw g ch n).part])) (hn : n ≤ 9) :
    ∃ H2, DPut H' t (.int (n : Nat)) (.ref tq) H2 ∧ (∀ b xs, H' b = some (.tup xs) → H2 b = some (.tup xs)) ∧ GS g ch H H1 H2 t lo pa ro f1 f2 (n + 1) n := by
  obtain ⟨ad, t1, t2⟩ := s.to
  have e : psN g ch (n + 1) = psN g ch n ++ [(n : Int)] := by rw [psN_succ, if_pos hk]
  refine ⟨_, dI_putNew _ t1 (psN_new n) (smaller (Nat.le_trans (psN_len n) (by omega))), fun b xs q => by rw [upd_ne (fun z => by rw [z, t1] at q; cases q)]; exact q, s.kp.dk t1 (.inl rfl), by rw [upd_ne c.tl.symm]; exact s.lo, by rw [upd_ne c.tp.symm]; exact s.pa, ⟨fun p => if p = (n : Int) then tq else ad p, ?_, fun p hp => ?_⟩, s.ro.dk t1⟩
  · rw [upd_same, e]
    refine congrArg (fun z => some (HO.dK z)) (dG_congr fun x _ => ?_)
    by_cases q : x = (n : Int)
    · rw [if_pos q]
      exact congrArg V.ref (if_pos q).symm
    · rw [if_neg q]
      exact congrArg V.ref (if_neg q).symm
  · show ∃ v, True ∧ upd _ _ _ (if p = (n : Int) then tq else ad p) = _
    by_cases q : p = (n : Int)
    · subst q
      rw [if_pos rfl]
      exact ⟨v, trivial, by rw [upd_ne (fun z => by rw [z, t1] at ht; cases ht)]; exact ht⟩
    · rw [if_neg q]
      rw [e] at hp
      obtain ⟨w, w1, w2⟩ := row_dk (o := .dK (dI (psN g ch n ++ [(n : Int)]) fun x => if x = (n : Int) then .ref tq else .ref (ad x))) t1 t2 p ((List.mem_append.mp hp).resolve_right fun z => q (List.mem_singleton.mp z))
      exact ⟨w, trivial, w2⟩
/-- a place in the rows -/
theorem RSt.found {ks : List (Str × Int)} {la : Str × Int → Addr} {lt : Str × Int → List Int} (h1 : H' ro = some (.dT (dG eK ks fun k => .ref (la k)))) (h2 : ks.Nodup) (h3 : ks.length ≤ n) (h4 : ∀ p ∈ psN g ch n, keyN g ch p ∈ ks)
    (h5 : ∀ k ∈ ks, H' (la k) = some (.lst ((lt k).map V.int)) ∧ H1 (la k) = none ∧ (∀ k' ∈ ks, la k = la k' → k = k') ∧ (lt k).length ≤ n ∧ ∀ p, p ∈ lt k ↔ p ∈ psN g ch n ∧ keyN g ch p = k) (hk : keptN g ch n = true) (hm : keyN g ch n ∈ ks) :
    RSt g ch H1 (upd H' (la (keyN g ch n)) (.lst ((lt (keyN g ch n)).map V.int ++ [.int (n : Nat)]))) ro (n + 1) := by
  have e : psN g ch (n + 1) = psN g ch n ++ [(n : Int)] := by rw [psN_succ, if_pos hk]
  obtain ⟨a1, a2, a3, a4, a5⟩ := h5 _ hm
  refine ⟨ks, la, fun k => if k = keyN g ch n then lt k ++ [(n : Int)] else lt k, by rw [upd_ne (fun z => by rw [z, a1] at h1; cases h1)]; exact h1, h2, by omega, fun p hp => ?_, fun k hkk => ?_⟩
  · rw [e] at hp
    rcases List.mem_append.mp hp with m | m
    · exact h4 p m
    · rw [List.mem_singleton.mp m]; exact hm
  · obtain ⟨b1, b2, b3, b4, b5⟩ := h5 k hkk
    show upd _ _ _ (la k) = some (.lst ((if k = keyN g ch n then lt k ++ [(n : Int)] else lt k).map V.int)) ∧ H1 (la k) = none ∧ (∀ k' ∈ ks, la k = la k' → k = k') ∧ (if k = keyN g ch n then lt k ++ [(n : Int)] else lt k).length ≤ n + 1 ∧ ∀ p, p ∈ (if k = keyN g ch n then lt k ++ [(n : Int)] else lt k) ↔ _
    by_cases q : k = keyN g ch n
    · rw [if_pos q, q, upd_same, List.map_append]
      refine ⟨rfl, a2, a3, by rw [List.length_append]; simp only [List.length_singleton]; omega, fun p => ?_⟩
      rw [List.mem_append, List.mem_singleton, a5, e, List.mem_append, List.mem_singleton]
      constructor
      · rintro (⟨x, y⟩ | rfl)
        · exact ⟨.inl x, y⟩
        · exact ⟨.inr rfl, rfl⟩
      · rintro ⟨x | x, y⟩
        · exact .inl ⟨x, y⟩
        · exact .inr x
    · rw [if_neg q, upd_ne (fun z => q (b3 _ hm z))]
      refine ⟨b1, b2, b3, by omega, fun p => ?_⟩
      rw [b5, e, List.mem_append, List.mem_singleton]
      constructor
      · rintro ⟨x, y⟩; exact ⟨.inl x, y⟩
      · rintro ⟨x | x, y⟩
        · exact ⟨x, y⟩
        · rw [x] at y; exact absurd y.symm q
theorem RSt.fresh {ks : List (Str × Int)} {la : Str × Int → Addr} {lt : Str × Int → List Int} {nl : Addr} (h1 : H' ro = some (.dT (dG eK ks fun k => .ref (la k)))) (h2 : ks.Nodup) (h3 : ks.length ≤ n) (h4 : ∀ p ∈ psN g ch n, keyN g ch p ∈ ks)
    (h5 : ∀ k ∈ ks, H' (la k) = some (.lst ((lt k).map V.int)) ∧ H1 (la k) = none ∧ (∀ k' ∈ ks, la k = la k' → k = k') ∧ (lt k).length ≤ n ∧ ∀ p, p ∈ lt k ↔ p ∈ psN g ch n ∧ keyN g ch p = k) (hk : keptN g ch n = true) (hm : keyN g ch n ∉ ks) (hnl : H1 nl = none) (hx : ∀ k ∈ ks, la k ≠ nl) (hro : ro ≠ nl) :
    RSt g ch H1 (upd (upd H' ro (.dT (putK (dG eK ks fun k => .ref (la k)) (eK (keyN g ch n)) (.ref nl)))) nl (.lst ([] ++ [.int (n : Nat)]))) ro (n + 1) := by
  have e : psN g ch (n + 1) = psN g ch n ++ [(n : Int)] := by rw [psN_succ, if_pos hk]
  refine ⟨ks ++ [keyN g ch n], fun k => if k = keyN g ch n then nl else la k, fun k => if k = keyN g ch n then [(n : Int)] else lt k, ?_, ?_, by rw [List.length_append]; simp only [List.length_singleton]; omega, fun p hp => ?_, fun k hkk => ?_⟩
  · rw [upd_ne hro, upd_same, dG_putNew eK_inj _ hm]
    refine congrArg (fun z => some (HO.dT z)) (dG_congr fun x _ => ?_)
    by_cases q : x = keyN g ch n
    · rw [if_pos q]
      exact congrArg V.ref (if_pos q).symm
    · rw [if_neg q]
      exact congrArg V.ref (if_neg q).symm
  · rw [List.nodup_append]
    exact ⟨h2, by simp, fun a ha b hb z => hm (by rw [List.mem_singleton.mp hb] at z; rw [← z]; exact ha)⟩
  · rw [e] at hp
    rcases List.mem_append.mp hp with m | m
    · exact List.mem_append_left _ (h4 p m)
    · rw [List.mem_singleton.mp m]; exact List.mem_append_right _ (List.mem_singleton.mpr rfl)
  · show upd _ _ _ (if k = keyN g ch n then nl else la k) = some (.lst ((if k = keyN g ch n then [(n : Int)] else lt k).map V.int)) ∧ H1 (if k = keyN g ch n then nl else la k) = none ∧ (∀ k' ∈ ks ++ [keyN g ch n], (if k = keyN g ch n then nl else la k) = (if k' = keyN g ch n then nl else la k') → k = k') ∧ (if k = keyN g ch n then [(n : Int)] else lt k).length ≤ n + 1 ∧
      ∀ p, p ∈ (if k = keyN g ch n then [(n : Int)] else lt k) ↔ p ∈ psN g ch (n + 1) ∧ keyN g ch p = k
    by_cases q : k = keyN g ch n
    · rw [if_pos q, if_pos q, q, upd_same]
      refine ⟨rfl, hnl, fun k' hk' z => ?_, by simp, fun p => ?_⟩
      · by_cases q' : k' = keyN g ch n
        · exact q'.symm
        · rw [if_neg q'] at z
          exact absurd z.symm (hx k' ((List.mem_append.mp hk').resolve_right fun z => q' (List.mem_singleton.mp z)))
      · rw [List.mem_singleton, e, List.mem_append, List.mem_singleton]
        constructor
        · intro x; exact ⟨.inr x, by rw [x]⟩
        · rintro ⟨x | x, y⟩
          · exact absurd (by rw [← y]; exact h4 p x) hm
          · exact x
    · have km : k ∈ ks := (List.mem_append.mp hkk).resolve_right fun z => q (List.mem_singleton.mp z)
      obtain ⟨b1, b2, b3, b4, b5⟩ := h5 k km
      rw [if_neg q, if_neg q, upd_ne (hx k km), upd_ne (fun z => by rw [z, h1] at b1; cases b1)]
      refine ⟨b1, b2, fun k' hk' z => ?_, by omega, fun p => ?_⟩
      · by_cases q' : k' = keyN g ch n
        · rw [if_pos q'] at z
          exact absurd z (hx k km)
        · rw [if_neg q'] at z
          exact b3 k' ((List.mem_append.mp hk').resolve_right fun z => q' (List.mem_singleton.mp z)) z
      · rw [b5, e, List.mem_append, List.mem_singleton]
        constructor
        · rintro ⟨x, y⟩; exact ⟨.inl x, y⟩
        · rintro ⟨x | x, y⟩
          · exact ⟨x, y⟩
          · rw [x] at y; exact absurd y.symm q
end
/-- if ..: d[j] += 1 -/
theorem r_hit {tc : TT} {D : Ends} {σ : L2.St} {H : Hp} {i j : Nat} {lo : Addr} {ks : List Str} {f : Str → Int} {jn : Str} (hit : Bool) (hc : ∀ R : Bool → Hp → Prop, R hit H → tc σ H R) (hi : σ[i]? = some (some (.ref lo))) (hj : σ[j]? = some (some (.str jn)))
    (hlo : H lo = some (.dK (dS ks fun k => .int (f k)))) (hm : jn ∈ ks) (hz : ks.length ≤ 100) (k : ∀ (H' : Hp) (f' : Str → Int), (∀ x, f' x = if hit = true then (if x = jn then f x + 1 else f x) else f x) → (H' = upd H lo (.dK (dS ks fun k => .int (f' k))) ∨ (H' = H ∧ ∀ x, f' x = f x)) → D.nx σ H') :
    tIfS tc (sDAug (tVar i) (tVar j) (tC (.int 1)) rAdd) tNext D σ H := by
  refine hc _ ?_
  cases hit with
  | false => exact iteF (k _ f (fun x => (if_neg Bool.false_ne_true).symm) (.inr ⟨rfl, fun _ => rfl⟩))
  | true =>
    refine iteT ⟨_, hi, _, hj, lo, _, rfl, dS_get (.inl hlo) hm, _, _, rfl, rfl, _, dS_putOld _ hlo hm (smaller (by omega)), k _ (fun x => if x = jn then f x + 1 else f x) (fun x => (if_pos rfl).symm) (.inl ?_)⟩
    congr 1
    refine congrArg HO.dK (dG_congr fun x _ => ?_)
    by_cases c : x = jn
    · subst c
      rw [if_pos rfl]
      exact congrArg V.int (if_pos rfl).symm
    · rw [if_neg c]
      exact congrArg V.int (if_neg c).symm
def tHit (tc : TT) (i j : Nat) : TS := fun D σ H => ∃ (hit : Bool) (lo : Addr) (ks : List Str) (f : Str → Int) (jn : Str), (∀ R : Bool → Hp → Prop, R hit H → tc σ H R) ∧ σ[i]? = some (some (.ref lo)) ∧ σ[j]? = some (some (.str jn)) ∧
  H lo = some (.dK (dS ks fun k => .int (f k))) ∧ jn ∈ ks ∧ ks.length ≤ 100 ∧ ∀ (H' : Hp) (f' : Str → Int), (∀ x, f' x = if hit = true then (if x = jn then f x + 1 else f x) else f x) → (H' = upd H lo (.dK (dS ks fun k => .int (f' k))) ∨ (H' = H ∧ ∀ x, f' x = f x)) → D.nx σ H'
theorem ps_hit {X : Cx} {st : Stmt} {tc : TT} {i j : Nat} (h : PS X st (tIfS tc (sDAug (tVar i) (tVar j) (tC (.int 1)) rAdd) tNext)) : PS X st (tHit tc i j) :=
  ⟨fun pins s σ H D I ⟨hit, lo, ks, f, jn, a1, a2, a3, a4, a5, a6, a7⟩ => h.run pins s σ H D I (r_hit hit a1 a2 a3 a4 a5 a6 a7)⟩
def spGather (K : PySem.W.Frag) : Sp := fun vs H Q _ => ∃ (p dx : Addr) (fs : List (Str × V)) (i d t l0 lp sa ra : Addr) (mvV : V) (g : Lg) (ch : Ch) (dr : Str → Dr), vs = [.ref p, .ref lp, .ref sa, .ref ra, mvV] ∧ H p = some (.ins (CC K) dx fs) ∧ CsF fs i g.grades d t l0 ∧ fs.length < 1000 ∧
  H i = some (.lst (g.items.map V.str)) ∧ H d = some (.dK (dS g.names fun j => .str (drS (dr j)))) ∧ H t = some (.dK []) ∧ t ≠ d ∧ LogAt K H lp g ∧ g.Ok ∧ H sa = some (.lst (ch.st.map V.int)) ∧ H ra = some (.lst (ch.rs.map V.int)) ∧ MvAt H mvV ch.mv ∧
  ∀ H' lots, (∀ b o, H b = some o → b ≠ p → b ≠ t → H' b = some o) → (csOf g ch dr lots).Ok → CsAt K H' p (csOf g ch dr lots) → Q .non H'
theorem sc_gather : FnScope ["self", "log", "struck", "resets", "moves", "lots", "parts", "rows", "place", "event", "judge", "key"] ["self", "log", "struck", "resets", "moves"] d_case_gather.scope := ⟨rfl, rfl, rfl, by decide +kernel, rfl, by decide +kernel, by decide +kernel⟩
theorem ok_gather (T : Txt K mg) : Kept P w K mg base 3 (He.ma K (CC K) "_gather") ["self", "log", "struck", "resets", "moves"] (spGather K) := by
  refine keep_of (d := d_case_gather) T.d_case_gather sc_gather (fun _ _ _ _ _ _ us hl => match us, hl with | [_, _, _, _, _], _ => rfl) (fun vs H Q E h => ?_) (fun cd A outer s H vs Q E hr h => ?_)
  · obtain ⟨p, dx, fs, i, d, t, l0, lp, sa, ra, mvV, g, ch, dr, rfl, _⟩ := h
    rfl
  · obtain ⟨p, dx, fs, i, d, t, l0, lp, sa, ra, mvV, g, ch, dr, rfl, hp, cf, fl, hi, hd, ht, td, hlog, ok, hsa, hra, hmv, k⟩ := h
    have nd := sc_gather.nd
    have hu := hu_of hr
    refine ⟨_, pss_cons (ps_lock (ps_setDc (i := 5) (own := [("judge", 10)]) (g := gName 10) (tt := tYes) rfl nd rfl rfl (swap_dc rfl rfl rfl (by decide +kernel)) (pi_keys (pe_at K (pv 0)))
          (blkOk_by (own := [("judge", 10)]) (N := ["self", "log", "struck", "resets", "moves", "lots", "parts", "rows", "place", "event", "judge", "key"]) (sc := d_case_gather.scope) (by decide +kernel)) (fun _ _ _ _ _ => pg_name (i := 10) nd rfl (Or.inl rfl)) (fun _ _ _ _ _ => pts_nil)
          (fun _ _ _ _ _ => pv 10) (fun _ _ _ _ _ => pe_int)))
      (pss_cons (ps_lock (ps_setDc (i := 6) (own := [("judge", 10)]) (g := gName 10) (tt := tYes) rfl nd rfl rfl (swap_dc rfl rfl rfl (by decide +kernel)) (pi_keys (pe_at K (pv 0)))
          (blkOk_by (own := [("judge", 10)]) (N := ["self", "log", "struck", "resets", "moves", "lots", "parts", "rows", "place", "event", "judge", "key"]) (sc := d_case_gather.scope) (by decide +kernel)) (fun _ _ _ _ _ => pg_name (i := 10) nd rfl (Or.inl rfl)) (fun _ _ _ _ _ => pts_nil)
          (fun _ _ _ _ _ => pv 10) (fun _ _ _ _ _ => pe_int)))
      (pss_cons (ps_set (i := 7) nd rfl (Or.inl rfl) pe_dnewT)
      (pss_cons (ps_for PassesOwn.never rfl (pi_enum rfl T.f_enumerate (pa_cons (pe_p T 3 rfl (ok_events T) (pv 1) hr (Nat.le_refl _)) pa_nil)) (pg_tup rfl (pgs_cons (pg_name (i := 8) nd rfl (Or.inl rfl)) (pgs_cons (pg_name (i := 9) nd rfl (Or.inl rfl)) pgs_nil)))
        (pss_cons (ps_set (i := 10) nd rfl (Or.inl rfl) (pe_it K (pv 9) pe_int))
        (pss_cons (ps_hit (ps_if (PW.pt (pw_or (pt_cmpR op_eq (pe_it K (pv 9) pe_int) (pe_gs T.s_RESET rfl) (nomark _)) (pw_or1 (pt_in K (pv 8) (pv 3))))) (pss_one (ps_daug hu (pv 5) (pv 10) pe_int in_add (fun _ _ _ => rfl))) pss_nil))
        (pss_cons (ps_hit (ps_if (PW.pt (pw_or (pt_cmpR op_isN (pv 4) pe_non (nomark _)) (pw_or1 (pt_in K (pv 8) (pv 4))))) (pss_one (ps_daug hu (pv 6) (pv 10) pe_int in_add (fun _ _ _ => rfl))) pss_nil))
        (pss_one (ps_if (PW.pt (pw_and (pt_cmpR op_ne (pe_it K (pv 9) pe_int) (pe_gs T.s_RESET rfl) (nomark _)) (pw_and1 (pt_notin K (pv 8) (pv 2)))))
          (pss_cons (ps_set (i := 11) nd rfl (Or.inl rfl) (pe_tup (pa_cons (pv 10) (pa_cons (pe_dget hu (pv 5) (pv 10) (fun _ _ => rfl)) pa_nil))))
          (pss_cons (ps_dput hu (pe_at K (pv 0)) (pv 8) (pe_tup (pa_cons (pv 10) (pa_cons (pe_it K (pv 9) pe_int) (pa_cons (pe_it K (pv 9) pe_int) (pa_cons (pv 11) (pa_cons (pe_dget hu (pv 6) (pv 10) (fun _ _ => rfl)) pa_nil)))))) rfl)
          (pss_one (ps_app K (pe_setdT hu (pv 7) (pv 11) (pe_lst pa_nil) ⟨rfl, rfl, rfl, rfl⟩) (pv 8))))) pss_nil))))))
      (pss_one (ps_fld (pv 0) (pe_listVals rfl (pv 7) rfl T.f_list (by decide +kernel)) rfl))))), ?_⟩
    have jl : g.names.length = g.judges.length := List.length_map ..
    have j2 := ok.j2
    have e9 := ok.e9
    have s0 : Same H H := Same.refl H
    have hd_lo := s0 _ _ hd
    refine ⟨d, _, hd_lo, trivial, fun od => ⟨_, rfl, p, CC K, dx, fs, _, rfl, by rw [upd_ne (fun z => by rw [z, hd] at hp; cases hp)]; exact s0 _ _ hp, T.c_Case, T.n_Case_drifts, cf.dr, d, od, rfl, .inl ⟨_, upd_same, fun lo n_lo => ?_⟩⟩⟩
    have ne_lo : lo ≠ d := fun z => by rw [z, upd_same] at n_lo; cases n_lo
    have fr_lo : H lo = none := by rw [upd_ne ne_lo] at n_lo; exact n_lo
    have nH_lo : H lo = none := Same.free s0 (by rw [upd_ne ne_lo] at n_lo; exact n_lo)
    refine dc_inv (ks := g.names) (n := g.names.length) (by rw [show g.names.length = (dS g.names fun j => V.str (drS (dr j))).length from (dG_length ..).symm]; exact walk_keys) rfl ok.jnd n_lo (small (by omega)) (fun n f H' => ∀ k ∈ g.names.take n, f k = .int 0) (fun k hk => by simp at hk) (fun H1 s1 => s1 _ _ upd_same) (fun n x H1 H2 kx f hkx hnot s1 hD hR hY N Z b => ?_) fun H1 f s1 e1 hR => ?_
    · obtain ⟨rfl, k', v', hx, rfl⟩ := hY
      rw [dG_get?, hkx] at hx
      cases hx
      refine ⟨rfl, yesT ⟨_, rfl, b (.int 0) _ (Same.refl _) fun H5 sb k hk => ?_⟩⟩
      show (if k = kx then V.int 0 else f k) = _
      rcases (take_mem hkx).mp hk with m | rfl
      · have hk0 : ¬ k = kx := fun z => hnot (by rw [← z]; exact m)
        rw [if_neg hk0]; exact hR k m
      · rw [if_pos rfl]
    rw [List.take_length] at hR
    obtain ⟨u_lo, w_lo⟩ := unlock hd_lo s1
    refine ⟨u_lo, ?_⟩
    have e_lo : upd H1 d (.dK (dS g.names fun j => .str (drS (dr j)))) lo = some (.dK (dS g.names fun _ => .int 0)) := by
      rw [upd_ne ne_lo, e1]
      exact congrArg (fun z => some (HO.dK z)) (dG_congr hR)
    generalize upd H1 d (.dK (dS g.names fun j => .str (drS (dr j)))) = HA at w_lo e_lo
    have sA := Same.trans s0 w_lo
    clear s1 e1 hR u_lo n_lo
    have hd_pa := sA _ _ hd
    refine ⟨d, _, hd_pa, trivial, fun od => ⟨_, rfl, p, CC K, dx, fs, _, rfl, by rw [upd_ne (fun z => by rw [z, hd] at hp; cases hp)]; exact sA _ _ hp, T.c_Case, T.n_Case_drifts, cf.dr, d, od, rfl, .inl ⟨_, upd_same, fun pa n_pa => ?_⟩⟩⟩
    have ne_pa : pa ≠ d := fun z => by rw [z, upd_same] at n_pa; cases n_pa
    have fr_pa : HA pa = none := by rw [upd_ne ne_pa] at n_pa; exact n_pa
    have nH_pa : H pa = none := Same.free sA (by rw [upd_ne ne_pa] at n_pa; exact n_pa)
    refine dc_inv (ks := g.names) (n := g.names.length) (by rw [show g.names.length = (dS g.names fun j => V.str (drS (dr j))).length from (dG_length ..).symm]; exact walk_keys) rfl ok.jnd n_pa (small (by omega)) (fun n f H' => ∀ k ∈ g.names.take n, f k = .int 0) (fun k hk => by simp at hk) (fun H1 s1 => s1 _ _ upd_same) (fun n x H1 H2 kx f hkx hnot s1 hD hR hY N Z b => ?_) fun H1 f s1 e1 hR => ?_
    · obtain ⟨rfl, k', v', hx, rfl⟩ := hY
      rw [dG_get?, hkx] at hx
      cases hx
      refine ⟨rfl, yesT ⟨_, rfl, b (.int 0) _ (Same.refl _) fun H5 sb k hk => ?_⟩⟩
      show (if k = kx then V.int 0 else f k) = _
      rcases (take_mem hkx).mp hk with m | rfl
      · have hk0 : ¬ k = kx := fun z => hnot (by rw [← z]; exact m)
        rw [if_neg hk0]; exact hR k m
      · rw [if_pos rfl]
    rw [List.take_length] at hR
    obtain ⟨u_pa, w_pa⟩ := unlock hd_pa s1
    refine ⟨u_pa, ?_⟩
    have e_pa : upd H1 d (.dK (dS g.names fun j => .str (drS (dr j)))) pa = some (.dK (dS g.names fun _ => .int 0)) := by
      rw [upd_ne ne_pa, e1]
      exact congrArg (fun z => some (HO.dK z)) (dG_congr hR)
    generalize upd H1 d (.dK (dS g.names fun j => .str (drS (dr j)))) = HB at w_pa e_pa
    have sB := Same.trans sA w_pa
    clear s1 e1 hR u_pa n_pa
    have elo := w_pa _ _ e_lo
    have lp_ne : lo ≠ pa := ne_of_none e_lo fr_pa
    intro ro nro
    have nH_ro : H ro = none := Same.free sB nro
    have w3 : Same HB (upd HB ro (.dT [])) := same_new nro
    have sC := Same.trans sB w3
    have hlogC := hlog.same sC
    have tlo : t ≠ lo := ne_of_none ht nH_lo
    have tpa : t ≠ pa := ne_of_none ht nH_pa
    have tro : t ≠ ro := ne_of_none ht nH_ro
    obtain ⟨ldx, li, lj, le, lh1, lpa⟩ := id hlogC
    refine ⟨_, rfl, lp, ldx, _, rfl, lh1, lp, g, rfl, hlogC, fun ea H1 es s1 hea res => ?_⟩
    have sD := Same.trans sC s1
    have nle : es.length = g.events.length := res.len.symm
    refine ⟨ea, es, rfl, SqL.of hea, ?_⟩
    have gc : GC H t lo pa ro := ⟨lp_ne, nH_lo, nH_pa, nH_ro, _, ht⟩
    refine for_it (walk_enum (xs := es)) (fun n σ H' => (∃ v8 v9 v10 v11, σ = [some (.ref p), some (.ref lp), some (.ref sa), some (.ref ra), some mvV, some (.ref lo), some (.ref pa), some (.ref ro), v8, v9, v10, v11]) ∧ GS g ch H H1 H' t lo pa ro (lotN g ch n) (parN g ch n) n n) ?_ ?_ ?_ ?_
    · refine ⟨⟨_, _, _, _, rfl⟩, ⟨fun b o e _ => sD b o e, fun b o e _ _ => e, fun b z => z⟩, s1 _ _ (w3 _ _ elo), s1 _ _ (w3 _ _ e_pa), ⟨fun _ => 0, sD _ _ ht, ?_⟩, [], fun _ => 0, fun _ => [], s1 _ _ upd_same, List.nodup_nil, Nat.zero_le _, ?_, ?_⟩
      · intro q hq; cases hq
      · intro q hq; cases hq
      · intro q hq; cases hq
    · rintro n σ H' _ ⟨_, gs⟩
      exact SqL.of (gs.kp.kd _ _ hea (by intro q; simp) (by intro q; simp))
    · rintro n x σ H2 H3 hn ⟨⟨v8, v9, v10, v11, rfl⟩, gs⟩ ⟨T1, x1, x2, rfl, nT1, rfl, e1, e2⟩
      replace e1 : some (V.int (n : Nat)) = some x1 := e1
      replace e2 : es[n]? = some x2 := e2
      cases e1
      obtain ⟨ev, ta, hev, rfl, hta⟩ := res.back e2
      have hn9 : n < 9 := by omega
      have gs := gs.new (o := .tup [.int (n : Nat), .ref ta]) gc nT1
      generalize hH3 : upd H2 T1 (.tup [.int (n : Nat), .ref ta]) = H3 at gs
      have hT1 : H3 T1 = some (.tup [.int (n : Nat), .ref ta]) := by rw [← hH3]; exact upd_same
      have evj : ev.judge ∈ g.names := by
        have := ok.ev ev (List.mem_of_getElem? hev)
        cases ev with
        | ans j i k => exact this.1
        | rst j => exact this
      -- what stays, read
      have rdT : ∀ {H' : Hp} {f1 f2 : Str → Int} {m n : Nat}, GS g ch H H1 H' t lo pa ro f1 f2 m n → H' ta = some (.tup ev.tv) := fun gs => gs.kp.kd _ _ hta (by intro q; simp) (by intro q; simp)
      have rdL : ∀ {H' : Hp} {f1 f2 : Str → Int} {m n : Nat} {a : Addr} {xs : List V}, GS g ch H H1 H' t lo pa ro f1 f2 m n → H a = some (.lst xs) → H' a = some (.lst xs) := fun gs e => gs.kp.kb _ _ e (fun z => by rw [z, ht] at e; cases e)
      have at1 : atI ev.tv 1 = some (.str ev.judge) := by cases ev <;> rfl
      have at0 : atI ev.tv 0 = some (.str (if ev.isRst = true then "reset" else "answer")) := by cases ev <;> rfl
      refine ⟨T1, _, rfl, SqT.of hT1, rfl, _, _, rfl, _, _, rfl, rfl, ?_⟩
      refine ⟨_, rfl, _, _, _, _, rfl, rfl, SqT.of (rdT gs), at1, ?_⟩
      -- lots
      have hz : g.names.length ≤ 100 := by omega
      have cnt : ∀ (hit : Nat → Bool) (x : Str), cntN g hit (n + 1) x = if hit n = true then (if x = ev.judge then cntN g hit n x + 1 else cntN g hit n x) else cntN g hit n x := fun hit x => by
        cases c : hit n with
        | true => rw [cnt_hit hev c, if_pos rfl]
        | false => rw [cnt_no c, if_neg Bool.false_ne_true]
      refine ⟨lotHit g ch n, lo, g.names, lotN g ch n, ev.judge, fun R hR => ?_, rfl, rfl, gs.lo, evj, hz, fun H4 f1 hf1 e4 => ?_⟩
      · refine ⟨_, rfl, _, _, _, _, rfl, rfl, SqT.of (rdT gs), at0, rfl, _, rfl, ?_⟩
        cases ev with
        | rst j =>
          have e : lotHit g ch n = true := by unfold lotHit; rw [hev]; rfl
          rw [e] at hR
          exact iteY rfl hR
        | ans j i k =>
          have e : lotHit g ch n = decide ((n : Int) ∈ ch.rs) := by unfold lotHit; rw [hev]; exact Bool.false_or _
          rw [e] at hR
          refine iteN (ns (by show ("answer" : Str) ≠ "reset"; decide +kernel)) ⟨_, rfl, _, rfl, ra, _, rfl, .inl (SqL.of (rdL gs hra)), rfl, flat_int _, _, rfl, ?_⟩
          show R (inV (.int (n : Nat)) (ch.rs.map V.int)) H3
          rw [inV_int]
          exact hR
      replace gs : GS g ch H H1 H4 t lo pa ro (lotN g ch (n + 1)) (parN g ch n) n n := by
        have e : ∀ x, f1 x = lotN g ch (n + 1) x := fun x => (hf1 x).trans (cnt _ x).symm
        rcases e4 with rfl | ⟨rfl, e5⟩
        · exact (gs.putLo gc f1).congr e fun _ => rfl
        · exact gs.congr (fun x => (e5 x).symm.trans (e x)) fun _ => rfl
      clear hf1 e4 hT1 hH3
      refine ⟨parHit ch n, pa, g.names, parN g ch n, ev.judge, fun R hR => ?_, rfl, rfl, gs.pa, evj, hz, fun H5 f2 hf2 e5 => ?_⟩
      · refine ⟨_, rfl, rfl, _, rfl, ?_⟩
        cases em : ch.mv with
        | none =>
          have e : parHit ch n = true := by unfold parHit; rw [em]
          rw [em] at hmv
          rw [e] at hR
          exact iteY hmv hR
        | some ms =>
          have e : parHit ch n = decide ((n : Int) ∈ ms) := by unfold parHit; rw [em]
          rw [em] at hmv
          obtain ⟨ma, hm1, hm2⟩ := hmv
          rw [e] at hR
          refine iteN (by rw [hm1]; simp) ⟨_, rfl, _, rfl, ma, _, hm1, .inl (SqL.of (rdL gs hm2)), rfl, flat_int _, _, rfl, ?_⟩
          show R (inV (.int (n : Nat)) (ms.map V.int)) H4
          rw [inV_int]
          exact hR
      replace gs : GS g ch H H1 H5 t lo pa ro (lotN g ch (n + 1)) (parN g ch (n + 1)) n n := by
        have e : ∀ x, f2 x = parN g ch (n + 1) x := fun x => (hf2 x).trans (cnt _ x).symm
        rcases e5 with rfl | ⟨rfl, e5⟩
        · exact (gs.putPa gc f2).congr (fun _ => rfl) e
        · exact gs.congr (fun _ => rfl) (fun x => (e5 x).symm.trans (e x))
      clear hf2 e5
      refine ⟨_, rfl, _, _, _, _, rfl, rfl, SqT.of (rdT gs), at0, rfl, _, rfl, ?_⟩
      cases ev with
      | rst j =>
        have hk : keptN g ch n = false := by unfold keptN; rw [hev]
        refine iteF ?_
        exact iteF ⟨⟨_, _, _, _, rfl⟩, gs.skip hk⟩
      | ans j im gr =>
        have hk : keptN g ch n = decide ((n : Int) ∉ ch.st) := by unfold keptN; rw [hev]
        have hrow : csRw g ch (n : Int) = ⟨j, im, gr, lotN g ch (n + 1) j, parN g ch (n + 1) j⟩ := by unfold csRw rowN; rw [Int.toNat_natCast, hev]
        have hne : (!decide (V.str (if (Ev.ans j im gr).isRst = true then ("reset" : Str) else "answer") = V.str "reset")) = true := by
          rw [decide_eq_false (ns (by show ("answer" : Str) ≠ "reset"; decide +kernel))]; rfl
        rw [hne]
        refine iteT ⟨_, rfl, _, rfl, sa, _, rfl, .inl (SqL.of (rdL gs hsa)), rfl, flat_int _, _, rfl, ?_⟩
        rw [inV_int]
        by_cases cst : (n : Int) ∈ ch.st
        · rw [decide_eq_true cst]
          exact iteF ⟨⟨_, _, _, _, rfl⟩, gs.skip (by rw [hk]; exact decide_eq_false (fun z => z cst))⟩
        · rw [decide_eq_false cst]
          replace hk : keptN g ch n = true := by rw [hk]; exact decide_eq_true cst
          have hkey : keyN g ch (n : Int) = (j, lotN g ch (n + 1) j) := by unfold keyN; rw [hrow]
          refine iteT ⟨_, rfl, _, rfl, _, rfl, lo, _, rfl, dS_get (.inl gs.lo) evj, by show 2 ≤ sizeLine; exact small (by omega), fun kq nkq => ?_⟩
          have gs1 := gs.new (o := .tup [.str j, .int (lotN g ch (n + 1) j)]) gc nkq
          have hkq : upd H5 kq (.tup [.str j, .int (lotN g ch (n + 1) j)]) kq = some (.tup [.str j, .int (lotN g ch (n + 1) j)]) := upd_same
          show tSeq _ _ _ _ (upd H5 kq (.tup [.str j, .int (lotN g ch (n + 1) j)]))
          generalize upd H5 kq (.tup [.str j, .int (lotN g ch (n + 1) j)]) = H6 at gs1 hkq
          refine ⟨_, rfl, _, rfl, _, _, _, _, rfl, rfl, SqT.of (rdT gs1), rfl, _, rfl, _, _, _, _, rfl, rfl, SqT.of (rdT gs1), rfl, _, rfl, _, rfl, _, rfl, pa, _, rfl, dS_get (.inl gs1.pa) evj, by show 5 ≤ sizeLine; exact small (by omega), fun tq ntq => ?_⟩
          have gs2 := gs1.new (o := .tup [.str j, .str im, .int gr, .ref kq, .int (parN g ch (n + 1) j)]) gc ntq
          have htq : upd H6 tq (.tup [.str j, .str im, .int gr, .ref kq, .int (parN g ch (n + 1) j)]) tq = some (.tup [.str j, .str im, .int gr, .ref kq, .int (parN g ch (n + 1) j)]) := upd_same
          have hkq2 : upd H6 tq (.tup [.str j, .str im, .int gr, .ref kq, .int (parN g ch (n + 1) j)]) kq = _ := (upd_ne (ne_of_none hkq ntq)).trans hkq
          show tFld K (tVar 0) _ _ (upd H6 tq (.tup [.str j, .str im, .int gr, .ref kq, .int (parN g ch (n + 1) j)])) _
          generalize upd H6 tq (.tup [.str j, .str im, .int gr, .ref kq, .int (parN g ch (n + 1) j)]) = H7 at gs2 htq hkq2
          clear gs1 hkq ntq
          have tp : t ≠ p := fun z => by rw [z, hp] at ht; cases ht
          obtain ⟨H8, dp, kt8, gs3⟩ := gs2.putTo gc hk (tq := tq) (v := .ref kq) (by rw [hrow]; exact htq) (by omega)
          refine ⟨_, rfl, p, CC K, dx, fs, _, rfl, gs2.kp.kb _ _ hp tp.symm, T.c_Case, T.n_Case_told, cf.to, _, rfl, t, H8, rfl, dp, ?_⟩
          have hkq8 := kt8 _ _ hkq2
          obtain ⟨ks, la, lt, r1, r2, r3, r4, r5⟩ := gs3.ro
          refine ⟨_, rfl, ro, rfl, .inr ⟨_, .inl r1⟩, _, rfl, Nat.zero_le _, fun nl nnl => ?_⟩
          have gs4 := gs3.new (o := .lst []) gc nnl
          have r1' : upd H8 nl (.lst []) ro = _ := (upd_ne (ne_of_none r1 nnl)).trans r1
          have r5' : ∀ k ∈ ks, upd H8 nl (.lst []) (la k) = some (.lst ((lt k).map V.int)) ∧ H1 (la k) = none ∧ (∀ k' ∈ ks, la k = la k' → k = k') ∧ (lt k).length ≤ n ∧ ∀ p, p ∈ lt k ↔ p ∈ psN g ch n ∧ keyN g ch p = k := fun k hk => ⟨(upd_ne (ne_of_none (r5 k hk).1 nnl)).trans (r5 k hk).1, (r5 k hk).2⟩
          have h1n : H1 nl = none := gs3.kp.fr nl nnl
          have hHn : H nl = none := Same.free sD h1n
          refine ⟨_, eK (keyN g ch n), kq, r1', rfl, ?_, ?_, fun v hv => ?_, fun hv => ?_⟩
          · rw [hkey]
            exact (upd_ne (ne_of_none hkq8 nnl)).trans hkq8
          · rw [dG_length]; exact smaller (by omega)
          · have hm : keyN g ch n ∈ ks := by
              apply Classical.byContradiction
              intro z
              rw [dG_no eK_inj z] at hv
              cases hv
            rw [dG_at eK_inj hm] at hv
            cases hv
            obtain ⟨a1, a2, a3, a4, a5⟩ := r5' _ hm
            have fin := RSt.found r1' r2 r3 r4 r5' hk hm
            refine ⟨tyL a1, _, rfl, _, _, _, rfl, rfl, a1, smaller (by rw [List.length_map]; omega), ⟨_, _, _, _, rfl⟩, gs4.kp.ls (Same.free sD a2) a2, ?_, ?_, ?_, fin⟩
            · rw [upd_ne (fun z => by have := gs4.lo; rw [z, a1] at this; cases this)]; exact gs4.lo
            · rw [upd_ne (fun z => by have := gs4.pa; rw [z, a1] at this; cases this)]; exact gs4.pa
            · obtain ⟨ad, t1, t2⟩ := gs4.to
              refine ⟨ad, by rw [upd_ne (fun z => by rw [z, a1] at t1; cases t1)]; exact t1, fun q hq => ?_⟩
              obtain ⟨v, v1, v2⟩ := t2 q hq
              exact ⟨v, v1, by rw [upd_ne (fun z => by rw [z, a1] at v2; cases v2)]; exact v2⟩
          · have hm : keyN g ch n ∉ ks := by
              intro z
              rw [dG_at eK_inj z] at hv
              cases hv
            have hx : ∀ k ∈ ks, la k ≠ nl := fun k hk => ne_of_none (r5 k hk).1 nnl
            have hro : ro ≠ nl := ne_of_none r1 nnl
            have fin := RSt.fresh r1' r2 r3 r4 r5' hk hm h1n hx hro
            have e1 : upd (upd H8 nl (.lst [])) ro (.dT (putK (dG eK ks fun k => .ref (la k)) (eK (keyN g ch n)) (.ref nl))) nl = some (.lst []) := by rw [upd_ne hro.symm, upd_same]
            refine ⟨tyL e1, _, rfl, nl, _, _, rfl, rfl, e1, smaller (by decide), ⟨_, _, _, _, rfl⟩, (gs4.kp.dt r1' nH_ro).ls hHn h1n, ?_, ?_, ?_, fin⟩
            · have q := gs4.lo
              rw [upd_ne (fun z => by rw [z, upd_same] at q; cases q), upd_ne (fun z => by rw [z, r1'] at q; cases q)]; exact q
            · have q := gs4.pa
              rw [upd_ne (fun z => by rw [z, upd_same] at q; cases q), upd_ne (fun z => by rw [z, r1'] at q; cases q)]; exact q
            · obtain ⟨ad, t1, t2⟩ := gs4.to
              refine ⟨ad, by rw [upd_ne (fun z => by rw [z, upd_same] at t1; cases t1), upd_ne (fun z => by rw [z, r1'] at t1; cases t1)]; exact t1, fun q hq => ?_⟩
              obtain ⟨v, v1, v2⟩ := t2 q hq
              exact ⟨v, v1, by rw [upd_ne (fun z => by rw [z, upd_same] at v2; cases v2), upd_ne (fun z => by rw [z, r1'] at v2; cases v2)]; exact v2⟩
    · rintro σ H2 ⟨⟨v8, v9, v10, v11, rfl⟩, gs⟩
      have le9 : es.length ≤ 9 := by omega
      rw [nle] at gs
      obtain ⟨ks, la, lt, r1, r2, r3, r4, r5⟩ := gs.ro
      obtain ⟨ad, t1, t2⟩ := gs.to
      refine ⟨_, rfl, ro, _, rfl, r1, fun l' nl' => ?_⟩
      have tp : t ≠ p := fun z => by rw [z, hp] at ht; cases ht
      have hp2 : H2 p = some (.ins (CC K) dx fs) := gs.kp.kb _ _ hp tp.symm
      have pl : p ≠ l' := ne_of_none hp2 nl'
      refine ⟨_, rfl, p, CC K, dx, fs, rfl, by rw [upd_ne pl]; exact hp2, T.c_Case, T.n_Case_lots, fl, ?_⟩
      have kp3 : ∀ {b : Addr} {o : HO}, H2 b = some o → b ≠ p → ∀ o1 o2, upd (upd H2 l' o1) p o2 b = some o := fun {b o} e ne o1 o2 => by
        rw [upd_ne ne, upd_ne (ne_of_none e nl')]
        exact e
      refine k _ (ks.map lt) (fun b o e n1 n2 => kp3 (gs.kp.kb b o e n2) n1 _ _) (csOf_ok ok ?_ ?_ ?_ ?_ ?_) ⟨⟨dx, putF "_lots" (.ref l') fs, i, d, t, l', upd_same, ?_, ?_, ?_, ?_, ?_⟩⟩
      · rw [List.length_map]; omega
      · intro l hl
        obtain ⟨x, hx, rfl⟩ := List.mem_map.mp hl
        exact Nat.le_trans (r5 x hx).2.2.2.1 (by omega)
      · intro l hl q hq
        obtain ⟨x, hx, rfl⟩ := List.mem_map.mp hl
        exact (((r5 x hx).2.2.2.2 q).mp hq).1
      · intro q hq
        exact ⟨lt (keyN g ch q), List.mem_map.mpr ⟨_, r4 q hq, rfl⟩, ((r5 _ (r4 q hq)).2.2.2.2 q).mpr ⟨hq, rfl⟩⟩
      · intro l hl q hq x hx
        obtain ⟨y, hy, rfl⟩ := List.mem_map.mp hl
        have m := (r5 y hy).2.2.2.2
        have e1 := ((m q).mp hq).2
        rw [m x, e1]
        exact ⟨fun z => z.2.symm, fun z => ⟨hx, z.symm⟩⟩
      · have n1 : ¬ (("_items" : Str) = "_lots") := by decide +kernel
        have n2 : ¬ (("_grades" : Str) = "_lots") := by decide +kernel
        have n3 : ¬ (("_drifts" : Str) = "_lots") := by decide +kernel
        have n4 : ¬ (("_told" : Str) = "_lots") := by decide +kernel
        exact ⟨by rw [lookup_putF, if_neg n1]; exact cf.it, by rw [lookup_putF, if_neg n2]; exact cf.gr, by rw [lookup_putF, if_neg n3]; exact cf.dr, by rw [lookup_putF, if_neg n4]; exact cf.to, by rw [lookup_putF, if_pos rfl], fun m m1 m2 m3 m4 m5 => by rw [lookup_putF, if_neg m5]; exact cf.no m m1 m2 m3 m4 m5⟩
      · exact kp3 (gs.kp.kb _ _ hi (fun z => by rw [z, ht] at hi; cases hi)) (fun z => by rw [z, hp] at hi; cases hi) _ _
      · exact .inl (kp3 (gs.kp.kb _ _ hd td.symm) (fun z => by rw [z, hp] at hd; cases hd) _ _)
      · refine ⟨ad, .inl (kp3 t1 tp _ _), fun q hq => ?_⟩
        obtain ⟨v, v1, v2⟩ := t2 q hq
        exact ⟨v, v1, kp3 v2 (fun z => by rw [z, hp2] at v2; cases v2) _ _⟩
      · refine ⟨_, by rw [upd_ne pl.symm]; exact upd_same, ?_⟩
        have hmap : (dG eK ks fun k => V.ref (la k)).map (·.2) = ks.map fun k => V.ref (la k) := by unfold dG; rw [List.map_map]; rfl
        rw [hmap]
        have gen : ∀ zs : List (Str × Int), (∀ z ∈ zs, z ∈ ks) → Paired (fun lot v => ∃ a, v = V.ref a ∧ upd (upd H2 l' (.lst (ks.map fun k => V.ref (la k)))) p (.ins (CC K) dx (putF "_lots" (.ref l') fs)) a = some (.lst (lot.map V.int))) (zs.map lt) (zs.map fun k => V.ref (la k)) := by
          intro zs
          induction zs with
          | nil => intro _; exact .nil
          | cons z zs ih =>
            intro hz
            have a1 := (r5 z (hz z List.mem_cons_self)).1
            exact .cons ⟨_, rfl, kp3 a1 (fun y => by rw [y, hp2] at a1; cases a1) _ _⟩ (ih fun y hy => hz y (List.mem_cons_of_mem _ hy))
        exact gen ks fun _ h => h
end RB
end

section
set_option maxRecDepth 100000
set_option maxHeartbeats 4000000
/-! Case.__init__ -/
namespace RB
open PySem PySem.Spec PyProof.Rows L2
variable {P : Program} {w : World} {K : PySem.W.Frag} {mg : Str → Option Value} {base : Heap}
/-- d or {} -/
def tOrD (i : Nat) : TE := fun σ H Q => ∃ (da : Addr) (dk : List Str) (f : Str → V), σ[i]? = some (some (.ref da)) ∧ H da = some (.dK (dS dk f)) ∧ ∀ d' H', Same H H' → H' d' = some (.dK (dS dk f)) → Q (.ref d') H'
theorem pe_orD {X : Cx} {a : Expr} {i : Nat} {pos p2 : Pos} (ha : PE X a (tVar i)) : PE X (.BoolOp .Or [a, .Dict [] [] p2] pos) (tOrD i) := by
  have h := pe_orT (pos := pos) ha (pe_one (op := .Or) (pos := pos) (pe_dnewK (X := X) (pos := p2)))
  refine ⟨fun pins s σ H Q I ⟨da, dk, f, h1, h2, k⟩ => h.run pins s σ H Q I ⟨_, h1, _, .inr (.inr ⟨_, h2, rfl⟩), ?_⟩⟩
  cases dk with
  | nil => exact iteF fun d nd => k d _ (same_new nd) upd_same
  | cons x r => exact iteT (k da H (Same.refl H) h2)
/-- xs or [] -/
def tOrL (i : Nat) : TE := fun σ H Q => ∃ (v : V) (ml : Option (List Int)), σ[i]? = some (some v) ∧ MvAt H v ml ∧ ∀ a H', Same H H' → H' a = some (.lst ((ml.getD []).map V.int)) → Q (.ref a) H'
theorem pe_orL {X : Cx} {a : Expr} {i : Nat} {pos p2 : Pos} (ha : PE X a (tVar i)) : PE X (.BoolOp .Or [a, .List [] p2] pos) (tOrL i) := by
  have h := pe_orT (pos := pos) ha (pe_one (op := .Or) (pos := pos) (pe_lst (X := X) (pos := p2) pa_nil))
  refine ⟨fun pins s σ H Q I ⟨v, ml, h1, h2, k⟩ => h.run pins s σ H Q I ?_⟩
  cases ml with
  | none =>
    have e : v = .non := h2
    subst e
    exact ⟨_, h1, false, rfl, iteF ⟨Nat.zero_le _, fun q nq => k q _ (same_new nq) upd_same⟩⟩
  | some xs =>
    obtain ⟨q, rfl, hq⟩ := h2
    refine ⟨_, h1, _, .inl ⟨_, SqL.of hq, rfl⟩, ?_⟩
    cases xs with
    | nil => exact iteF ⟨Nat.zero_le _, fun q nq => k q _ (same_new nq) upd_same⟩
    | cons x r => exact iteT (k q H (Same.refl H) hq)
theorem MvAt.same {H H' : Hp} {v : V} {mv : Option (List Int)} (h : MvAt H v mv) (s : Same H H') : MvAt H' v mv := by
  cases mv with
  | none => exact h
  | some m =>
    obtain ⟨a, e, q⟩ := h
    exact ⟨a, e, s _ _ q⟩
def drOf (s : Str) : Dr := if s = "rises" then .rises else if s = "falls" then .falls else .stays
theorem drOf_ok : ∀ s ∈ driftNames, drS (drOf s) = s := by
  unfold driftNames
  intro s hs
  rcases List.mem_cons.mp hs with rfl | hs
  · rfl
  rcases List.mem_cons.mp hs with rfl | hs
  · rfl
  rcases List.mem_cons.mp hs with rfl | hs
  · rfl
  cases hs
def Lg.drift (g : Lg) (j : Str) : Str := ((g.judges.find? fun p => decide (p.1 = j)).map (·.2)).getD "stays"
theorem find_nodup : ∀ {l : List (Str × Str)} {p : Str × Str}, (l.map (·.1)).Nodup → p ∈ l → l.find? (fun q => decide (q.1 = p.1)) = some p
  | x :: r, p, nd, h => by
    rw [List.map_cons, List.nodup_cons] at nd
    rcases List.mem_cons.mp h with rfl | h
    · simp
    · have : ¬ x.1 = p.1 := fun e => nd.1 (by rw [e]; exact List.mem_map.mpr ⟨p, h, rfl⟩)
      rw [List.find?_cons_of_neg (by simpa using this)]
      exact find_nodup nd.2 h
theorem Lg.drift_eq {g : Lg} (ok : g.Ok) {p : Str × Str} (h : p ∈ g.judges) : g.drift p.1 = p.2 := by
  unfold Lg.drift
  rw [find_nodup ok.jnd h]
  rfl
/-- the drifts of a changed log -/
def drC (g : Lg) (dk : List Str) (df : Str → Dr) (j : Str) : Dr := if j ∈ dk then df j else drOf (g.drift j)
theorem drC_get {g : Lg} (ok : g.Ok) {dk : List Str} {df : Str → Dr} {p : Str × Str} (h : p ∈ g.judges) : (if p.1 ∈ dk then some (V.str (drS (df p.1))) else none).getD (.str p.2) = .str (drS (drC g dk df p.1)) := by
  unfold drC
  by_cases c : p.1 ∈ dk
  · rw [if_pos c, if_pos c]; rfl
  · rw [if_neg c, if_neg c, Lg.drift_eq ok h, drOf_ok _ (ok.jd p h)]; rfl
theorem drS_in (d : Dr) : drS d ∈ driftNames := by
  cases d
  · exact List.mem_cons_self
  · exact List.mem_cons_of_mem _ List.mem_cons_self
  · exact List.mem_cons_of_mem _ (List.mem_cons_of_mem _ List.mem_cons_self)
theorem LogAt.kp {H H' : Hp} {lp p C dx : Addr} {g : Lg} (h : LogAt K H lp g) (hp : H p = some (.ins C dx [])) (k : ∀ b o, H b = some o → b ≠ p → H' b = some o) : LogAt K H' lp g := by
  obtain ⟨ldx, i, j, e, h1, h2, ⟨js, h3, h4⟩, ⟨es, h5, h6⟩⟩ := h
  have tp : ∀ {b : Addr} {xs : List V}, H b = some (.tup xs) → H' b = some (.tup xs) := fun {b xs} q => k _ _ q fun z => by rw [z, hp] at q; cases q
  have ls : ∀ {b : Addr} {xs : List V}, H b = some (.lst xs) → H' b = some (.lst xs) := fun {b xs} q => k _ _ q fun z => by rw [z, hp] at q; cases q
  refine ⟨ldx, i, j, e, k _ _ h1 fun z => ?_, ls h2, ⟨js, ls h3, Paired.mapP h4 fun x v ⟨a, b, q⟩ => ⟨a, b, tp q⟩⟩, ⟨es, ls h5, Paired.mapP h6 fun x v ⟨a, b, q⟩ => ⟨a, b, tp q⟩⟩⟩
  rw [z, hp] at h1
  have h7 := Option.some.inj h1
  injection h7 with _ _ h8
  have h9 := logF_i (i := i) (g := g.grades) (j := j) (e := e)
  rw [← h8] at h9
  cases h9
theorem MvAt.kp {H H' : Hp} {p C dx : Addr} {v : V} {mv : Option (List Int)} (h : MvAt H v mv) (hp : H p = some (.ins C dx [])) (k : ∀ b o, H b = some o → b ≠ p → H' b = some o) : MvAt H' v mv := by
  cases mv with
  | none => exact h
  | some m =>
    obtain ⟨a, e, q⟩ := h
    exact ⟨a, e, k _ _ q fun z => by rw [z, hp] at q; cases q⟩
theorem kp_same {H H' H2 : Hp} {p : Addr} (k : ∀ b o, H b = some o → b ≠ p → H' b = some o) (s : Same H' H2) : ∀ b o, H b = some o → b ≠ p → H2 b = some o := fun b o e n => s _ _ (k b o e n)
def spCaseInit (K : PySem.W.Frag) : Sp := fun vs H Q _ => ∃ (p dx lp da sa ra : Addr) (mvV : V) (g : Lg) (ch : Ch) (dk : List Str) (df : Str → Dr), vs = [.ref p, .ref lp, .ref da, .ref sa, .ref ra, mvV] ∧ H p = some (.ins (CC K) dx []) ∧ LogAt K H lp g ∧ g.Ok ∧
  H da = some (.dK (dS dk fun j => .str (drS (df j)))) ∧ (∀ j ∈ dk, j ∈ g.names) ∧ dk.length ≤ 60 ∧ H sa = some (.lst (ch.st.map V.int)) ∧ H ra = some (.lst (ch.rs.map V.int)) ∧ MvAt H mvV ch.mv ∧ (∀ n ∈ ch.st, g.IsAns n) ∧ (∀ n ∈ ch.rs, g.IsAns n) ∧ (∀ n ∈ ch.mv.getD [], g.IsAns n) ∧
  ∀ H' lots, (∀ b o, H b = some o → b ≠ p → H' b = some o) → (csOf g ch (drC g dk df) lots).Ok → CsAt K H' p (csOf g ch (drC g dk df) lots) → Q .non H'
theorem sc_case_init : FnScope ["self", "log", "drifts", "struck", "resets", "moves", "places", "judge", "drift"] ["self", "log", "drifts", "struck", "resets", "moves"] d_case_init.scope := ⟨rfl, rfl, rfl, by decide +kernel, rfl, by decide +kernel, by decide +kernel⟩
theorem ok_case_init (T : Txt K mg) : ∃ fd, FnOk P w K mg base CX0 4 (He.ma K (CC K) "__init__") fd ["self", "log", "drifts", "struck", "resets", "moves"] (spCaseInit K) ∧ ∃ mv : List Value, KBn K fd ["self", "log", "drifts", "struck", "resets", "moves"] 2 ["drifts", "struck", "resets", "moves"] (fun us ws => us ++ ws) (fun vs zs => vs ++ zs) := by
  obtain ⟨fd, F⟩ := T.d_case_init
  refine ⟨fd, F.ok sc_case_init (fun vs H Q E h => ?_) fun cd A outer s H vs Q E hr h => ?_, ?_⟩
  · obtain ⟨p, dx, lp, da, sa, ra, mvV, g, ch, dk, df, rfl, _⟩ := h
    rfl
  · suffices hh : ∃ t, PSs (Bx P w K mg base ["self", "log", "drifts", "struck", "resets", "moves", "places", "judge", "drift"] d_case_init cd A outer s H E) d_case_init.body t ∧ t { nx := fun _ H' => Q .non H', rt := Q } (L2.start ["self", "log", "drifts", "struck", "resets", "moves", "places", "judge", "drift"] vs) H from let ⟨t, h1, h2⟩ := hh; ⟨t, PSs.nox h1, h2⟩
    obtain ⟨p, dx, lp, da, sa, ra, mvV, g, ch, dk, df, rfl, hp, hlog, ok, hda, hdk, hdz, hsa, hra, hmv, ast, ars, amv, k⟩ := h
    have nd := sc_case_init.nd
    replace hr : Room 3 (Bx P w K mg base ["self", "log", "drifts", "struck", "resets", "moves", "places", "judge", "drift"] d_case_init cd A outer s H E).A := hr
    have hu := hu_of hr
    have hr2 := hr.mono (show 2 ≤ 3 by decide)
    refine ⟨_, pss_cons (ps_expr (pe_f (ok_check_drifts T) hr2 (Nat.le_refl _) rfl T.g_check_drifts (pa_cons (pv 1) (pa_cons (pe_orD (pv 2)) pa_nil))))
      (pss_cons (ps_for PassesOwn.never rfl (pi_tup (pe_tup (pa_cons (pv 3) (pa_cons (pv 4) (pa_cons (pv 5) pa_nil))))) (pg_name (i := 6) nd rfl (Or.inl rfl))
        (pss_one (ps_expr (pe_f (ok_check_answers T) hr2 (Nat.le_refl _) rfl T.g_check_answers (pa_cons (pv 1) (pa_cons (pe_orL (pv 6)) pa_nil))))))
      (pss_cons (ps_fld (pv 0) (pe_p T 0 rfl (ok_items T) (pv 1) hr2 (Nat.le_refl _)) rfl)
      (pss_cons (ps_fld (pv 0) (pe_p T 1 rfl (ok_grades T) (pv 1) hr2 (Nat.le_refl _)) rfl)
      (pss_cons (ps_fld (pv 0) (pe_dc (own := [("judge", 7), ("drift", 8)]) (g := g2 K 7 8) (tt := tYes) rfl nd (pi_list (pe_p T 2 rfl (ok_judges T) (pv 1) hr2 (Nat.le_refl _)))
          (blkOk_by (own := [("judge", 7), ("drift", 8)]) (N := ["self", "log", "drifts", "struck", "resets", "moves", "places", "judge", "drift"]) (sc := d_case_init.scope) (by decide +kernel)) (fun _ _ _ _ _ => pg_two K (i := 7) (j := 8) rfl nd rfl rfl (Or.inl rfl) (Or.inl rfl)) (fun _ _ _ _ _ => pts_nil)
          (fun _ _ _ _ _ => pv 7) (fun _ _ _ _ _ => pe_dget2 hu (pe_orD (pv 2)) (pv 7) (pv 8) ⟨rfl, rfl, rfl, rfl⟩)) rfl)
      (pss_cons (ps_fld (pv 0) pe_dnewK rfl)
      (pss_cons (ps_fld (pv 0) (pe_lst pa_nil) rfl)
      (pss_one (ps_expr (pe_m (pv 0) T.c_Case T.m_Case_gather (ok_gather T) hr (Nat.le_refl _) (pa_cons (pv 1) (pa_cons (pe_orL (pv 3)) (pa_cons (pe_orL (pv 4)) (pa_cons (pv 5) pa_nil))))))))))))), ?_⟩
    have lg0 : ∀ {H' : Hp}, LogAt K H' lp g → ∃ ldx li lj le, H' lp = some (.ins (CL K) ldx (logF li g.grades lj le)) ∧ Parts H' li lj le g := fun h => h
    -- the checks
    refine ⟨_, rfl, da, dk, _, rfl, hda, fun d1 H1 s1 hd1 => ?_⟩
    refine ⟨lp, d1, g, dk, fun j => drS (df j), rfl, hlog.same s1, hd1, fun j hj => ⟨hdk j hj, ?_⟩, hdz, fun H2 s2 => ?_⟩
    · exact drS_in _
    have s02 := Same.trans s1 s2
    refine ⟨_, rfl, _, rfl, _, rfl, by show 3 ≤ sizeLine; exact small (by omega), fun tq ntq => ⟨tq, rfl, ⟨_, SqT.of upd_same⟩, ?_⟩⟩
    have s3 : Same H2 (upd H2 tq (.tup [.ref sa, .ref ra, mvV])) := same_new ntq
    refine for_it (walk_tup (xs := [.ref sa, .ref ra, mvV])) (fun n σ H' => Same (upd H2 tq (.tup [.ref sa, .ref ra, mvV])) H' ∧ ∃ v6, σ = [some (.ref p), some (.ref lp), some (.ref da), some (.ref sa), some (.ref ra), some mvV, v6, none, none]) ⟨Same.refl _, _, rfl⟩ ?_ ?_ ?_
    · rintro n σ H' _ ⟨s4, _⟩
      exact SqT.of (s4 _ _ upd_same)
    · rintro n x σ H3 H4 hn ⟨s4, v6, rfl⟩ ⟨rfl, hx⟩
      have s5 := Same.trans s02 (Same.trans s3 s4)
      have hx2 : ∃ ml : Option (List Int), MvAt H4 x ml ∧ ∀ n ∈ ml.getD [], g.IsAns n := by
        match n, hx with
        | 0, hx => cases hx; exact ⟨some ch.st, ⟨sa, rfl, s5 _ _ hsa⟩, ast⟩
        | 1, hx => cases hx; exact ⟨some ch.rs, ⟨ra, rfl, s5 _ _ hra⟩, ars⟩
        | 2, hx => cases hx; exact ⟨ch.mv, hmv.same s5, amv⟩
        | n + 3, hx => cases hx
      obtain ⟨ml, m1, m2⟩ := hx2
      refine ⟨_, rfl, _, ml, rfl, m1, fun a H5 s6 ha => ?_⟩
      exact ⟨lp, a, g, ml.getD [], rfl, (hlog.same s5).same s6, ha, m2, fun H6 s7 => ⟨Same.trans s4 (Same.trans s6 s7), _, rfl⟩⟩
    rintro σ H3 ⟨s4, v6, rfl⟩
    have s5 := Same.trans s02 (Same.trans s3 s4)
    clear s1 s2 s3 s4 s02 hd1
    have hlog3 := hlog.same s5
    obtain ⟨ldx, li, lj, le, lh1, lpa⟩ := lg0 hlog3
    refine ⟨_, rfl, lp, ldx, _, rfl, lh1, lp, g, rfl, hlog3, fun i H4 s6 hi => ?_⟩
    have hp4 := s6 _ _ (s5 _ _ hp)
    refine ⟨_, rfl, p, CC K, dx, [], rfl, hp4, T.c_Case, T.n_Case_items, by show 0 < 1000; decide, ?_⟩
    have k5 : ∀ b o, H b = some o → b ≠ p → upd H4 p (.ins (CC K) dx (putF "_items" (.ref i) [])) b = some o := kp_set (kp_same (fun b o e _ => s5 _ _ e) s6)
    have hi5 : upd H4 p (.ins (CC K) dx (putF "_items" (.ref i) [])) i = some (.lst (g.items.map V.str)) := by rw [upd_ne (fun z => by rw [z, hp4] at hi; cases hi)]; exact hi
    have hp5 : upd H4 p (.ins (CC K) dx (putF "_items" (.ref i) [])) p = some (.ins (CC K) dx (putF "_items" (.ref i) [])) := upd_same
    show tSeq _ _ _ _ (upd H4 p (.ins (CC K) dx (putF "_items" (.ref i) [])))
    generalize upd H4 p (.ins (CC K) dx (putF "_items" (.ref i) [])) = H5 at k5 hi5 hp5
    -- grades
    have lg5 := hlog.kp hp k5
    obtain ⟨ldx, li, lj, le, lh1, lpa⟩ := lg0 lg5
    refine ⟨_, rfl, lp, ldx, _, rfl, lh1, lp, g, rfl, lg5, ?_⟩
    refine ⟨_, rfl, p, CC K, dx, _, rfl, hp5, T.c_Case, T.n_Case_grades, Nat.lt_of_le_of_lt (length_putF _ _ _) (by show 1 < 1000; decide), ?_⟩
    have k6 : ∀ b o, H b = some o → b ≠ p → upd H5 p (.ins (CC K) dx (putF "_grades" (.int g.grades) (putF "_items" (.ref i) []))) b = some o := kp_set k5
    have hp6 : upd H5 p (.ins (CC K) dx (putF "_grades" (.int g.grades) (putF "_items" (.ref i) []))) p = some (.ins (CC K) dx (putF "_grades" (.int g.grades) (putF "_items" (.ref i) []))) := upd_same
    have o6 : ∀ b o, H5 b = some o → b ≠ p → upd H5 p (.ins (CC K) dx (putF "_grades" (.int g.grades) (putF "_items" (.ref i) []))) b = some o := fun b o e n => by rw [upd_ne n]; exact e
    show tSeq _ _ _ _ (upd H5 p (.ins (CC K) dx (putF "_grades" (.int g.grades) (putF "_items" (.ref i) []))))
    generalize upd H5 p (.ins (CC K) dx (putF "_grades" (.int g.grades) (putF "_items" (.ref i) []))) = H6 at k6 hp6 o6
    have ip : i ≠ p := fun z => by rw [z, hp5] at hi5; cases hi5
    have hi6 := o6 _ _ hi5 ip
    -- drifts
    have lg6 := hlog.kp hp k6
    obtain ⟨ldx6, li6, lj6, le6, lh6, lpa6⟩ := lg0 lg6
    refine ⟨_, rfl, lp, ldx6, _, rfl, lh6, lp, g, rfl, lg6, fun ja H7 js s7 hj rj => ?_⟩
    have k7 := kp_same k6 s7
    have jl : g.names.length = g.judges.length := List.length_map ..
    have j2 := ok.j2
    have dap : da ≠ p := fun z => by rw [z, hp] at hda; cases hda
    refine ⟨ja, rfl, ⟨_, SqL.of hj⟩, fun d nd7 => ?_⟩
    refine dc_inv (ks := g.names) (walkN (n := g.names.length) (by rw [jl]; exact rj.len.symm)) rfl ok.jnd nd7 (small (by omega)) (fun n f H' => ∀ k ∈ g.names.take n, f k = .str (drS (drC g dk df k))) (fun k hk => by simp at hk) (fun H8 s8 => SqL.of (s8 _ _ hj)) (fun n x H8 H9 kx f hkx hnot s8 hD hR hY N Z b => ?_) fun H8 f s8 e8 hR => ?_
    · obtain ⟨rfl, hx⟩ := hY
      obtain ⟨pr, tj, hpr, rfl, htj⟩ := (rj.same s8).back hx
      have hkp : kx = pr.1 := by
        have : g.names[n]? = some pr.1 := by unfold Lg.names; rw [List.getElem?_map, hpr]; rfl
        rw [this] at hkx
        exact (Option.some.inj hkx).symm
      subst hkp
      have prm := List.mem_of_getElem? hpr
      have hda8 := (kp_same k7 s8) _ _ hda dap
      refine ⟨tj, _, rfl, SqT.of htj, rfl, _, _, rfl, _, _, rfl, rfl, rfl, yesT ⟨_, rfl, da, dk, _, rfl, hda8, fun d' H' s' hd' => ⟨d', rfl, .inl ⟨_, .inl hd'⟩, _, rfl, _, rfl, _, dS_ask pr.1 (.inl hd'), ?_⟩⟩⟩
      rw [drC_get ok prm]
      refine b _ _ s' fun H5 sb k hk => ?_
      show (if k = pr.1 then V.str (drS (drC g dk df pr.1)) else f k) = _
      rcases (take_mem hkx).mp hk with m | rfl
      · have hk0 : ¬ k = pr.1 := fun z => hnot (by rw [← z]; exact m)
        rw [if_neg hk0]; exact hR k m
      · rw [if_pos rfl]
    rw [List.take_length] at hR
    have k8 := kp_same k7 s8
    have s68 := Same.trans s7 s8
    have hp8 := s68 _ _ hp6
    have hd8 : H8 d = some (.dK (dS g.names fun j => .str (drS (drC g dk df j)))) := by
      rw [e8]
      exact congrArg (fun z => some (HO.dK z)) (dG_congr hR)
    have dp : d ≠ p := fun z => by rw [z, hp8] at hd8; cases hd8
    refine ⟨_, rfl, p, CC K, dx, _, rfl, hp8, T.c_Case, T.n_Case_drifts, Nat.lt_of_le_of_lt (length_putF _ _ _) (Nat.lt_of_le_of_lt (Nat.add_le_add_right (length_putF _ _ _) 1) (by show 2 < 1000; decide)), ?_⟩
    have k9 : ∀ b o, H b = some o → b ≠ p → upd H8 p (.ins (CC K) dx (putF "_drifts" (.ref d) (putF "_grades" (.int g.grades) (putF "_items" (.ref i) [])))) b = some o := kp_set k8
    have hp9 : upd H8 p (.ins (CC K) dx (putF "_drifts" (.ref d) (putF "_grades" (.int g.grades) (putF "_items" (.ref i) [])))) p = some (.ins (CC K) dx (putF "_drifts" (.ref d) (putF "_grades" (.int g.grades) (putF "_items" (.ref i) [])))) := upd_same
    have o9 : ∀ b o, H8 b = some o → b ≠ p → upd H8 p (.ins (CC K) dx (putF "_drifts" (.ref d) (putF "_grades" (.int g.grades) (putF "_items" (.ref i) [])))) b = some o := fun b o e n => by rw [upd_ne n]; exact e
    show tSeq _ _ _ _ (upd H8 p (.ins (CC K) dx (putF "_drifts" (.ref d) (putF "_grades" (.int g.grades) (putF "_items" (.ref i) [])))))
    generalize upd H8 p (.ins (CC K) dx (putF "_drifts" (.ref d) (putF "_grades" (.int g.grades) (putF "_items" (.ref i) [])))) = H9 at k9 hp9 o9
    have hd9 := o9 _ _ hd8 dp
    have hi9 := o9 _ _ (s68 _ _ hi6) ip
    -- told
    refine fun t nt => ?_
    have k10 := kp_new (o' := .dK []) k9 nt
    have s10 : Same H9 (upd H9 t (.dK [])) := same_new nt
    have ht10 : upd H9 t (.dK []) t = some (.dK []) := upd_same
    have td : t ≠ d := (ne_of_none hd9 nt).symm
    have tHn : H t = none := by
      cases q : H t with
      | none => rfl
      | some o =>
        by_cases z : t = p
        · rw [z, hp9] at nt; cases nt
        · rw [k9 t o q z] at nt; cases nt
    have tp : t ≠ p := fun z => by rw [z, hp9] at nt; cases nt
    have hp10 := s10 _ _ hp9
    refine ⟨_, rfl, p, CC K, dx, _, rfl, hp10, T.c_Case, T.n_Case_told, Nat.lt_of_le_of_lt (length_putF _ _ _) (Nat.lt_of_le_of_lt (Nat.add_le_add_right (length_putF _ _ _) 1) (Nat.lt_of_le_of_lt (Nat.add_le_add_right (Nat.add_le_add_right (length_putF _ _ _) 1) 1) (by show 3 < 1000; decide))), ?_⟩
    have hi10 := s10 _ _ hi9
    have hd10 := s10 _ _ hd9
    show tSeq _ _ _ _ (upd (upd H9 t (.dK [])) p _)
    generalize upd H9 t (.dK []) = H10 at k10 hp10 ht10 hi10 hd10
    have k11 : ∀ b o, H b = some o → b ≠ p → upd H10 p (.ins (CC K) dx (putF "_told" (.ref t) (putF "_drifts" (.ref d) (putF "_grades" (.int g.grades) (putF "_items" (.ref i) []))))) b = some o := kp_set k10
    have hp11 : upd H10 p (.ins (CC K) dx (putF "_told" (.ref t) (putF "_drifts" (.ref d) (putF "_grades" (.int g.grades) (putF "_items" (.ref i) []))))) p = some (.ins (CC K) dx (putF "_told" (.ref t) (putF "_drifts" (.ref d) (putF "_grades" (.int g.grades) (putF "_items" (.ref i) []))))) := upd_same
    have o11 : ∀ b o, H10 b = some o → b ≠ p → upd H10 p (.ins (CC K) dx (putF "_told" (.ref t) (putF "_drifts" (.ref d) (putF "_grades" (.int g.grades) (putF "_items" (.ref i) []))))) b = some o := fun b o e n => by rw [upd_ne n]; exact e
    show tSeq _ _ _ _ (upd H10 p (.ins (CC K) dx (putF "_told" (.ref t) (putF "_drifts" (.ref d) (putF "_grades" (.int g.grades) (putF "_items" (.ref i) []))))))
    generalize upd H10 p (.ins (CC K) dx (putF "_told" (.ref t) (putF "_drifts" (.ref d) (putF "_grades" (.int g.grades) (putF "_items" (.ref i) []))))) = H11 at k11 hp11 o11
    have ht11 := o11 _ _ ht10 tp
    have hi11 := o11 _ _ hi10 ip
    have hd11 := o11 _ _ hd10 dp
    -- lots
    refine ⟨Nat.zero_le _, fun l0 nl0 => ?_⟩
    have k12 := kp_new (o' := .lst []) k11 nl0
    have s12 : Same H11 (upd H11 l0 (.lst [])) := same_new nl0
    have hp12 := s12 _ _ hp11
    have ht12 := s12 _ _ ht11
    have hi12 := s12 _ _ hi11
    have hd12 := s12 _ _ hd11
    refine ⟨_, rfl, p, CC K, dx, _, rfl, hp12, T.c_Case, T.n_Case_lots, Nat.lt_of_le_of_lt (length_putF _ _ _) (Nat.lt_of_le_of_lt (Nat.add_le_add_right (length_putF _ _ _) 1) (Nat.lt_of_le_of_lt (Nat.add_le_add_right (Nat.add_le_add_right (length_putF _ _ _) 1) 1) (Nat.lt_of_le_of_lt (Nat.add_le_add_right (Nat.add_le_add_right (Nat.add_le_add_right (length_putF _ _ _) 1) 1) 1) (by show 4 < 1000; decide)))), ?_⟩
    generalize upd H11 l0 (.lst []) = H12 at k12 hp12 ht12 hi12 hd12
    have k13 : ∀ b o, H b = some o → b ≠ p → upd H12 p (.ins (CC K) dx (putF "_lots" (.ref l0) (putF "_told" (.ref t) (putF "_drifts" (.ref d) (putF "_grades" (.int g.grades) (putF "_items" (.ref i) [])))))) b = some o := kp_set k12
    have hp13 : upd H12 p (.ins (CC K) dx (putF "_lots" (.ref l0) (putF "_told" (.ref t) (putF "_drifts" (.ref d) (putF "_grades" (.int g.grades) (putF "_items" (.ref i) [])))))) p = some (.ins (CC K) dx (putF "_lots" (.ref l0) (putF "_told" (.ref t) (putF "_drifts" (.ref d) (putF "_grades" (.int g.grades) (putF "_items" (.ref i) [])))))) := upd_same
    have o13 : ∀ b o, H12 b = some o → b ≠ p → upd H12 p (.ins (CC K) dx (putF "_lots" (.ref l0) (putF "_told" (.ref t) (putF "_drifts" (.ref d) (putF "_grades" (.int g.grades) (putF "_items" (.ref i) [])))))) b = some o := fun b o e n => by rw [upd_ne n]; exact e
    generalize upd H12 p (.ins (CC K) dx (putF "_lots" (.ref l0) (putF "_told" (.ref t) (putF "_drifts" (.ref d) (putF "_grades" (.int g.grades) (putF "_items" (.ref i) [])))))) = H13 at k13 hp13 o13
    have ht13 := o13 _ _ ht12 tp
    have hi13 := o13 _ _ hi12 ip
    have hd13 := o13 _ _ hd12 dp
    -- gather
    have m1 : ¬ (("_items" : Str) = "_grades") := by decide +kernel
    have m2 : ¬ (("_items" : Str) = "_drifts") := by decide +kernel
    have m3 : ¬ (("_items" : Str) = "_told") := by decide +kernel
    have m4 : ¬ (("_items" : Str) = "_lots") := by decide +kernel
    have m5 : ¬ (("_grades" : Str) = "_drifts") := by decide +kernel
    have m6 : ¬ (("_grades" : Str) = "_told") := by decide +kernel
    have m7 : ¬ (("_grades" : Str) = "_lots") := by decide +kernel
    have m8 : ¬ (("_drifts" : Str) = "_told") := by decide +kernel
    have m9 : ¬ (("_drifts" : Str) = "_lots") := by decide +kernel
    have m10 : ¬ (("_told" : Str) = "_lots") := by decide +kernel
    have cf : CsF (putF "_lots" (.ref l0) (putF "_told" (.ref t) (putF "_drifts" (.ref d) (putF "_grades" (.int g.grades) (putF "_items" (.ref i) []))))) i g.grades d t l0 := by
      refine ⟨?_, ?_, ?_, ?_, ?_, fun m a1 a2 a3 a4 a5 => ?_⟩
      · rw [lookup_putF, if_neg m4, lookup_putF, if_neg m3, lookup_putF, if_neg m2, lookup_putF, if_neg m1, lookup_putF, if_pos rfl]
      · rw [lookup_putF, if_neg m7, lookup_putF, if_neg m6, lookup_putF, if_neg m5, lookup_putF, if_pos rfl]
      · rw [lookup_putF, if_neg m9, lookup_putF, if_neg m8, lookup_putF, if_pos rfl]
      · rw [lookup_putF, if_neg m10, lookup_putF, if_pos rfl]
      · rw [lookup_putF, if_pos rfl]
      · rw [lookup_putF, if_neg a5, lookup_putF, if_neg a4, lookup_putF, if_neg a3, lookup_putF, if_neg a2, lookup_putF, if_neg a1]
        rfl
    have fl : (putF "_lots" (.ref l0) (putF "_told" (.ref t) (putF "_drifts" (.ref d) (putF "_grades" (.int g.grades) (putF "_items" (.ref i) []))))).length < 1000 := Nat.lt_of_le_of_lt (length_putF _ _ _) (Nat.lt_of_le_of_lt (Nat.add_le_add_right (length_putF _ _ _) 1) (Nat.lt_of_le_of_lt (Nat.add_le_add_right (Nat.add_le_add_right (length_putF _ _ _) 1) 1) (Nat.lt_of_le_of_lt (Nat.add_le_add_right (Nat.add_le_add_right (Nat.add_le_add_right (length_putF _ _ _) 1) 1) 1) (Nat.lt_of_le_of_lt (Nat.add_le_add_right (Nat.add_le_add_right (Nat.add_le_add_right (Nat.add_le_add_right (length_putF _ _ _) 1) 1) 1) 1) (by show 5 < 1000; decide)))))
    generalize putF "_lots" (.ref l0) (putF "_told" (.ref t) (putF "_drifts" (.ref d) (putF "_grades" (.int g.grades) (putF "_items" (.ref i) [])))) = fs5 at cf fl hp13
    refine ⟨_, rfl, p, dx, fs5, rfl, hp13, cf.no _ (by decide +kernel) (by decide +kernel) (by decide +kernel) (by decide +kernel) (by decide +kernel), _, rfl, ?_⟩
    have sap : sa ≠ p := fun z => by rw [z, hp] at hsa; cases hsa
    have rap : ra ≠ p := fun z => by rw [z, hp] at hra; cases hra
    refine ⟨_, some ch.st, rfl, ⟨sa, rfl, k13 _ _ hsa sap⟩, fun sa' H14 s14 hsa' => ?_⟩
    refine ⟨_, some ch.rs, rfl, ⟨ra, rfl, s14 _ _ (k13 _ _ hra rap)⟩, fun ra' H15 s15 hra' => ?_⟩
    have s16 := Same.trans s14 s15
    have k15 := kp_same k13 s16
    refine ⟨_, rfl, p, dx, fs5, i, d, t, l0, lp, sa', ra', mvV, g, ch, drC g dk df, rfl, s16 _ _ hp13, cf, fl, s16 _ _ hi13, s16 _ _ hd13, s16 _ _ ht13, td, hlog.kp hp k15, ok, s15 _ _ hsa', hra', hmv.kp hp k15, fun H' lots kH cok cat => ?_⟩
    exact k H' lots (fun b o e n => kH b o (k15 b o e n) n fun z => by rw [z, tHn] at e; cases e) cok cat
  · have := F.kbinds0 (ps := ["self", "log", "drifts", "struck", "resets", "moves"]) 2 ["drifts", "struck", "resets", "moves"] [] (fun vs _ zs => vs ++ zs) (by simp [He.DefD.kws, d_case_init]) (fun q h => by cases h) (fun r1 _ r2 => pair_app r1 r2) (fun D doc pm an cdv ct us mv ws l1 l2 l3 => match us, ws, l1, l3 with | [_, _], [_, _, _, _], _, _ => rfl)
    exact this
end RB
end

section
set_option maxRecDepth 100000
set_option maxHeartbeats 4000000
/-! the law's numbers -/
namespace RB
open PySem PySem.Spec PyProof.Rows L2
variable {P : Program} {w : World} {K : PySem.W.Frag} {mg : Str → Option Value} {base : Heap}
theorem pe_abs {X : Cx} {a : Expr} {ta : TE} {p pos : Pos} (hm : X.mg "abs" = none) (ha : PE X a ta) (hg : Gl X "abs" := by rfl) (he : starEach [a] X.env = (false, eval a X.env) :: starEach [] X.env := by rfl)
    (hpl : (backTo pos (starEach [] X.env)).any (·.1) = false := by rfl) : PE X (.Call (.Name "abs" p) [a] [] pos) (tCB (fun xs H Q => ∃ i, xs = [.int i] ∧ Q (.int (if i < 0 then -i else i)) H) (tCons ta tNil)) :=
  pe_callB call_abs hg hm (by decide +kernel) (pa_cons ha pa_nil he) (he := he) (hpl := hpl)
/-! ### cuts: a middle claim -/
def tCut (t : TS) : TS := fun D σ H => ∃ R : L2.St → Hp → Prop, t ⟨R, D.rt, D.bk, D.ct⟩ σ H ∧ ∀ σ' H', R σ' H' → D.nx σ' H'
theorem ps_cut {X : Cx} {st : Stmt} {t : TS} (h : PS X st t) : PS X st (tCut t) := by
  refine ⟨fun pins s σ H D I ⟨R, h1, h2⟩ => thn (h.run pins s σ H _ I h1) fun f s1 q => ?_⟩
  cases f with
  | next => obtain ⟨σ', H', I2, q⟩ := q; exact ⟨σ', H', I2, h2 _ _ q⟩
  | brk => exact q
  | cont => exact q
  | ret v => exact q
def tCutE (t : TE) : TE := fun σ H Q => ∃ R : VK, t σ H R ∧ ∀ v H', R v H' → Q v H'
theorem pe_cut {X : Cx} {e : Expr} {t : TE} (h : PE X e t) : PE X e (tCutE t) :=
  ⟨fun pins s σ H Q I ⟨R, h1, h2⟩ => thn (h.run pins s σ H _ I h1) fun v s1 ⟨x, H1, I1, r, q⟩ => ⟨x, H1, I1, r, h2 _ _ q⟩⟩
def tCutT (t : TT) : TT := fun σ H Q => ∃ R : Bool → Hp → Prop, t σ H R ∧ ∀ b H', R b H' → Q b H'
theorem pt_cut {X : Cx} {e : Expr} {t : TT} (h : PT X e t) : PT X e (tCutT t) :=
  ⟨fun pins s σ H Q I ⟨R, h1, h2⟩ => thn (h.run pins s σ H _ I h1) fun b s1 ⟨H1, I1, q⟩ => ⟨H1, I1, h2 _ _ q⟩⟩
def spRow : Sp := fun vs H Q _ => ∃ (c : Int) (m : Int), vs = [.int c, .int m] ∧ 0 ≤ m ∧ m ≤ 200 ∧ ∀ a H' (xs : List Int), H a = none → Same H H' → H' a = some (.lst (xs.map V.int)) → xs.length ≤ 200 → Q (.ref a) H'
theorem sc_law_row : FnScope ["_law_cell", "_law_many", "_law_row_here", "_law_rest", "_law_state", "_law_k"] ["_law_cell", "_law_many"] d_law_row.scope := ⟨rfl, rfl, rfl, by decide +kernel, rfl, by decide +kernel, by decide +kernel⟩
theorem ok_law_row (T : Txt K mg) : Kept P w K mg base 1 (He.ga K "_law_row") ["_law_cell", "_law_many"] spRow := by
  refine keep_of (d := d_law_row) T.d_law_row sc_law_row (fun _ _ _ _ _ _ us hl => match us, hl with | [_, _], _ => rfl) (fun vs H Q E h => ?_) (fun cd A outer s H vs Q E hr h => ?_)
  · obtain ⟨c, m, rfl, _⟩ := h
    rfl
  · obtain ⟨c, m, rfl, m0, m200, k⟩ := h
    have nd := sc_law_row.nd
    refine ⟨_, pss_cons (ps_set (i := 2) nd rfl (Or.inl rfl) (pe_lst pa_nil))
      (pss_cons (ps_set (i := 3) nd rfl (Or.inl rfl) pe_int)
      (pss_cons (ps_cut (ps_if (pt_cmpR op_ge (pe_abs T.f_abs (pv 0)) (pe_op op_pow pe_int pe_int) (nomark _)) (pss_one (ps_set (i := 3) nd rfl (Or.inl rfl) (pe_abs T.f_abs (pv 0)))) pss_nil))
      (pss_cons (ps_set (i := 4) nd rfl (Or.inl rfl) (pe_op op_mod (pe_int_ T.f_int (pe_abs T.f_abs (pv 0))) pe_int))
      (pss_cons (ps_for PassesOwn.never rfl (pi_range1 rfl T.f_range (pa_cons (pv 1) pa_nil)) (pg_name (i := 5) nd rfl (Or.inl rfl))
        (pss_cons (ps_set (i := 4) nd rfl (Or.inl rfl) (pe_op op_mod (pe_int_ T.f_int (pe_op op_add (pe_op op_mul (pe_op op_add (pv 4) pe_int) pe_int) (pe_op op_mul pe_int (pv 5)))) pe_int))
        (pss_one (ps_if (pt_cmpR op_gt (pv 3) pe_int (nomark _))
          (pss_cons (ps_app K (pv 2) (pe_op op_mod (pe_int_ T.f_int (pv 3)) pe_int)) (pss_one (ps_set (i := 3) nd rfl (Or.inl rfl) (pe_op op_fdiv (pv 3) pe_int))))
          (pss_one (ps_app K (pv 2) (pe_op op_mod (pe_int_ T.f_int (pe_op op_fdiv (pv 4) pe_int)) pe_int)))))))
      (pss_one (ps_ret (pv 2))))))), ?_⟩
    refine ⟨Nat.zero_le _, fun ra nra => ?_⟩
    have s1 : Same H (upd H ra (.lst [])) := same_new nra
    refine ⟨fun σ' H' => H' = upd H ra (.lst []) ∧ ∃ r : Int, σ' = [some (.int c), some (.int m), some (.ref ra), some (.int r), none, none], ?_, ?_⟩
    · exact ⟨_, rfl, c, rfl, _, _, rfl, rfl, ⟨by decide, by decide, by decide⟩, _, _, rfl, rfl, _, rfl, iteD (fun _ => ⟨_, rfl, c, rfl, rfl, _, rfl⟩) (fun _ => ⟨rfl, _, rfl⟩)⟩
    rintro σ' H' ⟨rfl, r, rfl⟩
    have mod : ∀ x : Int, 0 ≤ x % 2147483647 ∧ x % 2147483647 < 2147483647 := fun x => ⟨Int.emod_nonneg _ (by decide), Int.emod_lt_of_pos _ (by decide)⟩
    refine ⟨_, rfl, c, rfl, .inl ⟨_, rfl, _, _, rfl, rfl, (by show (0 : Int) < 2147483647; decide), ?_⟩⟩
    refine ⟨_, rfl, m, rfl, by omega, by omega, ?_⟩
    refine for_range (fun n σ H' => Same H H' ∧ ∃ (r s : Int) (v5 : Option V) (xs : List Int), σ = [some (.int c), some (.int m), some (.ref ra), some (.int r), some (.int s), v5] ∧ 0 ≤ s ∧ s < 2147483647 ∧ H' ra = some (.lst (xs.map V.int)) ∧ xs.length ≤ n) ⟨s1, _, _, _, [], rfl, (mod _).1, (mod _).2, upd_same, Nat.zero_le _⟩ ?_ ?_
    · rintro n σ H' hn ⟨s2, r, st, v5, xs, rfl, h0, h1, hra, hl⟩
      have hn2 : (n : Int) < 200 := by omega
      refine ⟨_, rfl, _, _, rfl, rfl, _, _, rfl, rfl, .inl ⟨by omega, by omega⟩, _, rfl, _, _, rfl, rfl, .inl ⟨by decide, by decide⟩, _, _, rfl, rfl, .inl ⟨_, rfl, _, _, rfl, rfl, (by show (0 : Int) < 2147483647; decide), ?_⟩⟩
      have fin : ∀ v : Int, ∃ xs' : List Int, upd H' ra (.lst (xs.map V.int ++ [.int v])) ra = some (.lst (xs'.map V.int)) ∧ xs'.length ≤ n + 1 := fun v => ⟨xs ++ [v], by rw [upd_same, List.map_append]; rfl, by rw [List.length_append]; simp; omega⟩
      have sz : (xs.map V.int).length < sizeLine := smaller (by rw [List.length_map]; omega)
      refine ⟨_, rfl, _, _, rfl, rfl, _, rfl, iteD (fun _ => ?_) (fun _ => ?_)⟩
      · refine ⟨_, rfl, tyL hra, _, rfl, .inl ⟨_, rfl, _, _, rfl, rfl, (by show (0 : Int) < 1009; decide), ra, _, _, rfl, rfl, hra, sz, ?_⟩⟩
        obtain ⟨xs', e1, e2⟩ := fin (r % 1009)
        exact ⟨_, rfl, _, _, rfl, rfl, ⟨by decide, by decide⟩, same_upd s2 nra, _, _, _, xs', rfl, (mod _).1, (mod _).2, e1, e2⟩
      · refine ⟨_, rfl, tyL hra, _, rfl, _, _, rfl, rfl, ⟨by decide, by decide⟩, .inl ⟨_, rfl, _, _, rfl, rfl, (by show (0 : Int) < 1009; decide), ra, _, _, rfl, rfl, hra, sz, ?_⟩⟩
        obtain ⟨xs', e1, e2⟩ := fin (_ / 2048 % 1009)
        exact ⟨same_upd s2 nra, _, _, _, xs', rfl, (mod _).1, (mod _).2, e1, e2⟩
    · rintro σ H' ⟨s2, r, st, v5, xs, rfl, h0, h1, hra, hl⟩
      exact ⟨_, rfl, k ra H' xs nra s2 hra (by omega)⟩
end RB
end

section
set_option maxRecDepth 100000
set_option maxHeartbeats 4000000
/-! the law's numbers -/
namespace RB
open PySem PySem.Spec PyProof.Rows L2
variable {P : Program} {w : World} {K : PySem.W.Frag} {mg : Str → Option Value} {base : Heap}
theorem cut_to {xs : List Int} {k : Nat} : cutV (xs.map V.int) none (some (k : Int)) = (xs.take k).map V.int := by
  unfold cutV
  rw [HT.sIx_none, HT.sIx_nat, List.drop_zero, Nat.sub_zero, List.map_take]
  by_cases h : k ≤ (xs.map V.int).length
  · rw [Nat.min_eq_left h]
  · rw [Nat.min_eq_right (by omega), List.take_length, List.take_of_length_le (by omega)]
theorem cut_toS {xs : List Str} {k : Nat} : cutV (xs.map V.str) none (some (k : Int)) = (xs.take k).map V.str := by
  unfold cutV
  rw [HT.sIx_none, HT.sIx_nat, List.drop_zero, Nat.sub_zero, List.map_take]
  by_cases h : k ≤ (xs.map V.str).length
  · rw [Nat.min_eq_left h]
  · rw [Nat.min_eq_right (by omega), List.take_length, List.take_of_length_le (by omega)]
def spNumbers (K : PySem.W.Frag) : Sp := fun vs H Q _ => ∃ (sa : Addr) (ns : List Int), vs = [.ref sa, .int 110] ∧ SqL K H sa (ns.map V.int) ∧ ∀ a H' (xs : List Int), Same H H' → H' a = some (.lst (xs.map V.int)) → xs.length = 110 → Q (.ref a) H'
theorem sc_law_numbers : FnScope ["_law_script", "_law_many", "_law_cells", "_law_each", "_law_numbers_here", "_law_cell", "_law_number"] ["_law_script", "_law_many"] d_law_numbers.scope := ⟨rfl, rfl, rfl, by decide +kernel, rfl, by decide +kernel, by decide +kernel⟩
theorem ok_law_numbers (T : Txt K mg) : Kept P w K mg base 2 (He.ga K "_law_numbers") ["_law_script", "_law_many"] (spNumbers K) := by
  refine keep_of (d := d_law_numbers) T.d_law_numbers sc_law_numbers (fun _ _ _ _ _ _ us hl => match us, hl with | [_, _], _ => rfl) (fun vs H Q E h => ?_) (fun cd A outer s H vs Q E hr h => ?_)
  · obtain ⟨sa, ns, rfl, _⟩ := h
    rfl
  · obtain ⟨sa, ns, rfl, hS, k⟩ := h
    have nd := sc_law_numbers.nd
    refine ⟨_, pss_cons (ps_set (i := 2) nd rfl (Or.inl rfl) (pe_slice sl_list (pv 0) po_none (po_some pe_int)))
      (pss_cons (ps_set (i := 3) nd rfl (Or.inl rfl) (pe_op op_add pe_int (pe_op op_fdiv (pv 1) (pe_max2 T.f_max pe_int (pe_len K T.f_len (pv 2))))))
      (pss_cons (ps_set (i := 4) nd rfl (Or.inl rfl) (pe_lst pa_nil))
      (pss_cons (ps_for PassesOwn.never rfl (pi_list (pv 2)) (pg_name (i := 5) nd rfl (Or.inl rfl))
        (pss_one (ps_for PassesOwn.never rfl (pi_list (pe_f (ok_law_row T) hr (Nat.le_refl _) rfl T.g_law_row (pa_cons (pv 5) (pa_cons (pv 3) pa_nil)))) (pg_name (i := 6) nd rfl (Or.inl rfl))
          (pss_one (ps_app K (pv 4) (pv 6))))))
      (pss_cons (ps_while PassesOwn.never (pt_cmpR op_lt (pe_len K T.f_len (pv 4)) (pv 1) (nomark _)) (pss_one (ps_app K (pv 4) pe_int)))
      (pss_one (ps_ret (pe_slice sl_list (pv 4) po_none (po_some (pv 1))))))))), ?_⟩
    refine ⟨_, rfl, 63, rfl, sa, _, rfl, hS, fun ca nca => ?_⟩
    rw [show cutV (ns.map V.int) none (some 63) = (ns.take 63).map V.int from cut_to (k := 63)]
    have cl : (ns.take 63).length ≤ 63 := by rw [List.length_take]; omega
    generalize ns.take 63 = cs at cl
    have s1 : Same H (upd H ca (.lst (cs.map V.int))) := same_new nca
    have hca : upd H ca (.lst (cs.map V.int)) ca = some (.lst (cs.map V.int)) := upd_same
    refine ⟨_, rfl, _, rfl, ca, _, rfl, .inl (SqL.of hca), 1, _, rfl, _, _, rfl, rfl, ?_, _, _, rfl, rfl, ?_⟩
    · rw [List.length_map]
      constructor <;> split <;> omega
    have hj : (1 : Int) ≤ (if ((cs.map V.int).length : Int) > 1 then ((cs.map V.int).length : Int) else 1) := by split <;> omega
    generalize (if ((cs.map V.int).length : Int) > 1 then ((cs.map V.int).length : Int) else 1) = j at hj
    have e1 : (0 : Int) ≤ 110 / j := Int.ediv_nonneg (by decide) (by omega)
    have e2 : (110 : Int) / j ≤ 110 := Int.ediv_le_self _ (by decide)
    refine ⟨Nat.zero_le _, fun na nna => ?_⟩
    have s2 := Same.trans s1 (same_new (o := .lst []) nna)
    have nna' : H na = none := Same.free s1 nna
    refine ⟨_, rfl, ca, rfl, ⟨_, SqL.of (same_new nna _ _ hca)⟩, ?_⟩
    have nac : ca ≠ na := ne_of_none hca nna
    have hca2 := same_new (o := .lst []) nna _ _ hca
    refine for_list (K := K) (a := ca) (xs := cs.map V.int) (fun n σ H' => Same H H' ∧ ∃ (v5 v6 : Option V) (xs : List Int), σ = [some (.ref sa), some (.int 110), some (.ref ca), some (.int (1 + 110 / j)), some (.ref na), v5, v6] ∧ H' ca = some (.lst (cs.map V.int)) ∧ H' na = some (.lst (xs.map V.int)) ∧ xs.length ≤ n * 200)
      ⟨s2, _, _, [], rfl, hca2, upd_same, Nat.zero_le _⟩ (fun n σ H' _ h => by obtain ⟨_, _, _, _, _, h, _⟩ := h; exact SqL.of h) ?_ ?_
    · rintro n x σ H' hx ⟨s3, v5, v6, xs, rfl, hc, hn, hl⟩
      have hnl : n < cs.length := by have := (List.getElem?_eq_some_iff.mp hx).1; rw [List.length_map] at this; exact this
      rw [List.getElem?_map] at hx
      obtain ⟨cv, hcv, rfl⟩ := Option.map_eq_some_iff.mp hx
      refine ⟨_, rfl, _, rfl, cv, _, rfl, by omega, by omega, fun ra H2 zs nra s4 hra hz => ?_⟩
      have ne : ra ≠ na := (ne_of_none hn nra).symm
      have nec : ra ≠ ca := (ne_of_none hc nra).symm
      refine ⟨ra, rfl, ⟨_, SqL.of hra⟩, ?_⟩
      refine for_list (K := K) (a := ra) (xs := zs.map V.int) (fun m σ H' => Same H H' ∧ H' ra = some (.lst (zs.map V.int)) ∧ ∃ (v6 : Option V) (xs : List Int), σ = [some (.ref sa), some (.int 110), some (.ref ca), some (.int (1 + 110 / j)), some (.ref na), some (.int cv), v6] ∧ H' ca = some (.lst (cs.map V.int)) ∧ H' na = some (.lst (xs.map V.int)) ∧ xs.length ≤ n * 200 + m)
        ⟨Same.trans s3 s4, hra, _, xs, rfl, s4 _ _ hc, s4 _ _ hn, by omega⟩ (fun m σ H' _ h => SqL.of h.2.1) ?_ ?_
      · rintro m y σ H3 hy ⟨s5, hra, v6, xs, rfl, hc, hn, hl⟩
        have hm : m < zs.length := by have := (List.getElem?_eq_some_iff.mp hy).1; rw [List.length_map] at this; exact this
        rw [List.getElem?_map] at hy
        obtain ⟨yv, hyv, rfl⟩ := Option.map_eq_some_iff.mp hy
        refine ⟨_, rfl, tyL hn, _, rfl, na, _, _, rfl, rfl, hn, smaller (by rw [List.length_map]; omega), same_upd s5 nna', ?_, _, xs ++ [yv], rfl, ?_, ?_, ?_⟩
        · rw [upd_ne ne]; exact hra
        · rw [upd_ne nac]; exact hc
        · rw [upd_same, List.map_append]; rfl
        · rw [List.length_append]; simp; omega
      · rintro σ H3 ⟨s5, hra, v6, xs, rfl, hc, hn, hl⟩
        rw [List.length_map] at hl
        exact ⟨s5, _, _, xs, rfl, hc, hn, by omega⟩
    · rintro σ H' ⟨s3, v5, v6, xs, rfl, hc, hn, hl⟩
      have hl2 : xs.length ≤ 12600 := by rw [List.length_map] at hl; omega
      refine ⟨fun m σ H' => Same H H' ∧ ∃ xs : List Int, σ = [some (.ref sa), some (.int 110), some (.ref ca), some (.int (1 + 110 / j)), some (.ref na), v5, v6] ∧ H' na = some (.lst (xs.map V.int)) ∧ xs.length ≤ 12600 ∧ m = 110 - xs.length, ⟨_, s3, xs, rfl, hn, hl2, rfl⟩, ?_⟩
      rintro m σ H2 ⟨s4, xs, rfl, hn, hl, rfl⟩
      refine ⟨_, rfl, na, _, rfl, .inl (SqL.of hn), _, rfl, _, _, rfl, rfl, _, rfl, iteD (fun hlt => ?_) (fun hlt => ?_)⟩
      · rw [List.length_map] at hlt
        refine ⟨fun σ' H' => ∃ m', m' < 110 - xs.length ∧ _, fun _ _ h => h, _, rfl, tyL hn, na, _, _, rfl, rfl, hn, smaller (by rw [List.length_map]; omega), 110 - (xs ++ [(0 : Int)]).length, ?_, same_upd s4 nna', xs ++ [0], rfl, ?_, ?_, rfl⟩
        · rw [List.length_append]; simp; omega
        · rw [upd_same, List.map_append]; rfl
        · rw [List.length_append]; simp; omega
      · rw [List.length_map] at hlt
        refine ⟨_, rfl, _, rfl, 110, rfl, na, _, rfl, SqL.of hn, fun a na' => ?_⟩
        rw [show cutV (xs.map V.int) none (some 110) = (xs.take 110).map V.int from cut_to (k := 110)]
        exact k a _ _ (same_upd s4 (Same.free s4 na')) upd_same (by rw [List.length_take]; omega)
end RB
end

section
set_option maxRecDepth 100000
set_option maxHeartbeats 4000000
/-! the law's log -/
namespace RB
open PySem PySem.Spec PyProof.Rows L2
variable {P : Program} {w : World} {K : PySem.W.Frag} {mg : Str → Option Value} {base : Heap}
theorem at_int {xs : List Int} {i : Int} (h0 : 0 ≤ i) (h1 : i < xs.length) : ∃ v, atI (xs.map V.int) i = some (.int v) := by
  have e : i = ((i.toNat : Nat) : Int) := by omega
  refine ⟨xs.getD i.toNat 0, ?_⟩
  rw [e]
  exact atI_nat (map_getD (by omega))
theorem at_getD {xs : List Int} {i : Int} (h0 : 0 ≤ i) (h1 : i < xs.length) : atI (xs.map V.int) i = some (.int (xs.getD i.toNat 0)) := by
  have e : atI (xs.map V.int) ((i.toNat : Nat) : Int) = some (.int (xs.getD i.toNat 0)) := atI_nat (map_getD (by omega))
  rw [show ((i.toNat : Nat) : Int) = i by omega] at e
  exact e
def five : List Str := ["rises", "falls", "stays", "rises", "falls"]
theorem five_in : ∀ s ∈ five, s ∈ driftNames := by decide +kernel
theorem at_str {xs : List Str} {i : Int} (h0 : 0 ≤ i) (h1 : i < xs.length) : ∃ s ∈ xs, atI (xs.map V.str) i = some (.str s) := by
  have e : i = ((i.toNat : Nat) : Int) := by omega
  have hi : i.toNat < xs.length := by omega
  have h2 : atI (xs.map V.str) ((i.toNat : Nat) : Int) = some (.str xs[i.toNat]) := atI_nat (by rw [List.getElem?_map, List.getElem?_eq_getElem hi]; rfl)
  rw [← e] at h2
  exact ⟨xs[i.toNat], List.getElem_mem hi, h2⟩
theorem at_ref {H : Hp} {α : Type} {f : α → List V} {xs : List α} {vs : List V} (r : Refs H f xs vs) {i : Int} (h0 : 0 ≤ i) (h1 : i < xs.length) : ∃ x ∈ xs, ∃ a, atI vs i = some (.ref a) ∧ H a = some (.tup (f x)) := by
  have e : i = ((i.toNat : Nat) : Int) := by omega
  have hi : i.toNat < xs.length := by omega
  obtain ⟨a, h2, h3⟩ := r.get (List.getElem?_eq_getElem hi)
  refine ⟨_, List.getElem_mem hi, a, ?_, h3⟩
  rw [e]
  exact atI_nat h2
theorem emod_in {x n : Int} (h : 0 < n) : 0 ≤ x % n ∧ x % n < n := ⟨Int.emod_nonneg _ (by omega), Int.emod_lt_of_pos _ h⟩
def spLawLog (K : PySem.W.Frag) : Sp := fun vs H Q _ => ∃ (na za : Addr) (xs : List Int) (a e : Int), vs = [.ref na, .int 0, .ref za] ∧ H na = some (.lst (xs.map V.int)) ∧ xs.length = 110 ∧ H za = some (.tup [.int a, .int 2, .int 2, .int e]) ∧ 1 ≤ a ∧ a ≤ 4 ∧ 0 ≤ e ∧ e ≤ 9 ∧
  ∀ t H' g, Same H H' → LogT H' t g → g.Ok → Q (.ref t) H'
theorem sc_law_log : FnScope ["_law_numbers_here", "_law_at", "_law_sizes", "_law_items", "_law_judges", "_law_k", "_law_grades", "_law_events", "_law_first", "_law_second", "_law_third", "_law_judge", "_law_j"] ["_law_numbers_here", "_law_at", "_law_sizes"] d_law_log.scope := ⟨rfl, rfl, rfl, by decide +kernel, rfl, by decide +kernel, by decide +kernel⟩
theorem ok_law_log (T : Txt K mg) : Kept P w K mg base 1 (He.ga K "_law_log") ["_law_numbers_here", "_law_at", "_law_sizes"] (spLawLog K) := by
  refine keep_of (d := d_law_log) T.d_law_log sc_law_log (fun _ _ _ _ _ _ us hl => match us, hl with | [_, _, _], _ => rfl) (fun vs H Q E h => ?_) (fun cd A outer s H vs Q E hr h => ?_)
  · obtain ⟨na, za, xs, a, e, rfl, _⟩ := h
    rfl
  · obtain ⟨na, za, xs, a, e, rfl, hna, h110, hza, a1, a4, e0, e9, k⟩ := h
    have nd := sc_law_log.nd
    refine ⟨_, pss_cons (ps_set (i := 3) nd rfl (Or.inl rfl) (pe_slice sl_list (pe_lst (pa_cons pe_str (pa_cons pe_str (pa_cons pe_str (pa_cons pe_str (pa_cons pe_str pa_nil)))))) po_none (po_some (pe_op op_add pe_int (pe_op op_mod (pe_int_ T.f_int (pe_il K (pv 0) (pv 1))) (pe_it K (pv 2) pe_int))))))
      (pss_cons (ps_set (i := 4) nd rfl (Or.inl rfl) (pe_lst pa_nil))
      (pss_cons (ps_for PassesOwn.never rfl (pi_range1 rfl T.f_range (pa_cons (pe_op op_add pe_int (pe_op op_mod (pe_int_ T.f_int (pe_il K (pv 0) (pe_op op_add (pv 1) pe_int))) (pe_it K (pv 2) pe_int))) pa_nil)) (pg_name (i := 5) nd rfl (Or.inr rfl))
        (pss_one (ps_app K (pv 4) (pe_tup (pa_cons (pe_il K (pe_lst (pa_cons pe_str (pa_cons pe_str (pa_cons pe_str (pa_cons pe_str pa_nil))))) (pv 5)) (pa_cons (pe_il K (pe_lst (pa_cons pe_str (pa_cons pe_str (pa_cons pe_str (pa_cons pe_str (pa_cons pe_str pa_nil)))))) (pe_op op_mod (pe_int_ T.f_int (pe_il K (pv 0) (pe_op op_add (pe_op op_add (pv 1) pe_int) (pv 5)))) pe_int)) pa_nil))))))
      (pss_cons (ps_set (i := 6) nd rfl (Or.inl rfl) (pe_op op_add pe_int (pe_op op_mod (pe_op op_fdiv (pe_int_ T.f_int (pe_il K (pv 0) (pe_op op_add (pv 1) pe_int))) pe_int) (pe_it K (pv 2) pe_int))))
      (pss_cons (ps_set (i := 7) nd rfl (Or.inl rfl) (pe_lst pa_nil))
      (pss_cons (ps_for PassesOwn.never rfl (pi_range1 rfl T.f_range (pa_cons (pe_op op_mod (pe_int_ T.f_int (pe_il K (pv 0) (pe_op op_add (pv 1) pe_int))) (pe_op op_add (pe_it K (pv 2) pe_int) pe_int)) pa_nil)) (pg_name (i := 5) nd rfl (Or.inr rfl))
        (pss_cons (ps_asg (pe_lc (own := [("_law_j", 12)]) (g := gName 12) (tt := tYes) rfl nd (pi_range1 rfl T.f_range (pa_cons pe_int pa_nil)) (blkOk_by (own := [("_law_j", 12)]) (N := ["_law_numbers_here", "_law_at", "_law_sizes", "_law_items", "_law_judges", "_law_k", "_law_grades", "_law_events", "_law_first", "_law_second", "_law_third", "_law_judge", "_law_j"]) (sc := d_law_log.scope) (by decide +kernel))
            (fun _ _ _ _ _ => pg_name (i := 12) nd rfl (Or.inl rfl)) (fun _ _ _ _ _ => pts_nil) (fun _ _ _ _ _ => pe_int_ T.f_int (pe_il K (pv 0) (pe_op op_add (pe_op op_add (pe_op op_add (pv 1) pe_int) (pe_op op_mul pe_int (pv 5))) (pv 12)))))
          (pg_unl rfl (pgs_cons (pg_name (i := 8) nd rfl (Or.inl rfl)) (pgs_cons (pg_name (i := 9) nd rfl (Or.inl rfl)) (pgs_cons (pg_name (i := 10) nd rfl (Or.inl rfl)) pgs_nil)))))
        (pss_cons (ps_set (i := 11) nd rfl (Or.inl rfl) (pe_it K (pe_il K (pv 4) (pe_op op_mod (pe_int_ T.f_int (pv 8)) (pe_len K T.f_len (pv 4)))) pe_int))
        (pss_one (ps_if (pt_cmpR op_eq (pe_op op_mod (pe_int_ T.f_int (pv 10)) pe_int) pe_int (nomark _))
          (pss_one (ps_app K (pv 7) (pe_tup (pa_cons pe_str (pa_cons (pv 11) pa_nil)))))
          (pss_one (ps_app K (pv 7) (pe_tup (pa_cons pe_str (pa_cons (pv 11) (pa_cons (pe_il K (pv 3) (pe_op op_mod (pe_int_ T.f_int (pv 9)) (pe_len K T.f_len (pv 3)))) (pa_cons (pe_op op_mod (pe_op op_fdiv (pe_int_ T.f_int (pv 10)) pe_int) (pe_op op_add (pv 6) pe_int)) pa_nil))))))))))))
      (pss_one (ps_ret (pe_tup (pa_cons (pv 3) (pa_cons (pv 6) (pa_cons (pv 4) (pa_cons (pv 7) pa_nil)))))))))))), ?_⟩
    have rd : ∀ i : Int, 0 ≤ i → i < 110 → ∃ v, atI (xs.map V.int) i = some (.int v) := fun i h0 h1 => at_int h0 (by omega)
    -- items
    obtain ⟨v0, r0⟩ := rd 0 (by decide) (by decide)
    obtain ⟨v1, r1⟩ := rd (0 + 1) (by decide) (by decide)
    obtain ⟨v6, r6⟩ := rd (0 + 6) (by decide) (by decide)
    refine ⟨by show 5 ≤ sizeLine; exact small (by omega), fun la nla => ?_⟩
    have s1 : Same H (upd H la (.lst (itemNames.map V.str))) := same_new nla
    have m0 := emod_in (x := v0) (n := a) (by omega)
    refine ⟨_, rfl, _, rfl, _, _, _, _, rfl, rfl, SqL.of (s1 _ _ hna), r0, .inl ⟨_, rfl, _, rfl, _, _, _, _, rfl, rfl, SqT.of (s1 _ _ hza), rfl, _, _, rfl, rfl, (by omega), _, _, rfl, rfl, _, rfl, la, _, rfl, SqL.of upd_same, fun ia nia => ?_⟩⟩
    have eL : ((fun i j => i + j : Int → Int → Int) 1 (v0 % a)) = (((1 + v0 % a).toNat : Nat) : Int) := by show 1 + v0 % a = _; omega
    have hL : 1 ≤ (1 + v0 % a).toNat ∧ (1 + v0 % a).toNat ≤ 4 := by omega
    have eC : cutV (itemNames.map V.str) none (some (1 + v0 % a)) = (itemNames.take (1 + v0 % a).toNat).map V.str := by
      rw [show (1 + v0 % a) = (((1 + v0 % a).toNat : Nat) : Int) by omega]
      exact cut_toS
    show gName 3 _ _ (upd (upd H la (.lst (itemNames.map V.str))) ia (.lst (cutV (itemNames.map V.str) none (some (1 + v0 % a))))) _
    rw [eC]
    generalize (1 + v0 % a).toNat = L at hL
    have s2 := Same.trans s1 (same_new (o := .lst ((itemNames.take L).map V.str)) nia)
    have hia : upd (upd H la (.lst (itemNames.map V.str))) ia (.lst ((itemNames.take L).map V.str)) ia = some (.lst ((itemNames.take L).map V.str)) := upd_same
    show tSeq _ _ _ _ (upd (upd H la (.lst (itemNames.map V.str))) ia (.lst ((itemNames.take L).map V.str)))
    generalize upd (upd H la (.lst (itemNames.map V.str))) ia (.lst ((itemNames.take L).map V.str)) = H2 at s2 hia
    clear eL eC nia nla s1
    have iln : (itemNames.take L).length = L := by rw [List.length_take]; show min L 5 = L; omega
    have ind : (itemNames.take L).Nodup := (List.take_sublist ..).nodup (by decide +kernel)
    have inm : ∀ i ∈ itemNames.take L, i ∈ itemNames := fun i hi => List.mem_of_mem_take hi
    generalize itemNames.take L = its at hia iln ind inm
    -- judges
    refine ⟨Nat.zero_le _, fun ja nja => ?_⟩
    have nja' : H ja = none := Same.free s2 nja
    have nej : ia ≠ ja := ne_of_none hia nja
    have s3 := Same.trans s2 (same_new (o := .lst []) nja)
    have m1 := emod_in (x := v1) (n := 2) (by decide)
    refine ⟨_, rfl, _, rfl, _, _, rfl, rfl, _, _, _, _, rfl, rfl, SqL.of (s3 _ _ hna), r1, .inl ⟨_, rfl, _, rfl, _, _, _, _, rfl, rfl, SqT.of (s3 _ _ hza), rfl, _, _, rfl, rfl, (by show (0 : Int) < 2; decide), _, _, rfl, rfl, _, rfl, by omega, by omega, ?_⟩⟩
    refine for_range (fun n σ H' => Same H H' ∧ (∃ v5, σ = [some (.ref na), some (.int 0), some (.ref za), some (.ref ia), some (.ref ja), v5, none, none, none, none, none, none, none]) ∧ H' ia = some (.lst (its.map V.str)) ∧ ∃ ps js, H' ja = some (.lst js) ∧ Refs H' jv ps js ∧ ps.map (·.1) = judgeNames.take n ∧ (∀ p ∈ ps, p.2 ∈ driftNames) ∧ n ≤ 2)
      ⟨s3, ⟨_, rfl⟩, (same_new nja) _ _ hia, [], [], upd_same, .nil, rfl, fun _ h => (by cases h), by omega⟩ ?_ ?_
    · rintro n σ H3 hn ⟨s4, ⟨v5, rfl⟩, hia3, ps, js, hja, rj, hnm, hdr, n2⟩
      have n1 : n < 2 := by omega
      obtain ⟨nm, en, et⟩ : ∃ nm : Str, atI ((["ann", "bo", "c7", "x"] : List Str).map V.str) (0 + (n : Int)) = some (.str nm) ∧ judgeNames.take (n + 1) = judgeNames.take n ++ [nm] := by
        match n, n1 with
        | 0, _ => exact ⟨"ann", rfl, rfl⟩
        | 1, _ => exact ⟨"bo", rfl, rfl⟩
      obtain ⟨vk, rk⟩ := rd (0 + 2 + (0 + (n : Int))) (by omega) (by omega)
      have m5 := emod_in (x := vk) (n := 5) (by decide)
      obtain ⟨dr, dr1, dr2⟩ := at_str (xs := five) (i := vk % 5) m5.1 m5.2
      refine ⟨_, rfl, tyL hja, by show 4 ≤ sizeLine; exact small (by omega), fun l1 nl1 => ?_⟩
      have t1 : Same H3 (upd H3 l1 (.lst ((["ann", "bo", "c7", "x"] : List Str).map V.str))) := same_new nl1
      refine ⟨_, rfl, _, _, _, _, rfl, rfl, SqL.of upd_same, en, by show 5 ≤ sizeLine; exact small (by omega), fun l2 nl2 => ?_⟩
      have t2 := Same.trans t1 (same_new (o := .lst (five.map V.str)) nl2)
      refine ⟨_, rfl, _, rfl, _, _, rfl, rfl, _, rfl, _, _, rfl, rfl, _, _, _, _, rfl, rfl, SqL.of (t2 _ _ (s4 _ _ hna)), rk, .inl ⟨_, rfl, _, _, rfl, rfl, (by show (0 : Int) < 5; decide), _, _, _, _, rfl, rfl, SqL.of upd_same, dr2, by show 2 ≤ sizeLine; exact small (by omega), fun tt ntt => ?_⟩⟩
      have t3 := Same.trans t2 (same_new (o := .tup [.str nm, .str dr]) ntt)
      have hja3 := t3 _ _ hja
      have htt : upd (upd (upd H3 l1 (.lst ((["ann", "bo", "c7", "x"] : List Str).map V.str))) l2 (.lst (five.map V.str))) tt (.tup [.str nm, .str dr]) tt = some (.tup [.str nm, .str dr]) := upd_same
      have jl : js.length ≤ 2 := by
        have := congrArg List.length hnm
        rw [List.length_map, rj.len, List.length_take] at this
        omega
      refine ⟨ja, _, _, rfl, rfl, hja3, smaller (by omega), same_upd (Same.trans s4 t3) nja', ⟨_, rfl⟩, ?_, ps ++ [(nm, dr)], js ++ [.ref tt], upd_same, ?_, ?_, fun p hp => ?_, by omega⟩
      · rw [upd_ne nej]
        exact t3 _ _ hia3
      · have kp : ∀ {b : Addr} {zs : List V}, upd (upd (upd H3 l1 (.lst ((["ann", "bo", "c7", "x"] : List Str).map V.str))) l2 (.lst (five.map V.str))) tt (.tup [.str nm, .str dr]) b = some (.tup zs) → upd (upd (upd (upd H3 l1 (.lst ((["ann", "bo", "c7", "x"] : List Str).map V.str))) l2 (.lst (five.map V.str))) tt (.tup [.str nm, .str dr])) ja (.lst (js ++ [.ref tt])) b = some (.tup zs) := fun {b zs} q => by
          rw [upd_ne (fun y => by rw [y, hja3] at q; cases q)]
          exact q
        exact Refs.snoc (Paired.mapP rj fun x v ⟨a, e, q⟩ => ⟨a, e, kp (t3 _ _ q)⟩) (kp htt)
      · rw [List.map_append, hnm, et]; rfl
      · rcases List.mem_append.mp hp with m | m
        · exact hdr p m
        · rw [List.mem_singleton.mp m]; exact five_in _ dr1
    rintro σ H3 ⟨s4, ⟨v5, rfl⟩, hia3, ps, js, hja, rj, hnm, hdr, n2⟩
    have jnd : (ps.map (·.1)).Nodup := by rw [hnm]; exact (List.take_sublist ..).nodup (by decide +kernel)
    have jnm : ∀ j ∈ ps.map (·.1), j ∈ judgeNames := fun j hj => by rw [hnm] at hj; exact List.mem_of_mem_take hj
    have jlen : 1 ≤ ps.length ∧ ps.length ≤ 2 := by
      have := congrArg List.length hnm
      rw [List.length_map, List.length_take] at this
      have e2 : judgeNames.length = 2 := rfl
      omega
    clear hnm n2 nja s3
    -- grades
    refine ⟨_, rfl, _, rfl, _, _, rfl, rfl, _, _, _, _, rfl, rfl, SqL.of (s4 _ _ hna), r1, .inl ⟨_, rfl, _, _, rfl, rfl, ⟨by decide, by decide⟩, _, rfl, _, _, _, _, rfl, rfl, SqT.of (s4 _ _ hza), rfl, _, _, rfl, rfl, (by show (0 : Int) < 2; decide), _, _, rfl, rfl, ?_⟩⟩
    have m8 := emod_in (x := v1 / 8) (n := 2) (by decide)
    have hg : 1 ≤ 1 + v1 / 8 % 2 ∧ 1 + v1 / 8 % 2 ≤ 2 := by omega
    show tSeq _ _ _ [some (.ref na), some (.int 0), some (.ref za), some (.ref ia), some (.ref ja), v5, some (.int (1 + v1 / 8 % 2)), none, none, none, none, none, none] H3
    generalize 1 + v1 / 8 % 2 = gr at hg
    -- events
    refine ⟨Nat.zero_le _, fun ea nea => ?_⟩
    have nea' : H ea = none := Same.free s4 nea
    have iae : ia ≠ ea := ne_of_none hia3 nea
    have jae : ja ≠ ea := ne_of_none hja nea
    have u1 : Same H3 (upd H3 ea (.lst [])) := same_new nea
    have s5 := Same.trans s4 u1
    have m6 := emod_in (x := v6) (n := e + 1) (by omega)
    refine ⟨_, rfl, _, rfl, _, _, rfl, rfl, _, _, _, _, rfl, rfl, SqL.of (s5 _ _ hna), r6, .inl ⟨_, rfl, _, rfl, _, _, _, _, rfl, rfl, SqT.of (s5 _ _ hza), rfl, _, _, rfl, rfl, _, _, rfl, rfl, (by show (0 : Int) < e + 1; omega), _, rfl, by omega, by omega, ?_⟩⟩
    refine for_range (fun n σ H' => Same H H' ∧ (∃ v5 v8 v9 v10 v11, σ = [some (.ref na), some (.int 0), some (.ref za), some (.ref ia), some (.ref ja), v5, some (.int gr), some (.ref ea), v8, v9, v10, v11, none]) ∧ H' ia = some (.lst (its.map V.str)) ∧ H' ja = some (.lst js) ∧ Refs H' jv ps js ∧
      ∃ evs es, H' ea = some (.lst es) ∧ Refs H' Ev.tv evs es ∧ evs.length ≤ n ∧ ∀ x ∈ evs, (Lg.mk its gr ps []).EvOk x) ⟨s5, ⟨_, _, _, _, _, rfl⟩, u1 _ _ hia3, u1 _ _ hja, rj.same u1, [], [], upd_same, .nil, Nat.zero_le _, fun _ h => (by cases h)⟩ ?_ ?_
    · rintro n σ H4 hn ⟨s6, ⟨v5, v8, v9, v10, v11, rfl⟩, hia4, hja4, rj4, evs, es, hea, re, hl, hok⟩
      have n9 : (n : Int) < 9 := by omega
      refine ⟨3, rfl, by decide, by decide, fun D nD => ?_⟩
      refine lc_val (n := 3) walk_range nD (small (by decide)) (fun _ => true) (fun i => .int (xs.getD (0 + 7 + 3 * (0 + (n : Int)) + (0 + (i : Int))).toNat 0)) (fun _ _ => trivial) (fun i x H5 H6 hi s7 hY N Z b _ => ?_) fun H5 s7 e7 => ?_
      · obtain ⟨rfl, rfl⟩ := hY
        exact ⟨rfl, yesT ⟨_, rfl, _, rfl, _, _, rfl, rfl, _, rfl, _, _, rfl, rfl, .inl ⟨by decide, by decide⟩, _, _, rfl, rfl, _, rfl, _, _, rfl, rfl, _, _, _, _, rfl, rfl, SqL.of (s7 _ _ (s6 _ _ hna)), at_getD (by omega) (by omega), .inl ⟨_, rfl, b rfl _ (Same.refl _)⟩⟩⟩
      rw [filter_yes] at e7
      have t7 := Same.trans s6 s7
      generalize xs.getD (0 + 7 + 3 * (0 + (n : Int)) + (0 + ((0 : Nat) : Int))).toNat 0 = f1
      have hD : ∃ f1 f2 f3 : Int, H5 D = some (.lst [.int f1, .int f2, .int f3]) := ⟨_, _, _, e7⟩
      obtain ⟨f1, f2, f3, hD⟩ := hD
      clear e7
      have hia5 := s7 _ _ hia4
      have hja5 := s7 _ _ hja4
      have rj5 := rj4.same s7
      have hea5 := s7 _ _ hea
      have re5 := re.same s7
      have jl5 : js.length = ps.length := rj5.len.symm
      have mj := emod_in (x := f1) (n := (js.length : Int)) (by omega)
      obtain ⟨pr, prm, tj, at1, ht1⟩ := at_ref rj5 (i := f1 % (js.length : Int)) mj.1 (by omega)
      have el : es.length = evs.length := re5.len.symm
      refine ⟨D, _, rfl, SqL.of hD, rfl, _, _, rfl, _, _, rfl, _, _, rfl, rfl, ?_⟩
      refine ⟨_, rfl, _, rfl, .inl ⟨_, rfl, _, rfl, ja, _, rfl, .inl (SqL.of hja5), _, _, rfl, rfl, (by show (0 : Int) < js.length; omega), _, _, _, _, rfl, rfl, SqL.of hja5, at1, _, _, _, _, rfl, rfl, SqT.of ht1, rfl, ?_⟩⟩
      have fin : ∀ (ev : Ev) (tt : Addr), H5 tt = none → (Lg.mk its gr ps []).EvOk ev → Same H (upd (upd H5 tt (.tup ev.tv)) ea (.lst (es ++ [.ref tt]))) ∧ upd (upd H5 tt (.tup ev.tv)) ea (.lst (es ++ [.ref tt])) ia = some (.lst (its.map V.str)) ∧ upd (upd H5 tt (.tup ev.tv)) ea (.lst (es ++ [.ref tt])) ja = some (.lst js) ∧ Refs (upd (upd H5 tt (.tup ev.tv)) ea (.lst (es ++ [.ref tt]))) jv ps js ∧
          ∃ evs' es', upd (upd H5 tt (.tup ev.tv)) ea (.lst (es ++ [.ref tt])) ea = some (.lst es') ∧ Refs (upd (upd H5 tt (.tup ev.tv)) ea (.lst (es ++ [.ref tt]))) Ev.tv evs' es' ∧ evs'.length ≤ n + 1 ∧ ∀ x ∈ evs', (Lg.mk its gr ps []).EvOk x := fun ev tt ntt hev => by
        have q1 : Same H5 (upd H5 tt (.tup ev.tv)) := same_new ntt
        have hea6 := q1 _ _ hea5
        have kp : ∀ {b : Addr} {zs : List V}, upd H5 tt (.tup ev.tv) b = some (.tup zs) → upd (upd H5 tt (.tup ev.tv)) ea (.lst (es ++ [.ref tt])) b = some (.tup zs) := fun {b zs} q => by
          rw [upd_ne (fun y => by rw [y, hea6] at q; cases q)]
          exact q
        refine ⟨same_upd (Same.trans t7 q1) nea', by rw [upd_ne iae]; exact q1 _ _ hia5, by rw [upd_ne jae]; exact q1 _ _ hja5, Paired.mapP rj5 fun x v ⟨a, e, q⟩ => ⟨a, e, kp (q1 _ _ q)⟩, evs ++ [ev], es ++ [.ref tt], upd_same, ?_, ?_, fun x hx => ?_⟩
        · exact Refs.snoc (Paired.mapP re5 fun x v ⟨a, e, q⟩ => ⟨a, e, kp (q1 _ _ q)⟩) (kp upd_same)
        · rw [List.length_append]; simp; omega
        · rcases List.mem_append.mp hx with m | m
          · exact hok x m
          · rw [List.mem_singleton.mp m]; exact hev
      have prn : pr.1 ∈ (Lg.mk its gr ps []).names := List.mem_map.mpr ⟨pr, prm, rfl⟩
      refine ⟨_, rfl, .inl ⟨_, rfl, _, _, rfl, rfl, (by show (0 : Int) < 9; decide), rfl, _, rfl, iteD (fun _ => ?_) (fun _ => ?_)⟩⟩
      · refine ⟨_, rfl, tyL hea5, _, rfl, by show 2 ≤ sizeLine; exact small (by omega), fun tt ntt => ?_⟩
        obtain ⟨q1, q2, q3, q4, q5⟩ := fin (.rst pr.1) tt ntt prn
        exact ⟨ea, _, _, rfl, rfl, same_new ntt _ _ hea5, smaller (by omega), q1, ⟨_, _, _, _, _, rfl⟩, q2, q3, q4, q5⟩
      · have il := iln
        have mi := emod_in (x := f2) (n := ((its.map V.str).length : Int)) (by rw [List.length_map]; omega)
        obtain ⟨im, im1, im2⟩ := at_str (xs := its) (i := f2 % ((its.map V.str).length : Int)) mi.1 (by have := mi.2; rw [List.length_map] at this ⊢; omega)
        have mg := emod_in (x := f3 / 9) (n := gr + 1) (by omega)
        refine ⟨_, rfl, tyL hea5, _, rfl, _, rfl, _, rfl, .inl ⟨_, rfl, _, rfl, ia, _, rfl, .inl (SqL.of hia5), _, _, rfl, rfl, (by show (0 : Int) < (its.map V.str).length; rw [List.length_map]; omega), _, _, _, _, rfl, rfl, SqL.of hia5, im2, _, rfl, .inl ⟨_, rfl, _, _, rfl, rfl, ⟨by decide, by decide⟩, _, rfl, _, _, rfl, rfl, _, _, rfl, rfl, (by show (0 : Int) < gr + 1; omega), by show 4 ≤ sizeLine; exact small (by omega), fun tt ntt => ?_⟩⟩⟩
        obtain ⟨q1, q2, q3, q4, q5⟩ := fin (.ans pr.1 im (f3 / 9 % (gr + 1))) tt ntt ⟨prn, im1, mg.1, by show f3 / 9 % (gr + 1) ≤ gr; omega⟩
        exact ⟨ea, _, _, rfl, rfl, same_new ntt _ _ hea5, smaller (by omega), q1, ⟨_, _, _, _, _, rfl⟩, q2, q3, q4, q5⟩
    · rintro σ H4 ⟨s6, ⟨v5, v8, v9, v10, v11, rfl⟩, hia4, hja4, rj4, evs, es, hea, re, hl, hok⟩
      refine ⟨_, rfl, _, rfl, _, rfl, _, rfl, by show 4 ≤ sizeLine; exact small (by omega), fun t nt => ?_⟩
      have u2 : Same H4 (upd H4 t (.tup [.ref ia, .int gr, .ref ja, .ref ea])) := same_new nt
      refine k t _ ⟨its, gr, ps, evs⟩ (Same.trans s6 u2) ⟨ia, ja, ea, upd_same, u2 _ _ hia4, ⟨js, u2 _ _ hja4, rj4.same u2⟩, ⟨es, u2 _ _ hea, re.same u2⟩⟩ ⟨by show 1 ≤ its.length; omega, by show its.length ≤ 4; omega, ind, inm, hg.1, hg.2, jlen.1, jlen.2, jnd, jnm, hdr, by show evs.length ≤ 9; omega, fun x hx => ?_⟩
      have := hok x hx
      cases x <;> exact this
end RB
end

section
set_option maxRecDepth 100000
set_option maxHeartbeats 4000000
/-! the law's small defs -/
namespace RB
open PySem PySem.Spec PyProof.Rows L2
variable {P : Program} {w : World} {K : PySem.W.Frag} {mg : Str → Option Value} {base : Heap}
/-! ### _law_made -/
def spMade (K : PySem.W.Frag) : Sp := fun vs H Q _ => ∃ (t : Addr) (g : Lg), vs = [.ref t] ∧ LogT H t g ∧ g.Ok ∧ ∀ a H', Same H H' → LogAt K H' a g → Q (.ref a) H'
theorem sc_law_made : FnScope ["_law_log_here", "_law_items", "_law_grades", "_law_judges", "_law_events"] ["_law_log_here"] d_law_made.scope := ⟨rfl, rfl, rfl, by decide +kernel, rfl, by decide +kernel, by decide +kernel⟩
theorem ok_law_made (T : Txt K mg) : Kept P w K mg base 5 (He.ga K "_law_made") ["_law_log_here"] (spMade K) := by
  refine keep_of (d := d_law_made) T.d_law_made sc_law_made (fun _ _ _ _ _ _ us hl => match us, hl with | [_], _ => rfl) (fun vs H Q E h => ?_) (fun cd A outer s H vs Q E hr h => ?_)
  · obtain ⟨t, g, rfl, _⟩ := h
    rfl
  · obtain ⟨t, g, rfl, ⟨i, j, e, ht, pa⟩, ok, k⟩ := h
    have nd := sc_law_made.nd
    obtain ⟨fd, F, b, kp⟩ := (ok_log_init (P := P) (w := w) (base := base) T).ex
    refine ⟨_, pss_cons (ps_asg (pv 0) (pg_tup rfl (pgs_cons (pg_name (i := 1) nd rfl (Or.inl rfl)) (pgs_cons (pg_name (i := 2) nd rfl (Or.inl rfl)) (pgs_cons (pg_name (i := 3) nd rfl (Or.inl rfl)) (pgs_cons (pg_name (i := 4) nd rfl (Or.inl rfl)) pgs_nil))))))
      (pss_one (ps_ret (pe_make T.k_Log F hr rfl T.g_Log b .nil pass0 (pa_cons (pe_listOf K T.f_list (pv 1)) (pa_cons (pv 2) (pa_cons (pe_listOf K T.f_list (pv 3)) (pa_cons (pe_listOf K T.f_list (pv 4)) pa_nil))))))), ?_⟩
    obtain ⟨hi, ⟨js, hj, rj⟩, ⟨es, he, re⟩⟩ := pa
    refine ⟨_, rfl, t, _, rfl, SqT.of ht, rfl, _, _, rfl, _, _, rfl, _, _, rfl, _, _, rfl, rfl, ?_⟩
    refine ⟨_, rfl, i, _, rfl, .inl (SqL.of hi), fun i' ni => ⟨_, rfl, _, rfl, j, _, rfl, .inl (SqL.of (same_new ni _ _ hj)), fun j' nj => ⟨_, rfl, e, _, rfl, .inl (SqL.of (same_new nj _ _ (same_new ni _ _ he))), fun e' ne => ?_⟩⟩⟩
    have s1 : Same H (upd H i' (.lst (g.items.map V.str))) := same_new ni
    have s2 := Same.trans s1 (same_new (o := .lst js) nj)
    have s3 := Same.trans s2 (same_new (o := .lst es) ne)
    intro p dx np ndx nex
    have s4 : Same (upd (upd (upd H i' (.lst (g.items.map V.str))) j' (.lst js)) e' (.lst es)) (upd (upd (upd (upd (upd H i' (.lst (g.items.map V.str))) j' (.lst js)) e' (.lst es)) dx (.own p)) p (.ins (CL K) dx [])) := same_upd (same_new ndx) np
    have s5 := Same.trans s3 s4
    refine ⟨p, dx, i', j', e', g, rfl, upd_same, ⟨s4 _ _ (same_new ne _ _ (same_new nj _ _ upd_same)), ⟨js, s4 _ _ (same_new ne _ _ upd_same), rj.same s5⟩, ⟨es, s4 _ _ upd_same, re.same s5⟩⟩, ok, fun H' kp' hl => ⟨rfl, k p H' (fun b o q => kp' b o (s5 b o q) (ne_of_none (s3 b o q) np)) hl⟩⟩
/-! ### _law_places -/
def spPlaces : Sp := fun vs H Q _ => ∃ (t : Addr) (g : Lg), vs = [.ref t] ∧ LogT H t g ∧ g.Ok ∧ ∀ a H' (xs : List Int), Same H H' → H' a = some (.lst (xs.map V.int)) → (∀ n ∈ xs, g.IsAns n) → xs.length ≤ 9 → Q (.ref a) H'
theorem sc_law_places : FnScope ["_law_log_here", "_law_place"] ["_law_log_here"] d_law_places.scope := ⟨rfl, rfl, rfl, by decide +kernel, rfl, by decide +kernel, by decide +kernel⟩
def isAnsN (g : Lg) (n : Nat) : Bool := match g.events[n]? with | some (.ans _ _ _) => true | _ => false
theorem ok_law_places (T : Txt K mg) : Kept P w K mg base 1 (He.ga K "_law_places") ["_law_log_here"] spPlaces := by
  refine keep_of (d := d_law_places) T.d_law_places sc_law_places (fun _ _ _ _ _ _ us hl => match us, hl with | [_], _ => rfl) (fun vs H Q E h => ?_) (fun cd A outer s H vs Q E hr h => ?_)
  · obtain ⟨t, g, rfl, _⟩ := h
    rfl
  · obtain ⟨t, g, rfl, ⟨i, j, e, ht, pa⟩, ok, k⟩ := h
    have nd := sc_law_places.nd
    obtain ⟨es, he, re⟩ := pa.ev
    have el : es.length = g.events.length := re.len.symm
    have e9 := ok.e9
    refine ⟨_, pss_one (ps_ret (pe_lc (own := [("_law_place", 1)]) (g := gName 1) rfl nd (pi_range1 rfl T.f_range (pa_cons (pe_len K T.f_len (pe_it K (pv 0) pe_int)) pa_nil)) (blkOk_by (own := [("_law_place", 1)]) (N := ["_law_log_here", "_law_place"]) (sc := d_law_places.scope) (by decide +kernel))
        (fun _ _ _ _ _ => pg_name (i := 1) nd rfl (Or.inl rfl)) (fun _ _ _ _ _ => pts_one (pt_cmpR op_eq (pe_it K (pe_il K (pe_it K (pv 0) pe_int) (pv 1)) pe_int) pe_str (nomark _))) (fun _ _ _ _ _ => pv 1))), ?_⟩
    refine ⟨_, rfl, _, _, _, _, rfl, rfl, SqT.of ht, rfl, e, _, rfl, .inl (SqL.of he), _, rfl, by omega, by omega, fun D nD => ?_⟩
    refine lc_val (n := es.length) walk_range nD (small (by omega)) (isAnsN g) (fun i => .int (0 + (i : Int))) (fun _ _ => trivial) (fun n x H1 H2 hn s1 hY N Z b1 b2 => ?_) fun H1 s1 e1 => ?_
    · obtain ⟨rfl, rfl⟩ := hY
      have hev : g.events[n]? = some g.events[n] := List.getElem?_eq_getElem (by omega)
      obtain ⟨ta, ea, ha⟩ := (re.same s1).get hev
      refine ⟨rfl, _, rfl, _, _, _, _, rfl, rfl, SqT.of (s1 _ _ ht), rfl, _, rfl, _, _, _, _, rfl, rfl, SqL.of (s1 _ _ he), (by rw [Int.zero_add]; exact atI_nat ea), ?_⟩
      cases q : g.events[n] with
      | ans jn im gr =>
        rw [q] at ha hev
        have e2 : isAnsN g n = true := by unfold isAnsN; rw [hev]
        exact ⟨_, _, _, _, rfl, rfl, SqT.of ha, rfl, rfl, _, rfl, iteY rfl ⟨_, rfl, b1 e2 _ (Same.refl _)⟩⟩
      | rst jn =>
        rw [q] at ha hev
        have e2 : isAnsN g n = false := by unfold isAnsN; rw [hev]
        exact ⟨_, _, _, _, rfl, rfl, SqT.of ha, rfl, rfl, _, rfl, iteN (ns (by decide +kernel)) (b2 e2 _ (Same.refl _))⟩
    · refine k D H1 (((List.range es.length).filter (isAnsN g)).map fun (i : Nat) => 0 + (i : Int)) s1 (by rw [e1, List.map_map]; rfl) (fun n hn => ?_) ?_
      · obtain ⟨m, hm, rfl⟩ := List.mem_map.mp hn
        have h2 := (List.mem_filter.mp hm).2
        unfold isAnsN at h2
        split at h2
        · rename_i jn im gr q
          refine ⟨jn, im, gr, ?_⟩
          unfold Lg.at_
          rw [if_pos (by omega), show (0 + (m : Int)).toNat = m by omega]
          exact q
        · cases h2
      · rw [List.length_map]
        have h3 := List.length_filter_le (isAnsN g) (List.range es.length)
        rw [List.length_range] at h3
        omega
/-! ### _law_drifts -/
def spLawDr : Sp := fun vs H Q _ => ∃ (t da : Addr) (g : Lg) (dk : List Str) (df : Str → Dr), vs = [.ref t, .ref da] ∧ LogT H t g ∧ g.Ok ∧ H da = some (.dK (dS dk fun j => .str (drS (df j)))) ∧ ∀ a H', Same H H' → H' a = some (.dK (dS g.names fun j => .str (drS (drC g dk df j)))) → Q (.ref a) H'
theorem sc_law_drifts : FnScope ["_law_log_here", "_law_drifts_here", "_law_found", "_law_judge", "_law_drift"] ["_law_log_here", "_law_drifts_here"] d_law_drifts.scope := ⟨rfl, rfl, rfl, by decide +kernel, rfl, by decide +kernel, by decide +kernel⟩
theorem ok_law_drifts (T : Txt K mg) : Kept P w K mg base 1 (He.ga K "_law_drifts") ["_law_log_here", "_law_drifts_here"] spLawDr := by
  refine keep_of (d := d_law_drifts) T.d_law_drifts sc_law_drifts (fun _ _ _ _ _ _ us hl => match us, hl with | [_, _], _ => rfl) (fun vs H Q E h => ?_) (fun cd A outer s H vs Q E hr h => ?_)
  · obtain ⟨t, da, g, dk, df, rfl, _⟩ := h
    rfl
  · obtain ⟨t, da, g, dk, df, rfl, ⟨i, j, e, ht, pa⟩, ok, hda, k⟩ := h
    have nd := sc_law_drifts.nd
    have hu := hu_of hr
    obtain ⟨js, hj, rj⟩ := pa.ju
    refine ⟨_, pss_cons (ps_set (i := 2) nd rfl (Or.inl rfl) pe_dnewK)
      (pss_cons (ps_for PassesOwn.never rfl (pi_list (pe_it K (pv 0) pe_int)) (pg_tup rfl (pgs_cons (pg_name (i := 3) nd rfl (Or.inl rfl)) (pgs_cons (pg_name (i := 4) nd rfl (Or.inl rfl)) pgs_nil)))
        (pss_one (ps_dput hu (pv 2) (pv 3) (pe_dget2 hu (pv 1) (pv 3) (pv 4) ⟨rfl, rfl, rfl, rfl⟩) rfl)))
      (pss_one (ps_ret (pv 2)))), ?_⟩
    intro fa nfa
    have s1 : Same H (upd H fa (.dK [])) := same_new nfa
    have jl : js.length = g.judges.length := rj.len.symm
    have jn : g.names.length = g.judges.length := List.length_map ..
    have j2 := ok.j2
    refine ⟨_, rfl, _, _, _, _, rfl, rfl, SqT.of (s1 _ _ ht), rfl, j, rfl, ⟨_, SqL.of (s1 _ _ hj)⟩, ?_⟩
    refine for_list (K := K) (a := j) (xs := js) (fun n σ H' => Same H H' ∧ (∃ v3 v4, σ = [some (.ref t), some (.ref da), some (.ref fa), v3, v4]) ∧ H' fa = some (.dK (dS (g.names.take n) fun j => .str (drS (drC g dk df j))))) ⟨s1, ⟨_, _, rfl⟩, upd_same⟩ (fun n σ H' _ h => SqL.of (h.1 _ _ hj)) ?_ ?_
    · rintro n x σ H' hx ⟨s2, ⟨v3, v4, rfl⟩, hfa⟩
      obtain ⟨pr, tj, hpr, rfl, htj⟩ := (rj.same s2).back hx
      have prm := List.mem_of_getElem? hpr
      have hnm : g.names[n]? = some pr.1 := by unfold Lg.names; rw [List.getElem?_map, hpr]; rfl
      have hnot : pr.1 ∉ g.names.take n := by
        have hn : n < g.names.length := (List.getElem?_eq_some_iff.mp hnm).1
        have h1 := ok.jnd
        rw [← List.take_append_drop (n + 1) g.names, List.take_succ, hnm] at h1
        have h2 := (List.nodup_append.mp (List.nodup_append.mp h1).1)
        intro hm
        exact h2.2.2 _ hm _ (List.mem_singleton.mpr rfl) rfl
      have ht : g.names.take (n + 1) = g.names.take n ++ [pr.1] := by rw [List.take_succ, hnm]; rfl
      refine ⟨tj, _, rfl, SqT.of htj, rfl, _, _, rfl, _, _, rfl, rfl, _, rfl, da, rfl, .inl ⟨_, .inl (s2 _ _ hda)⟩, _, rfl, _, rfl, _, dS_ask pr.1 (.inl (s2 _ _ hda)), ?_⟩
      refine ⟨_, rfl, _, rfl, fa, _, rfl, dS_putNew _ hfa hnot (smaller (by rw [List.length_take]; exact Nat.le_trans (Nat.min_le_right _ _) (by omega))), same_upd s2 nfa, ⟨_, _, rfl⟩, ?_⟩
      rw [upd_same, ht]
      refine congrArg (fun z => some (HO.dK z)) (dG_congr fun y _ => ?_)
      by_cases c : y = pr.1
      · rw [if_pos c, c]
        exact drC_get ok prm
      · rw [if_neg c]
    · rintro σ H' ⟨s2, ⟨v3, v4, rfl⟩, hfa⟩
      rw [show js.length = g.names.length by rw [jl]; exact (List.length_map ..).symm, List.take_length] at hfa
      exact ⟨_, rfl, k fa H' s2 hfa⟩
/-! ### one before the other -/
abbrev LRows (H : Hp) (ra : Addr) (c : Cs) : Prop := Told H ra c.ps c.rw fun p v => v = .int (c.rw p).lot
def spIsOne : Sp := fun vs H Q _ => ∃ (ra : Addr) (c : Cs) (a b : Int), vs = [.ref ra, .int a, .int b] ∧ LRows H ra c ∧ a ∈ c.ps ∧ b ∈ c.ps ∧ Q (.bl (c.one a b)) H
theorem sc_law_is_one : FnScope ["_law_rows_here", "_law_one", "_law_other"] ["_law_rows_here", "_law_one", "_law_other"] d_law_is_one.scope := ⟨rfl, rfl, rfl, by decide +kernel, rfl, by decide +kernel, by decide +kernel⟩
theorem ok_law_is_one (T : Txt K mg) : Kept P w K mg base 1 (He.ga K "_law_is_one") ["_law_rows_here", "_law_one", "_law_other"] spIsOne := by
  refine keep_of (d := d_law_is_one) T.d_law_is_one sc_law_is_one (fun _ _ _ _ _ _ us hl => match us, hl with | [_, _, _], _ => rfl) (fun vs H Q E h => ?_) (fun cd A outer s H vs Q E hr h => ?_)
  · obtain ⟨ra, c, a, b, rfl, _⟩ := h
    rfl
  · obtain ⟨ra, c, a, b, rfl, hr', ha, hb, k⟩ := h
    have hu := hu_of hr
    obtain ⟨aa, va, ga, rfl, ta⟩ := hr'.get ha
    obtain ⟨ab, vb, gb, rfl, tb⟩ := hr'.get hb
    refine ⟨_, pss_one (ps_ret (pe_and (pe_cmpR op_eq (pe_it K (pe_dget hu (pv 0) (pv 1) (fun _ _ => rfl)) pe_int) (pe_it K (pe_dget hu (pv 0) (pv 2) (fun _ _ => rfl)) pe_int) (nomark _))
      (pe_one (pe_cmpR op_eq (pe_it K (pe_dget hu (pv 0) (pv 1) (fun _ _ => rfl)) pe_int) (pe_it K (pe_dget hu (pv 0) (pv 2) (fun _ _ => rfl)) pe_int) (nomark _))))), ?_⟩
    refine ⟨_, rfl, _, rfl, ra, _, rfl, ga, _, _, _, _, rfl, rfl, SqT.of ta, rfl, _, rfl, _, rfl, ra, _, rfl, gb, _, _, _, _, rfl, rfl, SqT.of tb, rfl, rfl, _, rfl, ?_⟩
    rw [dec_s]
    unfold Cs.one at k
    refine iteB (fun c1 => ?_) (fun c1 => ?_)
    · rw [c1, Bool.true_and] at k
      refine ⟨_, rfl, _, rfl, ra, _, rfl, ga, _, _, _, _, rfl, rfl, SqT.of ta, rfl, _, rfl, _, rfl, ra, _, rfl, gb, _, _, _, _, rfl, rfl, SqT.of tb, rfl, rfl, ?_⟩
      rw [dec_i]
      exact k
    · rw [c1, Bool.false_and] at k
      exact k
end RB
end

section
set_option maxRecDepth 100000
set_option maxHeartbeats 4000000
/-! the law's order; its rows -/
namespace RB
open PySem PySem.Spec PyProof.Rows L2
variable {P : Program} {w : World} {K : PySem.W.Frag} {mg : Str → Option Value} {base : Heap}
abbrev LDr (H : Hp) (da : Addr) (c : Cs) : Prop := Rd H da (.dK (dS c.names fun j => .str (drS (c.dr j))))
def spGoes : Sp := fun vs H Q _ => ∃ (ra da : Addr) (c : Cs) (a b : Int), vs = [.ref ra, .ref da, .int a, .int b] ∧ LRows H ra c ∧ LDr H da c ∧ a ∈ c.ps ∧ b ∈ c.ps ∧ (c.rw a).judge ∈ c.names ∧ Q (.bl (c.one a b && goesD (c.dr (c.rw a).judge) a b)) H
theorem s_rf : ¬ V.str ("rises" : Str) = V.str "falls" := ns (by decide +kernel)
theorem sc_law_goes : FnScope ["_law_rows_here", "_law_drifts_here", "_law_one", "_law_other", "_law_drift"] ["_law_rows_here", "_law_drifts_here", "_law_one", "_law_other"] d_law_goes.scope := ⟨rfl, rfl, rfl, by decide +kernel, rfl, by decide +kernel, by decide +kernel⟩
theorem ok_law_goes (T : Txt K mg) : Kept P w K mg base 2 (He.ga K "_law_goes") ["_law_rows_here", "_law_drifts_here", "_law_one", "_law_other"] spGoes := by
  refine keep_of (d := d_law_goes) T.d_law_goes sc_law_goes (fun _ _ _ _ _ _ us hl => match us, hl with | [_, _, _, _], _ => rfl) (fun vs H Q E h => ?_) (fun cd A outer s H vs Q E hr h => ?_)
  · obtain ⟨ra, da, c, a, b, rfl, _⟩ := h
    rfl
  · obtain ⟨ra, da, c, a, b, rfl, hr', hd, ha, hb, hj, k⟩ := h
    have nd := sc_law_goes.nd
    have hu := hu_of hr
    obtain ⟨aa, va, ga, -, ta⟩ := hr'.get ha
    refine ⟨_, pss_cons (ps_set (i := 4) nd rfl (Or.inl rfl) (pe_dget hu (pv 1) (pe_it K (pe_dget hu (pv 0) (pv 2) (fun _ _ => rfl)) pe_int) (fun _ _ => rfl)))
      (pss_one (ps_ret (pe_and (pe_f (ok_law_is_one T) hr (Nat.le_refl _) rfl T.g_law_is_one (pa_cons (pv 0) (pa_cons (pv 2) (pa_cons (pv 3) pa_nil))))
        (pe_one (pe_or (pe_cmpR op_eq (pv 4) pe_str (nomark _)) (pe_or (pe_and (pe_cmpR op_eq (pv 4) pe_str (nomark _)) (pe_one (pe_cmpR op_le (pv 2) (pv 3) (nomark _)))) (pe_one (pe_and (pe_cmpR op_eq (pv 4) pe_str (nomark _)) (pe_one (pe_cmpR op_ge (pv 2) (pv 3) (nomark _))))))))))), ?_⟩
    refine ⟨_, rfl, _, rfl, _, rfl, ra, _, rfl, ga, _, _, _, _, rfl, rfl, SqT.of ta, rfl, da, _, rfl, dS_get hd hj, ?_⟩
    refine ⟨_, rfl, _, rfl, _, rfl, ra, c, a, b, rfl, hr', ha, hb, _, rfl, iteB (fun c1 => ?_) (fun c1 => ?_)⟩
    · rw [c1, Bool.true_and] at k
      cases e : c.dr (c.rw a).judge with
      | stays =>
        rw [e] at k
        exact ⟨_, rfl, rfl, _, rfl, iteY rfl k⟩
      | rises =>
        rw [e] at k
        exact ⟨_, rfl, rfl, _, rfl, iteN s_rs ⟨_, rfl, rfl, _, rfl, iteY rfl ⟨_, rfl, _, rfl, _, _, rfl, rfl, _, rfl, iteD (fun h => by rw [show goesD .rises a b = true from decide_eq_true h] at k; exact k) (fun h => ⟨_, rfl, rfl, _, rfl, iteN s_rf (by rw [show goesD .rises a b = false from decide_eq_false h] at k; exact k)⟩)⟩⟩⟩
      | falls =>
        rw [e] at k
        refine ⟨_, rfl, rfl, _, rfl, iteN s_fs ⟨_, rfl, rfl, _, rfl, iteN s_fr ⟨_, rfl, iteF ⟨_, rfl, rfl, _, rfl, iteY rfl ⟨_, rfl, _, rfl, _, _, rfl, rfl, k⟩⟩⟩⟩⟩
    · rw [c1, Bool.false_and] at k
      exact k
def spLAhead : Sp := fun vs H Q _ => ∃ (ra da : Addr) (c : Cs) (a b : Int), vs = [.ref ra, .ref da, .int a, .int b] ∧ LRows H ra c ∧ LDr H da c ∧ a ∈ c.ps ∧ b ∈ c.ps ∧ (c.rw a).judge ∈ c.names ∧ Q (.bl (c.one a b && c.ah a b)) H
theorem sc_law_ahead : FnScope ["_law_rows_here", "_law_drifts_here", "_law_one", "_law_other"] ["_law_rows_here", "_law_drifts_here", "_law_one", "_law_other"] d_law_ahead.scope := ⟨rfl, rfl, rfl, by decide +kernel, rfl, by decide +kernel, by decide +kernel⟩
theorem ok_law_ahead (T : Txt K mg) : Kept P w K mg base 3 (He.ga K "_law_ahead") ["_law_rows_here", "_law_drifts_here", "_law_one", "_law_other"] spLAhead := by
  refine keep_of (d := d_law_ahead) T.d_law_ahead sc_law_ahead (fun _ _ _ _ _ _ us hl => match us, hl with | [_, _, _, _], _ => rfl) (fun vs H Q E h => ?_) (fun cd A outer s H vs Q E hr h => ?_)
  · obtain ⟨ra, da, c, a, b, rfl, _⟩ := h
    rfl
  · obtain ⟨ra, da, c, a, b, rfl, hr', hd, ha, hb, hj, k⟩ := h
    have nd := sc_law_ahead.nd
    have hu := hu_of hr
    have hr1 := hr.mono (show 1 ≤ 2 by decide)
    obtain ⟨aa, va, ga, -, ta⟩ := hr'.get ha
    obtain ⟨ab, vb, gb, -, tb⟩ := hr'.get hb
    refine ⟨_, pss_one (ps_ret (pe_or (pe_f (ok_law_goes T) hr (Nat.le_refl _) rfl T.g_law_goes (pa_cons (pv 0) (pa_cons (pv 1) (pa_cons (pv 2) (pa_cons (pv 3) pa_nil)))))
      (pe_one (pe_and (pe_f (ok_law_is_one T) hr1 (Nat.le_refl _) rfl T.g_law_is_one (pa_cons (pv 0) (pa_cons (pv 2) (pa_cons (pv 3) pa_nil))))
        (pe_one (pe_cmpR op_eq (pe_it K (pe_dget hu (pv 0) (pv 2) (fun _ _ => rfl)) pe_int) (pe_it K (pe_dget hu (pv 0) (pv 3) (fun _ _ => rfl)) pe_int) (nomark _))))))), ?_⟩
    refine ⟨_, rfl, _, rfl, _, rfl, _, rfl, ra, da, c, a, b, rfl, hr', hd, ha, hb, hj, _, rfl, iteB (fun c1 => ?_) (fun c1 => ?_)⟩
    · obtain ⟨h1, h2⟩ := Bool.and_eq_true_iff.mp c1
      rw [show (c.one a b && c.ah a b) = true by unfold Cs.ah; rw [h1, h2]; rfl] at k
      exact k
    · refine ⟨_, rfl, _, rfl, _, rfl, ra, c, a, b, rfl, hr', ha, hb, _, rfl, iteB (fun c2 => ?_) (fun c2 => ?_)⟩
      · refine ⟨_, rfl, _, rfl, ra, _, rfl, ga, _, _, _, _, rfl, rfl, SqT.of ta, rfl, _, rfl, _, rfl, ra, _, rfl, gb, _, _, _, _, rfl, rfl, SqT.of tb, rfl, rfl, ?_⟩
        rw [dec_i]
        rw [c2, Bool.true_and] at c1
        rw [show (c.one a b && c.ah a b) = decide ((c.rw a).part = (c.rw b).part) by unfold Cs.ah; rw [c1, c2]; rfl] at k
        exact k
      · rw [c2, Bool.false_and] at k
        exact k
/-! ### the law's rows -/
def spLRows (K : PySem.W.Frag) : Sp := fun vs H Q _ => ∃ (t sa ra : Addr) (mvV : V) (g : Lg) (ch : Ch), vs = [.ref t, .ref sa, .ref ra, mvV] ∧ LogT H t g ∧ g.Ok ∧ H sa = some (.lst (ch.st.map V.int)) ∧ H ra = some (.lst (ch.rs.map V.int)) ∧ MvAt H mvV ch.mv ∧
  ∀ a H' (ad : Int → Addr), Same H H' → H' a = some (.dK (dI (psN g ch g.events.length) fun p => .ref (ad p))) → RowIn H' (psN g ch g.events.length) (csRw g ch) ad (fun p v => v = .int (csRw g ch p).lot) → Q (.ref a) H'
theorem sc_law_rows : FnScope ["_law_log_here", "_law_struck", "_law_resets", "_law_moves", "_law_rows_here", "_law_lots", "_law_parts", "_law_place", "_law_event", "_law_judge"] ["_law_log_here", "_law_struck", "_law_resets", "_law_moves"] d_law_rows.scope := ⟨rfl, rfl, rfl, by decide +kernel, rfl, by decide +kernel, by decide +kernel⟩
end RB
end

section
set_option maxRecDepth 100000
set_option maxHeartbeats 4000000
/-! the law's rows -/
namespace RB
open PySem PySem.Spec PyProof.Rows L2
variable {P : Program} {w : World} {K : PySem.W.Frag} {mg : Str → Option Value} {base : Heap}
/-- a counter's dict -/
def CntD (g : Lg) (hit : Nat → Bool) (n : Nat) (H : Hp) (lo : Addr) : Prop := ∃ ls : List Str, H lo = some (.dK (dS ls fun j => .int (cntN g hit n j))) ∧ (∀ j, j ∉ ls → cntN g hit n j = 0) ∧ ls.Nodup ∧ ∀ j ∈ ls, j ∈ g.names
theorem CntD.ask {g : Lg} {hit : Nat → Bool} {n : Nat} {H : Hp} {lo : Addr} (h : CntD g hit n H lo) (j : Str) : ∃ o, DGet H lo (.str j) o ∧ o.getD (.int 0) = .int (cntN g hit n j) := by
  obtain ⟨ls, h1, h2, _⟩ := h
  refine ⟨_, dS_ask j (.inl h1), ?_⟩
  by_cases c : j ∈ ls
  · rw [if_pos c]; rfl
  · rw [if_neg c, h2 j c]; rfl
theorem CntD.put {g : Lg} (ok : g.Ok) {hit : Nat → Bool} {n : Nat} {H : Hp} {lo : Addr} (h : CntD g hit n H lo) {ev : Ev} (he : g.events[n]? = some ev) (hm : ev.judge ∈ g.names) :
    ∃ H2, DPut H lo (.str ev.judge) (.int (cntN g hit n ev.judge + (if hit n = true then 1 else 0))) H2 ∧ (∃ u, H2 = upd H lo u) ∧ CntD g hit (n + 1) H2 lo ∧ ∃ f, DGet H2 lo (.str ev.judge) (some f) ∧ f = .int (cntN g hit (n + 1) ev.judge) := by
  obtain ⟨ls, h1, h2, h3, h4⟩ := h
  have jl : g.names.length = g.judges.length := List.length_map ..
  have j2 := ok.j2
  have l2 := nodup_le h3 h4
  have e1 : ∀ x, cntN g hit (n + 1) x = if x = ev.judge then cntN g hit n ev.judge + (if hit n = true then 1 else 0) else cntN g hit n x := fun x => by
    cases c : hit n with
    | true =>
      rw [cnt_hit he c]
      by_cases q : x = ev.judge
      · rw [if_pos q, if_pos q, if_pos rfl, q]
      · rw [if_neg q, if_neg q]
    | false =>
      rw [cnt_no c]
      by_cases q : x = ev.judge
      · rw [if_pos q, if_neg Bool.false_ne_true, q]; omega
      · rw [if_neg q]
  have e2 : (dS (if ev.judge ∈ ls then ls else ls ++ [ev.judge]) fun x => if x = ev.judge then V.int (cntN g hit n ev.judge + (if hit n = true then 1 else 0)) else V.int (cntN g hit n x)) = dS (if ev.judge ∈ ls then ls else ls ++ [ev.judge]) fun x => .int (cntN g hit (n + 1) x) := dG_congr fun x _ => by
    rw [e1]
    by_cases q : x = ev.judge
    · rw [if_pos q, if_pos q]
    · rw [if_neg q, if_neg q]
  have hp := dS_put ev.judge (.int (cntN g hit n ev.judge + (if hit n = true then 1 else 0))) h1 (smaller (by omega))
  rw [e2] at hp
  refine ⟨_, hp, ⟨_, rfl⟩, ⟨_, upd_same, fun j hj => ?_, put_nodup h3, fun j hj => ?_⟩, _, dS_get (.inl upd_same) (put_mem.mpr (.inr rfl)), rfl⟩
  · have n1 : ¬ (j ∈ ls ∨ j = ev.judge) := fun z => hj (put_mem.mpr z)
    rw [e1, if_neg (fun z => n1 (.inr z))]
    exact h2 j fun z => n1 (.inl z)
  · rcases put_mem.mp hj with m | rfl
    · exact h4 j m
    · exact hm
theorem CntD.other {g : Lg} {hit : Nat → Bool} {n : Nat} {H : Hp} {lo q : Addr} {u : HO} (h : CntD g hit n H lo) (ne : lo ≠ q) : CntD g hit n (upd H q u) lo := by
  obtain ⟨ls, h1, h2⟩ := h
  exact ⟨ls, by rw [upd_ne ne]; exact h1, h2⟩
theorem CntD.dk {g : Lg} {hit : Nat → Bool} {n : Nat} {H : Hp} {lo : Addr} (h : CntD g hit n H lo) : ∃ kvs, H lo = some (.dK kvs) := by
  obtain ⟨ls, h1, _⟩ := h
  exact ⟨_, h1⟩
theorem ok_law_rows (T : Txt K mg) : Kept P w K mg base 1 (He.ga K "_law_rows") ["_law_log_here", "_law_struck", "_law_resets", "_law_moves"] (spLRows K) := by
  refine keep_of (d := d_law_rows) T.d_law_rows sc_law_rows (fun _ _ _ _ _ _ us hl => match us, hl with | [_, _, _, _], _ => rfl) (fun vs H Q E h => ?_) (fun cd A outer s H vs Q E hr h => ?_)
  · obtain ⟨t, sa, ra, mvV, g, ch, rfl, _⟩ := h
    rfl
  · obtain ⟨t, sa, ra, mvV, g, ch, rfl, ⟨i, j, e, ht, pa⟩, ok, hsa, hra, hmv, k⟩ := h
    have nd := sc_law_rows.nd
    have hu := hu_of hr
    obtain ⟨es, he, re⟩ := pa.ev
    have el : es.length = g.events.length := re.len.symm
    have e9 := ok.e9
    refine ⟨_, pss_cons (ps_set (i := 4) nd rfl (Or.inl rfl) pe_dnewK)
      (pss_cons (ps_par (i := 5) (j := 6) rfl nd rfl rfl (by decide) rfl rfl (pa_cons pe_dnewK (pa_cons pe_dnewK pa_nil)) rfl)
      (pss_cons (ps_for PassesOwn.never rfl (pi_range1 rfl T.f_range (pa_cons (pe_len K T.f_len (pe_it K (pv 0) pe_int)) pa_nil)) (pg_name (i := 7) nd rfl (Or.inl rfl))
        (pss_cons (ps_set (i := 8) nd rfl (Or.inl rfl) (pe_il K (pe_it K (pv 0) pe_int) (pv 7)))
        (pss_cons (ps_set (i := 9) nd rfl (Or.inl rfl) (pe_it K (pv 8) pe_int))
        (pss_cons (ps_dput hu (pv 5) (pv 9) (pe_op op_add (pe_dget2 hu (pv 5) (pv 9) pe_int ⟨rfl, rfl, rfl, rfl⟩) (pe_int_ T.f_int (pe_cut (pe_or (pe_cmpR op_eq (pe_it K (pv 8) pe_int) pe_str (nomark _)) (pe_one (pe_in K (pv 7) (pv 2))))))) rfl)
        (pss_cons (ps_dput hu (pv 6) (pv 9) (pe_op op_add (pe_dget2 hu (pv 6) (pv 9) pe_int ⟨rfl, rfl, rfl, rfl⟩) (pe_int_ T.f_int (pe_cut (pe_or (pe_cmpR op_isN (pv 3) pe_non (nomark _)) (pe_one (pe_in K (pv 7) (pv 3))))))) rfl)
        (pss_one (ps_if (PW.pt (pw_and (pt_cmpR op_eq (pe_it K (pv 8) pe_int) pe_str (nomark _)) (pw_and1 (pt_notin K (pv 7) (pv 1)))))
          (pss_one (ps_dput hu (pv 4) (pv 7) (pe_tup (pa_cons (pv 9) (pa_cons (pe_it K (pv 8) pe_int) (pa_cons (pe_it K (pv 8) pe_int) (pa_cons (pe_dget hu (pv 5) (pv 9) (fun _ _ => rfl)) (pa_cons (pe_dget hu (pv 6) (pv 9) (fun _ _ => rfl)) pa_nil)))))) rfl)) pss_nil)))))))
      (pss_one (ps_ret (pv 4))))), ?_⟩
    intro ro nro lo nlo pa' npa
    have s1 : Same H (upd H ro (.dK [])) := same_new nro
    have nlo' := Same.free s1 nlo
    have s2 := Same.trans s1 (same_new (o := .dK []) nlo)
    have npa2 := Same.free s2 npa
    have s3 := Same.trans s2 (same_new (o := .dK []) npa)
    have rl : ro ≠ lo := ne_of_none (show upd H ro (.dK []) ro = some (.dK []) from upd_same) nlo
    have rp : ro ≠ pa' := ne_of_none (same_new nlo _ _ (show upd H ro (.dK []) ro = some (.dK []) from upd_same)) npa
    have lp : lo ≠ pa' := ne_of_none (show upd (upd H ro (.dK [])) lo (.dK []) lo = some (.dK []) from upd_same) npa
    refine ⟨_, _, rfl, ?_⟩
    refine ⟨_, rfl, _, _, _, _, rfl, rfl, SqT.of (s3 _ _ ht), rfl, e, _, rfl, .inl (SqL.of (s3 _ _ he)), _, rfl, by omega, by omega, ?_⟩
    refine for_range (fun n σ H' => Same H H' ∧ (∃ v7 v8 v9, σ = [some (.ref t), some (.ref sa), some (.ref ra), some mvV, some (.ref ro), some (.ref lo), some (.ref pa'), v7, v8, v9]) ∧ CntD g (lotHit g ch) n H' lo ∧ CntD g (parHit ch) n H' pa' ∧
      ∃ ad : Int → Addr, H' ro = some (.dK (dI (psN g ch n) fun p => .ref (ad p))) ∧ RowIn H' (psN g ch n) (csRw g ch) ad (fun p v => v = .int (csRw g ch p).lot)) ?_ ?_ ?_
    · refine ⟨s3, ⟨_, _, _, rfl⟩, ⟨[], ?_, fun _ _ => rfl, List.nodup_nil, fun _ h => (by cases h)⟩, ⟨[], upd_same, fun _ _ => rfl, List.nodup_nil, fun _ h => (by cases h)⟩, fun _ => 0, ?_, fun _ h => (by cases h)⟩
      · rw [upd_ne lp]; exact upd_same
      · rw [upd_ne rp, upd_ne rl]; exact upd_same
    · rintro n σ H1 hn ⟨s4, ⟨v7, v8, v9, rfl⟩, cl, cp, ad, hro, hri⟩
      have hn' : n < g.events.length := by omega
      have hev : g.events[n]? = some g.events[n] := List.getElem?_eq_getElem hn'
      generalize g.events[n] = ev at hev
      obtain ⟨ta, ea, hta⟩ := re.get hev
      have evj : ev.judge ∈ g.names := by
        have := ok.ev ev (List.mem_of_getElem? hev)
        cases ev with
        | ans j i k => exact this.1
        | rst j => exact this
      have at1 : atI ev.tv 1 = some (.str ev.judge) := by cases ev <;> rfl
      have at0 : atI ev.tv 0 = some (.str (if ev.isRst = true then "reset" else "answer")) := by cases ev <;> rfl
      rw [Int.zero_add]
      refine ⟨_, rfl, _, _, _, _, rfl, rfl, SqT.of (s4 _ _ ht), rfl, _, rfl, _, _, _, _, rfl, rfl, SqL.of (s4 _ _ he), atI_nat ea, ?_⟩
      refine ⟨_, rfl, _, _, _, _, rfl, rfl, SqT.of (s4 _ _ hta), at1, ?_⟩
      -- lots
      obtain ⟨o1, g1, d1⟩ := cl.ask ev.judge
      obtain ⟨kv1, k1⟩ := cl.dk
      refine ⟨_, rfl, lo, rfl, .inl ⟨_, .inl k1⟩, _, rfl, o1, g1, fun v H' => H' = H1 ∧ v = .bl (lotHit g ch n), ?_, ?_⟩
      · refine ⟨_, rfl, _, _, _, _, rfl, rfl, SqT.of (s4 _ _ hta), at0, rfl, _, rfl, ?_⟩
        cases ev with
        | rst j => exact iteY rfl ⟨rfl, by unfold lotHit; rw [hev]; rfl⟩
        | ans jn im gr =>
          refine iteN (ns (by show ("answer" : Str) ≠ "reset"; decide +kernel)) ⟨_, rfl, _, rfl, ra, _, rfl, .inl (SqL.of (s4 _ _ hra)), rfl, flat_int _, rfl, ?_⟩
          rw [inV_int]
          unfold lotHit
          rw [hev]
          simp [Ev.isRst]
      rintro v H' ⟨rfl, rfl⟩
      obtain ⟨H2, p2, ⟨u2, rfl⟩, cl2, f1, gf1, rfl⟩ := cl.put ok hev evj
      refine .inr ⟨_, rfl, ?_⟩
      rw [d1]
      refine ⟨_, _, rfl, rfl, _, rfl, _, rfl, lo, _, rfl, p2, ?_⟩
      have nloH : H lo = none := nlo'
      have npaH : H pa' = none := npa2
      have s5 : Same H (upd H' lo u2) := same_upd s4 nloH
      have cp2 := cp.other (u := u2) lp.symm
      have hro2 : upd H' lo u2 ro = _ := (upd_ne rl).trans hro
      have hri2 : RowIn (upd H' lo u2) (psN g ch n) (csRw g ch) ad (fun p v => v = .int (csRw g ch p).lot) := row_dk k1 hri
      generalize upd H' lo u2 = H2 at s5 cp2 hro2 hri2 cl2 gf1
      -- parts
      obtain ⟨o2, g2, d2⟩ := cp2.ask ev.judge
      obtain ⟨kv2, k2⟩ := cp2.dk
      refine ⟨_, rfl, pa', rfl, .inl ⟨_, .inl k2⟩, _, rfl, o2, g2, fun v H' => H' = H2 ∧ v = .bl (parHit ch n), ?_, ?_⟩
      · refine ⟨_, rfl, rfl, _, rfl, ?_⟩
        cases em : ch.mv with
        | none =>
          rw [em] at hmv
          exact iteY hmv ⟨rfl, by unfold parHit; rw [em]⟩
        | some ms =>
          rw [em] at hmv
          obtain ⟨ma, hm1, hm2⟩ := hmv
          refine iteN (by rw [hm1]; simp) ⟨_, rfl, _, rfl, ma, _, hm1, .inl (SqL.of (s5 _ _ hm2)), rfl, flat_int _, rfl, ?_⟩
          rw [inV_int]
          unfold parHit
          rw [em]
          simp
      rintro v H'' ⟨rfl, rfl⟩
      obtain ⟨H3, p3, ⟨u3, rfl⟩, cp3, f2, gf2, rfl⟩ := cp2.put ok hev evj
      refine .inr ⟨_, rfl, ?_⟩
      rw [d2]
      refine ⟨_, _, rfl, rfl, _, rfl, _, rfl, pa', _, rfl, p3, ?_⟩
      have s6 : Same H (upd H'' pa' u3) := same_upd s5 npaH
      have cl3 := cl2.other (u := u3) lp
      have gf1' : DGet (upd H'' pa' u3) lo (.str ev.judge) (some (.int (cntN g (lotHit g ch) (n + 1) ev.judge))) := by
        obtain ⟨ls, h1, h2, h3, h4⟩ := cl3
        refine dS_get (.inl h1) ?_
        apply Classical.byContradiction
        intro z
        obtain ⟨ls', h1', h2', h3', h4'⟩ := cl2
        have e1 : H'' lo = some (.dK (dS ls fun j => .int (cntN g (lotHit g ch) (n + 1) j))) := by rw [upd_ne lp] at h1; exact h1
        rcases gf1 with ⟨kvs, kk, r, e2, e3⟩ | ⟨kvs, kk, b, r, e2, _⟩
        · have ek : kk = Sum.inr ev.judge := (kV_inj (show kV (Sum.inr ev.judge) = kV kk from e2)).symm
          subst ek
          rcases r with r | ⟨o, r⟩
          · rw [e1] at r
            cases r
            rw [dG_no injS z] at e3
            cases e3
          · rw [e1] at r; cases r
        · cases e2
      have hro3 : upd H'' pa' u3 ro = _ := (upd_ne rp).trans hro2
      have hri3 : RowIn (upd H'' pa' u3) (psN g ch n) (csRw g ch) ad (fun p v => v = .int (csRw g ch p).lot) := row_dk k2 hri2
      generalize upd H'' pa' u3 = H4 at s6 cl3 cp3 hro3 hri3 gf1' gf2
      refine ⟨_, rfl, _, _, _, _, rfl, rfl, SqT.of (s6 _ _ hta), at0, rfl, _, rfl, ?_⟩
      have skip : keptN g ch n = false → ∃ ad : Int → Addr, H4 ro = some (.dK (dI (psN g ch (n + 1)) fun p => .ref (ad p))) ∧ RowIn H4 (psN g ch (n + 1)) (csRw g ch) ad (fun p v => v = .int (csRw g ch p).lot) := fun hk => by
        rw [show psN g ch (n + 1) = psN g ch n by rw [psN_succ, if_neg (by rw [hk]; decide), List.append_nil]]
        exact ⟨ad, hro3, hri3⟩
      cases ev with
      | rst j =>
        exact iteN (ns (by show ("reset" : Str) ≠ "answer"; decide +kernel)) (iteF ⟨s6, ⟨_, _, _, rfl⟩, cl3, cp3, skip (by unfold keptN; rw [hev])⟩)
      | ans jn im gr =>
        refine iteY rfl ⟨_, rfl, _, rfl, sa, _, rfl, .inl (SqL.of (s6 _ _ hsa)), rfl, flat_int _, _, rfl, ?_⟩
        have hk : keptN g ch n = decide ((n : Int) ∉ ch.st) := by unfold keptN; rw [hev]
        have hrow : csRw g ch (n : Int) = ⟨jn, im, gr, lotN g ch (n + 1) jn, parN g ch (n + 1) jn⟩ := by unfold csRw rowN; rw [Int.toNat_natCast, hev]
        rw [inV_int]
        by_cases cst : (n : Int) ∈ ch.st
        · rw [decide_eq_true cst]
          exact iteF ⟨s6, ⟨_, _, _, rfl⟩, cl3, cp3, skip (by rw [hk]; exact decide_eq_false (fun z => z cst))⟩
        · rw [decide_eq_false cst]
          replace hk : keptN g ch n = true := by rw [hk]; exact decide_eq_true cst
          have eps : psN g ch (n + 1) = psN g ch n ++ [(n : Int)] := by rw [psN_succ, if_pos hk]
          refine iteT ⟨_, rfl, _, rfl, _, _, _, _, rfl, rfl, SqT.of (s6 _ _ hta), rfl, _, rfl, _, _, _, _, rfl, rfl, SqT.of (s6 _ _ hta), rfl, _, rfl, _, rfl, lo, _, rfl, gf1', _, rfl, _, rfl, pa', _, rfl, gf2, by show 5 ≤ sizeLine; exact small (by omega), fun tq ntq => ?_⟩
          have t1 : Same H4 (upd H4 tq (.tup [.str jn, .str im, .int gr, .int (cntN g (lotHit g ch) (n + 1) jn), .int (cntN g (parHit ch) (n + 1) jn)])) := same_new ntq
          have hro5 := t1 _ _ hro3
          have nroH : H ro = none := nro
          refine ⟨_, rfl, _, rfl, ro, _, rfl, dI_putNew _ hro5 (psN_new n) (smaller (Nat.le_trans (psN_len n) (by omega))), same_upd (Same.trans s6 t1) nroH, ⟨_, _, _, rfl⟩, ?_, ?_, fun p => if p = (n : Int) then tq else ad p, ?_, fun p hp => ?_⟩
          · obtain ⟨kk, kl⟩ := cl3.dk
            exact (cl3.other (ne_of_none kl ntq)).other rl.symm
          · obtain ⟨kk, kl⟩ := cp3.dk
            exact (cp3.other (ne_of_none kl ntq)).other rp.symm
          · rw [upd_same, eps]
            refine congrArg (fun z => some (HO.dK z)) (dG_congr fun x _ => ?_)
            by_cases q : x = (n : Int)
            · rw [if_pos q]
              exact congrArg V.ref (if_pos q).symm
            · rw [if_neg q]
              exact congrArg V.ref (if_neg q).symm
          · show ∃ v, v = V.int (csRw g ch p).lot ∧ upd _ _ _ (if p = (n : Int) then tq else ad p) = _
            have htq : upd H4 tq (.tup [.str jn, .str im, .int gr, .int (cntN g (lotHit g ch) (n + 1) jn), .int (cntN g (parHit ch) (n + 1) jn)]) tq = some (.tup [.str jn, .str im, .int gr, .int (cntN g (lotHit g ch) (n + 1) jn), .int (cntN g (parHit ch) (n + 1) jn)]) := upd_same
            by_cases q : p = (n : Int)
            · subst q
              rw [if_pos rfl]
              refine ⟨_, rfl, ?_⟩
              rw [upd_ne (ne_of_none hro3 ntq).symm, hrow]
              exact htq
            · rw [if_neg q]
              rw [eps] at hp
              obtain ⟨w, w1, w2⟩ := (hri3.lk (.of t1)) p ((List.mem_append.mp hp).resolve_right fun z => q (List.mem_singleton.mp z))
              exact ⟨w, w1, by rw [upd_ne (fun z => by rw [z, hro5] at w2; cases w2)]; exact w2⟩
    · rintro σ H1 ⟨s4, ⟨v7, v8, v9, rfl⟩, cl, cp, ad, hro, hri⟩
      have e3 : ((es.length : Int)).toNat = g.events.length := by omega
      rw [e3] at hro hri
      exact ⟨_, rfl, k ro H1 ad s4 hro hri⟩
end RB
end

section
set_option maxRecDepth 100000
set_option maxHeartbeats 4000000
/-! the law's bars -/
namespace RB
open PySem PySem.Spec PyProof.Rows L2
variable {P : Program} {w : World} {K : PySem.W.Frag} {mg : Str → Option Value} {base : Heap}
/-- one bar row: what each bar is, at least its own -/
def BI (c : Cs) (d : Str → Int) (G : Nat) (p : Int) (l : List Int) : Prop := l.length = G ∧ ∀ k, k < G → (∃ q ∈ c.ps, c.one q p = true ∧ c.ah q p = true ∧ l.getD k 0 = RB.base (-1) d (c.rw q) k) ∧ RB.base (-1) d (c.rw p) k ≤ l.getD k 0
/-- the bars reach what U says -/
structure LBs (c : Cs) (d : Str → Int) (G : Nat) (bl : Int → List Int) (U : Int → Int → Prop) : Prop where
  bi : ∀ p ∈ c.ps, BI c d G p (bl p)
  up : ∀ p ∈ c.ps, ∀ q ∈ c.ps, U p q → c.one q p = true → c.ah q p = true → ∀ k, k < G → RB.base (-1) d (c.rw q) k ≤ (bl p).getD k 0
theorem LBs.mono {c : Cs} {d : Str → Int} {G : Nat} {bl : Int → List Int} {U U' : Int → Int → Prop} (h : LBs c d G bl U) (m : ∀ p ∈ c.ps, ∀ q ∈ c.ps, U' p q → U p q) : LBs c d G bl U' := ⟨h.bi, fun p hp q hq u => h.up p hp q hq (m p hp q hq u)⟩
theorem Cs.Ok.trans {c : Cs} (ok : c.Ok) {a b e : Int} (ha : a ∈ c.ps) (hb : b ∈ c.ps) (he : e ∈ c.ps) (h1 : c.one a b = true) (h2 : c.ah a b = true) (h3 : c.one b e = true) (h4 : c.ah b e = true) : c.one a e = true ∧ c.ah a e = true := by
  have := ahead_trans ok.mono (dr := c.dr) (p := (a, c.rw a)) (q := (b, c.rw b)) (r := (e, c.rw e)) (Cs.mem.mpr ⟨ha, rfl⟩) (Cs.mem.mpr ⟨hb, rfl⟩) (Cs.mem.mpr ⟨he, rfl⟩) (by rw [Cs.ahead_eq, h1, h2]; rfl) (by rw [Cs.ahead_eq, h3, h4]; rfl)
  rw [Cs.ahead_eq, Bool.and_eq_true] at this
  exact this
/-- a row takes the greater of two -/
theorem LBs.max {c : Cs} (ok : c.Ok) {d : Str → Int} {G : Nat} {bl : Int → List Int} {U U' : Int → Int → Prop} (h : LBs c d G bl U) {a o : Int} (ha : a ∈ c.ps) (ho : o ∈ c.ps) (h1 : c.one a o = true) (h2 : c.ah a o = true) {l : List Int} (hl : l.length = G)
    (hv : ∀ k, k < G → l.getD k 0 = if (bl o).getD k 0 > (bl a).getD k 0 then (bl o).getD k 0 else (bl a).getD k 0) (m : ∀ p ∈ c.ps, ∀ q ∈ c.ps, U' p q → U p q ∨ (p = o ∧ q = a)) : LBs c d G (fun x => if x = o then l else bl x) U' := by
  refine ⟨fun p hp => ?_, fun p hp q hq u k1 k2 k hk => ?_⟩
  · show BI c d G p (if p = o then l else bl p)
    by_cases e : p = o
    · subst e
      rw [if_pos rfl]
      refine ⟨hl, fun k hk => ?_⟩
      obtain ⟨⟨q, q1, q2, q3, q4⟩, q5⟩ := (h.bi p hp).2 k hk
      obtain ⟨⟨r, r1, r2, r3, r4⟩, r5⟩ := (h.bi a ha).2 k hk
      rw [hv k hk]
      by_cases g : (bl p).getD k 0 > (bl a).getD k 0
      · rw [if_pos g]
        exact ⟨⟨q, q1, q2, q3, q4⟩, q5⟩
      · rw [if_neg g]
        obtain ⟨t1, t2⟩ := ok.trans r1 ha hp r2 r3 h1 h2
        exact ⟨⟨r, r1, t1, t2, r4⟩, by omega⟩
    · rw [if_neg e]; exact h.bi p hp
  · show _ ≤ (if p = o then l else bl p).getD k 0
    by_cases e : p = o
    · subst e
      rw [if_pos rfl, hv k hk]
      rcases m p hp q hq u with u | ⟨_, rfl⟩
      · have := h.up p hp q hq u k1 k2 k hk
        split <;> omega
      · have := ((h.bi q hq).2 k hk).2
        split <;> omega
    · rw [if_neg e]
      rcases m p hp q hq u with u | ⟨z, _⟩
      · exact h.up p hp q hq u k1 k2 k hk
      · exact absurd z e
/-- within a row that reaches all, the bars rise -/
theorem LBs.rise {c : Cs} {d : Str → Int} {G : Nat} {bl : Int → List Int} {U : Int → Int → Prop} (h : LBs c d G bl U) (hd : ∀ p ∈ c.ps, 0 ≤ d (c.rw p).item) {o : Int} (ho : o ∈ c.ps) (all : ∀ q ∈ c.ps, U o q) {k : Nat} (hk : k + 1 < G) : (bl o).getD k 0 ≤ (bl o).getD (k + 1) 0 := by
  obtain ⟨⟨q, q1, q2, q3, q4⟩, _⟩ := (h.bi o ho).2 k (by omega)
  rw [q4]
  exact Int.le_trans (base_le (hd q q1) (by decide) (Nat.le_succ k)) (h.up o ho q q1 (all q q1) q2 q3 (k + 1) hk)
theorem LBs.done {c : Cs} {d : Str → Int} {G : Nat} {bl : Int → List Int} {U : Int → Int → Prop} (h : LBs c d G bl U) (hG : (G : Int) = c.grades) (all : ∀ p ∈ c.ps, ∀ q ∈ c.ps, U p q) (nd : c.ps.Nodup) : ExpOk c (-1) d c.ps bl :=
  ⟨fun _ => Iff.rfl, nd, fun p hp => by rw [(h.bi p hp).1]; exact hG, fun p hp k hk => by
    rw [(h.bi p hp).1] at hk
    exact ⟨fun q hq h1 h2 => h.up p hp q hq (all p hp q hq) h1 h2 k hk, by
      obtain ⟨⟨q, q1, q2, q3, q4⟩, _⟩ := (h.bi p hp).2 k hk
      exact ⟨q, q1, q2, q3, q4⟩⟩⟩
/-- the law's log, as far as its grades -/
def LogG (H : Hp) (t : Addr) (gr : Int) : Prop := ∃ v0 v2 v3, H t = some (.tup [v0, .int gr, v2, v3])
/-- the law's rows, that can be walked -/
structure LR (H : Hp) (ra : Addr) (c : Cs) (ad : Int → Addr) : Prop where
  d : H ra = some (.dK (dI c.ps fun p => .ref (ad p)))
  r : RowIn H c.ps c.rw ad fun p v => v = .int (c.rw p).lot
theorem ixN_nat {n j : Nat} (hj : j < n) : ixN n (j : Int) = some j := by
  unfold ixN
  rw [if_pos (by omega), if_pos (by omega)]
  simp
theorem rep_flat (n : Nat) : (List.replicate n [V.int (-1)]).flatten = (List.replicate n (-1 : Int)).map V.int := by
  induction n with
  | zero => rfl
  | succ n ih => rw [List.replicate_succ, List.flatten_cons, ih]; rfl
theorem upd_id {H : Hp} {a : Addr} {o : HO} (h : H a = some o) : upd H a o = H := by
  funext b
  unfold upd
  by_cases e : b = a
  · rw [if_pos e, e, h]
  · rw [if_neg e]
theorem getD_set1 {xs : List Int} {i : Nat} {v : Int} (h : i < xs.length) : (xs.set i v).getD i 0 = v := by
  simp [List.getD_eq_getElem?_getD, h]
theorem getD_set2 {xs : List Int} {i j : Nat} {v : Int} (h : j ≠ i) : (xs.set i v).getD j 0 = xs.getD j 0 := by
  simp [List.getD_eq_getElem?_getD, List.getElem?_set_ne (Ne.symm h)]
theorem set_getD {xs : List Int} {i : Nat} (h : i < xs.length) : xs.set i (xs.getD i 0) = xs := by
  rw [getD_at (List.getElem?_eq_getElem h)]
  exact List.set_getElem_self h
theorem map_set {xs : List Int} {i : Nat} {v : Int} : (xs.map V.int).set i (.int v) = (xs.set i v).map V.int := by rw [List.map_set]
def spLBars : Sp := fun vs H Q _ => ∃ (t ra da qa : Addr) (c : Cs) (qs : List Str) (d : Str → Int) (ad : Int → Addr), vs = [.ref t, .ref ra, .ref da, .ref qa] ∧ LogG H t c.grades ∧ LR H ra c ad ∧ LDr H da c ∧ H qa = some (.dK (dS qs fun k => .int (d k))) ∧ (∀ i ∈ c.items, i ∈ qs) ∧ c.Ok ∧ (∀ p ∈ c.ps, 0 ≤ d (c.rw p).item) ∧
  ∀ a H' bl bad, Same H H' → H' a = some (.dK (dI c.ps fun p => .ref (bad p))) → BarsIn H' c.ps bl bad → ExpOk c (-1) d c.ps bl → Q (.ref a) H'
theorem sc_law_bars : FnScope ["_law_log_here", "_law_rows_here", "_law_drifts_here", "_law_qualities", "_law_bars_here", "_law_place", "_law_grade", "_law_turn", "_law_other", "_law_one", "_law_k"] ["_law_log_here", "_law_rows_here", "_law_drifts_here", "_law_qualities"] d_law_bars.scope := ⟨rfl, rfl, rfl, by decide +kernel, rfl, by decide +kernel, by decide +kernel⟩
theorem ok_law_bars (T : Txt K mg) : Kept P w K mg base 4 (He.ga K "_law_bars") ["_law_log_here", "_law_rows_here", "_law_drifts_here", "_law_qualities"] spLBars := by
  refine keep_of (d := d_law_bars) T.d_law_bars sc_law_bars (fun _ _ _ _ _ _ us hl => match us, hl with | [_, _, _, _], _ => rfl) (fun vs H Q E h => ?_) (fun cd A outer s H vs Q E hr h => ?_)
  · obtain ⟨t, ra, da, qa, c, qs, d, ad, rfl, _⟩ := h
    rfl
  · obtain ⟨t, ra, da, qa, c, qs, d, ad, rfl, ⟨lv0, lv2, lv3, ht⟩, lr, hda, hqa, hqs, ok, hd, k⟩ := h
    have nd := sc_law_bars.nd
    have hu := hu_of hr
    refine ⟨_, pss_cons (ps_set (i := 4) nd rfl (Or.inr rfl) pe_dnewK)
      (pss_cons (ps_lock (ps_for PassesOwn.never rfl (pi_keys (pv 1)) (pg_name (i := 5) nd rfl (Or.inl rfl))
        (pss_cons (ps_dput hu (pv 4) (pv 5) (pe_op op_rep (pe_lst (pa_cons (pe_un un_neg pe_int) pa_nil)) (pe_it K (pv 0) pe_int)) rfl)
        (pss_one (ps_for PassesOwn.never rfl (pi_range2 rfl T.f_range (pa_cons (pe_op op_add (pe_it K (pe_dget hu (pv 1) (pv 5) (fun _ _ => rfl)) pe_int) pe_int) (pa_cons (pe_op op_add (pe_it K (pv 0) pe_int) pe_int) pa_nil))) (pg_name (i := 6) nd rfl (Or.inl rfl))
          (pss_one (ps_asg (pe_op op_add (pe_dget hu (pv 3) (pe_it K (pe_dget hu (pv 1) (pv 5) (fun _ _ => rfl)) pe_int) (fun _ _ => rfl)) pe_int) (pg_sub (pe_dget hu (pv 4) (pv 5) (fun _ _ => rfl)) (pe_op op_sub (pv 6) pe_int) set_list))))))))
      (pss_cons (ps_for PassesOwn.never rfl (pi_range1 rfl T.f_range (pa_cons (pe_op op_add (pe_callB call_lenD rfl T.f_len PySem.boot_len (pa_cons (pv 1) pa_nil)) pe_int) pa_nil)) (pg_name (i := 7) nd rfl (Or.inl rfl))
        (pss_one (ps_lock (ps_for PassesOwn.never rfl (pi_keys (pv 1)) (pg_name (i := 8) nd rfl (Or.inr rfl))
          (pss_cons (ps_for PassesOwn.never rfl (pi_keys (pv 1)) (pg_name (i := 9) nd rfl (Or.inr rfl))
            (pss_one (ps_if (pt_val (pe_f (ok_law_ahead T) hr (Nat.le_refl _) rfl T.g_law_ahead (pa_cons (pv 1) (pa_cons (pv 2) (pa_cons (pv 9) (pa_cons (pv 8) pa_nil))))))
              (pss_one (ps_dput hu (pv 4) (pv 8) (pe_lc (own := [("_law_k", 10)]) (g := gName 10) (tt := tYes) rfl nd (pi_range1 rfl T.f_range (pa_cons (pe_it K (pv 0) pe_int) pa_nil)) (blkOk_by (own := [("_law_k", 10)]) (N := ["_law_log_here", "_law_rows_here", "_law_drifts_here", "_law_qualities", "_law_bars_here", "_law_place", "_law_grade", "_law_turn", "_law_other", "_law_one", "_law_k"]) (sc := d_law_bars.scope) (by decide +kernel))
                (fun _ _ _ _ _ => pg_name (i := 10) nd rfl (Or.inl rfl)) (fun _ _ _ _ _ => pts_nil) (fun _ _ _ _ _ => pe_max2 T.f_max (pe_il K (pe_dget hu (pv 4) (pv 9) (fun _ _ => rfl)) (pv 10)) (pe_il K (pe_dget hu (pv 4) (pv 8) (fun _ _ => rfl)) (pv 10)))) rfl)) pss_nil)))
          (pss_one (ps_for PassesOwn.never rfl (pi_range2 rfl T.f_range (pa_cons pe_int (pa_cons (pe_it K (pv 0) pe_int) pa_nil))) (pg_name (i := 10) nd rfl (Or.inl rfl))
            (pss_one (ps_asg (pe_max2 T.f_max (pe_il K (pe_dget hu (pv 4) (pv 8) (fun _ _ => rfl)) (pe_op op_sub (pv 10) pe_int)) (pe_il K (pe_dget hu (pv 4) (pv 8) (fun _ _ => rfl)) (pv 10))) (pg_sub (pe_dget hu (pv 4) (pv 8) (fun _ _ => rfl)) (pv 10) set_list))))))))))
      (pss_one (ps_ret (pv 4))))), ?_⟩
    intro ba nba
    have hG0 := ok.g1
    have hG1 := ok.g2
    obtain ⟨G, hG⟩ : ∃ G : Nat, (G : Int) = c.grades := ⟨c.grades.toNat, by omega⟩
    have p9 := ok.p9
    have s1 : Same H (upd H ba (.dK [])) := same_new nba
    have hbr : ba ≠ ra := (ne_of_none lr.d nba).symm
    have rl1 := s1 _ _ lr.d
    refine ⟨ra, _, rl1, trivial, fun od => ⟨_, rfl, ra, od, rfl, .inl ⟨_, upd_same, ?_⟩⟩⟩
    have lk0 : ∀ {H'' : Hp}, Same (upd H ra (.frz od (.dK (dI c.ps fun p => .ref (ad p))))) H'' → Lk H H'' := fun s => (Lk.lock (od := od) lr.d).trans (.of s)
    have fx : ∀ {q : Addr}, q ≠ ra → H q = none → upd H ra (.frz od (.dK (dI c.ps fun p => .ref (ad p)))) q = none := fun a b => by rw [upd_ne a]; exact b
    refine for_it walk_keys (fun n σ H' => Same (upd H ra (.frz od (.dK (dI c.ps fun p => .ref (ad p))))) H' ∧ (∃ v5 v6, σ = [some (.ref t), some (.ref ra), some (.ref da), some (.ref qa), some (.ref ba), v5, v6, none, none, none, none]) ∧ ∃ bl bad, H' ba = some (.dK (dI (c.ps.take n) fun p => .ref (bad p))) ∧ BarsIn H' (c.ps.take n) bl bad ∧
      ∀ p ∈ c.ps.take n, (bl p).length = G ∧ ∀ k, k < G → (bl p).getD k 0 = RB.base (-1) d (c.rw p) k) ?_ ?_ ?_ ?_
    · refine ⟨same_set s1, ⟨_, _, rfl⟩, fun _ => [], fun _ => 0, by rw [upd_ne hbr, upd_same]; rfl, ?_, ?_⟩
      · intro q hq; simp at hq
      · intro q hq; simp at hq
    · rintro n σ H' _ ⟨s2, _⟩
      exact s2 _ _ upd_same
    · rintro n x σ H1 H2 hn ⟨s2, ⟨v5, v6, rfl⟩, bl, bad, hba, hbi, hbl⟩ ⟨rfl, k', v', hx, rfl⟩
      rw [dG_get?] at hx
      obtain ⟨pl, hpl, hxe⟩ := Option.map_eq_some_iff.mp hx
      cases hxe
      have pm := List.mem_of_getElem? hpl
      have l0 := lk0 s2
      have ht0 := l0.tup ht
      have hnot : pl ∉ c.ps.take n := by
        have hn : n < c.ps.length := (List.getElem?_eq_some_iff.mp hpl).1
        have h1 := ok.pnd
        rw [← List.take_append_drop (n + 1) c.ps, List.take_succ, hpl] at h1
        have h2 := (List.nodup_append.mp (List.nodup_append.mp h1).1)
        intro hm
        exact h2.2.2 _ hm _ (List.mem_singleton.mpr rfl) rfl
      have htk : c.ps.take (n + 1) = c.ps.take n ++ [pl] := by rw [List.take_succ, hpl]; rfl
      have gp := ok.pg pl pm
      have eG : c.grades.toNat = G := by omega
      refine ⟨1, rfl, by show 1 ≤ sizeLine; exact small (by omega), fun l1 nl1 => ?_⟩
      have t1 : Same H2 (upd H2 l1 (.lst [.int (-1)])) := same_new nl1
      refine ⟨_, rfl, _, _, _, _, rfl, rfl, SqT.of (t1 _ _ ht0), rfl, l1, _, _, rfl, rfl, upd_same, by omega, by omega, small (by rw [eG]; simp; omega), fun r nr => ?_⟩
      rw [eG, rep_flat]
      have t2 := Same.trans t1 (same_new (o := .lst ((List.replicate G (-1 : Int)).map V.int)) nr)
      have hr0 : upd (upd H2 l1 (.lst [.int (-1)])) r (.lst ((List.replicate G (-1 : Int)).map V.int)) r = some (.lst ((List.replicate G (-1 : Int)).map V.int)) := upd_same
      have nrH2 : H2 r = none := Same.free t1 nr
      generalize upd (upd H2 l1 (.lst [.int (-1)])) r (.lst ((List.replicate G (-1 : Int)).map V.int)) = Ha at t2 hr0
      have hbaA := t2 _ _ hba
      have rb : r ≠ ba := (ne_of_none hba nrH2).symm
      have tl9 : (c.ps.take n).length ≤ 9 := by rw [List.length_take]; omega
      refine ⟨_, rfl, _, rfl, ba, _, rfl, dI_putNew (.ref r) hbaA hnot (smaller (by omega)), ?_⟩
      have s3 := Same.trans s2 t2
      have hnb := fx hbr nba
      have s4 : Same (upd H ra (.frz od (.dK (dI c.ps fun p => .ref (ad p))))) (upd Ha ba (.dK (dI (c.ps.take n ++ [pl]) fun x => if x = pl then .ref r else .ref (bad x)))) := same_upd s3 hnb
      have hba4 : upd Ha ba (.dK (dI (c.ps.take n ++ [pl]) fun x => if x = pl then .ref r else .ref (bad x))) ba = some (.dK (dI (c.ps.take n ++ [pl]) fun x => if x = pl then .ref r else .ref (bad x))) := upd_same
      have hr4 : upd Ha ba (.dK (dI (c.ps.take n ++ [pl]) fun x => if x = pl then .ref r else .ref (bad x))) r = _ := (upd_ne rb).trans hr0
      have hbi4 : ∀ q ∈ c.ps.take n, upd Ha ba (.dK (dI (c.ps.take n ++ [pl]) fun x => if x = pl then .ref r else .ref (bad x))) (bad q) = some (.lst ((bl q).map V.int)) ∧ bad q ≠ r := fun q hq => by
        have h1 := t2 _ _ (hbi q hq)
        exact ⟨by rw [upd_ne (fun z => by rw [z, hbaA] at h1; cases h1)]; exact h1, ne_of_none (hbi q hq) nrH2⟩
      generalize upd Ha ba (.dK (dI (c.ps.take n ++ [pl]) fun x => if x = pl then .ref r else .ref (bad x))) = H4 at s4 hba4 hr4 hbi4
      clear hr0 hbaA s3 t2 t1
      have nrL : upd H ra (.frz od (.dK (dI c.ps fun p => .ref (ad p)))) r = none := Same.free s2 nrH2
      have lr4 : ∀ {H5 : Hp}, Same (upd H ra (.frz od (.dK (dI c.ps fun p => .ref (ad p))))) H5 → LRows H5 ra c := fun s => ⟨ad, .inr ⟨od, s _ _ upd_same⟩, lr.r.lk (lk0 s)⟩
      obtain ⟨ap, vp, gpt, -, tp⟩ := (lr4 s4).get pm
      have ht4 := (lk0 s4).tup ht
      refine ⟨_, rfl, _, rfl, ra, _, rfl, gpt, _, _, _, _, rfl, rfl, SqT.of tp, rfl, _, _, rfl, rfl, _, rfl, _, _, _, _, rfl, rfl, SqT.of ht4, rfl, _, _, rfl, rfl, _, _, rfl, by omega, ?_⟩
      refine for_range (fun i σ H' => (∃ v6, σ = [some (.ref t), some (.ref ra), some (.ref da), some (.ref qa), some (.ref ba), some (.int pl), v6, none, none, none, none]) ∧ ∃ vals : List Int, H' = upd H4 r (.lst (vals.map V.int)) ∧ vals.length = G ∧
        ∀ k, k < G → vals.getD k 0 = if (c.rw pl).grade ≤ (k : Int) ∧ (k : Int) < (c.rw pl).grade + i then d (c.rw pl).item + 1 else -1) ?_ ?_ ?_
      · refine ⟨⟨_, rfl⟩, List.replicate G (-1), (upd_id hr4).symm, List.length_replicate, fun k hk => ?_⟩
        rw [if_neg (by omega)]
        simp [List.getD_eq_getElem?_getD, hk]
      · rintro i σ H5 hi ⟨⟨v6, rfl⟩, vals, rfl, hlen, hval⟩
        have s5 : Same (upd H ra (.frz od (.dK (dI c.ps fun p => .ref (ad p))))) (upd H4 r (.lst (vals.map V.int))) := same_upd s4 nrL
        obtain ⟨ap, vp, gpt, -, tp⟩ := (lr4 s5).get pm
        have hqa5 := (lk0 s5).rd (.inl hqa)
        have hba5 : upd H4 r (.lst (vals.map V.int)) ba = some (.dK (dI (c.ps.take n ++ [pl]) fun x => if x = pl then .ref r else .ref (bad x))) := by rw [upd_ne rb.symm]; exact hba4
        obtain ⟨gn, egn⟩ : ∃ gn : Nat, (gn : Int) = (c.rw pl).grade := ⟨(c.rw pl).grade.toNat, by omega⟩
        have hj : gn + i < G := by omega
        have get : DGet (upd H4 r (.lst (vals.map V.int))) ba (.int pl) (some (.ref r)) := by
          have := dI_get (.inl hba5) (List.mem_append_right _ (List.mem_singleton.mpr rfl) : pl ∈ c.ps.take n ++ [pl])
          rw [if_pos rfl] at this
          exact this
        refine ⟨_, rfl, _, rfl, _, rfl, ra, _, rfl, gpt, _, _, _, _, rfl, rfl, SqT.of tp, rfl, qa, _, rfl, dS_get hqa5 (hqs _ (ok.pi pl pm)), _, _, rfl, rfl, _, rfl, _, rfl, ba, _, rfl, get, _, rfl, _, _, rfl, rfl, r, _, _, gn + i, rfl, rfl, upd_same, ?_, ?_⟩
        · rw [List.length_map, hlen, show (c.rw pl).grade + 1 + (i : Int) - 1 = ((gn + i : Nat) : Int) by omega]
          exact ixN_nat hj
        · rw [upd_upd, map_set]
          refine ⟨⟨_, rfl⟩, vals.set (gn + i) (d (c.rw pl).item + 1), rfl, by rw [List.length_set]; exact hlen, fun k hk => ?_⟩
          by_cases e : k = gn + i
          · subst e
            rw [getD_set1 (by omega), if_pos (by omega)]
          · rw [getD_set2 e, hval k hk]
            by_cases g1 : (c.rw pl).grade ≤ (k : Int) ∧ (k : Int) < (c.rw pl).grade + (i : Nat)
            · rw [if_pos g1, if_pos (by omega)]
            · rw [if_neg g1, if_neg (by omega)]
      · rintro σ H5 ⟨⟨v6, rfl⟩, vals, rfl, hlen, hval⟩
        refine ⟨same_upd s4 nrL, ⟨_, _, rfl⟩, fun x => if x = pl then vals else bl x, fun x => if x = pl then r else bad x, ?_, fun q hq => ?_, fun q hq => ?_⟩
        · rw [upd_ne rb.symm, hba4, htk]
          refine congrArg (fun z => some (HO.dK z)) (dG_congr fun x _ => ?_)
          by_cases q : x = pl
          · rw [if_pos q]
            exact congrArg V.ref (if_pos q).symm
          · rw [if_neg q]
            exact congrArg V.ref (if_neg q).symm
        · show upd _ _ _ (if q = pl then r else bad q) = some (.lst ((if q = pl then vals else bl q).map V.int))
          by_cases e : q = pl
          · rw [if_pos e, if_pos e]; exact upd_same
          · rw [htk] at hq
            have hq' := (List.mem_append.mp hq).resolve_right fun z => e (List.mem_singleton.mp z)
            rw [if_neg e, if_neg e, upd_ne (hbi4 q hq').2]
            exact (hbi4 q hq').1
        · show (if q = pl then vals else bl q).length = G ∧ ∀ k, k < G → (if q = pl then vals else bl q).getD k 0 = _
          by_cases e : q = pl
          · rw [if_pos e, e]
            refine ⟨hlen, fun k hk => ?_⟩
            rw [hval k hk]
            unfold RB.base
            by_cases g1 : (c.rw pl).grade ≤ (k : Int)
            · rw [if_pos g1, if_pos ⟨g1, by omega⟩]
            · rw [if_neg g1, if_neg (fun z => g1 z.1)]
          · rw [htk] at hq
            rw [if_neg e]
            exact hbl q ((List.mem_append.mp hq).resolve_right fun z => e (List.mem_singleton.mp z))
    rintro σ H2 ⟨s2, ⟨v5, v6, rfl⟩, bl, bad, hba, hbi, hbl⟩
    rw [dG_length, List.take_length] at hba hbi hbl
    obtain ⟨u1, u2⟩ := unlock lr.d s2
    refine ⟨u1, ?_⟩
    have hba' : upd H2 ra (.dK (dI c.ps fun p => .ref (ad p))) ba = some (.dK (dI c.ps fun p => .ref (bad p))) := by rw [upd_ne hbr]; exact hba
    have hbi' : BarsIn (upd H2 ra (.dK (dI c.ps fun p => .ref (ad p)))) c.ps bl bad := fun q hq => by
      have := hbi q hq
      rw [upd_ne (fun z => by rw [z, u1] at this; cases this)]
      exact this
    refine ⟨_, rfl, ra, _, rfl, upd_same, _, _, rfl, rfl, _, rfl, by omega, by rw [dG_length]; omega, ?_⟩
    refine for_range (fun τ σ H' => Same H H' ∧ (∃ v5 v6 v7 v8 v9 v10, σ = [some (.ref t), some (.ref ra), some (.ref da), some (.ref qa), some (.ref ba), v5, v6, v7, v8, v9, v10]) ∧ ∃ bl bad, H' ba = some (.dK (dI c.ps fun p => .ref (bad p))) ∧ BarsIn H' c.ps bl bad ∧ LBs c d G bl fun _ _ => 1 ≤ τ) ?_ ?_ ?_
    · refine ⟨u2, ⟨_, _, _, _, _, _, rfl⟩, bl, bad, hba', hbi', fun p hp => ⟨(hbl p hp).1, fun k hk => ?_⟩, fun p hp q hq z => by omega⟩
      rw [(hbl p hp).2 k hk]
      exact ⟨⟨p, hp, c.one_refl p, c.ah_refl p, rfl⟩, Int.le_refl _⟩
    · rintro τ σ H3 hτ ⟨s3, ⟨v5, v6, v7, v8, v9, v10, rfl⟩, bl, bad, hba, hbi, lb⟩
      refine ⟨ra, _, s3 _ _ lr.d, trivial, fun od => ⟨_, rfl, ra, od, rfl, .inl ⟨_, upd_same, ?_⟩⟩⟩
      have lk0 : ∀ {H'' : Hp}, Same (upd H ra (.frz od (.dK (dI c.ps fun p => .ref (ad p))))) H'' → Lk H H'' := fun s => (Lk.lock (od := od) lr.d).trans (.of s)
      have fx : ∀ {q : Addr}, q ≠ ra → H q = none → upd H ra (.frz od (.dK (dI c.ps fun p => .ref (ad p)))) q = none := fun a b => by rw [upd_ne a]; exact b
      have hnb := fx hbr nba
      have lr4 : ∀ {H5 : Hp}, Same (upd H ra (.frz od (.dK (dI c.ps fun p => .ref (ad p))))) H5 → LRows H5 ra c := fun s => ⟨ad, .inr ⟨od, s _ _ upd_same⟩, lr.r.lk (lk0 s)⟩
      refine for_it walk_keys (fun i σ H' => Same (upd H ra (.frz od (.dK (dI c.ps fun p => .ref (ad p))))) H' ∧ (∃ v7 v8 v9 v10, σ = [some (.ref t), some (.ref ra), some (.ref da), some (.ref qa), some (.ref ba), v5, v6, v7, v8, v9, v10]) ∧ ∃ bl bad, H' ba = some (.dK (dI c.ps fun p => .ref (bad p))) ∧ BarsIn H' c.ps bl bad ∧ LBs c d G bl fun p _ => 1 ≤ τ ∨ p ∈ c.ps.take i) ?_ ?_ ?_ ?_
      · refine ⟨same_set s3, ⟨_, _, _, _, rfl⟩, bl, bad, by rw [upd_ne hbr]; exact hba, fun q hq => ?_, lb.mono fun p _ q _ z => z.elim id (fun z => by simp at z)⟩
        have h1 := hbi q hq
        rw [upd_ne (fun z => by rw [z, s3 _ _ lr.d] at h1; cases h1)]
        exact h1
      · rintro n σ H' _ ⟨s4, _⟩
        exact s4 _ _ upd_same
      · rintro i x σ H4 H5 hi ⟨s4, ⟨v7, v8, v9, v10, rfl⟩, bl, bad, hba, hbi, lb⟩ ⟨rfl, k', v', hx, rfl⟩
        rw [dG_get?] at hx
        obtain ⟨o, ho, hxe⟩ := Option.map_eq_some_iff.mp hx
        cases hxe
        have om := List.mem_of_getElem? ho
        -- every one
        refine ⟨_, rfl, ra, od, rfl, .inl ⟨_, s4 _ _ upd_same, ?_⟩⟩
        refine for_it walk_keys (fun m σ H' => Same (upd H ra (.frz od (.dK (dI c.ps fun p => .ref (ad p))))) H' ∧ (∃ v9, σ = [some (.ref t), some (.ref ra), some (.ref da), some (.ref qa), some (.ref ba), v5, v6, v7, some (.int o), v9, v10]) ∧ ∃ bl bad, H' ba = some (.dK (dI c.ps fun p => .ref (bad p))) ∧ BarsIn H' c.ps bl bad ∧ LBs c d G bl fun p q => 1 ≤ τ ∨ p ∈ c.ps.take i ∨ (p = o ∧ q ∈ c.ps.take m)) ?_ ?_ ?_ ?_
        · exact ⟨s4, ⟨_, rfl⟩, bl, bad, hba, hbi, lb.mono fun p _ q _ z => z.imp_right fun z => z.elim id (fun z => by simp at z)⟩
        · rintro n σ H' _ ⟨s5, _⟩
          exact s5 _ _ upd_same
        · rintro m x σ H6 H7 hm ⟨s5, ⟨v9, rfl⟩, bl, bad, hba, hbi, lb⟩ ⟨rfl, k', v', hx, rfl⟩
          rw [dG_get?] at hx
          obtain ⟨a, ha, hxe⟩ := Option.map_eq_some_iff.mp hx
          cases hxe
          have am := List.mem_of_getElem? ha
          refine ⟨_, rfl, _, rfl, _, rfl, _, rfl, ra, da, c, a, o, rfl, lr4 s5, (lk0 s5).rd hda, am, om, ok.pj a am, _, rfl, iteB (fun c1 => ?_) (fun c1 => ?_)⟩
          · obtain ⟨h1, h2⟩ := Bool.and_eq_true_iff.mp c1
            refine ⟨_, rfl, _, _, _, _, rfl, rfl, SqT.of ((lk0 s5).tup ht), rfl, _, rfl, by omega, by omega, fun D nD => ?_⟩
            have eG : c.grades.toNat = G := by omega
            rw [eG]
            refine lc_val (n := G) walk_range nD (small (by omega)) (fun _ => true) (fun k => .int (if (bl o).getD k 0 > (bl a).getD k 0 then (bl o).getD k 0 else (bl a).getD k 0)) (fun _ _ => trivial) (fun k x H8 H9 hk s6 hY N Z b _ => ?_) fun H8 s6 e8 => ?_
            · obtain ⟨rfl, rfl⟩ := hY
              have la := ((lb.bi a am).1)
              have lo := ((lb.bi o om).1)
              have hba8 := s6 _ _ hba
              exact ⟨rfl, yesT ⟨_, rfl, _, rfl, ba, _, rfl, dI_get (.inl hba8) am, _, rfl, _, _, _, _, rfl, rfl, SqL.of (s6 _ _ (hbi a am)), (by rw [Int.zero_add]; exact atI_nat (map_getD (by omega))), _, rfl, _, rfl, ba, _, rfl, dI_get (.inl hba8) om, _, rfl, _, _, _, _, rfl, rfl, SqL.of (s6 _ _ (hbi o om)), (by rw [Int.zero_add]; exact atI_nat (map_getD (by omega))), _, _, rfl, b rfl _ (Same.refl _)⟩⟩
            · have e9 : H8 D = some (.lst (((List.range G).map fun k => if (bl o).getD k 0 > (bl a).getD k 0 then (bl o).getD k 0 else (bl a).getD k 0).map V.int)) := by
                rw [e8, filter_yes, List.map_map]; rfl
              have hba8 := s6 _ _ hba
              refine ⟨_, rfl, _, rfl, ba, _, rfl, dI_putOld (.ref D) hba8 om (smaller (by omega)), same_upd (Same.trans s5 s6) hnb, ⟨_, rfl⟩, fun x => if x = o then (List.range G).map (fun k => if (bl o).getD k 0 > (bl a).getD k 0 then (bl o).getD k 0 else (bl a).getD k 0) else bl x, fun x => if x = o then D else bad x, ?_, fun q hq => ?_, lb.max ok am om h1 h2 ?_ (fun k hk => ?_) fun p _ q _ z => ?_⟩
              · rw [upd_same]
                refine congrArg (fun z => some (HO.dK z)) (dG_congr fun x _ => ?_)
                by_cases q : x = o
                · rw [if_pos q]
                  exact congrArg V.ref (if_pos q).symm
                · rw [if_neg q]
                  exact congrArg V.ref (if_neg q).symm
              · show upd _ _ _ (if q = o then D else bad q) = some (.lst ((if q = o then (List.range G).map (fun k => if (bl o).getD k 0 > (bl a).getD k 0 then (bl o).getD k 0 else (bl a).getD k 0) else bl q).map V.int))
                by_cases e : q = o
                · rw [if_pos e, if_pos e, upd_ne (fun z => by rw [z, hba8] at e9; cases e9)]; exact e9
                · have h3 := s6 _ _ (hbi q hq)
                  rw [if_neg e, if_neg e, upd_ne (fun z => by rw [z, hba8] at h3; cases h3)]; exact h3
              · rw [List.length_map, List.length_range]
              · rw [List.getD_eq_getElem?_getD, List.getElem?_map, List.getElem?_range hk]
                rfl
              · rcases z with z | z | ⟨z1, z2⟩
                · exact .inl (.inl z)
                · exact .inl (.inr (.inl z))
                · rcases (take_mem ha).mp z2 with y | y
                  · exact .inl (.inr (.inr ⟨z1, y⟩))
                  · exact .inr ⟨z1, y⟩
          · refine ⟨s5, ⟨_, rfl⟩, bl, bad, hba, hbi, lb.bi, fun p hp q hq u k1 k2 k hk => ?_⟩
            rcases u with u | u | ⟨u1, u2⟩
            · exact lb.up p hp q hq (.inl u) k1 k2 k hk
            · exact lb.up p hp q hq (.inr (.inl u)) k1 k2 k hk
            · rcases (take_mem ha).mp u2 with y | y
              · exact lb.up p hp q hq (.inr (.inr ⟨u1, y⟩)) k1 k2 k hk
              · rw [u1, y] at k1 k2
                rw [k1, k2] at c1
                cases c1
        · rintro σ H6 ⟨s5, ⟨v9, rfl⟩, bl, bad, hba, hbi, lb⟩
          have all : ∀ q ∈ c.ps, (1 ≤ τ ∨ o ∈ c.ps.take i ∨ (o = o ∧ q ∈ c.ps.take (dI c.ps fun p => V.ref (ad p)).length)) := fun q hq => .inr (.inr ⟨rfl, by rw [dG_length, List.take_length]; exact hq⟩)
          refine ⟨_, rfl, _, _, _, _, rfl, rfl, SqT.of ((lk0 s5).tup ht), rfl, _, _, rfl, by omega, ?_⟩
          refine for_range (fun k σ H' => H' = H6 ∧ ∃ v10, σ = [some (.ref t), some (.ref ra), some (.ref da), some (.ref qa), some (.ref ba), v5, v6, v7, some (.int o), v9, v10]) ⟨rfl, _, rfl⟩ ?_ ?_
          · rintro k σ H7 hk ⟨rfl, v10, rfl⟩
            have hk2 : k + 1 < G := by omega
            have lo := ((lb.bi o om).1)
            have rise := lb.rise hd om all hk2
            refine ⟨_, rfl, _, rfl, ba, _, rfl, dI_get (.inl hba) om, _, rfl, _, _, rfl, rfl, _, _, _, _, rfl, rfl, SqL.of (hbi o om), (show atI ((bl o).map V.int) (1 + (k : Int) - 1) = some (.int ((bl o).getD k 0)) by rw [show (1 + (k : Int) - 1) = (k : Int) by omega]; exact atI_nat (map_getD (by omega))), _, rfl, _, rfl, ba, _, rfl, dI_get (.inl hba) om, _, rfl, _, _, _, _, rfl, rfl, SqL.of (hbi o om), (show atI ((bl o).map V.int) (1 + (k : Int)) = some (.int ((bl o).getD (k + 1) 0)) by rw [show (1 + (k : Int)) = ((k + 1 : Nat) : Int) by omega]; exact atI_nat (map_getD (by omega))), _, _, rfl, ?_⟩
            refine ⟨_, rfl, _, rfl, ba, _, rfl, dI_get (.inl hba) om, _, rfl, bad o, _, _, k + 1, rfl, rfl, hbi o om, ?_, ?_⟩
            · rw [List.length_map, lo, show (1 + (k : Int)) = ((k + 1 : Nat) : Int) by omega]
              exact ixN_nat hk2
            · refine ⟨?_, _, rfl⟩
              have e1 : (if (bl o).getD (k + 1) 0 > (bl o).getD k 0 then (bl o).getD (k + 1) 0 else (bl o).getD k 0) = (bl o).getD (k + 1) 0 := by split <;> omega
              rw [e1, map_set, set_getD (by omega)]
              exact upd_id (hbi o om)
          · rintro σ H7 ⟨rfl, v10, rfl⟩
            refine ⟨s5, ⟨_, _, _, _, rfl⟩, bl, bad, hba, hbi, lb.mono fun p hp q hq z => ?_⟩
            rcases z with z | z
            · exact .inl z
            · rcases (take_mem ho).mp z with y | y
              · exact .inr (.inl y)
              · exact .inr (.inr ⟨y, by rw [dG_length, List.take_length]; exact hq⟩)
      · rintro σ H4 ⟨s4, ⟨v7, v8, v9, v10, rfl⟩, bl, bad, hba, hbi, lb⟩
        obtain ⟨w1, w2⟩ := unlock lr.d s4
        refine ⟨w1, w2, ⟨_, _, _, _, _, _, rfl⟩, bl, bad, by rw [upd_ne hbr]; exact hba, fun q hq => ?_, lb.mono fun p hp q hq _ => .inr (by rw [dG_length, List.take_length]; exact hp)⟩
        have h1 := hbi q hq
        rw [upd_ne (fun z => by rw [z, w1] at h1; cases h1)]
        exact h1
    · rintro σ H3 ⟨s3, ⟨v5, v6, v7, v8, v9, v10, rfl⟩, bl, bad, hba, hbi, lb⟩
      exact ⟨_, rfl, k ba H3 bl bad s3 hba hbi (lb.done hG (fun _ _ _ _ => by rw [dG_length]; omega) ok.pnd)⟩
end RB
end

section
set_option maxRecDepth 100000
set_option maxHeartbeats 4000000
/-! the law's explains -/
namespace RB
open PySem PySem.Spec PyProof.Rows L2
variable {P : Program} {w : World} {K : PySem.W.Frag} {mg : Str → Option Value} {base : Heap}
structure ExC (c : Cs) (G : Nat) (d : Str → Int) (bl : Int → List Int) (p : Int) : Prop where
  fit : ∀ k, k < G → ((bl p).getD k 0 ≤ d (c.rw p).item ↔ (k : Int) + 1 ≤ (c.rw p).grade)
  rise : ∀ k, k + 1 < G → (bl p).getD k 0 ≤ (bl p).getD (k + 1) 0
  ahd : ∀ q ∈ c.ps, c.one q p = true → c.ah q p = true → ∀ k, k < G → (bl q).getD k 0 ≤ (bl p).getD k 0
def spLExpl : Sp := fun vs H Q _ => ∃ (t ra da qa ba : Addr) (c : Cs) (qs : List Str) (d : Str → Int) (ad : Int → Addr) (bs : List Int) (bl : Int → List Int), vs = [.ref t, .ref ra, .ref da, .ref qa, .ref ba] ∧ LogG H t c.grades ∧ LR H ra c ad ∧ LDr H da c ∧ H qa = some (.dK (dS qs fun k => .int (d k))) ∧ (∀ i ∈ c.items, i ∈ qs) ∧ c.Ok ∧
  BarsAt H ba bs bl ∧ (∀ p ∈ c.ps, p ∈ bs) ∧ (∀ p ∈ c.ps, ((bl p).length : Int) = c.grades) ∧ (∀ H', Same H H' → (∀ p ∈ c.ps, ExC c c.grades.toNat d bl p) → Q (.bl true) H') ∧ (∀ H', Same H H' → ¬ (∀ p ∈ c.ps, ExC c c.grades.toNat d bl p) → Q (.bl false) H')
theorem any_iff {G : Nat} {f : Nat → Bool} : ((List.range G).map f).any id = true ↔ ∃ k, k < G ∧ f k = true := by
  rw [List.any_map, List.any_eq_true]
  constructor
  · rintro ⟨k, h1, h2⟩; exact ⟨k, List.mem_range.mp h1, h2⟩
  · rintro ⟨k, h1, h2⟩; exact ⟨k, List.mem_range.mpr h1, h2⟩
theorem sc_law_explains : FnScope ["_law_log_here", "_law_rows_here", "_law_drifts_here", "_law_qualities", "_law_bars_here", "_law_place", "_law_quality", "_law_grade", "_law_one", "_law_k"] ["_law_log_here", "_law_rows_here", "_law_drifts_here", "_law_qualities", "_law_bars_here"] d_law_explains.scope := ⟨rfl, rfl, rfl, by decide +kernel, rfl, by decide +kernel, by decide +kernel⟩
theorem ok_law_explains (T : Txt K mg) : Kept P w K mg base 4 (He.ga K "_law_explains") ["_law_log_here", "_law_rows_here", "_law_drifts_here", "_law_qualities", "_law_bars_here"] spLExpl := by
  refine keep_of (d := d_law_explains) T.d_law_explains sc_law_explains (fun _ _ _ _ _ _ us hl => match us, hl with | [_, _, _, _, _], _ => rfl) (fun vs H Q E h => ?_) (fun cd A outer s H vs Q E hr h => ?_)
  · obtain ⟨t, ra, da, qa, ba, c, qs, d, ad, bs, bl, rfl, _⟩ := h
    rfl
  · obtain ⟨t, ra, da, qa, ba, c, qs, d, ad, bs, bl, rfl, ⟨lv0, lv2, lv3, ht⟩, lr, hda, hqa, hqs, ok, hbs, hpb, hlen, k1, k2⟩ := h
    have nd := sc_law_explains.nd
    have hu := hu_of hr
    refine ⟨_, pss_cons (ps_lock (ps_for PassesOwn.never rfl (pi_keys (pv 1)) (pg_name (i := 5) nd rfl (Or.inr rfl))
        (pss_cons (ps_set (i := 6) nd rfl (Or.inl rfl) (pe_dget hu (pv 3) (pe_it K (pe_dget hu (pv 1) (pv 5) (fun _ _ => rfl)) pe_int) (fun _ _ => rfl)))
        (pss_cons (ps_for PassesOwn.never rfl (pi_range2 rfl T.f_range (pa_cons pe_int (pa_cons (pe_op op_add (pe_it K (pv 0) pe_int) pe_int) pa_nil))) (pg_name (i := 7) nd rfl (Or.inl rfl))
          (pss_cons (ps_if (pt_cmpR op_ne (pe_cmpR op_le (pe_il K (pe_dget hu (pv 4) (pv 5) (fun _ _ => rfl)) (pe_op op_sub (pv 7) pe_int)) (pv 6) (nomark _)) (pe_cmpR op_ge (pe_it K (pe_dget hu (pv 1) (pv 5) (fun _ _ => rfl)) pe_int) (pv 7) (nomark _)) (nomark _)) (pss_one (ps_ret pe_bl)) pss_nil)
          (pss_one (ps_if (PW.pt (pw_and (pt_cmpR op_gt (pv 7) pe_int (nomark _)) (pw_and1 (pt_cmpR op_gt (pe_il K (pe_dget hu (pv 4) (pv 5) (fun _ _ => rfl)) (pe_op op_sub (pv 7) pe_int)) (pe_il K (pe_dget hu (pv 4) (pv 5) (fun _ _ => rfl)) (pe_op op_sub (pv 7) pe_int)) (nomark _))))) (pss_one (ps_ret pe_bl)) pss_nil))))
        (pss_one (ps_for PassesOwn.never rfl (pi_keys (pv 1)) (pg_name (i := 8) nd rfl (Or.inr rfl))
          (pss_one (ps_if (PW.pt (pw_and (pt_val (pe_f (ok_law_ahead T) hr (Nat.le_refl _) rfl T.g_law_ahead (pa_cons (pv 1) (pa_cons (pv 2) (pa_cons (pv 8) (pa_cons (pv 5) pa_nil)))))) (pw_and1 (pt_val (pe_any K T.f_any (pe_lc (own := [("_law_k", 9)]) (g := gName 9) (tt := tYes) rfl nd (pi_range1 rfl T.f_range (pa_cons (pe_it K (pv 0) pe_int) pa_nil))
              (blkOk_by (own := [("_law_k", 9)]) (N := ["_law_log_here", "_law_rows_here", "_law_drifts_here", "_law_qualities", "_law_bars_here", "_law_place", "_law_quality", "_law_grade", "_law_one", "_law_k"]) (sc := d_law_explains.scope) (by decide +kernel)) (fun _ _ _ _ _ => pg_name (i := 9) nd rfl (Or.inl rfl)) (fun _ _ _ _ _ => pts_nil)
              (fun _ _ _ _ _ => pe_cmpR op_gt (pe_il K (pe_dget hu (pv 4) (pv 8) (fun _ _ => rfl)) (pv 9)) (pe_il K (pe_dget hu (pv 4) (pv 5) (fun _ _ => rfl)) (pv 9)) (nomark _)))))))) (pss_one (ps_ret pe_bl)) pss_nil))))))))
      (pss_one (ps_ret pe_bl)), ?_⟩
    have hG0 := ok.g1
    have hG1 := ok.g2
    obtain ⟨G, hG⟩ : ∃ G : Nat, (G : Int) = c.grades := ⟨c.grades.toNat, by omega⟩
    have eG : c.grades.toNat = G := by omega
    rw [eG] at k1 k2
    have p9 := ok.p9
    refine ⟨ra, _, lr.d, trivial, fun od => ⟨_, rfl, ra, od, rfl, .inl ⟨_, upd_same, ?_⟩⟩⟩
    have lk0 : ∀ {H'' : Hp}, Same (upd H ra (.frz od (.dK (dI c.ps fun p => .ref (ad p))))) H'' → Lk H H'' := fun s => (Lk.lock (od := od) lr.d).trans (.of s)
    have lr4 : ∀ {H5 : Hp}, Same (upd H ra (.frz od (.dK (dI c.ps fun p => .ref (ad p))))) H5 → LRows H5 ra c := fun s => ⟨ad, .inr ⟨od, s _ _ upd_same⟩, lr.r.lk (lk0 s)⟩
    have no : ∀ {H'' : Hp}, Same (upd H ra (.frz od (.dK (dI c.ps fun p => .ref (ad p))))) H'' → ¬ (∀ p ∈ c.ps, ExC c G d bl p) → H'' ra = some (.frz od (.dK (dI c.ps fun p => .ref (ad p)))) ∧ Q (.bl false) (upd H'' ra (.dK (dI c.ps fun p => .ref (ad p)))) := fun s h => by
      obtain ⟨u1, u2⟩ := unlock lr.d s
      exact ⟨u1, k2 _ u2 h⟩
    refine for_it walk_keys (fun n σ H' => Same (upd H ra (.frz od (.dK (dI c.ps fun p => .ref (ad p))))) H' ∧ (∃ v5 v6 v7 v8, σ = [some (.ref t), some (.ref ra), some (.ref da), some (.ref qa), some (.ref ba), v5, v6, v7, v8, none]) ∧ ∀ p ∈ c.ps.take n, ExC c G d bl p) ⟨Same.refl _, ⟨_, _, _, _, rfl⟩, fun p hp => by simp at hp⟩ (fun n σ H' _ h => h.1 _ _ upd_same) ?_ ?_
    · rintro n x σ H1 H2 hn ⟨s1, ⟨v5, v6, v7, v8, rfl⟩, hex⟩ ⟨rfl, k', v', hx, rfl⟩
      rw [dG_get?] at hx
      obtain ⟨pl, hpl, hxe⟩ := Option.map_eq_some_iff.mp hx
      cases hxe
      have pm := List.mem_of_getElem? hpl
      have lenP : (bl pl).length = G := by have := hlen pl pm; omega
      have rdb : ∀ {H5 : Hp}, Same (upd H ra (.frz od (.dK (dI c.ps fun p => .ref (ad p))))) H5 → ∀ q ∈ c.ps, ∃ a, DGet H5 ba (.int q) (some (.ref a)) ∧ H5 a = some (.lst ((bl q).map V.int)) := fun s q hq => (hbs.lk (lk0 s)).get (hpb q hq)
      obtain ⟨ap, vp, gp, -, tp⟩ := (lr4 s1).get pm
      refine ⟨_, rfl, _, rfl, _, rfl, ra, _, rfl, gp, _, _, _, _, rfl, rfl, SqT.of tp, rfl, qa, _, rfl, dS_get ((lk0 s1).rd (.inl hqa)) (hqs _ (ok.pi pl pm)), ?_⟩
      refine ⟨_, rfl, _, _, _, _, rfl, rfl, SqT.of ((lk0 s1).tup ht), rfl, _, _, rfl, rfl, _, _, rfl, by omega, ?_⟩
      refine for_range (fun i σ H' => H' = H2 ∧ (∃ v7, σ = [some (.ref t), some (.ref ra), some (.ref da), some (.ref qa), some (.ref ba), some (.int pl), some (.int (d (c.rw pl).item)), v7, v8, none]) ∧ (∀ k, k < i → ((bl pl).getD k 0 ≤ d (c.rw pl).item ↔ (k : Int) + 1 ≤ (c.rw pl).grade)) ∧ ∀ k, k + 1 < i → (bl pl).getD k 0 ≤ (bl pl).getD (k + 1) 0)
        ⟨rfl, ⟨_, rfl⟩, fun k hk => absurd hk (Nat.not_lt_zero _), fun k hk => absurd hk (Nat.not_lt_zero _)⟩ ?_ ?_
      · rintro i σ H3 hi ⟨rfl, ⟨v7, rfl⟩, hf, hrs⟩
        have hiG : i < G := by omega
        obtain ⟨ab, gb, hb⟩ := rdb s1 pl pm
        refine ⟨_, rfl, _, rfl, ba, _, rfl, gb, _, rfl, _, _, rfl, rfl, _, _, _, _, rfl, rfl, SqL.of hb, (show atI ((bl pl).map V.int) (1 + (i : Int) - 1) = some (.int ((bl pl).getD i 0)) by rw [show (1 + (i : Int) - 1) = (i : Int) by omega]; exact atI_nat (map_getD (by omega))), _, rfl, _, _, rfl, rfl, ?_⟩
        refine ⟨_, rfl, _, rfl, ra, _, rfl, gp, _, _, _, _, rfl, rfl, SqT.of tp, rfl, _, rfl, _, _, rfl, rfl, rfl, _, rfl, ?_⟩
        have ed : ∀ x y : Bool, (!decide (V.bl x = V.bl y)) = true ↔ x ≠ y := fun x y => by cases x <;> cases y <;> decide
        refine iteB (fun c1 => ?_) (fun c1 => ?_)
        · refine no s1 fun all => ?_
          have h1 := (all pl pm).fit i hiG
          refine (ed _ _).mp c1 ?_
          show decide _ = decide _
          rw [decide_eq_decide, h1]
          omega
        have fit : (bl pl).getD i 0 ≤ d (c.rw pl).item ↔ (i : Int) + 1 ≤ (c.rw pl).grade := by
          have h2 : decide ((bl pl).getD i 0 ≤ d (c.rw pl).item) = decide (1 + (i : Int) ≤ (c.rw pl).grade) := by
            apply Classical.byContradiction
            intro z
            have := (ed _ _).mpr z
            exact Bool.false_ne_true (c1.symm.trans this)
          rw [decide_eq_decide] at h2
          rw [h2]
          omega
        have fits : ∀ k, k < i + 1 → ((bl pl).getD k 0 ≤ d (c.rw pl).item ↔ (k : Int) + 1 ≤ (c.rw pl).grade) := fun k hk => by
          by_cases e : k = i
          · rw [e]; exact fit
          · exact hf k (by omega)
        refine ⟨_, rfl, _, _, rfl, rfl, _, rfl, iteD (fun h1 => ?_) (fun h1 => ?_)⟩
        · obtain ⟨j, ej⟩ : ∃ j, i = j + 1 := ⟨i - 1, by omega⟩
          refine ⟨_, rfl, _, rfl, ba, _, rfl, gb, _, rfl, _, _, rfl, rfl, _, _, _, _, rfl, rfl, SqL.of hb, (show atI ((bl pl).map V.int) (1 + (i : Int) - 2) = some (.int ((bl pl).getD j 0)) by rw [show (1 + (i : Int) - 2) = (j : Int) by omega]; exact atI_nat (map_getD (by omega))), ?_⟩
          refine ⟨_, rfl, _, rfl, ba, _, rfl, gb, _, rfl, _, _, rfl, rfl, _, _, _, _, rfl, rfl, SqL.of hb, (show atI ((bl pl).map V.int) (1 + (i : Int) - 1) = some (.int ((bl pl).getD i 0)) by rw [show (1 + (i : Int) - 1) = (i : Int) by omega]; exact atI_nat (map_getD (by omega))), _, _, rfl, rfl, _, rfl, iteD (fun h2 => ?_) (fun h2 => ?_)⟩
          · refine no s1 fun all => ?_
            have h3 := (all pl pm).rise j (by omega)
            rw [← ej] at h3
            omega
          · refine ⟨rfl, ⟨_, rfl⟩, fits, fun k hk => ?_⟩
            by_cases e : k = j
            · rw [e, ← ej]; omega
            · exact hrs k (by omega)
        · exact iteF ⟨rfl, ⟨_, rfl⟩, fits, fun k hk => hrs k (by omega)⟩
      · rintro σ H3 ⟨rfl, ⟨v7, rfl⟩, hf, hrs⟩
        have fits : ∀ k, k < G → ((bl pl).getD k 0 ≤ d (c.rw pl).item ↔ (k : Int) + 1 ≤ (c.rw pl).grade) := fun k hk => hf k (by omega)
        have rises : ∀ k, k + 1 < G → (bl pl).getD k 0 ≤ (bl pl).getD (k + 1) 0 := fun k hk => hrs k (by omega)
        refine ⟨_, rfl, ra, od, rfl, .inl ⟨_, s1 _ _ upd_same, ?_⟩⟩
        refine for_it walk_keys (fun m σ H' => Same (upd H ra (.frz od (.dK (dI c.ps fun p => .ref (ad p))))) H' ∧ (∃ v8, σ = [some (.ref t), some (.ref ra), some (.ref da), some (.ref qa), some (.ref ba), some (.int pl), some (.int (d (c.rw pl).item)), v7, v8, none]) ∧ ∀ q ∈ c.ps.take m, c.one q pl = true → c.ah q pl = true → ∀ k, k < G → (bl q).getD k 0 ≤ (bl pl).getD k 0) ⟨s1, ⟨_, rfl⟩, fun p hp => by simp at hp⟩ (fun n σ H' _ h => h.1 _ _ upd_same) ?_ ?_
        · rintro m x σ H4 H5 hm ⟨s2, ⟨v8, rfl⟩, hah⟩ ⟨rfl, k', v', hx, rfl⟩
          rw [dG_get?] at hx
          obtain ⟨a, ha, hxe⟩ := Option.map_eq_some_iff.mp hx
          cases hxe
          have am := List.mem_of_getElem? ha
          have lenA : (bl a).length = G := by have := hlen a am; omega
          refine ⟨_, rfl, _, rfl, _, rfl, _, rfl, ra, da, c, a, pl, rfl, lr4 s2, (lk0 s2).rd hda, am, pm, ok.pj a am, _, rfl, iteB (fun c1 => ?_) (fun c1 => ?_)⟩
          · obtain ⟨h1, h2⟩ := Bool.and_eq_true_iff.mp c1
            refine ⟨_, rfl, _, _, _, _, rfl, rfl, SqT.of ((lk0 s2).tup ht), rfl, _, rfl, by omega, by omega, fun D nD => ?_⟩
            rw [eG]
            refine lc_val (n := G) walk_range nD (small (by omega)) (fun _ => true) (fun k => .bl (decide ((bl pl).getD k 0 < (bl a).getD k 0))) (fun _ _ => trivial) (fun k x H8 H9 hk s6 hY N Z b _ => ?_) fun H8 s6 e8 => ?_
            · obtain ⟨rfl, rfl⟩ := hY
              obtain ⟨aa, ga, hla⟩ := rdb (Same.trans s2 s6) a am
              obtain ⟨ab, gb, hlb⟩ := rdb (Same.trans s2 s6) pl pm
              exact ⟨rfl, yesT ⟨_, rfl, _, rfl, ba, _, rfl, ga, _, rfl, _, _, _, _, rfl, rfl, SqL.of hla, (by rw [Int.zero_add]; exact atI_nat (map_getD (by omega))), _, rfl, _, rfl, ba, _, rfl, gb, _, rfl, _, _, _, _, rfl, rfl, SqL.of hlb, (by rw [Int.zero_add]; exact atI_nat (map_getD (by omega))), _, _, rfl, rfl, b rfl _ (Same.refl _)⟩⟩
            · have e9 : H8 D = some (.lst (((List.range G).map fun k => decide ((bl pl).getD k 0 < (bl a).getD k 0)).map V.bl)) := by
                rw [e8, filter_yes, List.map_map]; rfl
              refine ⟨D, _, rfl, SqL.of e9, _, rfl, iteB (fun c2 => ?_) (fun c2 => ?_)⟩
              · obtain ⟨k, hk, hlt⟩ := any_iff.mp c2
                refine no (Same.trans s2 s6) fun all => ?_
                have h3 := (all pl pm).ahd a am h1 h2 k hk
                have h4 := of_decide_eq_true hlt
                omega
              · refine ⟨Same.trans s2 s6, ⟨_, rfl⟩, fun q hq k1 k2 k hk => ?_⟩
                rcases (take_mem ha).mp hq with y | y
                · exact hah q y k1 k2 k hk
                · rw [y]
                  apply Classical.byContradiction
                  intro z
                  have := any_iff (f := fun k => decide ((bl pl).getD k 0 < (bl a).getD k 0)).mpr ⟨k, hk, decide_eq_true (show (bl pl).getD k 0 < (bl a).getD k 0 by omega)⟩
                  rw [c2] at this
                  cases this
          · refine iteF ⟨s2, ⟨_, rfl⟩, fun q hq k1 k2 k hk => ?_⟩
            rcases (take_mem ha).mp hq with y | y
            · exact hah q y k1 k2 k hk
            · rw [y] at k1 k2
              rw [k1, k2] at c1
              cases c1
        · rintro σ H4 ⟨s2, ⟨v8, rfl⟩, hah⟩
          rw [dG_length, List.take_length] at hah
          refine ⟨s2, ⟨_, _, _, _, rfl⟩, fun p hp => ?_⟩
          rcases (take_mem hpl).mp hp with y | y
          · exact hex p y
          · rw [y]; exact ⟨fits, rises, hah⟩
    · rintro σ H2 ⟨s1, ⟨v5, v6, v7, v8, rfl⟩, hex⟩
      rw [dG_length, List.take_length] at hex
      obtain ⟨u1, u2⟩ := unlock lr.d s1
      exact ⟨u1, k1 _ u2 hex⟩
end RB
end

section
set_option maxRecDepth 100000
set_option maxHeartbeats 4000000
/-! the law's change -/
namespace RB
open PySem PySem.Spec PyProof.Rows L2
variable {P : Program} {w : World} {K : PySem.W.Frag} {mg : Str → Option Value} {base : Heap}
def spChange : Sp := fun vs H Q _ => ∃ (t na : Addr) (g : Lg) (xs : List Int), vs = [.ref t, .ref na, .int 50] ∧ LogT H t g ∧ g.Ok ∧ H na = some (.lst (xs.map V.int)) ∧ xs.length = 110 ∧
  ∀ a H' da sa ra mvV (ch : Ch) (dk : List Str) (df : Str → Dr), Same H H' → H' a = some (.tup [.ref da, .ref sa, .ref ra, mvV]) → H' da = some (.dK (dS dk fun j => .str (drS (df j)))) → (∀ j ∈ dk, j ∈ g.names) → dk.length ≤ 60 → H' sa = some (.lst (ch.st.map V.int)) → H' ra = some (.lst (ch.rs.map V.int)) → MvAt H' mvV ch.mv →
    (∀ n ∈ ch.st, g.IsAns n) → (∀ n ∈ ch.rs, g.IsAns n) → (∀ n ∈ ch.mv.getD [], g.IsAns n) → Q (.ref a) H'
theorem sc_law_change : FnScope ["_law_log_here", "_law_numbers_here", "_law_at", "_law_places_here", "_law_drifts_here", "_law_k", "_law_rows_here", "_law_kind", "_law_row_here"] ["_law_log_here", "_law_numbers_here", "_law_at"] d_law_change.scope := ⟨rfl, rfl, rfl, by decide +kernel, rfl, by decide +kernel, by decide +kernel⟩
theorem ok_law_change (T : Txt K mg) : Kept P w K mg base 2 (He.ga K "_law_change") ["_law_log_here", "_law_numbers_here", "_law_at"] spChange := by
  refine keep_of (d := d_law_change) T.d_law_change sc_law_change (fun _ _ _ _ _ _ us hl => match us, hl with | [_, _, _], _ => rfl) (fun vs H Q E h => ?_) (fun cd A outer s H vs Q E hr h => ?_)
  · obtain ⟨t, na, g, xs, rfl, _⟩ := h
    rfl
  · obtain ⟨t, na, g, xs, rfl, hlog, ok, hna, h110, k⟩ := h
    have nd := sc_law_change.nd
    have hu := hu_of hr
    refine ⟨_, pss_cons (ps_set (i := 3) nd rfl (Or.inr rfl) (pe_f (ok_law_places T) hr (Nat.le_refl _) rfl T.g_law_places (pa_cons (pv 0) pa_nil)))
      (pss_cons (ps_set (i := 4) nd rfl (Or.inl rfl) pe_dnewK)
      (pss_cons (ps_for PassesOwn.never rfl (pi_range1 rfl T.f_range (pa_cons (pe_len K T.f_len (pe_it K (pv 0) pe_int)) pa_nil)) (pg_name (i := 5) nd rfl (Or.inl rfl))
        (pss_one (ps_if (pt_cmpR op_eq (pe_op op_mod (pe_int_ T.f_int (pe_il K (pv 1) (pe_op op_add (pv 2) (pv 5)))) pe_int) pe_int (nomark _))
          (pss_one (ps_dput hu (pv 4) (pe_it K (pe_il K (pe_it K (pv 0) pe_int) (pv 5)) pe_int) (pe_il K (pe_lst (pa_cons pe_str (pa_cons pe_str (pa_cons pe_str pa_nil)))) (pe_op op_mod (pe_op op_fdiv (pe_int_ T.f_int (pe_il K (pv 1) (pe_op op_add (pv 2) (pv 5)))) pe_int) pe_int)) rfl)) pss_nil)))
      (pss_cons (ps_set (i := 6) nd rfl (Or.inl rfl) (pe_lst pa_nil))
      (pss_cons (ps_for PassesOwn.never rfl (pi_range1 rfl T.f_range (pa_cons pe_int pa_nil)) (pg_name (i := 7) nd rfl (Or.inr rfl))
        (pss_cons (ps_setLc (i := 8) (own := [("_law_k", 5)]) (g := gName 5) rfl nd rfl rfl (sw_true rfl rfl rfl (by decide +kernel)) (pi_range1 rfl T.f_range (pa_cons (pe_len K T.f_len (pv 3)) pa_nil)) (blkOk_by (own := [("_law_k", 5)]) (N := ["_law_log_here", "_law_numbers_here", "_law_at", "_law_places_here", "_law_drifts_here", "_law_k", "_law_rows_here", "_law_kind", "_law_row_here"]) (sc := d_law_change.scope) (by decide +kernel))
            (fun _ _ _ _ _ => pg_name (i := 5) nd rfl (Or.inl rfl)) (fun _ _ _ _ _ => pts_one (pt_cmpR op_eq (pe_op op_mod (pe_int_ T.f_int (pe_il K (pv 1) (pe_op op_add (pe_op op_add (pe_op op_add (pv 2) pe_int) (pe_op op_mul pe_int (pv 7))) (pv 5)))) (pe_il K (pe_lst (pa_cons pe_int (pa_cons pe_int (pa_cons pe_int pa_nil)))) (pv 7))) pe_int (nomark _)))
            (fun _ _ _ _ _ => pe_il K (pv 3) (pv 5)))
        (pss_cons (ps_cut (ps_if (pt_cmpR op_eq (pe_op op_mod (pe_op op_fdiv (pe_int_ T.f_int (pe_il K (pv 1) (pe_op op_add (pv 2) pe_int))) (pe_il K (pe_lst (pa_cons pe_int (pa_cons pe_int (pa_cons pe_int pa_nil)))) (pv 7))) pe_int) pe_int (nomark _))
          (pss_one (ps_set (i := 8) nd rfl (Or.inl rfl) (pe_op op_cat (pe_revL (pv 8)) (pe_slice sl_list (pv 8) po_none (po_some pe_int))))) pss_nil))
        (pss_one (ps_app K (pv 6) (pv 8))))))
      (pss_cons (ps_cut (ps_if (pt_cmpR op_eq (pe_op op_mod (pe_op op_fdiv (pe_int_ T.f_int (pe_il K (pv 1) (pe_op op_add (pv 2) pe_int))) pe_int) pe_int) pe_int (nomark _)) (pss_one (ps_asg pe_non (pg_sub (pv 6) pe_int set_list))) pss_nil))
      (pss_one (ps_ret (pe_tup (pa_cons (pv 4) (pa_cons (pe_il K (pv 6) pe_int) (pa_cons (pe_il K (pv 6) pe_int) (pa_cons (pe_il K (pv 6) pe_int) pa_nil)))))))))))), ?_⟩
    have rd : ∀ i : Int, 0 ≤ i → i < 110 → ∃ v, atI (xs.map V.int) i = some (.int v) := fun i h0 h1 => at_int h0 (by omega)
    refine ⟨_, rfl, t, g, rfl, hlog, ok, fun pa H1 pl s1 hpl pans p9 => ?_⟩
    intro fa nfa
    have nfaH : H fa = none := Same.free s1 nfa
    have s2 := Same.trans s1 (same_new (o := .dK []) nfa)
    have hpl2 := same_new (o := .dK []) nfa _ _ hpl
    obtain ⟨i, j, e, ht, pts⟩ := id hlog
    obtain ⟨js, hj, rj⟩ := pts.ju
    have jl : js.length = g.judges.length := rj.len.symm
    have jn : g.names.length = g.judges.length := List.length_map ..
    have j2 := ok.j2
    refine ⟨_, rfl, _, _, _, _, rfl, rfl, SqT.of (s2 _ _ ht), rfl, j, _, rfl, .inl (SqL.of (s2 _ _ hj)), _, rfl, by omega, by omega, ?_⟩
    have paf : pa ≠ fa := ne_of_none hpl nfa
    refine for_range (fun n σ H' => Same H H' ∧ H' pa = some (.lst (pl.map V.int)) ∧ (∃ v5, σ = [some (.ref t), some (.ref na), some (.int 50), some (.ref pa), some (.ref fa), v5, none, none, none]) ∧ ∃ dk df, H' fa = some (.dK (dS dk fun j => .str (drS (df j)))) ∧ dk.Nodup ∧ ∀ j ∈ dk, j ∈ g.names) ⟨s2, hpl2, ⟨_, rfl⟩, [], fun _ => .stays, upd_same, List.nodup_nil, fun _ h => (by cases h)⟩ ?_ ?_
    · rintro n σ H' hn ⟨s4, hpa, ⟨v5, rfl⟩, dk, df, hfa, dnd, dkm⟩
      have hn2 : n < js.length := by omega
      obtain ⟨vk, rk⟩ := rd (50 + (0 + (n : Int))) (by omega) (by omega)
      refine ⟨_, rfl, _, rfl, _, rfl, _, _, rfl, rfl, _, _, _, _, rfl, rfl, SqL.of (s4 _ _ hna), rk, .inl ⟨_, rfl, _, _, rfl, rfl, (by show (0 : Int) < 3; decide), rfl, _, rfl, iteD (fun _ => ?_) (fun _ => ?_)⟩⟩
      · have m3 := emod_in (x := vk / 3) (n := 3) (by decide)
        obtain ⟨dr, dr1, dr2⟩ := at_str (xs := driftNames) (i := vk / 3 % 3) m3.1 m3.2
        refine ⟨by show 3 ≤ sizeLine; exact small (by omega), fun l1 nl1 => ?_⟩
        have t1 : Same H' (upd H' l1 (.lst (driftNames.map V.str))) := same_new nl1
        have s5 := Same.trans s4 t1
        obtain ⟨pr, prm, tj, at1, ht1⟩ := at_ref (rj.same s5) (i := 0 + (n : Int)) (by omega) (by omega)
        have hfa5 := t1 _ _ hfa
        have dl : dk.length ≤ 2 := by have := nodup_le dnd dkm; omega
        refine ⟨_, rfl, _, rfl, _, rfl, _, _, rfl, rfl, _, _, _, _, rfl, rfl, SqL.of (s5 _ _ hna), rk, .inl ⟨_, rfl, _, _, rfl, rfl, ⟨by decide, by decide⟩, _, _, rfl, rfl, (by show (0 : Int) < 3; decide), _, _, _, _, rfl, rfl, SqL.of upd_same, dr2, _, rfl, _, rfl, _, _, _, _, rfl, rfl, SqT.of (s5 _ _ ht), rfl, _, rfl, _, _, _, _, rfl, rfl, SqL.of (s5 _ _ hj), at1, _, _, _, _, rfl, rfl, SqT.of ht1, rfl, fa, _, rfl, dS_put pr.1 _ hfa5 (smaller (by omega)), ?_⟩⟩
        refine ⟨same_upd s5 nfaH, by rw [upd_ne paf]; exact t1 _ _ hpa, ⟨_, rfl⟩, (if pr.1 ∈ dk then dk else dk ++ [pr.1]), fun x => if x = pr.1 then drOf dr else df x, ?_, put_nodup dnd, fun x hx => ?_⟩
        · rw [upd_same]
          refine congrArg (fun z => some (HO.dK z)) (dG_congr fun y _ => ?_)
          by_cases c : y = pr.1
          · rw [if_pos c]
            show V.str dr = V.str (drS (if y = pr.1 then drOf dr else df y))
            rw [if_pos c, drOf_ok dr dr1]
          · rw [if_neg c]
            show V.str (drS (df y)) = V.str (drS (if y = pr.1 then drOf dr else df y))
            rw [if_neg c]
        · rcases put_mem.mp hx with m | m
          · exact dkm x m
          · rw [m]; exact List.mem_map.mpr ⟨pr, prm, rfl⟩
      · exact ⟨s4, hpa, ⟨_, rfl⟩, dk, df, hfa, dnd, dkm⟩
    rintro σ H2 ⟨s3, hpa, ⟨v5, rfl⟩, dk, df, hfa, dnd, dkm⟩
    have dk60 : dk.length ≤ 60 := by have := nodup_le dnd dkm; omega
    refine ⟨Nat.zero_le _, fun ro nro => ?_⟩
    have nroH : H ro = none := Same.free s3 nro
    have s4 := Same.trans s3 (same_new (o := .lst []) nro)
    have far : fa ≠ ro := ne_of_none hfa nro
    have par : pa ≠ ro := ne_of_none hpa nro
    refine ⟨3, rfl, by decide, by decide, ?_⟩
    refine for_range (n := 3) (fun n σ H' => Same H H' ∧ H' pa = some (.lst (pl.map V.int)) ∧ H' fa = some (.dK (dS dk fun j => .str (drS (df j)))) ∧ (∃ v5 v7 v8, σ = [some (.ref t), some (.ref na), some (.int 50), some (.ref pa), some (.ref fa), v5, some (.ref ro), v7, v8]) ∧ ∃ xss vs, H' ro = some (.lst vs) ∧ Paired (fun (xs : List Int) v => ∃ a, v = V.ref a ∧ a ≠ ro ∧ H' a = some (.lst (xs.map V.int)) ∧ ∀ n ∈ xs, g.IsAns n) xss vs ∧ xss.length = n)
      ⟨s4, same_new nro _ _ hpa, same_new nro _ _ hfa, ⟨_, _, _, rfl⟩, [], [], upd_same, .nil, rfl⟩ ?_ ?_
    · rintro n σ H3 hn ⟨s5, hpa, hfa, ⟨v5, v7, v8, rfl⟩, xss, vs, hro, hp, hlen⟩
      obtain ⟨m, m0, hm⟩ : ∃ m : Int, 0 < m ∧ atI (([5, 6, 3] : List Int).map V.int) (0 + (n : Int)) = some (.int m) := by
        match n, hn with
        | 0, _ => exact ⟨5, by decide, rfl⟩
        | 1, _ => exact ⟨6, by decide, rfl⟩
        | 2, _ => exact ⟨3, by decide, rfl⟩
      obtain ⟨m2, m20, m2b, hm2⟩ : ∃ m : Int, 0 < m ∧ m < 1073741824 ∧ atI (([1, 2, 4] : List Int).map V.int) (0 + (n : Int)) = some (.int m) := by
        match n, hn with
        | 0, _ => exact ⟨1, by decide, by decide, rfl⟩
        | 1, _ => exact ⟨2, by decide, by decide, rfl⟩
        | 2, _ => exact ⟨4, by decide, by decide, rfl⟩
      have ll : (pl.map V.int).length = pl.length := List.length_map ..
      refine ⟨_, rfl, pa, _, rfl, .inl (SqL.of hpa), _, rfl, by omega, by omega, fun D nD => ?_⟩
      refine lc_val (n := (pl.map V.int).length) walk_range nD (small (by omega)) (fun k => decide ((xs.getD (50 + 4 + 13 * (0 + (n : Int)) + (0 + (k : Int))).toNat 0) % m = 1)) (fun k => .int (pl.getD k 0)) (fun _ _ => trivial) (fun q x H4 H5 hq s6 hY N Z b1 b2 => ?_) fun H4 s6 e4 => ?_
      · obtain ⟨rfl, rfl⟩ := hY
        refine ⟨rfl, _, rfl, _, rfl, _, _, rfl, rfl, _, rfl, _, _, rfl, rfl, .inl ⟨by decide, by decide⟩, _, _, rfl, rfl, _, rfl, _, _, rfl, rfl, _, _, _, _, rfl, rfl, SqL.of (s6 _ _ (s5 _ _ hna)), at_getD (by omega) (by omega), .inl ⟨_, rfl, by show 3 ≤ sizeLine; exact small (by omega), fun l1 nl1 => ?_⟩⟩
        have t1 : Same H5 (upd H5 l1 (.lst (([5, 6, 3] : List Int).map V.int))) := same_new nl1
        refine ⟨_, rfl, _, _, _, _, rfl, rfl, SqL.of upd_same, hm, _, _, rfl, rfl, m0, rfl, _, rfl, iteD (fun h => ?_) (fun h => ?_)⟩
        · exact ⟨_, rfl, _, rfl, _, _, _, _, rfl, rfl, SqL.of (t1 _ _ (s6 _ _ hpa)), (by rw [Int.zero_add]; exact atI_nat (map_getD (by omega))), b1 (decide_eq_true (V.int.inj h)) _ t1⟩
        · exact b2 (decide_eq_false fun z => h (congrArg V.int z)) _ t1
      have row : ∃ ys : List Int, H4 D = some (.lst (ys.map V.int)) ∧ (∀ y ∈ ys, g.IsAns y) ∧ ys.length ≤ 9 := by
        refine ⟨((List.range (pl.map V.int).length).filter fun (k : Nat) => decide ((xs.getD (50 + 4 + 13 * (0 + (n : Int)) + (0 + (k : Int))).toNat 0) % m = 1)).map fun k => pl.getD k 0, by rw [e4, List.map_map]; rfl, fun y hy => ?_, ?_⟩
        · obtain ⟨q, hq, rfl⟩ := List.mem_map.mp hy
          have hq2 : q < pl.length := by have := List.mem_range.mp (List.mem_filter.mp hq).1; omega
          rw [getD_at (List.getElem?_eq_getElem hq2)]
          exact pans _ (List.getElem_mem hq2)
        · rw [List.length_map]
          have h3 := List.length_filter_le (fun k : Nat => decide ((xs.getD (50 + 4 + 13 * (0 + (n : Int)) + (0 + (k : Int))).toNat 0) % m = 1)) (List.range (pl.map V.int).length)
          rw [List.length_range] at h3
          omega
      obtain ⟨ys, hD, hans, y9⟩ := row
      have s7 := Same.trans s5 s6
      have Dro : D ≠ ro := (ne_of_none hro nD).symm
      refine ⟨fun σ' H' => ∃ (a : Addr) (zs : List Int), Same H4 H' ∧ σ' = [some (.ref t), some (.ref na), some (.int 50), some (.ref pa), some (.ref fa), v5, some (.ref ro), some (.int (0 + (n : Int))), some (.ref a)] ∧ H' a = some (.lst (zs.map V.int)) ∧ a ≠ ro ∧ ∀ y ∈ zs, g.IsAns y, ?_, ?_⟩
      · obtain ⟨v3, r3⟩ := rd (50 + 3) (by decide) (by decide)
        refine ⟨_, rfl, _, rfl, _, _, rfl, rfl, _, _, _, _, rfl, rfl, SqL.of (s7 _ _ hna), r3, .inl ⟨_, rfl, by show 3 ≤ sizeLine; exact small (by omega), fun l1 nl1 => ?_⟩⟩
        have t1 : Same H4 (upd H4 l1 (.lst (([1, 2, 4] : List Int).map V.int))) := same_new nl1
        refine ⟨_, rfl, _, _, _, _, rfl, rfl, SqL.of upd_same, hm2, _, _, rfl, rfl, ⟨m20, m2b⟩, _, _, rfl, rfl, (by show (0 : Int) < 2; decide), rfl, _, rfl, iteD (fun _ => ?_) (fun _ => ?_)⟩
        · refine ⟨_, rfl, D, _, rfl, SqL.of (t1 _ _ hD), fun b1 nb1 => ?_⟩
          rw [show (ys.map V.int).reverse = ys.reverse.map V.int from List.map_reverse.symm]
          have t2 := Same.trans t1 (same_new (o := .lst (ys.reverse.map V.int)) nb1)
          refine ⟨_, rfl, 1, rfl, D, _, rfl, SqL.of (t2 _ _ hD), fun b2 nb2 => ?_⟩
          rw [show cutV (ys.map V.int) none (some 1) = (ys.take 1).map V.int from cut_to (k := 1)]
          have t3 := Same.trans t2 (same_new (o := .lst ((ys.take 1).map V.int)) nb2)
          refine ⟨b1, b2, _, _, rfl, rfl, same_new nb2 _ _ upd_same, upd_same, small (by simp only [List.length_map, List.length_reverse, List.length_take]; omega), fun b3 nb3 => ?_⟩
          refine ⟨b3, ys.reverse ++ ys.take 1, Same.trans t3 (same_new nb3), rfl, by rw [upd_same, List.map_append], (ne_of_none (t3 _ _ (s6 _ _ hro)) nb3).symm, fun y hy => ?_⟩
          rcases List.mem_append.mp hy with q | q
          · exact hans y (List.mem_reverse.mp q)
          · exact hans y (List.mem_of_mem_take q)
        · exact ⟨D, ys, t1, rfl, t1 _ _ hD, Dro, hans⟩
      rintro σ' H5 ⟨a, zs, s8, rfl, ha, aro, hz⟩
      have hro5 := s8 _ _ (s6 _ _ hro)
      have vl : vs.length = n := by rw [← Paired.length hp, hlen]
      refine ⟨_, rfl, tyL hro5, _, rfl, ro, _, _, rfl, rfl, hro5, smaller (by omega), same_upd (Same.trans s7 s8) nroH, ?_, ?_, ⟨_, _, _, rfl⟩, xss ++ [zs], vs ++ [.ref a], upd_same, ?_, by rw [List.length_append, hlen]; rfl⟩
      · rw [upd_ne par]; exact s8 _ _ (s6 _ _ hpa)
      · rw [upd_ne far]; exact s8 _ _ (s6 _ _ hfa)
      · refine pair_snoc (Paired.mapP hp fun x v ⟨b, e1, e2, e3, e4⟩ => ⟨b, e1, e2, by rw [upd_ne e2]; exact s8 _ _ (s6 _ _ e3), e4⟩) ⟨a, rfl, aro, by rw [upd_ne aro]; exact ha, hz⟩
    rintro σ H3 ⟨s5, hpa3, hfa3, ⟨v5', v7, v8, rfl⟩, xss, vs, hro, hp, hlen⟩
    obtain ⟨x0, x1, x2, rfl⟩ : ∃ x0 x1 x2, xss = [x0, x1, x2] := by
      match xss, hlen with
      | [x0, x1, x2], _ => exact ⟨x0, x1, x2, rfl⟩
    cases hp with
    | cons h0 hp =>
    cases hp with
    | cons h1 hp =>
    cases hp with
    | cons h2 hp =>
    cases hp
    obtain ⟨a0, rfl, n0, l0, z0⟩ := h0
    obtain ⟨a1, rfl, n1, l1, z1⟩ := h1
    obtain ⟨a2, rfl, n2, l2, z2⟩ := h2
    refine ⟨fun σ' H' => ∃ (mvV : V) (mv : Option (List Int)), Same H H' ∧ H' fa = some (.dK (dS dk fun j => .str (drS (df j)))) ∧ σ' = [some (.ref t), some (.ref na), some (.int 50), some (.ref pa), some (.ref fa), v5', some (.ref ro), v7, v8] ∧ H' ro = some (.lst [.ref a0, .ref a1, mvV]) ∧ H' a0 = some (.lst (x0.map V.int)) ∧ H' a1 = some (.lst (x1.map V.int)) ∧ MvAt H' mvV mv ∧ ∀ n ∈ mv.getD [], g.IsAns n, ?_, ?_⟩
    · obtain ⟨v3, r3⟩ := rd (50 + 3) (by decide) (by decide)
      refine ⟨_, rfl, _, rfl, _, _, rfl, rfl, _, _, _, _, rfl, rfl, SqL.of (s5 _ _ hna), r3, .inl ⟨_, rfl, _, _, rfl, rfl, ⟨by decide, by decide⟩, _, _, rfl, rfl, (by show (0 : Int) < 2; decide), rfl, _, rfl, iteD (fun _ => ?_) (fun _ => ?_)⟩⟩
      · refine ⟨_, rfl, ro, _, _, 2, rfl, rfl, hro, rfl, .non, none, same_upd s5 nroH, by rw [upd_ne far]; exact hfa3, rfl, upd_same, by rw [upd_ne n0]; exact l0, by rw [upd_ne n1]; exact l1, rfl, fun _ h => (by cases h)⟩
      · exact ⟨.ref a2, some x2, s5, hfa3, rfl, hro, l0, l1, ⟨a2, rfl, l2⟩, z2⟩
    rintro σ' H4 ⟨mvV, mv, s6, hfa4, rfl, hro4, l04, l14, hmv, zm⟩
    refine ⟨_, rfl, _, rfl, _, _, _, _, rfl, rfl, SqL.of hro4, rfl, _, rfl, _, _, _, _, rfl, rfl, SqL.of hro4, rfl, _, rfl, _, _, _, _, rfl, rfl, SqL.of hro4, rfl, by show 4 ≤ sizeLine; exact small (by omega), fun a na' => ?_⟩
    have u1 : Same H4 (upd H4 a (.tup [.ref fa, .ref a0, .ref a1, mvV])) := same_new na'
    exact k a _ fa a0 a1 mvV ⟨x0, x1, mv⟩ dk df (Same.trans s6 u1) upd_same (u1 _ _ hfa4) dkm dk60 (u1 _ _ l04) (u1 _ _ l14) (hmv.same u1) z0 z1 zm
end RB
end

section
set_option maxRecDepth 100000
set_option maxHeartbeats 4000000
/-! the law's good ranks -/
namespace RB
open PySem PySem.Spec PyProof.Rows L2
variable {P : Program} {w : World} {K : PySem.W.Frag} {mg : Str → Option Value} {base : Heap}
/-! ### the bars' law, of a case -/
theorem ExpOk.bars {c : Cs} {z : Int} {d : Str → Int} {bs : List Int} {bl : Int → List Int} (e : ExpOk c z d bs bl) {G : Nat} (hG : (G : Int) = c.grades) : Bars c.T c.dr G z d fun p k => (bl p).getD k 0 := by
  have len : ∀ p ∈ c.ps, (bl p).length = G := fun p hp => by have := e.len p ((e.mem p).mpr hp); omega
  refine ⟨?_, ?_⟩
  · rintro ⟨p, pr⟩ hp ⟨q, qr⟩ hq ha k hk
    obtain ⟨p1, p2⟩ := Cs.mem.mp hp
    obtain ⟨q1, q2⟩ := Cs.mem.mp hq
    simp only at p1 p2 q1 q2
    subst p2 q2
    rw [Cs.ahead_eq, Bool.and_eq_true] at ha
    exact (e.bar p ((e.mem p).mpr p1) k (by rw [len p p1]; exact hk)).1 q q1 ha.1 ha.2
  · rintro ⟨p, pr⟩ hp k hk
    obtain ⟨p1, p2⟩ := Cs.mem.mp hp
    simp only at p1 p2
    subst p2
    obtain ⟨q, q1, q2, q3, q4⟩ := (e.bar p ((e.mem p).mpr p1) k (by rw [len p p1]; exact hk)).2
    exact ⟨(q, c.rw q), Cs.mem.mpr ⟨q1, rfl⟩, by rw [Cs.ahead_eq, q2, q3]; rfl, q4⟩
theorem ex_iff {c : Cs} {d : Str → Int} {bl : Int → List Int} {G : Nat} : Expl c.T c.dr G d (fun p k => (bl p).getD k 0) ↔ ∀ p ∈ c.ps, ExC c G d bl p := by
  constructor
  · intro h p hp
    obtain ⟨h1, h2, h3⟩ := h (p, c.rw p) (Cs.mem.mpr ⟨hp, rfl⟩)
    exact ⟨h1, h2, fun q hq a b => h3 (q, c.rw q) (Cs.mem.mpr ⟨hq, rfl⟩) (by rw [Cs.ahead_eq, a, b]; rfl)⟩
  · rintro h ⟨p, pr⟩ hp
    obtain ⟨p1, p2⟩ := Cs.mem.mp hp
    simp only at p1 p2
    subst p2
    have e := h p p1
    refine ⟨e.fit, e.rise, ?_⟩
    rintro ⟨q, qr⟩ hq ha
    obtain ⟨q1, q2⟩ := Cs.mem.mp hq
    simp only at q1 q2
    subst q2
    rw [Cs.ahead_eq, Bool.and_eq_true] at ha
    exact e.ahd q q1 ha.1 ha.2
/-- the bars explain all, and only if the links rise -/
theorem exC_good {c : Cs} (ok : c.Ok) {z : Int} (hz : z ≤ 0) {d : Str → Int} (hd : ∀ p ∈ c.ps, 0 ≤ d (c.rw p).item) {bs : List Int} {bl : Int → List Int} (e : ExpOk c z d bs bl) : (∀ p ∈ c.ps, ExC c c.grades.toNat d bl p) ↔ Good (Adj c.T c.dr) d := by
  have g1 := ok.g1
  have hG : ((c.grades.toNat : Nat) : Int) = c.grades := by omega
  rw [← ex_iff]
  refine expl_iff ok.mono (e.bars hG) hz ?_ ?_
  · rintro ⟨p, pr⟩ hp
    obtain ⟨p1, p2⟩ := Cs.mem.mp hp
    simp only at p1 p2
    subst p2
    exact hd p p1
  · rintro ⟨p, pr⟩ hp
    obtain ⟨p1, p2⟩ := Cs.mem.mp hp
    simp only at p1 p2
    subst p2
    rw [hG]
    exact ok.pg p p1
theorem adj_items {c : Cs} (ok : c.Ok) : ∀ i o, Adj c.T c.dr i o → i ∈ c.items ∧ o ∈ c.items := fun i o h => by
  obtain ⟨q, l, rfl, rfl⟩ := Cs.Ok.adj.mp h
  exact ⟨ok.pi _ l.a, ok.pi _ l.b⟩
/-- dicts of ranks -/
def Rks (H : Hp) (ks : List Str) (qs : List (Str → Int)) (vs : List V) : Prop := Paired (fun q v => ∃ a, v = V.ref a ∧ H a = some (.dK (dS ks fun k => .int (q k)))) qs vs
theorem Rks.same {H H' : Hp} {ks : List Str} {qs : List (Str → Int)} {vs : List V} (r : Rks H ks qs vs) (s : Same H H') : Rks H' ks qs vs := Paired.mapP r fun q v ⟨a, e, h⟩ => ⟨a, e, s _ _ h⟩
def InR (ks : List Str) (n : Nat) (q : Str → Int) : Prop := ∀ i ∈ ks, 0 ≤ q i ∧ q i < n
def spGood : Sp := fun vs H Q _ => ∃ (t ra da : Addr) (g : Lg) (c : Cs) (ad : Int → Addr), vs = [.ref t, .ref ra, .ref da] ∧ LogT H t g ∧ c.items = g.items ∧ c.grades = g.grades ∧ LR H ra c ad ∧ LDr H da c ∧ c.Ok ∧
  ∀ a H' qs vs, Same H H' → H' a = some (.lst vs) → Rks H' c.items qs vs → (∀ q ∈ qs, Good (Adj c.T c.dr) q ∧ InR c.items c.items.length q) → (∀ q, Good (Adj c.T c.dr) q → InR c.items c.items.length q → ∃ q' ∈ qs, ∀ i ∈ c.items, q' i = q i) → vs.length ≤ 256 → Q (.ref a) H'
theorem sc_law_good : FnScope ["_law_log_here", "_law_rows_here", "_law_drifts_here", "_law_ranks", "_law_item", "_law_longer", "_law_row_here", "_law_rank", "_law_grown"] ["_law_log_here", "_law_rows_here", "_law_drifts_here"] d_law_good.scope := ⟨rfl, rfl, rfl, by decide +kernel, rfl, by decide +kernel, by decide +kernel⟩
open Classical in
theorem ok_law_good (T : Txt K mg) : Kept P w K mg base 5 (He.ga K "_law_good") ["_law_log_here", "_law_rows_here", "_law_drifts_here"] spGood := by
  refine keep_of (d := d_law_good) T.d_law_good sc_law_good (fun _ _ _ _ _ _ us hl => match us, hl with | [_, _, _], _ => rfl) (fun vs H Q E h => ?_) (fun cd A outer s H vs Q E hr h => ?_)
  · obtain ⟨t, ra, da, g, c, ad, rfl, _⟩ := h
    rfl
  · obtain ⟨t, ra, da, g, c, ad, rfl, hlog, eI, eGr, lr, hda, ok, k⟩ := h
    have nd := sc_law_good.nd
    have hu := hu_of hr
    refine ⟨_, pss_cons (ps_set (i := 3) nd rfl (Or.inl rfl) (pe_lst (pa_cons pe_dnewK pa_nil)))
      (pss_cons (ps_for PassesOwn.never rfl (pi_list (pe_it K (pv 0) pe_int)) (pg_name (i := 4) nd rfl (Or.inl rfl))
        (pss_cons (ps_set (i := 5) nd rfl (Or.inl rfl) (pe_lst pa_nil))
        (pss_cons (ps_for PassesOwn.never rfl (pi_list (pv 3)) (pg_name (i := 6) nd rfl (Or.inl rfl))
          (pss_one (ps_for PassesOwn.never rfl (pi_range1 rfl T.f_range (pa_cons (pe_len K T.f_len (pe_it K (pv 0) pe_int)) pa_nil)) (pg_name (i := 7) nd rfl (Or.inl rfl))
            (pss_cons (ps_set (i := 8) nd rfl (Or.inl rfl) (pe_callTy call_dictD rfl T.f_dict (by decide +kernel) (pa_cons (pv 6) pa_nil)))
            (pss_cons (ps_dput hu (pv 8) (pv 4) (pv 7) rfl)
            (pss_one (ps_app K (pv 5) (pv 8))))))))
        (pss_one (ps_set (i := 3) nd rfl (Or.inl rfl) (pv 5))))))
      (pss_one (ps_ret (pe_lc (own := [("_law_row_here", 6)]) (g := gName 6) rfl nd (pi_list (pv 3)) (blkOk_by (own := [("_law_row_here", 6)]) (N := ["_law_log_here", "_law_rows_here", "_law_drifts_here", "_law_ranks", "_law_item", "_law_longer", "_law_row_here", "_law_rank", "_law_grown"]) (sc := d_law_good.scope) (by decide +kernel))
        (fun _ _ _ _ _ => pg_name (i := 6) nd rfl (Or.inl rfl)) (fun _ _ _ _ _ => pts_one (pt_val (pe_f (ok_law_explains T) hr (Nat.le_refl _) rfl T.g_law_explains (pa_cons (pv 0) (pa_cons (pv 1) (pa_cons (pv 2) (pa_cons (pv 6) (pa_cons (pe_f (ok_law_bars T) hr (Nat.le_refl _) rfl T.g_law_bars (pa_cons (pv 0) (pa_cons (pv 1) (pa_cons (pv 2) (pa_cons (pv 6) pa_nil))))) pa_nil)))))))) (fun _ _ _ _ _ => pv 6))))), ?_⟩
    obtain ⟨i, j, e, ht, pts⟩ := id hlog
    have hi := pts.it
    rw [← eI] at hi
    rw [← eGr] at ht
    have i4 := ok.i4
    intro d0 nd0
    refine ⟨by show 1 ≤ sizeLine; exact small (by omega), fun rk nrk => ?_⟩
    have s1 : Same H (upd H d0 (.dK [])) := same_new nd0
    have s2 := Same.trans s1 (same_new (o := .lst [.ref d0]) nrk)
    refine ⟨_, rfl, _, _, _, _, rfl, rfl, SqT.of (s2 _ _ ht), rfl, i, rfl, ⟨_, SqL.of (s2 _ _ hi)⟩, ?_⟩
    refine for_list (K := K) (a := i) (xs := c.items.map V.str) (fun m σ H' => Same H H' ∧ (∃ rk v4 v5 v6 v7 v8, σ = [some (.ref t), some (.ref ra), some (.ref da), some (.ref rk), v4, v5, v6, v7, v8] ∧ ∃ qs vs, H' rk = some (.lst vs) ∧ Rks H' (c.items.take m) qs vs ∧ (∀ q ∈ qs, InR (c.items.take m) c.items.length q) ∧
      (∀ q, InR (c.items.take m) c.items.length q → ∃ q' ∈ qs, ∀ i ∈ c.items.take m, q' i = q i) ∧ vs.length ≤ 4 ^ m)) ⟨s2, rk, _, _, _, _, _, rfl, [fun _ => 0], [.ref d0], upd_same, .cons ⟨d0, rfl, same_new nrk _ _ upd_same⟩ .nil, fun q _ i hi => by simp at hi, fun q _ => ⟨_, List.mem_singleton.mpr rfl, fun i hi => by simp at hi⟩, Nat.le_refl 1⟩ (fun n σ H' _ h => SqL.of (h.1 _ _ hi)) ?_ ?_
    · rintro m x σ H1 hx ⟨s3, rk, v4, v5, v6, v7, v8, rfl, qs, vs, hrk, hR, hb, hc, hl⟩
      have hm4 : m < 4 := by have := (List.getElem?_eq_some_iff.mp hx).1; rw [List.length_map] at this; omega
      rw [List.getElem?_map] at hx
      obtain ⟨it, hit, rfl⟩ := Option.map_eq_some_iff.mp hx
      have hnot : it ∉ c.items.take m := by
        have h1 := ok.ind
        rw [← List.take_append_drop (m + 1) c.items, List.take_succ, hit] at h1
        have h2 := (List.nodup_append.mp (List.nodup_append.mp h1).1)
        intro hm
        exact h2.2.2 _ hm _ (List.mem_singleton.mpr rfl) rfl
      have htk : c.items.take (m + 1) = c.items.take m ++ [it] := by rw [List.take_succ, hit]; rfl
      have l64 : vs.length ≤ 64 := Nat.le_trans hl (Nat.pow_le_pow_right (by decide) (by omega) : 4 ^ m ≤ 4 ^ 3)
      have ql : qs.length = vs.length := Paired.length hR
      have tl : (c.items.take m).length ≤ 4 := by rw [List.length_take]; omega
      refine ⟨Nat.zero_le _, fun lo nlo => ?_⟩
      have nloH : H lo = none := Same.free s3 nlo
      have t1 : Same H1 (upd H1 lo (.lst [])) := same_new nlo
      refine ⟨_, rfl, rk, rfl, ⟨_, SqL.of (t1 _ _ hrk)⟩, ?_⟩
      have rlo : rk ≠ lo := ne_of_none hrk nlo
      refine for_list (K := K) (a := rk) (xs := vs) (fun r σ H' => Same H H' ∧ H' rk = some (.lst vs) ∧ Rks H' (c.items.take m) qs vs ∧ (∃ v6 v7 v8, σ = [some (.ref t), some (.ref ra), some (.ref da), some (.ref rk), some (.str it), some (.ref lo), v6, v7, v8]) ∧ ∃ qs2 vs2, H' lo = some (.lst vs2) ∧ Rks H' (c.items.take (m + 1)) qs2 vs2 ∧ (∀ q ∈ qs2, InR (c.items.take (m + 1)) c.items.length q) ∧
        (∀ q0 ∈ qs.take r, ∀ j : Nat, j < c.items.length → ∃ q' ∈ qs2, (∀ i ∈ c.items.take m, q' i = q0 i) ∧ q' it = (j : Int)) ∧ vs2.length ≤ r * 4) ⟨Same.trans s3 t1, t1 _ _ hrk, hR.same t1, ⟨_, _, _, rfl⟩, [], [], upd_same, .nil, fun _ h => (by cases h), fun q hq => by simp at hq, Nat.zero_le _⟩ (fun n σ H' _ h => SqL.of h.2.1) ?_ ?_
      · rintro r x σ H2 hx ⟨s4, hrk2, hR2, ⟨v6, v7, v8, rfl⟩, qs2, vs2, hlo, hR22, hb2, hc2, hl2⟩
        have hrl : r < vs.length := (List.getElem?_eq_some_iff.mp hx).1
        have hq0 : qs[r]? = some qs[r] := List.getElem?_eq_getElem (by omega)
        obtain ⟨v, hv, a, rfl, ha⟩ := pair_get hR2 hq0
        rw [hx] at hv
        cases hv
        have q0m := List.mem_of_getElem? hq0
        generalize qs[r] = q0 at hq0 ha q0m
        refine ⟨_, rfl, _, _, _, _, rfl, rfl, SqT.of (s4 _ _ ht), rfl, i, _, rfl, .inl (SqL.of (s4 _ _ hi)), _, rfl, by omega, by rw [List.length_map]; omega, ?_⟩
        refine for_range (n := (c.items.map V.str).length) (fun k σ H' => Same H H' ∧ H' rk = some (.lst vs) ∧ Rks H' (c.items.take m) qs vs ∧ H' a = some (.dK (dS (c.items.take m) fun k => .int (q0 k))) ∧ (∃ v7 v8, σ = [some (.ref t), some (.ref ra), some (.ref da), some (.ref rk), some (.str it), some (.ref lo), some (.ref a), v7, v8]) ∧ ∃ qs2 vs2, H' lo = some (.lst vs2) ∧ Rks H' (c.items.take (m + 1)) qs2 vs2 ∧ (∀ q ∈ qs2, InR (c.items.take (m + 1)) c.items.length q) ∧
          (∀ q0 ∈ qs.take r, ∀ j : Nat, j < c.items.length → ∃ q' ∈ qs2, (∀ i ∈ c.items.take m, q' i = q0 i) ∧ q' it = (j : Int)) ∧ (∀ j : Nat, j < k → ∃ q' ∈ qs2, (∀ i ∈ c.items.take m, q' i = q0 i) ∧ q' it = (j : Int)) ∧ vs2.length ≤ r * 4 + k) ⟨s4, hrk2, hR2, ha, ⟨_, _, rfl⟩, qs2, vs2, hlo, hR22, hb2, hc2, fun j hj => absurd hj (Nat.not_lt_zero _), by omega⟩ ?_ ?_
        · rintro k σ H3 hk ⟨s5, hrk3, hR3, ha3, ⟨v7, v8, rfl⟩, qs2, vs2, hlo, hR22, hb2, hc2, hck, hl2⟩
          rw [List.length_map] at hk
          refine ⟨_, rfl, a, _, rfl, .inl ha3, fun ga nga => ?_⟩
          have u1 : Same H3 (upd H3 ga (.dK (dS (c.items.take m) fun k => .int (q0 k)))) := same_new nga
          have nlg : lo ≠ ga := ne_of_none hlo nga
          refine ⟨_, rfl, _, rfl, _, rfl, ga, _, rfl, dS_putNew (.int (0 + (k : Int))) upd_same hnot (smaller (by omega)), ?_⟩
          rw [upd_upd]
          have eg : (dS (c.items.take m ++ [it]) fun x => if x = it then V.int (0 + (k : Int)) else V.int (q0 x)) = dS (c.items.take (m + 1)) fun x => .int (if x = it then (k : Int) else q0 x) := by
            rw [htk]
            refine dG_congr fun x _ => ?_
            by_cases c : x = it
            · rw [if_pos c, if_pos c, Int.zero_add]
            · rw [if_neg c, if_neg c]
          rw [eg]
          have u2 : Same H3 (upd H3 ga (.dK (dS (c.items.take (m + 1)) fun x => .int (if x = it then (k : Int) else q0 x)))) := same_new nga
          have hga : upd H3 ga (.dK (dS (c.items.take (m + 1)) fun x => .int (if x = it then (k : Int) else q0 x))) ga = some (.dK (dS (c.items.take (m + 1)) fun x => .int (if x = it then (k : Int) else q0 x))) := upd_same
          have hlo4 := u2 _ _ hlo
          refine ⟨_, rfl, tyL hlo4, _, rfl, lo, _, _, rfl, rfl, hlo4, smaller (by omega), ?_⟩
          have kd : ∀ {b : Addr} {kvs : List (Key × V)}, upd H3 ga (.dK (dS (c.items.take (m + 1)) fun x => .int (if x = it then (k : Int) else q0 x))) b = some (.dK kvs) → upd (upd H3 ga (.dK (dS (c.items.take (m + 1)) fun x => .int (if x = it then (k : Int) else q0 x)))) lo (.lst (vs2 ++ [.ref ga])) b = some (.dK kvs) := fun {b kvs} q => by
            rw [upd_ne (fun y => by rw [y, hlo4] at q; cases q)]
            exact q
          refine ⟨same_upd (Same.trans s5 u2) nloH, by rw [upd_ne rlo]; exact u2 _ _ hrk3, Paired.mapP hR3 fun q v ⟨b, e1, e2⟩ => ⟨b, e1, kd (u2 _ _ e2)⟩, kd (u2 _ _ ha3), ⟨_, _, rfl⟩, qs2 ++ [fun x => if x = it then (k : Int) else q0 x], vs2 ++ [.ref ga], upd_same, ?_, fun q hq => ?_, fun q1 h1 j hj => ?_, fun j hj => ?_, ?_⟩
          · exact pair_snoc (Paired.mapP hR22 fun q v ⟨b, e1, e2⟩ => ⟨b, e1, kd (u2 _ _ e2)⟩) ⟨ga, rfl, kd hga⟩
          · rcases List.mem_append.mp hq with y | y
            · exact hb2 q y
            · rw [List.mem_singleton.mp y]
              intro i hi
              show 0 ≤ (if i = it then (k : Int) else q0 i) ∧ (if i = it then (k : Int) else q0 i) < _
              rw [htk] at hi
              by_cases e : i = it
              · rw [if_pos e]; omega
              · rw [if_neg e]
                exact hb q0 q0m i ((List.mem_append.mp hi).resolve_right fun z => e (List.mem_singleton.mp z))
          · obtain ⟨q', a1, a2⟩ := hc2 q1 h1 j hj
            exact ⟨q', List.mem_append_left _ a1, a2⟩
          · by_cases e : j = k
            · subst e
              refine ⟨_, List.mem_append_right _ (List.mem_singleton.mpr rfl), fun i hi => ?_, ?_⟩
              · show (if i = it then (j : Int) else q0 i) = q0 i
                rw [if_neg (fun z => hnot (by rw [← z]; exact hi))]
              · show (if it = it then (j : Int) else q0 it) = _
                rw [if_pos rfl]
            · obtain ⟨q', a1, a2⟩ := hck j (by omega)
              exact ⟨q', List.mem_append_left _ a1, a2⟩
          · rw [List.length_append]; simp only [List.length_singleton]; omega
        · rintro σ H3 ⟨s5, hrk3, hR3, ha3, ⟨v7, v8, rfl⟩, qs2, vs2, hlo, hR22, hb2, hc2, hck, hl2⟩
          rw [List.length_map] at hck hl2
          refine ⟨s5, hrk3, hR3, ⟨_, _, _, rfl⟩, qs2, vs2, hlo, hR22, hb2, fun q1 h1 j hj => ?_, by omega⟩
          rcases (take_mem hq0).mp h1 with y | y
          · exact hc2 q1 y j hj
          · rw [y]; exact hck j hj
      · rintro σ H2 ⟨s4, hrk2, hR2, ⟨v6, v7, v8, rfl⟩, qs2, vs2, hlo, hR22, hb2, hc2, hl2⟩
        rw [← ql, List.take_length] at hc2
        refine ⟨_, rfl, s4, lo, _, _, _, _, _, rfl, qs2, vs2, hlo, hR22, hb2, fun q hq => ?_, ?_⟩
        · have hin : InR (c.items.take m) c.items.length q := fun i hi => hq i (by rw [htk]; exact List.mem_append_left _ hi)
          obtain ⟨q0, a1, a2⟩ := hc q hin
          have hqi := hq it (by rw [htk]; exact List.mem_append_right _ (List.mem_singleton.mpr rfl))
          obtain ⟨q', b1, b2, b3⟩ := hc2 q0 a1 (q it).toNat (by omega)
          refine ⟨q', b1, fun i hi => ?_⟩
          rw [htk] at hi
          rcases List.mem_append.mp hi with y | y
          · rw [b2 i y, a2 i y]
          · rw [List.mem_singleton.mp y, b3]; omega
        · have : 4 ^ (m + 1) = 4 ^ m * 4 := Nat.pow_succ ..
          omega
    rintro σ H1 ⟨s3, rk, v4, v5, v6, v7, v8, rfl, qs, vs, hrk, hR, hb, hc, hl⟩
    rw [List.length_map, List.take_length] at hR hb hc
    rw [List.length_map] at hl
    have l256 : vs.length ≤ 256 := Nat.le_trans hl (Nat.pow_le_pow_right (by decide) i4 : 4 ^ c.items.length ≤ 4 ^ 4)
    have ql : qs.length = vs.length := Paired.length hR
    refine ⟨_, rfl, rk, rfl, ⟨_, SqL.of hrk⟩, fun D nD => ?_⟩
    refine lc_lrel (l := qs) (walkN ql.symm) nD (by omega) (fun q => decide (Good (Adj c.T c.dr) q)) (fun q v H => ∃ a, v = V.ref a ∧ H a = some (.dK (dS c.items fun k => .int (q k)))) (fun q v H H' ⟨a, e, h⟩ ⟨z, hz⟩ sb => ⟨a, e, sb _ _ (fun e2 => by rw [e2, hz] at h; cases h) h⟩) (fun H2 s4 => SqL.of (s4 _ _ hrk)) (fun n x H2 H3 q hq s4 hD hY N Z b1 b2 => ?_) fun H2 zs s4 e4 r4 => ?_
    · obtain ⟨rfl, hx⟩ := hY
      obtain ⟨v, hv, a, rfl, ha⟩ := pair_get hR hq
      rw [hx] at hv
      cases hv
      have s5 := Same.trans s3 s4
      have ha2 := s4 _ _ ha
      have qm := List.mem_of_getElem? hq
      have hlr : ∀ {H' : Hp}, Same H H' → LR H' ra c ad := fun s => ⟨s _ _ lr.d, lr.r.lk (.of s)⟩
      have hlg : ∀ {H' : Hp}, Same H H' → LogG H' t c.grades := fun s => ⟨_, _, _, s _ _ ht⟩
      have q0 : ∀ p ∈ c.ps, 0 ≤ q (c.rw p).item := fun p hp => (hb q qm _ (ok.pi p hp)).1
      refine ⟨rfl, _, rfl, _, rfl, _, rfl, _, rfl, _, rfl, _, rfl, _, rfl, _, rfl, t, ra, da, a, c, c.items, q, ad, rfl, hlg s5, hlr s5, Same.rd s5 hda, ha2, fun _ h => h, ok, q0, fun ba H4 bl bad s6 hba hbi ex => ?_⟩
      have s7 := Same.trans s5 s6
      have iff := exC_good ok (by decide) q0 ex
      refine ⟨t, ra, da, a, ba, c, c.items, q, ad, c.ps, bl, rfl, hlg s7, hlr s7, Same.rd s7 hda, s6 _ _ ha2, fun _ h => h, ok, ⟨bad, .inl hba, hbi⟩, fun _ h => h, ex.len, fun H5 s8 all => ?_, fun H5 s8 no => ?_⟩
      · exact ⟨_, rfl, iteT ⟨_, rfl, b1 (decide_eq_true (iff.mp all)) _ _ (Same.trans s6 s8) ⟨a, rfl, s8 _ _ (s6 _ _ ha2)⟩⟩⟩
      · exact ⟨_, rfl, iteF (b2 (decide_eq_false fun z => no (iff.mpr z)) _ (Same.trans s6 s8))⟩
    · refine k D H2 _ zs (Same.trans s3 s4) e4 r4 (fun q hq => ?_) (fun q hg hin => ?_) ?_
      · obtain ⟨h1, h2⟩ := List.mem_filter.mp hq
        exact ⟨of_decide_eq_true h2, hb q h1⟩
      · obtain ⟨q', h1, h2⟩ := hc q hin
        refine ⟨q', List.mem_filter.mpr ⟨h1, decide_eq_true fun i o a => ?_⟩, h2⟩
        have io := adj_items ok i o a
        rw [h2 i io.1, h2 o io.2]
        exact hg i o a
      · rw [← Paired.length r4]
        exact Nat.le_trans (List.length_filter_le _ _) (by omega)
end RB
end

section
set_option maxRecDepth 100000
set_option maxHeartbeats 4000000
/-! the law -/
namespace RB
open PySem PySem.Spec PyProof.Rows L2
variable {P : Program} {w : World} {K : PySem.W.Frag} {mg : Str → Option Value} {base : Heap}
/-! ### what the good ranks tell -/
section
variable {c : Cs} {qs : List (Str → Int)}
structure GoodL (c : Cs) (qs : List (Str → Int)) : Prop where
  g : ∀ q ∈ qs, Good (Adj c.T c.dr) q ∧ InR c.items c.items.length q
  c : ∀ q, Good (Adj c.T c.dr) q → InR c.items c.items.length q → ∃ q' ∈ qs, ∀ i ∈ c.items, q' i = q i
/-- a rank, 0 elsewhere -/
theorem norm (ok : c.Ok) {q : Str → Int} (hg : Good (Adj c.T c.dr) q) (hi : InR c.items c.items.length q) : ∃ q' : Str → Int, (∀ o, 0 ≤ q' o) ∧ Good (Adj c.T c.dr) q' ∧ (∀ o ∈ c.items, q' o < c.items.length) ∧ ∀ i ∈ c.items, q' i = q i := by
  refine ⟨fun o => if o ∈ c.items then q o else 0, fun o => ?_, fun i o a => ?_, fun o ho => ?_, fun i hi => if_pos hi⟩
  · show 0 ≤ (if o ∈ c.items then q o else 0)
    split
    · rename_i h; exact (hi o h).1
    · exact Int.le_refl _
  · obtain ⟨h1, h2⟩ := adj_items ok i o a
    show (if i ∈ c.items then q i else 0) < (if o ∈ c.items then q o else 0)
    rw [if_pos h1, if_pos h2]
    exact hg i o a
  · show (if o ∈ c.items then q o else 0) < _
    rw [if_pos ho]; exact (hi o ho).2
theorem none_way (ok : c.Ok) (G : GoodL c qs) (h : qs = []) : ∃ i, Way (Adj c.T c.dr) i i := by
  apply Classical.byContradiction
  intro no
  obtain ⟨q, h0, hg, hq⟩ := rank_of_acyclic (A := Adj c.T c.dr) (adj_items ok) (fun i _ w => no ⟨i, w⟩)
  obtain ⟨q', hq', _⟩ := G.c q hg fun i hi => ⟨h0 i, hq i hi⟩
  rw [h] at hq'
  cases hq'
theorem none_good (ok : c.Ok) (G : GoodL c qs) (h : qs = []) {d : Str → Int} (hd : Good (Adj c.T c.dr) d) : False := by
  obtain ⟨i, hi⟩ := none_way ok G h
  exact Int.lt_irrefl _ (hi.lt hd)
theorem some_no (ok : c.Ok) (G : GoodL c qs) {q : Str → Int} (hq : q ∈ qs) {d : Str → Int} (r : Rnd (Adj c.T c.dr) c.items.length d) : False := by
  obtain ⟨hg, hi⟩ := G.g q hq
  obtain ⟨q', h0, h1, h2, _⟩ := norm ok hg hi
  have i0 := ok.i0
  obtain ⟨n, hn⟩ : ∃ n, c.items.length = n + 1 := ⟨c.items.length - 1, by omega⟩
  rw [hn] at r
  exact r.no (items := c.items) (fun i o a => (adj_items ok i o a).2) h0 h1 fun o ho => by have := h2 o ho; rw [hn] at this; omega
theorem apart (ok : c.Ok) (G : GoodL c qs) {q : Str → Int} (hq : q ∈ qs) {a b : Str} (ha : a ∈ c.items) (hb : b ∈ c.items) (ne : a ≠ b) (nw : ¬ Way (Adj c.T c.dr) a b) : ∃ q' ∈ qs, q' b < q' a := by
  obtain ⟨hg, hi⟩ := G.g q hq
  obtain ⟨q', h0, h1, h2, _⟩ := norm ok hg hi
  obtain ⟨r, r0, r1, r2, r3⟩ := rank_apart (adj_items ok) h1 h0 h2 ha hb ne nw
  obtain ⟨s, s1, s2⟩ := G.c r r1 fun i hi => ⟨r0 i, r2 i hi⟩
  exact ⟨s, s1, by rw [s2 a ha, s2 b hb]; exact r3⟩
theorem way_less (ok : c.Ok) (G : GoodL c qs) {q : Str → Int} (hq : q ∈ qs) {a b : Str} (ha : a ∈ c.items) (hb : b ∈ c.items) : Way (Adj c.T c.dr) a b ↔ ∀ q ∈ qs, q a < q b := by
  constructor
  · exact fun w q hq => w.lt (G.g q hq).1
  · intro h
    apply Classical.byContradiction
    intro nw
    by_cases e : a = b
    · have := h q hq
      rw [e] at this
      exact Int.lt_irrefl _ this
    · obtain ⟨s, s1, s2⟩ := apart ok G hq ha hb e nw
      have := h s s1
      omega
theorem told_apart (ok : c.Ok) (G : GoodL c qs) {q : Str → Int} (hq : q ∈ qs) {a b : Str} (ha : a ∈ c.items) (hb : b ∈ c.items) (ne : a ≠ b) : ¬ ∀ q ∈ qs, q a = q b := by
  intro h
  by_cases w : Way (Adj c.T c.dr) a b
  · have := w.lt (G.g q hq).1
    have := h q hq
    omega
  · obtain ⟨s, s1, s2⟩ := apart ok G hq ha hb ne w
    have := h s s1
    omega
end
theorem all_iff {α : Type} {l : List α} {f : α → Bool} : (l.map f).all id = true ↔ ∀ x ∈ l, f x = true := by
  rw [List.all_map, List.all_eq_true]
  exact Iff.rfl
def spLaw (K : PySem.W.Frag) : Sp := fun vs H Q _ => ∃ (sa : Addr) (ns : List Int), vs = [.ref sa] ∧ SqL K H sa (ns.map V.int) ∧ ∀ H', Q (.bl true) H'
theorem sc_law : FnScope ["_law_script", "_law_numbers_here", "_law_log_here", "_law_drifts_here", "_law_struck", "_law_resets", "_law_moves", "_law_case", "_law_rows_here", "_law_good_here", "_law_worse", "_law_better", "_law_less", "_law_row_here", "_law_qualities", "_law_bars_here"] ["_law_script"] d_law.scope := ⟨rfl, rfl, rfl, by decide +kernel, rfl, by decide +kernel, by decide +kernel⟩
theorem law_walk (T : Txt K mg) (cd : Value) (A : Around) (outer : List Env) (s : Shared) (H : Hp) (vs : List V) (Q : VK) (E : XK) (hr : Room 6 (Bx P w K mg base ["_law_script", "_law_numbers_here", "_law_log_here", "_law_drifts_here", "_law_struck", "_law_resets", "_law_moves", "_law_case", "_law_rows_here", "_law_good_here", "_law_worse", "_law_better", "_law_less", "_law_row_here", "_law_qualities", "_law_bars_here"] d_law cd A outer s H E).A) (h : spLaw K vs H Q E) :
    ∃ t, PSs (Bx P w K mg base ["_law_script", "_law_numbers_here", "_law_log_here", "_law_drifts_here", "_law_struck", "_law_resets", "_law_moves", "_law_case", "_law_rows_here", "_law_good_here", "_law_worse", "_law_better", "_law_less", "_law_row_here", "_law_qualities", "_law_bars_here"] d_law cd A outer s H E) d_law.body t ∧ t { nx := fun _ H' => Q .non H', rt := Q } (L2.start ["_law_script", "_law_numbers_here", "_law_log_here", "_law_drifts_here", "_law_struck", "_law_resets", "_law_moves", "_law_case", "_law_rows_here", "_law_good_here", "_law_worse", "_law_better", "_law_less", "_law_row_here", "_law_qualities", "_law_bars_here"] vs) H := by
  · obtain ⟨sa, ns, rfl, hS, k⟩ := h
    have nd := sc_law.nd
    have hu := hu_of hr
    have hr1 := hr.mono (show 1 ≤ 6 by decide)
    have hr2 := hr.mono (show 2 ≤ 6 by decide)
    have hr4 := hr.mono (show 4 ≤ 6 by decide)
    have hr5 := hr.mono (show 5 ≤ 6 by decide)
    obtain ⟨fd, FC, mvs, KB⟩ := ok_case_init (P := P) (w := w) (base := base) T
    refine ⟨_, pss_cons (ps_set (i := 1) nd rfl (Or.inl rfl) (pe_f (ok_law_numbers T) hr2 (Nat.le_refl _) rfl T.g_law_numbers (pa_cons (pv 0) (pa_cons pe_int pa_nil))))
      (pss_cons (ps_set (i := 2) nd rfl (Or.inl rfl) (pe_f (ok_law_log T) hr1 (Nat.le_refl _) rfl T.g_law_log (pa_cons (pv 1) (pa_cons pe_int (pa_cons (pe_il K (pe_lst (pa_cons (pe_tup (pa_cons pe_int (pa_cons pe_int (pa_cons pe_int (pa_cons pe_int pa_nil))))) (pa_cons (pe_tup (pa_cons pe_int (pa_cons pe_int (pa_cons pe_int (pa_cons pe_int pa_nil))))) pa_nil)))
            (pe_int_ T.f_int (pe_cmpR op_eq (pe_op op_mod (pe_int_ T.f_int (pe_il K (pv 1) pe_int)) pe_int) pe_int (nomark _)))) pa_nil)))))
      (pss_cons (ps_asg (pe_f (ok_law_change T) hr2 (Nat.le_refl _) rfl T.g_law_change (pa_cons (pv 2) (pa_cons (pv 1) (pa_cons pe_int pa_nil)))) (pg_tup rfl (pgs_cons (pg_name (i := 3) nd rfl (Or.inl rfl)) (pgs_cons (pg_name (i := 4) nd rfl (Or.inl rfl)) (pgs_cons (pg_name (i := 5) nd rfl (Or.inl rfl)) (pgs_cons (pg_name (i := 6) nd rfl (Or.inl rfl)) pgs_nil))))))
      (pss_cons (ps_set (i := 7) nd rfl (Or.inl rfl) (pe_makeK T.k_Case FC hr5 rfl T.g_Case KB pass0 (pa_cons (pe_f (ok_law_made T) hr5 (Nat.le_refl _) rfl T.g_law_made (pa_cons (pv 2) pa_nil)) pa_nil) (pk_cons (pv 3) (pk_cons (pv 4) (pk_cons (pv 5) (pk_cons (pv 6) pk_nil))))))
      (pss_cons (ps_par (i := 8) (j := 3) rfl nd rfl rfl (by decide) rfl rfl (pa_cons (pe_f (ok_law_rows T) hr1 (Nat.le_refl _) rfl T.g_law_rows (pa_cons (pv 2) (pa_cons (pv 4) (pa_cons (pv 5) (pa_cons (pv 6) pa_nil))))) (pa_cons (pe_f (ok_law_drifts T) hr1 (Nat.le_refl _) rfl T.g_law_drifts (pa_cons (pv 2) (pa_cons (pv 3) pa_nil))) pa_nil)) rfl)
      (pss_cons (ps_set (i := 9) nd rfl (Or.inl rfl) (pe_f (ok_law_good T) hr5 (Nat.le_refl _) rfl T.g_law_good (pa_cons (pv 2) (pa_cons (pv 8) (pa_cons (pv 3) pa_nil)))))
      (pss_cons (ps_if (PW.pt (pw_or (pt_cmpR op_ne (pe_cut (pe_cmpR op_isN (pe_m0 (pv 7) T.c_Case T.m_Case_ring (ok_ring T) hr (Nat.le_refl _)) pe_non (nomark _))) (pe_cmpR op_gt (pe_len K T.f_len (pv 9)) pe_int (nomark _)) (nomark _))
          (pw_or1 (pt_cmpR op_ne (pe_cut (pe_cmpR op_isN (pe_m0 (pv 7) T.c_Case T.m_Case_explanation (ok_explanation T) hr (Nat.le_refl _)) pe_non (nomark _))) (pe_cmpR op_eq (pe_len K T.f_len (pv 9)) pe_int (nomark _)) (nomark _))))) (pss_one (ps_ret pe_bl)) pss_nil)
      (pss_cons (ps_if (pt_cmpR op_eq (pe_len K T.f_len (pv 9)) pe_int (nomark _)) (pss_one (ps_ret pe_bl)) pss_nil)
      (pss_cons (ps_for PassesOwn.never rfl (pi_list (pe_it K (pv 2) pe_int)) (pg_name (i := 10) nd rfl (Or.inr rfl))
        (pss_one (ps_for PassesOwn.never rfl (pi_list (pe_it K (pv 2) pe_int)) (pg_name (i := 11) nd rfl (Or.inr rfl))
          (pss_cons (ps_set (i := 12) nd rfl (Or.inl rfl) (pe_all K T.f_all (pe_lc (own := [("_law_row_here", 13)]) (g := gName 13) (tt := tYes) rfl nd (pi_list (pv 9)) (blkOk_by (own := [("_law_row_here", 13)]) (N := ["_law_script", "_law_numbers_here", "_law_log_here", "_law_drifts_here", "_law_struck", "_law_resets", "_law_moves", "_law_case", "_law_rows_here", "_law_good_here", "_law_worse", "_law_better", "_law_less", "_law_row_here", "_law_qualities", "_law_bars_here"]) (sc := d_law.scope) (by decide +kernel))
              (fun _ _ _ _ _ => pg_name (i := 13) nd rfl (Or.inl rfl)) (fun _ _ _ _ _ => pts_nil) (fun _ _ _ _ _ => pe_cmpR op_lt (pe_dget hu (pv 13) (pv 10) (fun _ _ => rfl)) (pe_dget hu (pv 13) (pv 11) (fun _ _ => rfl)) (nomark _)))))
          (pss_cons (ps_if (pt_cmpR op_ne (pe_cut (pe_cmpR op_notN (pe_m (pv 7) T.c_Case T.m_Case_way_between (ok_way_between T) hr (Nat.le_refl _) (pa_cons (pv 10) (pa_cons (pv 11) pa_nil))) pe_non (nomark _))) (pv 12) (nomark _)) (pss_one (ps_ret pe_bl)) pss_nil)
          (pss_one (ps_if (PW.pt (pw_and (pt_cmpR op_ne (pv 10) (pv 11) (nomark _)) (pw_and1 (pt_val (pe_all K T.f_all (pe_lc (own := [("_law_row_here", 13)]) (g := gName 13) (tt := tYes) rfl nd (pi_list (pv 9)) (blkOk_by (own := [("_law_row_here", 13)]) (N := ["_law_script", "_law_numbers_here", "_law_log_here", "_law_drifts_here", "_law_struck", "_law_resets", "_law_moves", "_law_case", "_law_rows_here", "_law_good_here", "_law_worse", "_law_better", "_law_less", "_law_row_here", "_law_qualities", "_law_bars_here"]) (sc := d_law.scope) (by decide +kernel))
              (fun _ _ _ _ _ => pg_name (i := 13) nd rfl (Or.inl rfl)) (fun _ _ _ _ _ => pts_nil) (fun _ _ _ _ _ => pe_cmpR op_eq (pe_dget hu (pv 13) (pv 10) (fun _ _ => rfl)) (pe_dget hu (pv 13) (pv 11) (fun _ _ => rfl)) (nomark _)))))))) (pss_one (ps_ret pe_bl)) pss_nil)))))))
      (pss_cons (ps_asg (pe_m0 (pv 7) T.c_Case T.m_Case_explanation (ok_explanation T) hr (Nat.le_refl _)) (pg_tup rfl (pgs_cons (pg_name (i := 14) nd rfl (Or.inl rfl)) (pgs_cons (pg_name (i := 15) nd rfl (Or.inl rfl)) pgs_nil))))
      (pss_one (ps_ret (pe_and (pe_f (ok_law_explains T) hr4 (Nat.le_refl _) rfl T.g_law_explains (pa_cons (pv 2) (pa_cons (pv 8) (pa_cons (pv 3) (pa_cons (pv 14) (pa_cons (pv 15) pa_nil))))))
        (pe_one (pe_cmpR op_isBl (pe_m (pv 7) T.c_Case T.m_Case_explains (ok_explains T) hr4 (Nat.le_refl _) (pa_cons (pv 14) (pa_cons (pv 15) pa_nil))) pe_bl (nomark _))))))))))))))), ?_⟩
    refine ⟨_, rfl, sa, ns, rfl, hS, fun na H1 xs _ hna h110 => ?_⟩
    have rd : ∀ i : Int, 0 ≤ i → i < 110 → ∃ v, atI (xs.map V.int) i = some (.int v) := fun i h0 h1 => at_int h0 (by omega)
    obtain ⟨v49, r49⟩ := rd 49 (by decide) (by decide)
    -- the log
    refine ⟨_, rfl, by show 4 ≤ sizeLine; exact small (by omega), fun t1 nt1 => ⟨by show 4 ≤ sizeLine; exact small (by omega), fun t2 nt2 => ⟨by show 2 ≤ sizeLine; exact small (by omega), fun l1 nl1 => ?_⟩⟩⟩
    have u1 : Same H1 (upd H1 t1 (.tup [.int 3, .int 2, .int 2, .int 9])) := same_new nt1
    have u2 := Same.trans u1 (same_new (o := .tup [.int 4, .int 2, .int 2, .int 6]) nt2)
    have u3 := Same.trans u2 (same_new (o := .lst [.ref t1, .ref t2]) nl1)
    have ht1 : upd (upd (upd H1 t1 (.tup [.int 3, .int 2, .int 2, .int 9])) t2 (.tup [.int 4, .int 2, .int 2, .int 6])) l1 (.lst [.ref t1, .ref t2]) t1 = some (.tup [.int 3, .int 2, .int 2, .int 9]) := same_new nl1 _ _ (same_new nt2 _ _ upd_same)
    have ht2 : upd (upd (upd H1 t1 (.tup [.int 3, .int 2, .int 2, .int 9])) t2 (.tup [.int 4, .int 2, .int 2, .int 6])) l1 (.lst [.ref t1, .ref t2]) t2 = some (.tup [.int 4, .int 2, .int 2, .int 6]) := same_new nl1 _ _ upd_same
    refine ⟨_, rfl, _, _, _, _, rfl, rfl, SqL.of (u3 _ _ hna), r49, .inl ⟨_, rfl, _, _, rfl, rfl, (by show (0 : Int) < 9; decide), rfl, .inr ⟨_, rfl, ?_⟩⟩⟩
    have pick : ∀ b : Bool, ∃ (za : Addr) (a e : Int), atI [V.ref t1, V.ref t2] (if b = true then (1 : Int) else 0) = some (.ref za) ∧ upd (upd (upd H1 t1 (.tup [.int 3, .int 2, .int 2, .int 9])) t2 (.tup [.int 4, .int 2, .int 2, .int 6])) l1 (.lst [.ref t1, .ref t2]) za = some (.tup [.int a, .int 2, .int 2, .int e]) ∧ 1 ≤ a ∧ a ≤ 4 ∧ 0 ≤ e ∧ e ≤ 9 := fun b => by
      cases b with
      | true => exact ⟨t2, 4, 6, rfl, ht2, by decide, by decide, by decide, by decide⟩
      | false => exact ⟨t1, 3, 9, rfl, ht1, by decide, by decide, by decide, by decide⟩
    obtain ⟨za, a, e, zat, hza, a1, a4, e0, e9⟩ := pick (decide (V.int (v49 % 9) = V.int 4))
    refine ⟨_, _, _, _, rfl, rfl, SqL.of upd_same, zat, ?_⟩
    refine ⟨na, za, xs, a, e, rfl, u3 _ _ hna, h110, hza, a1, a4, e0, e9, fun lt H2 g s2 hlog gok => ?_⟩
    have hna2 := s2 _ _ (u3 _ _ hna)
    clear pick zat hza ht1 ht2
    -- the change
    refine ⟨_, rfl, _, rfl, lt, na, g, xs, rfl, hlog, gok, hna2, h110, fun ct H3 da sa' ra mvV ch dk df s3 hct hda hdk hdz hsa hra hmv z0 z1 z2 => ?_⟩
    refine ⟨ct, _, rfl, SqT.of hct, rfl, _, _, rfl, _, _, rfl, _, _, rfl, _, _, rfl, rfl, ?_⟩
    have hlog3 := hlog.same s3
    -- the case
    refine ⟨_, rfl, lt, g, rfl, hlog3, gok, fun lp H4 s4 hlp => ⟨_, rfl, _, rfl, _, rfl, _, rfl, rfl, rfl, fun p dx np ndx nex => ?_⟩⟩
    have s5 : Same H4 (upd (upd H4 dx (.own p)) p (.ins (CC K) dx [])) := same_upd (same_new ndx) np
    refine ⟨p, dx, lp, da, sa', ra, mvV, g, ch, dk, df, rfl, upd_same, hlp.same s5, gok, s5 _ _ (s4 _ _ hda), hdk, hdz, s5 _ _ (s4 _ _ hsa), s5 _ _ (s4 _ _ hra), (hmv.same s4).same s5, z0, z1, z2, fun H5 lots kH cok cat => ⟨rfl, ?_⟩⟩
    have s6 : Same H4 H5 := fun b o q => kH b o (s5 b o q) (ne_of_none q np)
    have s36 := Same.trans s4 s6
    have hlog5 := hlog3.same s36
    -- the law's rows and drifts
    refine ⟨_, rfl, _, rfl, _, rfl, _, rfl, lt, sa', ra, mvV, g, ch, rfl, hlog5, gok, s36 _ _ hsa, s36 _ _ hra, hmv.same s36, fun rw H6 ad s7 hrw hri => ?_⟩
    refine ⟨_, rfl, _, rfl, lt, da, g, dk, df, rfl, hlog5.same s7, gok, s7 _ _ (s36 _ _ hda), fun dr H7 s8 hdr => ⟨_, _, rfl, ?_⟩⟩
    have s78 := Same.trans s7 s8
    have hlog7 := hlog5.same s78
    -- the good ranks
    refine ⟨_, rfl, _, rfl, _, rfl, lt, rw, dr, g, csOf g ch (drC g dk df) lots, ad, rfl, hlog7, rfl, rfl, ⟨s8 _ _ hrw, hri.lk (.of s8)⟩, .inl hdr, cok, fun ga H8 qs vs s9 hga hR hb hc hl => ?_⟩
    have cat8 := (cat.same s78).same s9
    have lr8 : LR H8 rw (csOf g ch (drC g dk df) lots) ad := ⟨s9 _ _ (s8 _ _ hrw), (hri.lk (.of s8)).lk (.of s9)⟩
    have ldr8 : LDr H8 dr (csOf g ch (drC g dk df) lots) := .inl (s9 _ _ hdr)
    have hlog8 := hlog7.same s9
    obtain ⟨i, j, ev, ht, pts⟩ := id hlog8
    have hit : H8 i = some (.lst ((csOf g ch (drC g dk df) lots).items.map V.str)) := pts.it
    have lgg : LogG H8 lt (csOf g ch (drC g dk df) lots).grades := ⟨_, _, _, ht⟩
    clear s78 s36 s6 s5 s4 s3 hlog3 hlog5 hlog7 hna2 u1 u2 u3 hsa hra hmv z0 z1 z2 hda hct kH cat np ndx nex hrw hri hdr
    generalize csOf g ch (drC g dk df) lots = c at hb hc cok cat8 lr8 ldr8 hit lgg hR
    have GL : GoodL c qs := ⟨hb, hc⟩
    have ql : qs.length = vs.length := Paired.length hR
    have hasq : 0 < (vs.length : Int) → ∃ q, q ∈ qs := fun h => by
      cases qs with
      | nil => simp at ql; omega
      | cons q _ => exact ⟨q, List.mem_cons_self⟩
    have noq : ¬ 0 < (vs.length : Int) → qs = [] := fun h => List.length_eq_zero_iff.mp (by omega)
    have me : ∀ {H' : Hp}, Same H8 H' → CsAt K H' p c := fun s => cat8.same s
    -- ring
    obtain ⟨dxr, fsr, r1, r2⟩ := cat8.me "ring"
    refine ⟨fun v H' => Same H8 H' ∧ v = .bl (decide (0 < (vs.length : Int))), ⟨_, rfl, p, dxr, fsr, rfl, r1, r2, p, c, rfl, cat8, cok, fun H' d s gd => ⟨rfl, s, ?_⟩, fun r H' i' s w => ⟨rfl, s, ?_⟩⟩, ?_⟩
    · have e1 : decide (0 < (vs.length : Int)) = true := decide_eq_true (by
        apply Classical.byContradiction
        exact fun z => none_good cok GL (noq z) gd)
      rw [e1]; rfl
    · have e1 : decide (0 < (vs.length : Int)) = false := decide_eq_false (fun z => by
        obtain ⟨q, hq⟩ := hasq z
        exact Int.lt_irrefl _ (w.lt (hb q hq).1))
      rw [e1]; rfl
    rintro v H9 ⟨s10, rfl⟩
    refine ⟨_, rfl, ga, _, rfl, .inl (SqL.of (s10 _ _ hga)), _, _, rfl, rfl, rfl, _, rfl, ?_⟩
    rw [decide_eq_true (show V.bl (decide (0 < (vs.length : Int))) = V.bl (decide (0 < (vs.length : Int))) from rfl)]
    refine iteF ?_
    -- explanation
    have cat9 := me s10
    obtain ⟨dxe, fse, x1, x2⟩ := cat9.me "explanation"
    refine ⟨fun v H' => Same H8 H' ∧ v = .bl (decide (V.int (vs.length : Int) = V.int 0)), ⟨_, rfl, p, dxe, fse, rfl, x1, x2, p, c, rfl, cat9, cok, fun H' d s rn => ⟨rfl, Same.trans s10 s, ?_⟩, fun a' H' da' ba d bs bl bad s ha' hda' hba hbi ex gd d0 => ⟨rfl, Same.trans s10 s, ?_⟩⟩, ?_⟩
    · rw [decide_eq_true (p := V.int (vs.length : Int) = V.int 0)]
      · rfl
      · have : ¬ 0 < (vs.length : Int) := fun z => by
          obtain ⟨q, hq⟩ := hasq z
          exact some_no cok GL hq rn
        rw [show (vs.length : Int) = 0 by omega]
    · rw [decide_eq_false (p := V.int (vs.length : Int) = V.int 0)]
      · rfl
      · intro z
        have z2 := V.int.inj z
        exact none_good cok GL (noq (by omega)) gd
    rintro v H10 ⟨s11, rfl⟩
    refine ⟨_, rfl, ga, _, rfl, .inl (SqL.of (s11 _ _ hga)), rfl, rfl, _, rfl, ?_⟩
    rw [decide_eq_true (show V.bl (decide (V.int (vs.length : Int) = V.int 0)) = V.bl (decide (V.int (vs.length : Int) = V.int 0)) from rfl)]
    refine iteF ?_
    -- none
    refine ⟨_, rfl, ga, _, rfl, .inl (SqL.of (s11 _ _ hga)), rfl, _, rfl, iteD (fun _ => k _) (fun hne => ?_)⟩
    have hpos : 0 < (vs.length : Int) := by
      apply Classical.byContradiction
      exact fun z => hne (by rw [show (vs.length : Int) = 0 by omega])
    obtain ⟨q1, hq1⟩ := hasq hpos
    have l256 : qs.length ≤ 256 := by omega
    refine ⟨_, rfl, _, _, _, _, rfl, rfl, SqT.of (s11 _ _ ht), rfl, i, rfl, ⟨_, SqL.of (s11 _ _ hit)⟩, ?_⟩
    refine for_list (K := K) (a := i) (xs := c.items.map V.str) (fun n σ H' => Same H8 H' ∧ ∃ v10 v11 v12 v14 v15, σ = [some (.ref sa), some (.ref na), some (.ref lt), some (.ref dr), some (.ref sa'), some (.ref ra), some mvV, some (.ref p), some (.ref rw), some (.ref ga), v10, v11, v12, none, v14, v15]) ⟨s11, _, _, _, _, _, rfl⟩ (fun n σ H' _ h => SqL.of (h.1 _ _ hit)) ?_ ?_
    · rintro n x σ H11 hx ⟨s12, v10, v11, v12, v14, v15, rfl⟩
      rw [List.getElem?_map] at hx
      obtain ⟨wo, hwo, rfl⟩ := Option.map_eq_some_iff.mp hx
      have wom := List.mem_of_getElem? hwo
      refine ⟨_, rfl, _, _, _, _, rfl, rfl, SqT.of (s12 _ _ ht), rfl, i, rfl, ⟨_, SqL.of (s12 _ _ hit)⟩, ?_⟩
      refine for_list (K := K) (a := i) (xs := c.items.map V.str) (fun n σ H' => Same H8 H' ∧ ∃ v11 v12 v14 v15, σ = [some (.ref sa), some (.ref na), some (.ref lt), some (.ref dr), some (.ref sa'), some (.ref ra), some mvV, some (.ref p), some (.ref rw), some (.ref ga), some (.str wo), v11, v12, none, v14, v15]) ⟨s12, _, _, _, _, rfl⟩ (fun n σ H' _ h => SqL.of (h.1 _ _ hit)) ?_ ?_
      · rintro m y σ H12 hy ⟨s13, v11, v12, v14, v15, rfl⟩
        rw [List.getElem?_map] at hy
        obtain ⟨be, hbe, rfl⟩ := Option.map_eq_some_iff.mp hy
        have bem := List.mem_of_getElem? hbe
        refine ⟨_, rfl, ga, rfl, ⟨_, SqL.of (s13 _ _ hga)⟩, fun D nD => ?_⟩
        refine lc_lst (l := qs) (walkN ql.symm) nD (by omega) (fun _ => true) (fun q => .bl (decide (q wo < q be))) (fun H13 s14 => SqL.of (s14 _ _ (s13 _ _ hga))) (fun n' x' H13 H14 q hq s14 hY N Z b1 _ => ?_) fun H13 s14 e13 => ?_
        · obtain ⟨rfl, hx'⟩ := hY
          obtain ⟨v, hv, aq, rfl, haq⟩ := pair_get hR hq
          rw [hx'] at hv
          cases hv
          have haq2 := s14 _ _ (s13 _ _ haq)
          exact ⟨rfl, yesT ⟨_, rfl, _, rfl, aq, _, rfl, dS_get (.inl haq2) wom, _, rfl, _, rfl, aq, _, rfl, dS_get (.inl haq2) bem, _, _, rfl, rfl, b1 rfl _ (Same.refl _)⟩⟩
        have s15 := Same.trans s13 s14
        have e14 : H13 D = some (.lst ((qs.map fun q => decide (q wo < q be)).map V.bl)) := by rw [e13, filter_yes, List.map_map]; rfl
        refine ⟨D, _, rfl, SqL.of e14, ?_⟩
        have less : ((qs.map fun q => decide (q wo < q be)).all id = true) ↔ Way (Adj c.T c.dr) wo be := by
          rw [all_iff, way_less cok GL hq1 wom bem]
          exact ⟨fun h q hq => of_decide_eq_true (h q hq), fun h q hq => decide_eq_true (h q hq)⟩
        generalize (qs.map fun q => decide (q wo < q be)).all id = lb at less
        have cat13 := me s15
        obtain ⟨dxw, fsw, w1, w2⟩ := cat13.me "way_between"
        refine ⟨fun v H' => Same H8 H' ∧ v = .bl lb, ⟨_, rfl, p, dxw, fsw, rfl, w1, w2, _, rfl, _, rfl, p, c, wo, be, rfl, cat13, cok, wom, bem, fun nw H' s => ⟨rfl, Same.trans s15 s, ?_⟩, fun hw r H' s => ⟨rfl, Same.trans s15 s, ?_⟩⟩, ?_⟩
        · have : lb = false := by
            cases lb with
            | false => rfl
            | true => exact absurd (less.mp rfl) nw
          rw [this]; rfl
        · rw [less.mpr hw, oneRef rfl]; rfl
        rintro v H14 ⟨s16, rfl⟩
        refine ⟨_, rfl, rfl, _, rfl, ?_⟩
        rw [decide_eq_true (show V.bl lb = V.bl lb from rfl)]
        refine iteF ?_
        refine ⟨_, rfl, _, rfl, rfl, _, rfl, ?_⟩
        rw [dec_s]
        by_cases ewb : wo = be
        · rw [decide_eq_true ewb]
          exact iteF (iteF ⟨s16, _, _, _, _, rfl⟩)
        rw [decide_eq_false ewb]
        refine iteT ⟨_, rfl, ga, rfl, ⟨_, SqL.of (s16 _ _ hga)⟩, fun D2 nD2 => ?_⟩
        refine lc_lst (l := qs) (walkN ql.symm) nD2 (by omega) (fun _ => true) (fun q => .bl (decide (V.int (q wo) = V.int (q be)))) (fun H15 s17 => SqL.of (s17 _ _ (s16 _ _ hga))) (fun n' x' H15 H16 q hq s17 hY N Z b1 _ => ?_) fun H15 s17 e15 => ?_
        · obtain ⟨rfl, hx'⟩ := hY
          obtain ⟨v, hv, aq, rfl, haq⟩ := pair_get hR hq
          rw [hx'] at hv
          cases hv
          have haq2 := s17 _ _ (s16 _ _ haq)
          exact ⟨rfl, yesT ⟨_, rfl, _, rfl, aq, _, rfl, dS_get (.inl haq2) wom, _, rfl, _, rfl, aq, _, rfl, dS_get (.inl haq2) bem, rfl, b1 rfl _ (Same.refl _)⟩⟩
        have e16 : H15 D2 = some (.lst ((qs.map fun q => decide (V.int (q wo) = V.int (q be))).map V.bl)) := by rw [e15, filter_yes, List.map_map]; rfl
        refine ⟨D2, _, rfl, SqL.of e16, _, rfl, ?_⟩
        have neq : (qs.map fun q => decide (V.int (q wo) = V.int (q be))).all id = false := by
          cases q : (qs.map fun q => decide (V.int (q wo) = V.int (q be))).all id with
          | false => rfl
          | true => exact absurd (fun q' hq' => V.int.inj (of_decide_eq_true (all_iff.mp q q' hq'))) (told_apart cok GL hq1 wom bem ewb)
        rw [neq]
        exact iteF ⟨Same.trans s16 s17, _, _, _, _, rfl⟩
      · rintro σ H12 ⟨s13, v11, v12, v14, v15, rfl⟩
        exact ⟨s13, _, _, _, _, _, rfl⟩
    rintro σ H11 ⟨s12, v10, v11, v12, v14, v15, rfl⟩
    -- the explanation explains
    have cat11 := me s12
    obtain ⟨dxe, fse, x1, x2⟩ := cat11.me "explanation"
    refine ⟨_, rfl, p, dxe, fse, rfl, x1, x2, p, c, rfl, cat11, cok, fun H' d s rn => (some_no cok GL hq1 rn).elim, fun a' H12 da' ba d bs bl bad s13 ha' hda' hba hbi ex gd d0 => ?_⟩
    refine ⟨a', _, rfl, SqT.of ha', rfl, _, _, rfl, _, _, rfl, rfl, ?_⟩
    have s14 := Same.trans s12 s13
    have lr12 : LR H12 rw c ad := ⟨s14 _ _ lr8.d, lr8.r.lk (.of s14)⟩
    have ldr12 : LDr H12 dr c := Same.rd s14 ldr8
    obtain ⟨lv0, lv2, lv3, hlt⟩ := lgg
    have g1 := cok.g1
    have exs := (exC_good cok (Int.le_refl 0) (fun p _ => d0 _) ex).mpr gd
    have lenb : ∀ q ∈ c.ps, ((bl q).length : Int) = c.grades := fun q hq => ex.len q ((ex.mem q).mpr hq)
    refine ⟨_, rfl, _, rfl, _, rfl, _, rfl, _, rfl, lt, rw, dr, da', ba, c, c.items, d, ad, bs, bl, rfl, ⟨lv0, lv2, lv3, s14 _ _ hlt⟩, lr12, ldr12, hda', fun _ h => h, cok, ⟨bad, .inl hba, hbi⟩, fun q hq => (ex.mem q).mpr hq, lenb, fun H13 s15 _ => ?_, fun H13 _ no => absurd exs no⟩
    have cat13 := me (Same.trans s14 s15)
    obtain ⟨dxx, fsx, y1, y2⟩ := cat13.me "explains"
    have lg : ∀ q ∈ c.ps, (bl q).length = c.grades.toNat := fun q hq => by have := lenb q hq; omega
    refine ⟨_, rfl, iteT ⟨_, rfl, p, dxx, fsx, rfl, y1, y2, _, rfl, _, rfl, p, da', ba, c, c.items, d, bs, bl, bad, rfl, cat13, cok, s15 _ _ hda', List.Perm.refl _, s15 _ _ hba, hbi.lk (.of s15), ex.mem, ex.nd, ex.len, fun q hq k' hk => (exs q hq).rise k' (by rw [← lg q hq]; exact hk), fun q hq k' hk => (exs q hq).fit k' (by rw [← lg q hq]; exact hk), fun q hq x hx o1 o2 k' hk => (exs q hq).ahd x hx o1 o2 k' (by rw [← lg q hq]; exact hk), fun H14 s16 => ⟨_, _, rfl, rfl, ?_⟩⟩⟩
    exact k _
end RB
end

section
set_option maxRecDepth 100000
set_option maxHeartbeats 0
/-! the head and the law, joined -/
namespace RB
open PySem PySem.Spec PyProof.Rows L2
theorem facts {P : Program} {w : World} {K : PySem.W.Frag} {h : Heap} {mg : Str → Option Value} {f : Addr} (X : K.In h) (G : h.Ns mainGlobals mg) (hfa : mg ("law" : Str) = some (.ref f)) (c : look K = want) :
    ∃ fd : FuncData, (∀ (s : Shared) (v : Value), BindsTo s fd ⟨[v], []⟩ [("_law_script", v)]) ∧ ∀ base : Heap, K.In base → base.Ns mainGlobals mg → FnOk P w K mg base CX0 7 f fd ["_law_script"] (spLaw K) := by
  have T : Txt K mg := ⟨c, h, X, G⟩
  obtain ⟨fd, F⟩ := T.d_law
  have e := hfa.symm.trans T.g_law
  cases e
  have b := FunD.bindsA (ps := ["_law_script"]) F fun _ _ _ _ _ _ us hl => match us, hl with | [_], _ => rfl
  refine ⟨fd, fun s v => b s [v] rfl, fun base _ _ => F.ok sc_law (fun vs H Q E h => ?_) fun cd A outer s H vs Q E hr h => ?_⟩
  · obtain ⟨sa, ns, rfl, _⟩ := h
    rfl
  · obtain ⟨t, h1, h2⟩ := law_walk T cd A outer s H vs Q E hr h
    exact ⟨t, PSs.nox h1, h2⟩
end RB
open PySem PySem.W PySem.Calls PyProof.Rows
theorem PySem.Challenge.cw_risingbars_k76_whole_explained_or_a_ring_holds : PySem.Challenge.rw_risingbars_k76_whole_explained_or_a_ring.Holds := by
  w_on; o_law
  refine HandSHeadRun.head_any (r := OpenLaw.row PySem.Challenge.rw_risingbars_k76_whole_explained_or_a_ring) (q := view (OpenLaw.row PySem.Challenge.rw_risingbars_k76_whole_explained_or_a_ring).prog [46]) (H := RB.hk 5) (ob := RB.ob) (M := 6000) (loose := RB.loose) (d := HandSHeadRun.topDef (OpenLaw.row PySem.Challenge.rw_risingbars_k76_whole_explained_or_a_ring).prog 46) (kwd := []) RB.ob_eq
    (by kernel_rfl) (fun s => by kernel_rfl) RB.run (by kernel_rfl) (by kernel_rfl) (by kernel_rfl) (by rfl) (by first | assumption | decide +kernel) (by decide +kernel) ⟨rfl, rfl, rfl, rfl, rfl, by decide +kernel⟩ ?hw ?hc
  case hw => w_witness2
  case hc =>
    refine L2.walk_ofE (l := PySem.Challenge.rw_risingbars_k76_whole_explained_or_a_ring) (n := 63) (k := 7) (x := "_law_script") (CX := L2.CX0) rfl (by decide) (by kernel_rfl) ⟨rfl, by decide, by decide⟩ ?F (fun _ _ _ _ z => z)
    intro w mg fa h Y G hmg0
    obtain ⟨K, KX, c⟩ := Y
    have hmg : mg ("law" : PySem.Str) = some (.ref fa) := by
      have e : (HandSHeadRun.topDef (OpenLaw.row PySem.Challenge.rw_risingbars_k76_whole_explained_or_a_ring).prog 46).name = ("law" : PySem.Str) := by kernel_rfl
      rw [← e]
      exact hmg0
    obtain ⟨fd, hb, hF⟩ := RB.facts (P := (PySem.Challenge.rw_risingbars_k76_whole_explained_or_a_ring).prog) (w := w) KX G hmg c
    exact ⟨K, fd, RB.spLaw K, KX, hb, fun H a ns hl _ hS => ⟨a, ns, rfl, hS, fun _ => rfl⟩, hF⟩
end
